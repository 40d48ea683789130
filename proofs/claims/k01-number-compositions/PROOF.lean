import PyProof.Rows.All
import Wide.All
import OpenK.AllK
import Wide.FinOn
import KE.KStateDown
import KE.KMathGC
import KE.Datum
import HandS.ForMost
import HandS.Defaults
import HandS.Wide
import HandS.Gcd
import HandS.IsInst
import HandS.Codes
import HandS.SortInts
import HandS.Style
import HandS.Conv
import HandS.Head0
import HandS.Head1
import HandS.Head2
import HandS.HeadEnd
import HandS.HeadHook1
import HandS.HeadHook2

import PySem.Challenge.RW_surebridge_k01_number_compositions
set_option Elab.async false
set_option linter.all false
set_option maxRecDepth 100000
set_option maxHeartbeats 4000000
namespace Pr
open PySem PySem.Spec PyProof.Rows L2
/-! ### defs, methods, classes as the top left them -/
abbrev FnP (K : PySem.W.Frag) (x q : Str) (st : Stmt) (f : Addr) (fd : FuncData) : Prop := FunD K x q (defArgs st) (defBody st) (defScope st) [] [] f fd
structure DefAt (K : PySem.W.Frag) (mg : Str → Option Value) (x : Str) (st : Stmt) (ps : List Str) : Prop where
  ex : ∃ (f : Addr) (fd : FuncData), FnP K x x st f fd ∧ mg x = some (.ref f) ∧ Binds K fd ps []
structure MetAt (K : PySem.W.Frag) (C : Addr) (m q : Str) (st : Stmt) (ps : List Str) : Prop where
  ex : ∃ (f : Addr) (fd : FuncData), FnP K m q st f fd ∧ Cls K C ∧ Meth K C m f ∧ Binds K fd ps []
structure MakAt (K : PySem.W.Frag) (mg : Str → Option Value) (x : Str) (C : Addr) (q : Str) (st : Stmt) (ps : List Str) : Prop where
  ex : ∃ (f : Addr) (fd : FuncData), FnP K "__init__" q st f fd ∧ Mk K C f ∧ mg x = some (.ref C) ∧ Binds K fd ps []
section
variable {P : Program} {w : World} {K : PySem.W.Frag} {mg : Str → Option Value} {base : Heap} {x q m : Str} {C : Addr} {st : Stmt} {N ps : List Str} {k : Nat} {sp : Sp}
theorem c_mk (D : DefAt K mg x st ps) (S : FnScope N ps (defScope st)) (len : ∀ vs H Q E, sp vs H Q E → vs.length = ps.length)
    (hbody : ∀ (f : Addr) (cdv : Value) (A : Around) (outer : List Env) (s : Shared) (H : Hp) (vs : List V) (Q : VK) (E : XK), Room k (A.deeper (envOfC x (defScope st) s.heap.objs.size f cdv)) → sp vs H Q E →
      ∃ t, PSs (cxOf C8.CX0 P w K mg base N x (defScope st) f cdv A outer s H E).nox (defBody st) t ∧ t { nx := fun _ H' => Q .non H', rt := Q } (start N vs) H) : C8.Cal P w K mg base (k + 1) x sp [] := by
  obtain ⟨f, fd, F, hm, hb⟩ := D.ex
  exact ⟨f, fd, ps, [], F.ok S len (fun cdv A outer s H vs Q E hr hs => let ⟨t, h1, h2⟩ := hbody f cdv A outer s H vs Q E hr hs; ⟨t, PSs.nox h1, h2⟩), hm, F.kp, hb, .nil⟩
theorem c_met (D : MetAt K C m q st ps) (S : FnScope N ps (defScope st)) (len : ∀ vs H Q E, sp vs H Q E → vs.length = ps.length)
    (hbody : ∀ (f : Addr) (cdv : Value) (A : Around) (outer : List Env) (s : Shared) (H : Hp) (vs : List V) (Q : VK) (E : XK), Room k (A.deeper (envOfC q (defScope st) s.heap.objs.size f cdv)) → sp vs H Q E →
      ∃ t, PSs (cxOf C8.CX0 P w K mg base N q (defScope st) f cdv A outer s H E).nox (defBody st) t ∧ t { nx := fun _ H' => Q .non H', rt := Q } (start N vs) H) : C8.Met P w K mg base (k + 1) C m sp [] := by
  obtain ⟨f, fd, F, hc, hm, hb⟩ := D.ex
  exact ⟨f, fd, ps, [], hc, hm, F.ok S len (fun cdv A outer s H vs Q E hr hs => let ⟨t, h1, h2⟩ := hbody f cdv A outer s H vs Q E hr hs; ⟨t, PSs.nox h1, h2⟩), hb, .nil⟩
theorem c_mak (D : MakAt K mg x C q st ps) (S : FnScope N ps (defScope st)) (len : ∀ vs H Q E, sp vs H Q E → vs.length = ps.length)
    (hbody : ∀ (f : Addr) (cdv : Value) (A : Around) (outer : List Env) (s : Shared) (H : Hp) (vs : List V) (Q : VK) (E : XK), Room k (A.deeper (envOfC q (defScope st) s.heap.objs.size f cdv)) → sp vs H Q E →
      ∃ t, PSs (cxOf C8.CX0 P w K mg base N q (defScope st) f cdv A outer s H E).nox (defBody st) t ∧ t { nx := fun _ H' => Q .non H', rt := Q } (start N vs) H) : C8.Mak P w K mg base (k + 1) x C sp [] := by
  obtain ⟨f, fd, F, hk, hm, hb⟩ := D.ex
  exact ⟨f, fd, ps, [], hk, F.ok S len (fun cdv A outer s H vs Q E hr hs => let ⟨t, h1, h2⟩ := hbody f cdv A outer s H vs Q E hr hs; ⟨t, PSs.nox h1, h2⟩), hm, hb, .nil⟩
end
section
variable {X : Cx} {k j : Nat} {C : Addr} {x : Str} {sp : Sp} {dvs : List V} {p pos : Pos} {cr : List V → Hp → VK → Prop}
theorem pe_c0x (c : C8.Cal X.prog X.w X.K X.mg X.base k x sp dvs) (hr : Room j X.A) (hk : k ≤ j) (hg : Gl X x) (hdb : (x == ("__debug__" : Str)) = false := by decide) : PE X (.Call (.Name x p) [] [] pos) (tCall sp dvs C8.E0 tNil) := by
  obtain ⟨f, fd, ps, ds, F, hm, kp, b, d⟩ := c.ex
  exact pe_call0 F (hr.mono hk) hg hm kp b d C8.pass0 hdb
theorem pe_mk0x (c : C8.Mak X.prog X.w X.K X.mg X.base k x C sp dvs) (hr : Room j X.A) (hk : k + 1 ≤ j) (hg : Gl X x) (hdb : (x == ("__debug__" : Str)) = false := by decide) : PE X (.Call (.Name x p) [] [] pos) (tMake C sp dvs C8.E0 tNil) := by
  obtain ⟨f, fd, ps, ds, M, F, hm, b, d⟩ := c.ex
  exact pe_make0 M F (hr.mono hk) hg hm b d C8.pass0 hdb
theorem pe_gcx {v : V} (hg : Gl X x) (h : ∃ u, X.mg x = some u ∧ RelV v u) (hd : (x == ("__debug__" : Str)) = false := by decide) : PE X (.Name x pos) (tC v) := C8.pe_gc hg h hd
end
/-! ### the head's facts: those of HeadHook2, and one Bool of one's own -/
abbrev AlX : Type := Bool × He.AlD
def obsX (fa : List He.Fa) (fn : List He.DefD) (ex : PySem.W.Frag → Bool) (K : PySem.W.Frag) : AlX := (ex K, He.obsD fa fn K)
def valX (fn : List He.DefD) : AlX := (true, He.valD fn)
def SaysX (fa : List He.Fa) (fn : List He.DefD) (ex : PySem.W.Frag → Bool) (K : PySem.W.Frag) : Prop := obsX fa fn ex K = valX fn
def obsXG (n : Nat) (fa : List He.Fa) (fn : List He.DefD) (ex : PySem.W.Frag → Bool) (g : Addr → Option Obj) : AlX := obsX fa fn ex (He.frG g (He.asD g n))
def hookX (n : Nat) (fa : List He.Fa) (fn : List He.DefD) (ex : PySem.W.Frag → Bool) : PySem.W.Hook where
  α := AlX
  obs := fun s => obsXG n fa fn ex s.heap.get?
  val := fun _ => valX fn
  says := fun _ h => ∃ K : PySem.W.Frag, K.In h ∧ SaysX fa fn ex K
  of := fun _ _ e => ⟨_, He.frG_in, e⟩
  keeps := fun _ _ _ ⟨K, hK, c⟩ k => ⟨K, PySem.W.Frag.In.keeps hK k, c⟩
theorem obsXG_eq {n : Nat} {fa : List He.Fa} {fn : List He.DefD} {ex : PySem.W.Frag → Bool} {g : Addr → Option Obj} {s : Shared} (h : ∀ a, g a = s.heap.get? a) : obsXG n fa fn ex g = (hookX n fa fn ex).obs s := by
  have e : g = s.heap.get? := funext h
  rw [e] <;> rfl
section
variable {fa : List He.Fa} {fn : List He.DefD} {ex : PySem.W.Frag → Bool} {K : PySem.W.Frag}
theorem SaysX.d (c : SaysX fa fn ex K) : He.SaysD fa fn K := congrArg (fun z : AlX => z.2) c
theorem SaysX.e (c : SaysX fa fn ex K) : ex K = true := congrArg (fun z : AlX => z.1) c
end
/-- a name of the module that stands for a built-in function -/
def bltB (K : PySem.W.Frag) (x : Str) (id : String) : Bool := match PySem.W.nsIn K mainGlobals x with
  | some (some (.builtin j)) => decide (j = id)
  | _ => false
theorem bltB_ok {K : PySem.W.Frag} {h : Heap} {mg : Str → Option Value} {x : Str} {id : String} (X : K.In h) (G : h.Ns mainGlobals mg) (c : bltB K x id = true) : mg x = some (.builtin id) := by
  unfold bltB at c
  cases e : PySem.W.nsIn K mainGlobals x with
  | none =>
    rw [e] at c
    cases c
  | some o =>
    rw [e] at c
    cases o with
    | none => cases c
    | some v =>
      cases v with
      | builtin j =>
        have ej : j = id := of_decide_eq_true c
        rw [ej] at e
        exact PySem.W.mg_of X G e
      | _ => cases c
def intB (K : PySem.W.Frag) (x : Str) (i : Int) : Bool := (He.Fa.int x i).ok K
theorem defAt_of {K : PySem.W.Frag} {h : Heap} {mg : Str → Option Value} {x : Str} {st : Stmt} {ps : List Str} (X : K.In h) (G : h.Ns mainGlobals mg) (c1 : (He.Fa.glo x).ok K = true)
    (F : ∃ fd, FnP K x x st (He.fAd K (x, none)) fd)
    (b : ∀ (kV doc pm : Value) (an : Option Addr) (cdv ct : Value) (us : List Value), us.length = ps.length → bindArgs (PySem.W.fnOf x x (defArgs st) (defBody st) (defScope st) .none kV doc pm an cdv ct) ⟨us, []⟩ = pure (ps.zip us)) : DefAt K mg x st ps := by
  obtain ⟨fd, F⟩ := F
  exact ⟨_, fd, F, He.glo_ok X G c1, F.bindsN b⟩
theorem metAt_of {K : PySem.W.Frag} {x m q : Str} {st : Stmt} {ps : List Str} (c1 : (He.Fa.cls x).ok K = true) (c2 : (He.Fa.meth x m).ok K = true)
    (F : ∃ fd, FnP K m q st (He.fAd K (x, some m)) fd)
    (b : ∀ (kV doc pm : Value) (an : Option Addr) (cdv ct : Value) (us : List Value), us.length = ps.length → bindArgs (PySem.W.fnOf m q (defArgs st) (defBody st) (defScope st) .none kV doc pm an cdv ct) ⟨us, []⟩ = pure (ps.zip us)) : MetAt K (He.ga K x) m q st ps := by
  obtain ⟨fd, F⟩ := F
  exact ⟨_, fd, F, He.cls_ok c1, He.meth_ok c2, F.bindsN b⟩
theorem makAt_of {K : PySem.W.Frag} {h : Heap} {mg : Str → Option Value} {x q : Str} {st : Stmt} {ps : List Str} (X : K.In h) (G : h.Ns mainGlobals mg) (c0 : (He.Fa.glo x).ok K = true) (c2 : (He.Fa.mkr x).ok K = true)
    (F : ∃ fd, FnP K "__init__" q st (He.fAd K (x, some "__init__")) fd)
    (b : ∀ (kV doc pm : Value) (an : Option Addr) (cdv ct : Value) (us : List Value), us.length = ps.length → bindArgs (PySem.W.fnOf "__init__" q (defArgs st) (defBody st) (defScope st) .none kV doc pm an cdv ct) ⟨us, []⟩ = pure (ps.zip us)) : MakAt K mg x (He.ga K x) q st ps := by
  obtain ⟨fd, F⟩ := F
  exact ⟨_, fd, F, He.mkr_ok c2, He.glo_ok X G c0, F.bindsN b⟩
/-- the law's own def, from its promise -/
theorem law_mk {P : Program} {w : World} {K : PySem.W.Frag} {mg : Str → Option Value} {base : Heap} {k : Nat} {sp : Sp} {f : Addr} {fd : FuncData} {st : Stmt} {N : List Str} (F : FnP K "law" "law" st f fd)
    (S : FnScope N ["script"] (defScope st)) (len : ∀ vs H Q E, sp vs H Q E → vs.length = ["script"].length)
    (hbody : ∀ (f : Addr) (cdv : Value) (A : Around) (outer : List Env) (s : Shared) (H : Hp) (vs : List V) (Q : VK) (E : XK), Room k (A.deeper (envOfC "law" (defScope st) s.heap.objs.size f cdv)) → sp vs H Q E →
      ∃ t, PSs (cxOf C8.CX0 P w K mg base N "law" (defScope st) f cdv A outer s H E).nox (defBody st) t ∧ t { nx := fun _ H' => Q .non H', rt := Q } (start N vs) H) : FnOk P w K mg base C8.CX0 (k + 1) f fd ["script"] sp :=
  F.ok S len fun cdv A outer s H vs Q E hr hs => let ⟨t, h1, h2⟩ := hbody f cdv A outer s H vs Q E hr hs; ⟨t, PSs.nox h1, h2⟩
/-! ### heaps -/
/-- all that was tracked is as it was, but for d -/
def But (d : Addr) (H H' : Hp) : Prop := ∀ b o, H b = some o → b ≠ d → H' b = some o
theorem But.refl (d : Addr) (H : Hp) : But d H H := fun _ _ h _ => h
theorem But.trans {d : Addr} {H H1 H2 : Hp} (a : But d H H1) (b : But d H1 H2) : But d H H2 := fun c o h n => b c o (a c o h n) n
theorem Same.but {d : Addr} {H H' : Hp} (a : Same H H') : But d H H' := fun c o h _ => a c o h
theorem But.upd {d : Addr} {H : Hp} {o : HO} : But d H (L2.upd H d o) := fun b u h n => by rw [upd_ne n]; exact h
theorem same_new {H : Hp} {p : Addr} {o : HO} (h : H p = none) : Same H (upd H p o) := fun a u e => by rw [upd_ne (ne_of_none e h)]; exact e
theorem but_new {d : Addr} {H : Hp} {p : Addr} {o : HO} (h : H p = none) : But d H (upd H p o) := Same.but (same_new h)
theorem But.free {d p : Addr} {H H' : Hp} (a : But d H H') (hd : p ≠ d) (h : H' p = none) : H p = none := by
  cases q : H p with
  | none => rfl
  | some o => rw [a p o q hd] at h; cases h
theorem upd_id {H : Hp} {a : Addr} {o : HO} (h : H a = some o) : upd H a o = H := by
  funext b
  unfold upd
  split
  · rename_i e; rw [e, h]
  · rfl
end Pr
namespace Pr
open PySem PySem.Spec PyProof.Rows L2
theorem of_int {mg : Str → Option Value} {x : Str} {i : Int} (h : ∃ t, mg x = some (.int i t)) : ∃ u, mg x = some u ∧ RelV (.int i) u := let ⟨t, e⟩ := h; ⟨_, e, t, rfl⟩
theorem of_str {mg : Str → Option Value} {x z : Str} (h : ∃ t, mg x = some (.str z t)) : ∃ u, mg x = some u ∧ RelV (.str z) u := let ⟨t, e⟩ := h; ⟨_, e, t, rfl⟩
/-- what isinstance asks of an own class -/
def insB (K : PySem.W.Frag) (x : Str) : Bool := He.eqO (PySem.W.findIn K (.ref (He.ga K x)) "__class__") (some (some (.builtin "object.__class__"))) && (He.eqO (PySem.W.specialIn K (.builtin "object.__class__") "__get__") (some (some (.builtin "getset_descriptor.__get__"))) &&
  (decide (PySem.W.takesIn K (.builtin "object.__class__") = some true) && (decide (PySem.W.mroIn K (He.ga K x) (.type "object") = some true) && (decide (PySem.W.kitOne K (.ref (He.ga K x)) (.ref (He.ga K x)) = some true) && (He.Fa.cls x).ok K))))
theorem insB_ok {K : PySem.W.Frag} {x : Str} (h : insB K x = true) : C8.InsC K (He.ga K x) := by
  obtain ⟨h1, h⟩ := He.ba h
  obtain ⟨h2, h⟩ := He.ba h
  obtain ⟨h3, h⟩ := He.ba h
  obtain ⟨h4, h⟩ := He.ba h
  obtain ⟨h5, h6⟩ := He.ba h
  exact ⟨He.cls_ok h6, He.eqO_ok h1, He.eqO_ok h2, of_decide_eq_true h3, of_decide_eq_true h4, of_decide_eq_true h5⟩
/-- isinstance of two own classes -/
def kitB2 (K : PySem.W.Frag) (x y : Str) (b : Bool) : Bool := decide (PySem.W.kitOne K (.ref (He.ga K x)) (.ref (He.ga K y)) = some b)
theorem kitB2_ok {K : PySem.W.Frag} {x y : Str} {b : Bool} (h : kitB2 K x y b = true) : PySem.W.kitOne K (.ref (He.ga K x)) (.ref (He.ga K y)) = some b := of_decide_eq_true h
section
variable {X : Cx}
/-- // of any size, the divisor of any sign -/
def CDivWN (_ j : Int) : Prop := j ≠ 0 ∧ j.natAbs.log2 < 9000
theorem op_fdivWN : OpR X (binaryOp .FloorDiv) (rI CDivWN fun i j => .int (i.fdiv j)) := opI fun i j _ _ _ _ _ hc q => floordiv_int hc.1 q (.inl (PyProof.noPylong_of_log2 hc.2))
def rLcm : List V → Hp → VK → Prop := fun vs H Q => ∃ a b : Int, vs = [.int a, .int b] ∧ a.natAbs < 2 ^ 64 ∧ b.natAbs < 2 ^ 64 ∧ Q (.int ((Nat.lcm a.natAbs b.natAbs : Nat) : Int)) H
theorem cr_lcm : CallR X (.builtin "math.lcm") rLcm := by
  intro pins s σ H vs us Q I r h
  obtain ⟨a, b, rfl, h1, h2, q⟩ := h
  obtain ⟨t, u, rfl⟩ := Vals.int2 r
  exact PySem.W.mc_lcm h1 h2 fun _ => ⟨.int _, H, I.tok _, ⟨_, rfl⟩, q⟩
end
end Pr
namespace Pr
open PySem PySem.Spec PyProof.Rows L2
/-! ### == and in over data of any depth (no dicts, no instances) -/
def rEqP (K : PySem.W.Frag) : R2 := fun x y H Q => ∃ (d e : PyData) (r : Bool), Dp K H x d ∧ Dp K H y e ∧ d.plain = true ∧ e.plain = true ∧ d.depth ≤ 60 ∧ PyData.eqv d e = r ∧ Q (.bl r) H
def rNeP (K : PySem.W.Frag) : R2 := fun x y H Q => ∃ (d e : PyData) (r : Bool), Dp K H x d ∧ Dp K H y e ∧ d.plain = true ∧ e.plain = true ∧ d.depth ≤ 60 ∧ PyData.eqv d e = r ∧ Q (.bl (!r)) H
def rInP (K : PySem.W.Frag) (neg : Bool) : R2 := fun x y H Q => ∃ (d : PyData) (es : List PyData) (r : Bool), Dp K H x d ∧ (Dp K H y (.list es) ∨ Dp K H y (.tuple es)) ∧ d.plain = true ∧ PyData.plainAll es = true ∧ d.depth ≤ 60 ∧ es.any (fun e => PyData.eqv e d) = r ∧ Q (.bl (if neg then !r else r)) H
section
variable {X : Cx}
theorem op_eqP (hu : X.A.units + 64 < cLine) : OpR X (compareOp .Eq) (rEqP X.K) := by
  intro pins s σ H x y v u Q I rx ry h
  obtain ⟨d, e, r, hd, he, sd, se, dd, hr, q⟩ := h
  obtain ⟨as, r1⟩ := Dp.reads I d x v hd rx
  obtain ⟨bs, r2⟩ := Dp.reads I e y u he ry
  refine PySem.SeqAt.eq_plain r1 r2 sd se (by omega) ⟨.bl _, H, I, rfl, ?_⟩
  rw [hr]
  exact q
theorem op_neP (hu : X.A.units + 64 < cLine) : OpR X (compareOp .NotEq) (rNeP X.K) := by
  intro pins s σ H x y v u Q I rx ry h
  obtain ⟨d, e, r, hd, he, sd, se, dd, hr, q⟩ := h
  obtain ⟨as, r1⟩ := Dp.reads I d x v hd rx
  obtain ⟨bs, r2⟩ := Dp.reads I e y u he ry
  refine PySem.SeqAt.ne_plain r1 r2 sd se (by omega) ⟨.bl _, H, I, rfl, ?_⟩
  rw [hr]
  exact q
theorem op_inP (hu : X.A.units + 64 < cLine) : OpR X (compareOp .In) (rInP X.K false) := by
  intro pins s σ H x y v u Q I rx ry h
  obtain ⟨d, es, r, hd, he, sd, se, dd, hr, q⟩ := h
  obtain ⟨as, r1⟩ := Dp.reads I d x v hd rx
  rcases he with he | he
  · obtain ⟨bs, r2⟩ := Dp.reads I _ y u he ry
    refine PySem.SeqAt.in_list_data r2 r1 se sd (by omega) ⟨.bl _, H, I, rfl, ?_⟩
    rw [hr]
    exact q
  · obtain ⟨bs, r2⟩ := Dp.reads I _ y u he ry
    refine PySem.SeqAt.in_tuple_data r2 r1 se sd (by omega) ⟨.bl _, H, I, rfl, ?_⟩
    rw [hr]
    exact q
theorem op_notInP (hu : X.A.units + 64 < cLine) : OpR X (compareOp .NotIn) (rInP X.K true) := by
  intro pins s σ H x y v u Q I rx ry h
  obtain ⟨d, es, r, hd, he, sd, se, dd, hr, q⟩ := h
  obtain ⟨as, r1⟩ := Dp.reads I d x v hd rx
  rcases he with he | he
  · obtain ⟨bs, r2⟩ := Dp.reads I _ y u he ry
    refine PySem.SeqAt.notIn_list_data r2 r1 se sd (by omega) ⟨.bl _, H, I, rfl, ?_⟩
    rw [hr]
    exact q
  · obtain ⟨bs, r2⟩ := Dp.reads I _ y u he ry
    refine PySem.SeqAt.notIn_tuple_data r2 r1 se sd (by omega) ⟨.bl _, H, I, rfl, ?_⟩
    rw [hr]
    exact q
end
/-- data with a Lean type: the two ends of == -/
abbrev toD {α : Type} [DecidableEq α] [PySem.W.Datum α] (a : α) : PyData := PySem.W.Datum.toD a
theorem eq_at {α : Type} [DecidableEq α] [PySem.W.Datum α] {K : PySem.W.Frag} {H : Hp} {x y : V} {Q : VK} (a b : α) (hx : Dp K H x (toD a)) (hy : Dp K H y (toD b)) (hd : PySem.W.Datum.depth α ≤ 60) (q : Q (.bl (decide (a = b))) H) : rEqP K x y H Q :=
  ⟨_, _, _, hx, hy, PySem.W.Datum.plain a, PySem.W.Datum.plain b, Nat.le_trans (PySem.W.Datum.depth_le a) hd, PySem.W.Datum.eqv a b, q⟩
theorem ne_at {α : Type} [DecidableEq α] [PySem.W.Datum α] {K : PySem.W.Frag} {H : Hp} {x y : V} {Q : VK} (a b : α) (hx : Dp K H x (toD a)) (hy : Dp K H y (toD b)) (hd : PySem.W.Datum.depth α ≤ 60) (q : Q (.bl (!decide (a = b))) H) : rNeP K x y H Q :=
  ⟨_, _, _, hx, hy, PySem.W.Datum.plain a, PySem.W.Datum.plain b, Nat.le_trans (PySem.W.Datum.depth_le a) hd, PySem.W.Datum.eqv a b, q⟩
end Pr

namespace K01
open PySem PySem.Spec PyProof.Rows L2 Pr
/-! ### number maps in plain Lean -/
abbrev Row := Option (Int × Int × Int × Int)
/-- the row at an index (none where there is none) -/
def rowAt (rs : List Row) (i : Int) : Row := (rs[i.toNat]?).getD none
def stretchM (r : Row) (shift factor : Int) : Row := match r with
  | none => none
  | some (s, t, lo, hi) => if (hi - shift) / factor < -((shift - lo) / factor) then none else some (s * factor, s * shift + t, -((shift - lo) / factor), (hi - shift) / factor)
def quotM (slope start lo hi : Int) : Int × Int := if slope < 0 then (-((hi - start) / -slope), -(lo - start) / -slope) else (-(-(lo - start) / slope), (hi - start) / slope)
def cutM (s2 t2 slope start lo hi : Int) : Row := if hi < lo then none else some (s2 * slope, s2 * start + t2, lo, hi)
def compM (r : Row) (shift factor p : Int) (rs : List Row) : Row := match stretchM r shift factor with
  | none => none
  | some (s, t, lo, hi) => match rowAt rs (t % p) with
    | none => none
    | some (s2, t2, lo2, hi2) =>
      if s / p = 0 then (if lo2 ≤ t / p ∧ t / p ≤ hi2 then cutM s2 t2 (s / p) (t / p) lo hi else none)
      else cutM s2 t2 (s / p) (t / p) (if (quotM (s / p) (t / p) lo2 hi2).1 > lo then (quotM (s / p) (t / p) lo2 hi2).1 else lo) (if (quotM (s / p) (t / p) lo2 hi2).2 < hi then (quotM (s / p) (t / p) lo2 hi2).2 else hi)
def imM (p : Int) (rs : List Row) (x : Int) : Option Int := match rowAt rs (x % p) with
  | none => none
  | some (s, t, lo, hi) => if lo ≤ x / p ∧ x / p ≤ hi then some (s * (x / p) + t) else none
def facM (p2 : Int) : List Row → Nat → Nat
  | [], f => f
  | none :: rs, f => facM p2 rs f
  | some (s, _, _, _) :: rs, f => facM p2 rs (Nat.lcm f (p2.natAbs / Nat.gcd s.natAbs p2.natAbs))
def thenM (p1 : Int) (rs1 : List Row) (p2 : Int) (rs2 : List Row) (f : Int) : List Row := (List.range (p1 * f).toNat).map fun (i : Nat) => compM (rowAt rs1 ((i : Int) % p1)) ((i : Int) / p1) f p2 rs2

theorem facM_dvd {p2 : Int} : ∀ (rs : List Row) (f : Nat), f ∣ facM p2 rs f
  | [], f => Nat.dvd_refl f
  | none :: rs, f => facM_dvd rs f
  | some (s, _, _, _) :: rs, f => Nat.dvd_trans (Nat.dvd_lcm_left _ _) (facM_dvd rs _)
theorem facM_into {p2 : Int} : ∀ (rs : List Row) (f : Nat), f ∣ p2.natAbs → facM p2 rs f ∣ p2.natAbs
  | [], f, h => h
  | none :: rs, f, h => facM_into rs f h
  | some (s, _, _, _) :: rs, f, h => facM_into rs _ (Nat.lcm_dvd h (Nat.div_dvd_of_dvd (Nat.gcd_dvd_right _ _)))
theorem facM_row {p2 : Int} {s t lo hi : Int} : ∀ (rs : List Row) (f : Nat), some (s, t, lo, hi) ∈ rs → (p2.natAbs / Nat.gcd s.natAbs p2.natAbs) ∣ facM p2 rs f
  | [], f, h => by cases h
  | none :: rs, f, h => by
    rcases List.mem_cons.mp h with e | h
    · cases e
    · exact facM_row rs f h
  | some (a, b, c, d) :: rs, f, h => by
    rcases List.mem_cons.mp h with e | h
    · cases e
      exact Nat.dvd_trans (Nat.dvd_lcm_right _ _) (facM_dvd rs _)
    · exact facM_row rs _ h
theorem facM_mul {p2 : Int} {s t lo hi : Int} (hp : 0 < p2) {rs : List Row} {f : Nat} (h : some (s, t, lo, hi) ∈ rs) : p2 ∣ s * (facM p2 rs f : Nat) := by
  have h1 := facM_row (p2 := p2) rs f h
  have hg := Nat.gcd_dvd_right s.natAbs p2.natAbs
  have hs := Nat.gcd_dvd_left s.natAbs p2.natAbs
  have hpos : 0 < p2.natAbs := by omega
  have gpos : 0 < Nat.gcd s.natAbs p2.natAbs := Nat.gcd_pos_of_pos_right _ hpos
  obtain ⟨c, hc⟩ := h1
  obtain ⟨d, hd⟩ := hs
  have e1 : p2.natAbs = Nat.gcd s.natAbs p2.natAbs * (p2.natAbs / Nat.gcd s.natAbs p2.natAbs) := (Nat.mul_div_cancel' hg).symm
  have h2 : p2.natAbs ∣ s.natAbs * facM p2 rs f := by
    refine ⟨d * c, ?_⟩
    have : s.natAbs * facM p2 rs f = (Nat.gcd s.natAbs p2.natAbs * d) * ((p2.natAbs / Nat.gcd s.natAbs p2.natAbs) * c) := by rw [← hc, ← hd]
    rw [this]
    calc (Nat.gcd s.natAbs p2.natAbs * d) * ((p2.natAbs / Nat.gcd s.natAbs p2.natAbs) * c)
        = (Nat.gcd s.natAbs p2.natAbs * (p2.natAbs / Nat.gcd s.natAbs p2.natAbs)) * (d * c) := by
          rw [Nat.mul_assoc, Nat.mul_assoc, Nat.mul_left_comm d]
      _ = p2.natAbs * (d * c) := by rw [← e1]
  have h3 : p2.natAbs ∣ (s * (facM p2 rs f : Nat)).natAbs := by rw [Int.natAbs_mul]; exact h2
  exact Int.natAbs_dvd_natAbs.mp h3
theorem facM_pos {p2 : Int} (hp : 0 < p2) (rs : List Row) : 0 < facM p2 rs 1 := by
  have := facM_into (p2 := p2) rs 1 (Nat.one_dvd _)
  exact Nat.pos_of_dvd_of_pos this (by omega)
theorem facM_le {p2 : Int} (hp : 0 < p2) (rs : List Row) : ((facM p2 rs 1 : Nat) : Int) ≤ p2 := by
  have := Nat.le_of_dvd (by omega) (facM_into (p2 := p2) rs 1 (Nat.one_dvd _))
  omega

/-- an interval in steps of f: lo ≤ f * q + shift ≤ hi -/
theorem le_ceil {f shift lo q : Int} (hf : 0 < f) : -((shift - lo) / f) ≤ q ↔ lo ≤ f * q + shift := by
  constructor
  · intro h
    have h1 : -q ≤ (shift - lo) / f := by omega
    have h2 := (Int.le_ediv_iff_mul_le hf).mp h1
    have h3 : -q * f = -(f * q) := by rw [Int.neg_mul, Int.mul_comm]
    omega
  · intro h
    have h2 : -q * f ≤ shift - lo := by
      have h3 : -q * f = -(f * q) := by rw [Int.neg_mul, Int.mul_comm]
      omega
    have h1 := (Int.le_ediv_iff_mul_le hf).mpr h2
    omega
theorem le_floor {f shift hi q : Int} (hf : 0 < f) : q ≤ (hi - shift) / f ↔ f * q + shift ≤ hi := by
  rw [Int.le_ediv_iff_mul_le hf, Int.mul_comm q f]
  constructor <;> intro h <;> omega
theorem quot_iff {slope start lo hi q : Int} (h0 : slope ≠ 0) : ((quotM slope start lo hi).1 ≤ q ∧ q ≤ (quotM slope start lo hi).2) ↔ (lo ≤ slope * q + start ∧ slope * q + start ≤ hi) := by
  unfold quotM
  by_cases hs : slope < 0
  · rw [if_pos hs]
    have hp : 0 < -slope := by omega
    have e1 : (-slope) * q = -(slope * q) := by rw [Int.neg_mul]
    have a1 : -((hi - start) / -slope) ≤ q ↔ slope * q + start ≤ hi := by
      have := le_ceil (f := -slope) (shift := hi - start) (lo := 0) (q := q) hp
      rw [Int.sub_zero] at this
      rw [this, e1]
      constructor <;> intro h <;> omega
    have a2 : q ≤ -(lo - start) / -slope ↔ lo ≤ slope * q + start := by
      rw [Int.le_ediv_iff_mul_le hp, Int.mul_comm q, e1]
      constructor <;> intro h <;> omega
    constructor
    · rintro ⟨h1, h2⟩; exact ⟨a2.mp h2, a1.mp h1⟩
    · rintro ⟨h1, h2⟩; exact ⟨a1.mpr h2, a2.mpr h1⟩
  · rw [if_neg hs]
    have hp : 0 < slope := by omega
    have a1 : -(-(lo - start) / slope) ≤ q ↔ lo ≤ slope * q + start := by
      have := le_ceil (f := slope) (shift := -(lo - start)) (lo := 0) (q := q) hp
      rw [Int.sub_zero] at this
      rw [this]
      constructor <;> intro h <;> omega
    have a2 : q ≤ (hi - start) / slope ↔ slope * q + start ≤ hi := le_floor hp
    constructor
    · rintro ⟨h1, h2⟩; exact ⟨a1.mp h1, a2.mp h2⟩
    · rintro ⟨h1, h2⟩; exact ⟨a1.mpr h1, a2.mpr h2⟩
theorem cut_at {s2 t2 slope start lo hi q : Int} : (match cutM s2 t2 slope start lo hi with
    | none => (none : Option Int)
    | some (s, t, lo, hi) => if lo ≤ q ∧ q ≤ hi then some (s * q + t) else none) = if lo ≤ q ∧ q ≤ hi then some (s2 * (slope * q + start) + t2) else none := by
  unfold cutM
  by_cases h : hi < lo
  · rw [if_pos h]
    show none = _
    rw [if_neg (by omega)]
  · rw [if_neg h]
    show (if lo ≤ q ∧ q ≤ hi then some (s2 * slope * q + (s2 * start + t2)) else none) = _
    have e : s2 * slope * q + (s2 * start + t2) = s2 * (slope * q + start) + t2 := by rw [Int.mul_add, Int.mul_assoc]; omega
    rw [e]
/-- the row of a composition at q -/
theorem comp_at {r : Row} {shift f p q : Int} {rs : List Row} (hf : 0 < f) (hp : 0 < p) (hd : ∀ s t lo hi, r = some (s, t, lo, hi) → p ∣ s * f) :
    (match compM r shift f p rs with
    | none => (none : Option Int)
    | some (s, t, lo, hi) => if lo ≤ q ∧ q ≤ hi then some (s * q + t) else none) =
    (match r with
    | none => (none : Option Int)
    | some (s, t, lo, hi) => if lo ≤ f * q + shift ∧ f * q + shift ≤ hi then some (s * (f * q + shift) + t) else none).bind (imM p rs) := by
  cases r with
  | none => rfl
  | some r =>
    obtain ⟨s, t, lo, hi⟩ := r
    have hdv := hd s t lo hi rfl
    unfold compM stretchM
    have c1 := le_ceil (shift := shift) (lo := lo) (q := q) hf
    have c2 := le_floor (shift := shift) (hi := hi) (q := q) hf
    by_cases he : (hi - shift) / f < -((shift - lo) / f)
    · simp only [if_pos he]
      rw [if_neg (by intro h; have := c1.mpr h.1; have := c2.mpr h.2; omega)]
      rfl
    · simp only [if_neg he]
      obtain ⟨k, hk⟩ := hdv
      have e1 : s * f / p = k := by rw [hk]; exact Int.mul_ediv_cancel_left k (by omega)
      have ey : s * (f * q + shift) + t = p * (k * q) + (s * shift + t) := by
        have : s * (f * q) = p * (k * q) := by rw [← Int.mul_assoc, hk, Int.mul_assoc]
        rw [Int.mul_add, this]; omega
      have ed : (s * (f * q + shift) + t) / p = k * q + (s * shift + t) / p := by rw [ey, Int.mul_add_ediv_left _ _ (by omega)]
      have em : (s * (f * q + shift) + t) % p = (s * shift + t) % p := by rw [ey, Int.mul_add_emod_self_left]
      have eim : imM p rs (s * (f * q + shift) + t) = (match rowAt rs ((s * shift + t) % p) with
        | none => (none : Option Int)
        | some (s2, t2, lo2, hi2) => if lo2 ≤ k * q + (s * shift + t) / p ∧ k * q + (s * shift + t) / p ≤ hi2 then some (s2 * (k * q + (s * shift + t) / p) + t2) else none) := by
        unfold imM
        rw [em, ed]
      have eb : (if lo ≤ f * q + shift ∧ f * q + shift ≤ hi then some (s * (f * q + shift) + t) else none).bind (imM p rs) =
          if (-((shift - lo) / f) ≤ q ∧ q ≤ (hi - shift) / f) then imM p rs (s * (f * q + shift) + t) else none := by
        by_cases hq : lo ≤ f * q + shift ∧ f * q + shift ≤ hi
        · rw [if_pos hq, if_pos ⟨c1.mpr hq.1, c2.mpr hq.2⟩]; rfl
        · rw [if_neg hq, if_neg (fun h => hq ⟨c1.mp h.1, c2.mp h.2⟩)]; rfl
      rw [eb, eim, e1]
      cases hr : rowAt rs ((s * shift + t) % p) with
      | none => simp
      | some r2 =>
        obtain ⟨s2, t2, lo2, hi2⟩ := r2
        simp only
        by_cases hk0 : k = 0
        · subst hk0
          rw [if_pos rfl]
          have e0 : (0 : Int) * q + (s * shift + t) / p = (s * shift + t) / p := by omega
          rw [e0]
          by_cases hin : lo2 ≤ (s * shift + t) / p ∧ (s * shift + t) / p ≤ hi2
          · rw [if_pos hin, if_pos hin, cut_at, e0]
          · rw [if_neg hin, if_neg hin]
            simp
        · rw [if_neg hk0, cut_at]
          have qi := quot_iff (start := (s * shift + t) / p) (lo := lo2) (hi := hi2) (q := q) hk0
          generalize quotM k ((s * shift + t) / p) lo2 hi2 = b at qi
          generalize (s * shift + t) / p = st at qi
          generalize -((shift - lo) / f) = L
          generalize (hi - shift) / f = U
          have em : ((if b.1 > L then b.1 else L) ≤ q ∧ q ≤ (if b.2 < U then b.2 else U)) ↔ ((L ≤ q ∧ q ≤ U) ∧ (b.1 ≤ q ∧ q ≤ b.2)) := by
            constructor
            · rintro ⟨h1, h2⟩
              split at h1 <;> split at h2 <;> omega
            · rintro ⟨⟨h1, h2⟩, h3, h4⟩
              constructor <;> split <;> omega
          by_cases h1 : L ≤ q ∧ q ≤ U
          · rw [if_pos h1]
            by_cases h2 : b.1 ≤ q ∧ q ≤ b.2
            · rw [if_pos (em.mpr ⟨h1, h2⟩), if_pos (qi.mp h2)]
            · rw [if_neg (fun h => h2 (em.mp h).2), if_neg (fun h => h2 (qi.mpr h))]
          · rw [if_neg (fun h => h1 (em.mp h).1), if_neg h1]
theorem rowAt_mem {rs : List Row} {i : Int} {x : Int × Int × Int × Int} (h : rowAt rs i = some x) : some x ∈ rs := by
  unfold rowAt at h
  cases e : rs[i.toNat]? with
  | none => rw [e] at h; cases h
  | some r =>
    rw [e] at h
    have : r = some x := h
    rw [← this]
    exact List.mem_of_getElem? e
/-- THE LAW OF COMPOSITIONS -/
theorem then_im {p1 p2 : Int} {rs1 rs2 : List Row} (h1 : 0 < p1) (h2 : 0 < p2) (x : Int) :
    imM (p1 * (facM p2 rs1 1 : Nat)) (thenM p1 rs1 p2 rs2 (facM p2 rs1 1 : Nat)) x = (imM p1 rs1 x).bind (imM p2 rs2) := by
  have hf0 := facM_pos h2 rs1
  generalize hf : ((facM p2 rs1 1 : Nat) : Int) = f at *
  have hfp : 0 < f := by omega
  have hP : 0 < p1 * f := Int.mul_pos h1 hfp
  have n0 : 0 ≤ x % (p1 * f) := Int.emod_nonneg _ (by omega)
  have n1 : x % (p1 * f) < p1 * f := Int.emod_lt_of_pos _ hP
  have er : rowAt (thenM p1 rs1 p2 rs2 f) (x % (p1 * f)) = compM (rowAt rs1 (x % (p1 * f) % p1)) (x % (p1 * f) / p1) f p2 rs2 := by
    unfold rowAt thenM
    have hl : (x % (p1 * f)).toNat < (p1 * f).toNat := by omega
    rw [List.getElem?_map, List.getElem?_range hl]
    show compM _ _ _ _ _ = _
    have e : (((x % (p1 * f)).toNat : Nat) : Int) = x % (p1 * f) := Int.toNat_of_nonneg n0
    rw [e]
    rfl
  have em : x % (p1 * f) % p1 = x % p1 := Int.emod_emod_of_dvd x ⟨f, rfl⟩
  have ed : x / p1 = f * (x / (p1 * f)) + x % (p1 * f) / p1 := by
    have h3 := Int.mul_ediv_add_emod x (p1 * f)
    have h4 : x / p1 = (p1 * (f * (x / (p1 * f))) + x % (p1 * f)) / p1 := by
      rw [← Int.mul_assoc]; rw [h3]
    rw [h4, Int.mul_add_ediv_left _ _ (by omega)]
  have key := comp_at (r := rowAt rs1 (x % p1)) (shift := x % (p1 * f) / p1) (f := f) (p := p2) (q := x / (p1 * f)) (rs := rs2) hfp h2 (fun s t lo hi e => by
    have := facM_mul h2 (f := 1) (rowAt_mem e)
    rw [hf] at this
    exact this)
  have l1 : imM (p1 * f) (thenM p1 rs1 p2 rs2 f) x = (match compM (rowAt rs1 (x % p1)) (x % (p1 * f) / p1) f p2 rs2 with
    | none => (none : Option Int)
    | some (s, t, lo, hi) => if lo ≤ x / (p1 * f) ∧ x / (p1 * f) ≤ hi then some (s * (x / (p1 * f)) + t) else none) := by
    unfold imM
    rw [er, em]
  have l2 : imM p1 rs1 x = (match rowAt rs1 (x % p1) with
    | none => (none : Option Int)
    | some (s, t, lo, hi) => if lo ≤ f * (x / (p1 * f)) + x % (p1 * f) / p1 ∧ f * (x / (p1 * f)) + x % (p1 * f) / p1 ≤ hi then some (s * (f * (x / (p1 * f)) + x % (p1 * f) / p1) + t) else none) := by
    unfold imM
    rw [ed]
  rw [l1, l2]
  exact key
/-! ### sizes -/
def Bz (k : Nat) (x : Int) : Prop := x.natAbs < 2 ^ k
instance (k : Nat) (x : Int) : Decidable (Bz k x) := inferInstanceAs (Decidable (x.natAbs < 2 ^ k))
theorem Bz.mono {k j : Nat} {x : Int} (h : Bz k x) (hk : k ≤ j) : Bz j x := Nat.lt_of_lt_of_le h (Nat.pow_le_pow_right (by decide) hk)
theorem Bz.add {k : Nat} {x y : Int} (h : Bz k x) (h' : Bz k y) : Bz (k + 1) (x + y) := by
  unfold Bz at *
  have := Nat.pow_succ 2 k
  omega
theorem Bz.sub {k : Nat} {x y : Int} (h : Bz k x) (h' : Bz k y) : Bz (k + 1) (x - y) := by
  unfold Bz at *
  have := Nat.pow_succ 2 k
  omega
theorem Bz.neg {k : Nat} {x : Int} (h : Bz k x) : Bz k (-x) := by
  unfold Bz at *
  omega
theorem Bz.mul {k j : Nat} {x y : Int} (h : Bz k x) (h' : Bz j y) : Bz (k + j) (x * y) := by
  unfold Bz at *
  rw [Int.natAbs_mul, Nat.pow_add]
  exact Nat.mul_lt_mul'' h h'
theorem natAbs_div_le {x p : Int} (hp : 0 < p) : (x / p).natAbs ≤ x.natAbs := by
  rcases Int.lt_or_le x 0 with hx | hx
  · have h1 : x / p < 0 := Int.ediv_neg_of_neg_of_pos hx hp
    have h2 : x ≤ x / p := by
      rw [Int.le_ediv_iff_mul_le hp]
      have : x * p ≤ x * 1 := Int.mul_le_mul_of_nonpos_left (by omega) (by omega)
      omega
    omega
  · have h1 : 0 ≤ x / p := Int.ediv_nonneg hx (by omega)
    have h2 := Int.ediv_le_self p hx
    omega
theorem Bz.div {k : Nat} {x p : Int} (h : Bz k x) (hp : 0 < p) : Bz k (x / p) := Nat.lt_of_le_of_lt (natAbs_div_le hp) h
theorem Bz.small {k : Nat} {x : Int} (h : x.natAbs < 2 ^ k) : Bz k x := h
/-- a row's numbers are small, its interval is not empty -/
def RowOk (k : Nat) : Row → Prop
  | none => True
  | some (s, t, lo, hi) => Bz k s ∧ Bz k t ∧ Bz k lo ∧ Bz k hi ∧ lo ≤ hi
theorem stretch_ok {k : Nat} {r : Row} {shift f : Int} (h : RowOk k r) (hf : 0 < f) (bf : Bz 16 f) (bs : Bz 16 shift) (hk : 16 ≤ k) : RowOk (k + 17) (stretchM r shift f) := by
  cases r with
  | none => trivial
  | some r =>
    obtain ⟨s, t, lo, hi⟩ := r
    obtain ⟨h1, h2, h3, h4, h5⟩ := h
    unfold stretchM
    by_cases he : (hi - shift) / f < -((shift - lo) / f)
    · simp only [if_pos he]; trivial
    · simp only [if_neg he]
      refine ⟨(h1.mul bf).mono (by omega), (Bz.add (h1.mul bs) (h2.mono (by omega))), ((Bz.sub (bs.mono hk) h3).div hf).neg.mono (by omega), ((Bz.sub h4 (bs.mono hk)).div hf).mono (by omega), by omega⟩
theorem quot_ok {k : Nat} {slope start lo hi : Int} (h2 : Bz k start) (h3 : Bz k lo) (h4 : Bz k hi) (h0 : slope ≠ 0) : Bz (k + 1) (quotM slope start lo hi).1 ∧ Bz (k + 1) (quotM slope start lo hi).2 := by
  unfold quotM
  by_cases hs : slope < 0
  · rw [if_pos hs]
    exact ⟨((Bz.sub h4 h2).div (by omega)).neg, (Bz.sub h3 h2).neg.div (by omega)⟩
  · rw [if_neg hs]
    exact ⟨((Bz.sub h3 h2).neg.div (by omega)).neg, (Bz.sub h4 h2).div (by omega)⟩
theorem cut_ok {k j : Nat} {s2 t2 slope start lo hi : Int} (h1 : Bz k s2) (h2 : Bz k t2) (h3 : Bz j slope) (h4 : Bz j start) (h5 : Bz (k + j) lo) (h6 : Bz (k + j) hi) : RowOk (k + j + 1) (cutM s2 t2 slope start lo hi) := by
  unfold cutM
  by_cases h : hi < lo
  · rw [if_pos h]; trivial
  · rw [if_neg h]
    exact ⟨(h1.mul h3).mono (by omega), Bz.add (h1.mul h4) (h2.mono (by omega)), h5.mono (by omega), h6.mono (by omega), by omega⟩
theorem rowAt_ok {k : Nat} {rs : List Row} (h : ∀ r ∈ rs, RowOk k r) (i : Int) : RowOk k (rowAt rs i) := by
  unfold rowAt
  cases e : rs[i.toNat]? with
  | none => trivial
  | some r => exact h r (List.mem_of_getElem? e)
theorem comp_ok {k j : Nat} {r : Row} {shift f p : Int} {rs : List Row} (h : RowOk k r) (hr : ∀ r ∈ rs, RowOk j r) (hf : 0 < f) (hp : 0 < p) (bf : Bz 16 f) (bs : Bz 16 shift) (hk : 16 ≤ k) (hj : 1 ≤ j) : RowOk (k + j + 20) (compM r shift f p rs) := by
  have st := stretch_ok h hf bf bs hk
  unfold compM
  cases e : stretchM r shift f with
  | none => trivial
  | some q =>
    obtain ⟨s, t, lo, hi⟩ := q
    rw [e] at st
    obtain ⟨h1, h2, h3, h4, h5⟩ := st
    simp only
    have ro := rowAt_ok hr (t % p)
    cases e2 : rowAt rs (t % p) with
    | none => trivial
    | some q2 =>
      obtain ⟨s2, t2, lo2, hi2⟩ := q2
      rw [e2] at ro
      obtain ⟨g1, g2, g3, g4, g5⟩ := ro
      simp only
      have d1 : Bz (k + 17) (s / p) := h1.div hp
      have d2 : Bz (k + 17) (t / p) := h2.div hp
      by_cases h0 : s / p = 0
      · rw [if_pos h0]
        by_cases hin : lo2 ≤ t / p ∧ t / p ≤ hi2
        · rw [if_pos hin]
          have := cut_ok (k := j) (j := k + 19) g1 g2 (d1.mono (by omega)) (d2.mono (by omega)) (h3.mono (j := j + (k + 19)) (by omega)) (h4.mono (j := j + (k + 19)) (by omega))
          rwa [show j + (k + 19) + 1 = k + j + 20 by omega] at this
        · rw [if_neg hin]; trivial
      · rw [if_neg h0]
        obtain ⟨q1, q2⟩ := quot_ok (k := k + j + 17) (slope := s / p) (start := t / p) (lo := lo2) (hi := hi2) (d2.mono (by omega)) (g3.mono (by omega)) (g4.mono (by omega)) h0
        have := cut_ok (k := j) (j := k + 19) g1 g2 (d1.mono (by omega)) (d2.mono (by omega)) (lo := if (quotM (s / p) (t / p) lo2 hi2).1 > lo then (quotM (s / p) (t / p) lo2 hi2).1 else lo) (hi := if (quotM (s / p) (t / p) lo2 hi2).2 < hi then (quotM (s / p) (t / p) lo2 hi2).2 else hi)
          (by split; exact q1.mono (by omega); exact h3.mono (by omega)) (by split; exact q2.mono (by omega); exact h4.mono (by omega))
        rwa [show j + (k + 19) + 1 = k + j + 20 by omega] at this
theorem im_ok {k j : Nat} {p : Int} {rs : List Row} {x y : Int} (h : ∀ r ∈ rs, RowOk k r) (hp : 0 < p) (hx : Bz j x) (hj : 1 ≤ j) (e : imM p rs x = some y) : Bz (k + j + 1) y := by
  unfold imM at e
  have ro := rowAt_ok h (x % p)
  cases e2 : rowAt rs (x % p) with
  | none => rw [e2] at e; cases e
  | some q =>
    obtain ⟨s, t, lo, hi⟩ := q
    rw [e2] at e ro
    obtain ⟨h1, h2, _⟩ := ro
    have e3 : (if lo ≤ x / p ∧ x / p ≤ hi then some (s * (x / p) + t) else none) = some y := e
    by_cases hin : lo ≤ x / p ∧ x / p ≤ hi
    · rw [if_pos hin] at e3
      cases e3
      exact Bz.add (h1.mul (hx.div hp)) (h2.mono (by omega))
    · rw [if_neg hin] at e3
      cases e3

def top (i : Nat) : Stmt := PySem.Challenge.pw_surebridge_k01_number_compositions.main.body.getD i (.Pass ⟨0, 0, 0, 0⟩)
abbrev s_stretched : Stmt := top 6
abbrev s_quotients : Stmt := top 7
abbrev s_composed : Stmt := top 8
abbrev s_NumberMap___init__ : Stmt := inClass (top 9) 0
abbrev s_NumberMap_image : Stmt := inClass (top 9) 1
abbrev s_NumberMap_then : Stmt := inClass (top 9) 2
abbrev s__law_deck : Stmt := top 11
abbrev s__law_take : Stmt := top 12
abbrev s__law_whole : Stmt := top 13
abbrev s__law_parts : Stmt := top 14
abbrev s__law_number_image : Stmt := top 15
abbrev s__law_same : Stmt := top 16
abbrev s__law_then : Stmt := top 17
abbrev s__law_preimages : Stmt := top 18
abbrev s__law_points : Stmt := top 19
abbrev s__law_aimed : Stmt := top 20
abbrev s_law : Stmt := top 21
abbrev N_stretched : List Str := ["row", "shift", "factor", "low", "high"]
theorem sc_stretched : FnScope N_stretched ["row", "shift", "factor"] (defScope s_stretched) := ⟨rfl, rfl, rfl, by decide +kernel, rfl, by decide +kernel, by decide +kernel⟩
abbrev N_quotients : List Str := ["slope", "start", "row", "least", "most"]
theorem sc_quotients : FnScope N_quotients ["slope", "start", "row"] (defScope s_quotients) := ⟨rfl, rfl, rfl, by decide +kernel, rfl, by decide +kernel, by decide +kernel⟩
abbrev N_composed : List Str := ["row", "shift", "factor", "other", "inner", "outer", "slope", "start", "low", "high", "bounds"]
theorem sc_composed : FnScope N_composed ["row", "shift", "factor", "other"] (defScope s_composed) := ⟨rfl, rfl, rfl, by decide +kernel, rfl, by decide +kernel, by decide +kernel⟩
abbrev N_NumberMap___init__ : List Str := ["self", "period", "rows", "row"]
theorem sc_NumberMap___init__ : FnScope N_NumberMap___init__ ["self", "period", "rows"] (defScope s_NumberMap___init__) := ⟨rfl, rfl, rfl, by decide +kernel, rfl, by decide +kernel, by decide +kernel⟩
abbrev N_NumberMap_image : List Str := ["self", "x", "row"]
theorem sc_NumberMap_image : FnScope N_NumberMap_image ["self", "x"] (defScope s_NumberMap_image) := ⟨rfl, rfl, rfl, by decide +kernel, rfl, by decide +kernel, by decide +kernel⟩
abbrev N_NumberMap_then : List Str := ["self", "other", "factor", "row", "rows", "at"]
theorem sc_NumberMap_then : FnScope N_NumberMap_then ["self", "other"] (defScope s_NumberMap_then) := ⟨rfl, rfl, rfl, by decide +kernel, rfl, by decide +kernel, by decide +kernel⟩
abbrev N__law_deck : List Str := ["script", "cells", "each", "deck", "seed", "k", "cell", "rest", "at"]
theorem sc__law_deck : FnScope N__law_deck ["script", "cells", "each"] (defScope s__law_deck) := ⟨rfl, rfl, rfl, by decide +kernel, rfl, by decide +kernel, by decide +kernel⟩
abbrev N__law_take : List Str := ["deck", "many"]
theorem sc__law_take : FnScope N__law_take ["deck", "many"] (defScope s__law_take) := ⟨rfl, rfl, rfl, by decide +kernel, rfl, by decide +kernel, by decide +kernel⟩
abbrev N__law_whole : List Str := ["deck", "digit", "small"]
theorem sc__law_whole : FnScope N__law_whole ["deck"] (defScope s__law_whole) := ⟨rfl, rfl, rfl, by decide +kernel, rfl, by decide +kernel, by decide +kernel⟩
abbrev N__law_parts : List Str := ["deck", "most", "period", "rows", "at", "row", "low", "wide"]
theorem sc__law_parts : FnScope N__law_parts ["deck", "most"] (defScope s__law_parts) := ⟨rfl, rfl, rfl, by decide +kernel, rfl, by decide +kernel, by decide +kernel⟩
abbrev N__law_number_image : List Str := ["parts", "x", "row", "at"]
theorem sc__law_number_image : FnScope N__law_number_image ["parts", "x"] (defScope s__law_number_image) := ⟨rfl, rfl, rfl, by decide +kernel, rfl, by decide +kernel, by decide +kernel⟩
abbrev N__law_same : List Str := ["actual", "expected"]
theorem sc__law_same : FnScope N__law_same ["actual", "expected"] (defScope s__law_same) := ⟨rfl, rfl, rfl, by decide +kernel, rfl, by decide +kernel, by decide +kernel⟩
abbrev N__law_then : List Str := ["first", "second", "x", "between"]
theorem sc__law_then : FnScope N__law_then ["first", "second", "x"] (defScope s__law_then) := ⟨rfl, rfl, rfl, by decide +kernel, rfl, by decide +kernel, by decide +kernel⟩
abbrev N__law_preimages : List Str := ["row", "period", "at", "goal", "quotient", "k"]
theorem sc__law_preimages : FnScope N__law_preimages ["row", "period", "at", "goal"] (defScope s__law_preimages) := ⟨rfl, rfl, rfl, by decide +kernel, rfl, by decide +kernel, by decide +kernel⟩
abbrev N__law_points : List Str := ["first", "second", "points", "at", "row", "quotient", "residue", "goal"]
theorem sc__law_points : FnScope N__law_points ["first", "second"] (defScope s__law_points) := ⟨rfl, rfl, rfl, by decide +kernel, rfl, by decide +kernel, by decide +kernel⟩
abbrev N__law_aimed : List Str := ["deck", "first", "second", "period", "rows", "at", "goal", "row", "end", "inside", "slope", "start"]
theorem sc__law_aimed : FnScope N__law_aimed ["deck", "first", "second"] (defScope s__law_aimed) := ⟨rfl, rfl, rfl, by decide +kernel, rfl, by decide +kernel, by decide +kernel⟩
abbrev N_law : List Str := ["script", "deck", "second", "first", "one", "other", "both", "again", "x", "expected"]
theorem sc_law : FnScope N_law ["script"] (defScope s_law) := ⟨rfl, rfl, rfl, by decide +kernel, rfl, by decide +kernel, by decide +kernel⟩
structure Tx (K : PySem.W.Frag) (mg : Str → Option Value) : Prop where
  d_stretched : DefAt K mg "stretched" s_stretched ["row", "shift", "factor"]
  d_quotients : DefAt K mg "quotients" s_quotients ["slope", "start", "row"]
  d_composed : DefAt K mg "composed" s_composed ["row", "shift", "factor", "other"]
  d_NumberMap___init__ : MakAt K mg "NumberMap" (He.ga K "NumberMap") "NumberMap.__init__" s_NumberMap___init__ ["self", "period", "rows"]
  d_NumberMap_image : MetAt K (He.ga K "NumberMap") "image" "NumberMap.image" s_NumberMap_image ["self", "x"]
  d_NumberMap_then : MetAt K (He.ga K "NumberMap") "then" "NumberMap.then" s_NumberMap_then ["self", "other"]
  d__law_deck : DefAt K mg "_law_deck" s__law_deck ["script", "cells", "each"]
  d__law_take : DefAt K mg "_law_take" s__law_take ["deck", "many"]
  d__law_whole : DefAt K mg "_law_whole" s__law_whole ["deck"]
  d__law_parts : DefAt K mg "_law_parts" s__law_parts ["deck", "most"]
  d__law_number_image : DefAt K mg "_law_number_image" s__law_number_image ["parts", "x"]
  d__law_same : DefAt K mg "_law_same" s__law_same ["actual", "expected"]
  d__law_then : DefAt K mg "_law_then" s__law_then ["first", "second", "x"]
  d__law_preimages : DefAt K mg "_law_preimages" s__law_preimages ["row", "period", "at", "goal"]
  d__law_points : DefAt K mg "_law_points" s__law_points ["first", "second"]
  d__law_aimed : DefAt K mg "_law_aimed" s__law_aimed ["deck", "first", "second"]
  cl_NumberMap : Cls K (He.ga K "NumberMap")
  g_NumberMap : mg "NumberMap" = some (.ref (He.ga K "NumberMap"))
  n_NumberMap_period : NoAttr K (He.ga K "NumberMap") "period"
  n_NumberMap_rows : NoAttr K (He.ga K "NumberMap") "rows"
  is_NumberMap : C8.InsC K (He.ga K "NumberMap")
  b_min : mg "min" = none
  b_max : mg "max" = none
  b_list : mg "list" = none
  b_len : mg "len" = none
  b_range : mg "range" = none
  i_lcm : mg "lcm" = some (.builtin "math.lcm")
  i_gcd : mg "gcd" = some (.builtin "math.gcd")
  b_int : mg "int" = none
  b_abs : mg "abs" = none
  b_isinstance : mg "isinstance" = none
  b_bool : mg "bool" = none
section
variable {P : Program} {w : World} {K : PySem.W.Frag} {mg : Str → Option Value} {base : Heap}
/-! ### the deck -/
def Dk (H : Hp) (d : Addr) : Prop := ∃ ds : List Int, H d = some (.lst (ds.map V.int))
def sp__law_take (K : PySem.W.Frag) : Sp := fun vs H Q _ => ∃ (d : Addr) (ds : List Int) (m : Int), vs = [.ref d, .int m] ∧ H d = some (.lst (ds.map V.int)) ∧ 0 < m ∧
  ∀ (r : Int) (ds' : List Int), 0 ≤ r → r < m → Q (.int r) (upd H d (.lst (ds'.map V.int)))
theorem c__law_take (T : Tx K mg) : C8.Cal P w K mg base 1 "_law_take" (sp__law_take K) [] := by
  refine c_mk T.d__law_take sc__law_take (fun vs H Q E h => ?_) (fun f cdv A outer s H vs Q E hr h => ?_)
  · first | (obtain ⟨rfl, _⟩ := h; rfl) | (obtain ⟨_, rfl, _⟩ := h; rfl) | (obtain ⟨_, _, rfl, _⟩ := h; rfl) | (obtain ⟨_, _, _, rfl, _⟩ := h; rfl) | (obtain ⟨_, _, _, _, rfl, _⟩ := h; rfl) | (obtain ⟨_, _, _, _, _, rfl, _⟩ := h; rfl) | (obtain ⟨_, _, _, _, _, _, rfl, _⟩ := h; rfl) | (obtain ⟨_, _, _, _, _, _, _, rfl, _⟩ := h; rfl) | (obtain ⟨_, _, _, _, _, _, _, _, rfl, _⟩ := h; rfl) | (obtain ⟨_, _, _, _, _, _, _, _, _, rfl, _⟩ := h; rfl) | (obtain ⟨_, _, _, _, _, _, _, _, _, _, rfl, _⟩ := h; rfl) | (obtain ⟨_, _, _, _, _, _, _, _, _, _, _, rfl, _⟩ := h; rfl) | (obtain ⟨_, _, _, _, _, _, _, _, _, _, _, _, rfl, _⟩ := h; rfl) | (obtain ⟨_, _, _, _, _, _, _, _, _, _, _, _, _, rfl, _⟩ := h; rfl)
  have hu := hu_of hr
  refine ⟨_, (pss_cons (ps_if (pt_cmpR op_eq (pe_callB call_len_seq rfl T.b_len (by decide +kernel) (pa_cons (pv 0) pa_nil)) pe_int (nomark _)) (pss_one (ps_ret pe_int)) pss_nil)
    (pss_one (ps_ret (pe_op op_mod (pe_callTy call_int1 rfl T.b_int (by decide +kernel) (pa_cons (pe_bm0 PySem.F.plainAttrs_list PySem.F.slot_list_pop PySem.F.type_list_pop mt_pop (pv 0)) pa_nil)) (pv 1))))), ?_⟩
  obtain ⟨d, ds, m, rfl, hd, hm, k⟩ := h
  refine ⟨_, rfl, d, _, rfl, .inl (SqL.of hd), rfl, _, rfl, ?_⟩
  refine ite2 (fun e => ?_) (fun e => ?_)
  · have z := k 0 ds (Int.le_refl 0) hm
    rw [upd_id hd] at z
    exact z
  · have hne : ds ≠ [] := by rintro rfl; exact e rfl
    obtain ⟨ini, z, rfl⟩ : ∃ (ini : List Int) (z : Int), ds = ini ++ [z] := ⟨ds.dropLast, ds.getLast hne, (List.dropLast_concat_getLast hne).symm⟩
    refine ⟨_, rfl, .inl ⟨rfl, _, .inl (.inl hd)⟩, d, _, .int z, rfl, rfl, hd, by simp, .inl ⟨_, rfl, _, rfl, _, _, rfl, rfl, hm, ?_⟩⟩
    have y := k (z % m) ini (Int.emod_nonneg _ (by omega)) (Int.emod_lt_of_pos _ hm)
    have e2 : (List.map V.int (ini ++ [z])).dropLast = ini.map V.int := by simp
    rw [← e2] at y
    exact y
def sp__law_deck (K : PySem.W.Frag) : Sp := fun vs H Q _ => ∃ (a : Addr) (ns : List Int) (c e : Int), vs = [.ref a, .int c, .int e] ∧ SqL K H a (ns.map V.int) ∧ ns.length ≤ 63 ∧ 0 ≤ c ∧ c ≤ 100 ∧ 0 ≤ e ∧ e ≤ 100 ∧
  ∀ (p : Addr) (H' : Hp) (ds : List Int), H p = none → Same H H' → H' p = some (.lst (ds.map V.int)) → Q (.ref p) H'
theorem c__law_deck (T : Tx K mg) : C8.Cal P w K mg base 1 "_law_deck" (sp__law_deck K) [] := by
  refine c_mk T.d__law_deck sc__law_deck (fun vs H Q E h => ?_) (fun f cdv A outer s H vs Q E hr h => ?_)
  · first | (obtain ⟨rfl, _⟩ := h; rfl) | (obtain ⟨_, rfl, _⟩ := h; rfl) | (obtain ⟨_, _, rfl, _⟩ := h; rfl) | (obtain ⟨_, _, _, rfl, _⟩ := h; rfl) | (obtain ⟨_, _, _, _, rfl, _⟩ := h; rfl) | (obtain ⟨_, _, _, _, _, rfl, _⟩ := h; rfl) | (obtain ⟨_, _, _, _, _, _, rfl, _⟩ := h; rfl) | (obtain ⟨_, _, _, _, _, _, _, rfl, _⟩ := h; rfl) | (obtain ⟨_, _, _, _, _, _, _, _, rfl, _⟩ := h; rfl) | (obtain ⟨_, _, _, _, _, _, _, _, _, rfl, _⟩ := h; rfl) | (obtain ⟨_, _, _, _, _, _, _, _, _, _, rfl, _⟩ := h; rfl) | (obtain ⟨_, _, _, _, _, _, _, _, _, _, _, rfl, _⟩ := h; rfl) | (obtain ⟨_, _, _, _, _, _, _, _, _, _, _, _, rfl, _⟩ := h; rfl) | (obtain ⟨_, _, _, _, _, _, _, _, _, _, _, _, _, rfl, _⟩ := h; rfl)
  have hu := hu_of hr
  refine ⟨_, (pss_cons (ps_set (i := 3) sc__law_deck.nd rfl (by first | exact Or.inl rfl | exact Or.inr rfl) (pe_lst pa_nil))
    (pss_cons (ps_set (i := 4) sc__law_deck.nd rfl (by first | exact Or.inl rfl | exact Or.inr rfl) (pe_op op_add pe_int (pe_callB call_len_seq rfl T.b_len (by decide +kernel) (pa_cons (pv 0) pa_nil))))
    (pss_cons (ps_for PassesOwn.never rfl (pi_range1 rfl T.b_range (pa_cons (pv 1) pa_nil)) (pg_name (i := 5) sc__law_deck.nd rfl (by first | exact Or.inl rfl | exact Or.inr rfl)) (pss_cons (ps_set (i := 6) sc__law_deck.nd rfl (by first | exact Or.inl rfl | exact Or.inr rfl) pe_int)
    (C8.pss_cut (ps_if (pt_cmpR op_lt (pv 5) (pe_callB call_len_seq rfl T.b_len (by decide +kernel) (pa_cons (pv 0) pa_nil)) (nomark _)) (pss_one (ps_set (i := 6) sc__law_deck.nd rfl (by first | exact Or.inl rfl | exact Or.inr rfl) (pe_ix ix_list (pv 0) (pv 5) (fun _ _ => rfl)))) pss_nil)
    (pss_cons (ps_set (i := 7) sc__law_deck.nd rfl (by first | exact Or.inl rfl | exact Or.inr rfl) (pe_callB call_abs rfl T.b_abs (by decide +kernel) (pa_cons (pv 6) pa_nil)))
    (pss_one (ps_if (pt_cmpR op_ge (pv 7) (pe_op op_pow pe_int pe_int) (nomark _)) (pss_one (ps_for PassesOwn.never rfl (pi_range1 rfl T.b_range (pa_cons (pv 2) pa_nil)) (pg_name (i := 8) sc__law_deck.nd rfl (by first | exact Or.inl rfl | exact Or.inr rfl)) (pss_cons (ps_expr (pe_bm PySem.F.plainAttrs_list PySem.F.slot_list_append PySem.F.type_list_append mt_append (pv 3) (pa_cons (pe_op op_mod (pe_callTy call_int1 rfl T.b_int (by decide +kernel) (pa_cons (pv 7) pa_nil)) pe_int) pa_nil)))
    (pss_one (ps_set (i := 7) sc__law_deck.nd rfl (by first | exact Or.inl rfl | exact Or.inr rfl) (pe_op op_fdiv (pv 7) pe_int)))))) (pss_cons (ps_set (i := 4) sc__law_deck.nd rfl (by first | exact Or.inl rfl | exact Or.inr rfl) (pe_op op_mod (pe_callTy call_int1 rfl T.b_int (by decide +kernel) (pa_cons (pe_op op_add (pe_op op_add (pe_op op_add (pe_op op_mul (pv 4) pe_int) (pe_op op_mul pe_int (pv 7))) (pe_callTy call_int1 rfl T.b_int (by decide +kernel) (pa_cons (pe_cmpR op_lt (pv 6) pe_int (nomark _)) pa_nil))) (pv 5)) pa_nil)) pe_int))
    (pss_one (ps_for PassesOwn.never rfl (pi_range1 rfl T.b_range (pa_cons (pv 2) pa_nil)) (pg_name (i := 8) sc__law_deck.nd rfl (by first | exact Or.inl rfl | exact Or.inr rfl)) (pss_cons (ps_set (i := 4) sc__law_deck.nd rfl (by first | exact Or.inl rfl | exact Or.inr rfl) (pe_op op_mod (pe_callTy call_int1 rfl T.b_int (by decide +kernel) (pa_cons (pe_op op_add (pe_op op_add (pe_op op_mul (pv 4) pe_int) (pv 8)) pe_int) pa_nil)) pe_int))
    (pss_one (ps_expr (pe_bm PySem.F.plainAttrs_list PySem.F.slot_list_append PySem.F.type_list_append mt_append (pv 3) (pa_cons (pe_op op_mod (pe_callTy call_int1 rfl T.b_int (by decide +kernel) (pa_cons (pe_op op_fdiv (pv 4) pe_int) pa_nil)) pe_int) pa_nil))))))))))))))
    (pss_cons (ps_expr (pe_bm0 PySem.F.plainAttrs_list PySem.F.slot_list_reverse PySem.F.type_list_reverse mt_reverse (pv 3)))
    (pss_one (ps_ret (pv 3))))))), ?_⟩
  obtain ⟨a, ns, c, e, rfl, hS, hl, hc0, hc1, he0, he1, k⟩ := h
  refine ⟨by decide, fun p hp => ?_⟩
  have s0 : Same H (upd H p (.lst [])) := same_new hp
  refine ⟨_, rfl, _, _, rfl, .inl (s0.seq hS), _, _, rfl, rfl, ?_⟩
  refine ⟨_, rfl, c, rfl, by omega, by omega, for_range (lo := 0) (n := c.toNat) (fun i σ H2 => ∃ (ds : List Int) (seed : Int) (v5 v6 v7 v8 : Option V),
    σ = [some (.ref a), some (.int c), some (.int e), some (.ref p), some (.int seed), v5, v6, v7, v8] ∧ Same H H2 ∧ H2 p = some (.lst (ds.map V.int)) ∧ ds.length ≤ i * e.toNat ∧ 0 ≤ seed ∧ seed < 2147483647) ?_ ?_ ?_⟩
  · exact ⟨[], _, none, none, none, none, rfl, s0, upd_same, by simp, by omega, by rw [List.length_map]; omega⟩
  · rintro i σ H2 hi ⟨ds, seed, v5, v6, v7, v8, rfl, s2, h2, hz, hs0, hs1⟩
    refine ⟨fun σ' H' => ∃ cell : Int, σ' = [some (.ref a), some (.int c), some (.int e), some (.ref p), some (.int seed), some (.int (0 + i)), some (.int cell), v7, v8] ∧ H' = H2, ?_, ?_⟩
    · refine ⟨_, rfl, _, rfl, _, _, rfl, .inl (s2.seq hS), _, _, rfl, rfl, _, rfl, ?_⟩
      refine ite2 (fun q => ?_) (fun q => ?_)
      · have q1 := of_decide_eq_true q
        rw [List.length_map] at q1
        have q2 : i < ns.length := by omega
        refine ⟨_, rfl, _, rfl, a, ns.map V.int, _, .int (ns[i]'q2), rfl, rfl, s2.seq hS, ?_, _, rfl, rfl⟩
        rw [show (0 : Int) + (i : Int) = ((i : Nat) : Int) by omega]
        exact atI_nat (by simp [q2])
      · exact ⟨0, rfl, rfl⟩
    · rintro σ' H' ⟨cell, rfl, rfl⟩
      refine ⟨_, rfl, _, rfl, ?_⟩
      have hr0 : 0 ≤ (if cell < 0 then -cell else cell) := by split <;> omega
      generalize (if cell < 0 then -cell else cell) = rest at hr0
      refine ⟨_, rfl, _, _, rfl, rfl, ⟨by decide, by decide, by decide⟩, _, _, rfl, rfl, _, rfl, ?_⟩
      have em : ∀ (j : Nat), i * e.toNat + j ≤ 10000 + j := fun j => by
        have : i ≤ 100 := by omega
        have h1 : e.toNat ≤ 100 := by omega
        have := Nat.mul_le_mul this h1
        omega
      have ei : ∀ (l : Nat), l ≤ i * e.toNat + e.toNat → l ≤ (i + 1) * e.toNat := fun l hl => by rw [Nat.succ_mul]; exact hl
      refine ite2 (fun q => ?_) (fun q => ?_)
      · refine ⟨_, rfl, e, rfl, by omega, by omega, for_range (lo := 0) (n := e.toNat) (fun j σ H3 => ∃ (ds : List Int) (rest : Int) (v8 : Option V),
          σ = [some (.ref a), some (.int c), some (.int e), some (.ref p), some (.int seed), some (.int (0 + i)), some (.int cell), some (.int rest), v8] ∧ Same H H3 ∧ H3 p = some (.lst (ds.map V.int)) ∧ ds.length ≤ i * e.toNat + j ∧ 0 ≤ rest) ?_ ?_ ?_⟩
        · exact ⟨ds, rest, v8, rfl, s2, h2, hz, hr0⟩
        · rintro j σ H3 hj ⟨ds, rest, v8, rfl, s3, h3, hz3, hr⟩
          have := em j
          refine ⟨_, rfl, .inl ⟨rfl, _, .inl (.inl h3)⟩, _, rfl, .inl ⟨_, rfl, _, _, rfl, rfl, (by dsimp only; decide), p, _, _, rfl, rfl, h3, by rw [List.length_map]; exact Nat.lt_of_le_of_lt (show ds.length ≤ 10100 by omega) (by decide), ?_⟩⟩
          refine ⟨_, rfl, _, _, rfl, rfl, ⟨by decide, by decide⟩, ⟨ds ++ [rest % 1000003], _, _, rfl, fun b o z => by rw [upd_ne (ne_of_none z hp)]; exact s3 b o z, by rw [upd_same, List.map_append]; rfl, by rw [List.length_append]; show ds.length + 1 ≤ _; omega, by omega⟩⟩
        · rintro σ H3 ⟨ds, rest, v8, rfl, s3, h3, hz3, hr⟩
          exact ⟨ds, seed, _, _, _, _, rfl, s3, h3, ei _ hz3, hs0, hs1⟩
      · have q1 : ¬ (10 ^ (30 : Int).toNat ≤ rest) := fun z => q (decide_eq_true z)
        refine ⟨_, rfl, _, _, rfl, rfl, .inr ⟨by decide, by decide⟩, _, rfl, _, _, rfl, rfl, .inl ⟨by decide, by decide⟩, _, _, rfl, rfl, _, rfl, _, _, rfl, rfl, .inr ⟨_, rfl, _, _, rfl, rfl, _, rfl, _, _, rfl, rfl, .inl ⟨_, rfl, _, _, rfl, rfl, (by dsimp only; decide), ?_⟩⟩⟩
        refine ⟨_, rfl, e, rfl, by omega, by omega, for_range (lo := 0) (n := e.toNat) (fun j σ H3 => ∃ (ds : List Int) (seed : Int) (v8 : Option V),
          σ = [some (.ref a), some (.int c), some (.int e), some (.ref p), some (.int seed), some (.int (0 + i)), some (.int cell), some (.int rest), v8] ∧ Same H H3 ∧ H3 p = some (.lst (ds.map V.int)) ∧ ds.length ≤ i * e.toNat + j ∧ 0 ≤ seed ∧ seed < 2147483647) ?_ ?_ ?_⟩
        · exact ⟨ds, _, v8, rfl, s2, h2, hz, Int.emod_nonneg _ (by decide), Int.emod_lt_of_pos _ (by decide)⟩
        · rintro j σ H3 hj ⟨ds, seed, v8, rfl, s3, h3, hz3, hs2, hs3⟩
          have := em j
          refine ⟨_, rfl, _, _, rfl, rfl, .inr ⟨by decide, by decide⟩, _, rfl, _, _, rfl, rfl, _, _, rfl, rfl, .inl ⟨_, rfl, _, _, rfl, rfl, (by dsimp only; decide), ?_⟩⟩
          refine ⟨_, rfl, .inl ⟨rfl, _, .inl (.inl h3)⟩, _, rfl, _, _, rfl, rfl, ⟨by decide, by decide⟩, .inl ⟨_, rfl, _, _, rfl, rfl, (by dsimp only; decide), p, _, _, rfl, rfl, h3, by rw [List.length_map]; exact Nat.lt_of_le_of_lt (show ds.length ≤ 10100 by omega) (by decide), ?_⟩⟩
          exact ⟨ds ++ [(seed * 69621 + (0 + (j : Int)) + 1) % 2147483629 / 5 % 1000003], _, _, rfl, fun b o z => by rw [upd_ne (ne_of_none z hp)]; exact s3 b o z, by rw [upd_same, List.map_append]; rfl, by rw [List.length_append]; show ds.length + 1 ≤ _; omega, Int.emod_nonneg _ (by decide), Int.lt_trans (Int.emod_lt_of_pos _ (by decide)) (by decide)⟩
        · rintro σ H3 ⟨ds, seed, v8, rfl, s3, h3, hz3, hs2, hs3⟩
          exact ⟨ds, seed, _, _, _, _, rfl, s3, h3, ei _ hz3, hs2, hs3⟩
  · rintro σ H2 ⟨ds, seed, v5, v6, v7, v8, rfl, s2, h2, hz, hs0, hs1⟩
    refine ⟨_, rfl, .inl ⟨rfl, _, .inl (.inl h2)⟩, p, _, rfl, rfl, h2, _, rfl, ?_⟩
    exact k p _ ds.reverse hp (fun b o z => by rw [upd_ne (ne_of_none z hp)]; exact s2 b o z) (by rw [upd_same, List.map_reverse])

/-! ### what stands in the heap -/
theorem iteD {c A B : Prop} [Decidable c] (h1 : c → A) (h2 : ¬ c → B) : if decide c = true then A else B := ite2 (fun e => h1 (of_decide_eq_true e)) (fun e => h2 fun z => e (decide_eq_true z))
theorem iteN {c A B : Prop} [Decidable c] (h1 : ¬ c → A) (h2 : c → B) : if (!decide c) = true then A else B := by
  by_cases h : c
  · rw [decide_eq_true h]; exact iteF (h2 h)
  · rw [decide_eq_false h]; exact iteT (h1 h)
def Tups (H H' : Hp) : Prop := ∀ a xs, H a = some (.tup xs) → H' a = some (.tup xs)
theorem Tups.of {H H' : Hp} (s : Same H H') : Tups H H' := fun _ _ h => s _ _ h
theorem Tups.but {d : Addr} {H H' : Hp} {xs : List V} (s : But d H H') (hd : H d = some (.lst xs)) : Tups H H' := fun a ys h => s _ _ h fun e => by
  rw [e, hd] at h
  cases h
def RowV (H : Hp) (v : V) : Row → Prop
  | none => v = .non
  | some (s, t, lo, hi) => ∃ a, v = .ref a ∧ H a = some (.tup [.int s, .int t, .int lo, .int hi])
theorem RowV.mono {H H' : Hp} (t : Tups H H') : ∀ {v : V} {r : Row}, RowV H v r → RowV H' v r
  | _, none, h => h
  | _, some (_, _, _, _), ⟨a, e, h⟩ => ⟨a, e, t _ _ h⟩
abbrev RowsV (H : Hp) : List V → List Row → Prop := Paired (RowV H)
theorem RowsV.mono {H H' : Hp} (t : Tups H H') {vs : List V} {rs : List Row} (h : RowsV H vs rs) : RowsV H' vs rs := Paired.mapP h fun _ _ z => z.mono t
theorem pr_get {α β : Type} {F : α → β → Prop} : ∀ {l₁ : List α} {l₂ : List β}, Paired F l₁ l₂ → ∀ (i : Nat), i < l₂.length → ∃ x y, l₁[i]? = some x ∧ l₂[i]? = some y ∧ F x y
  | _, _, .nil, i, h => by cases h
  | _, _, .cons r t, 0, _ => ⟨_, _, rfl, rfl, r⟩
  | _, _, .cons r t, i + 1, h => by
    obtain ⟨x, y, h1, h2, h3⟩ := pr_get t i (Nat.lt_of_succ_lt_succ h)
    exact ⟨x, y, by simpa using h1, by simpa using h2, h3⟩
theorem pr_len {α β : Type} {F : α → β → Prop} : ∀ {l₁ : List α} {l₂ : List β}, Paired F l₁ l₂ → l₁.length = l₂.length
  | _, _, .nil => rfl
  | _, _, .cons _ t => congrArg Nat.succ (pr_len t)
theorem pr_app {α β : Type} {F : α → β → Prop} : ∀ {l₁ m₁ : List α} {l₂ m₂ : List β}, Paired F l₁ l₂ → Paired F m₁ m₂ → Paired F (l₁ ++ m₁) (l₂ ++ m₂)
  | _, _, _, _, .nil, h => h
  | _, _, _, _, .cons r t, h => .cons r (pr_app t h)
theorem pr_set {α β : Type} {F : α → β → Prop} {x : α} {y : β} (r : F x y) : ∀ {l₁ : List α} {l₂ : List β} (i : Nat), Paired F l₁ l₂ → Paired F (l₁.set i x) (l₂.set i y)
  | _, _, _, .nil => .nil
  | _, _, 0, .cons _ t => .cons r t
  | _, _, i + 1, .cons q t => .cons q (pr_set r i t)
/-- the item of a row list at an int index -/
theorem rows_at {H : Hp} {vs : List V} {rs : List Row} (h : RowsV H vs rs) {i : Int} (h0 : 0 ≤ i) (h1 : i < (rs.length : Int)) : ∃ v, atI vs i = some v ∧ RowV H v (rowAt rs i) := by
  obtain ⟨x, y, e1, e2, r⟩ := pr_get h i.toNat (by omega)
  refine ⟨x, ?_, ?_⟩
  · have z := atI_nat e1
    rwa [Int.toNat_of_nonneg h0] at z
  · unfold rowAt
    rw [e2]
    exact r
def optV : Option Int → V
  | none => .non
  | some i => .int i
/-! ### a NumberMap -/
def nmF (p : Int) (l : Addr) : List (Str × V) := putF "rows" (.ref l) (putF "period" (.int p) [])
theorem nm_kc : ¬ (("period" : Str) = "rows") := by decide +kernel
theorem nmF_period (p : Int) (l : Addr) : (nmF p l).lookup ("period" : Str) = some (.int p) := by
  unfold nmF
  rw [lookup_putF, if_neg nm_kc, lookup_putF, if_pos rfl]
theorem nmF_rows (p : Int) (l : Addr) : (nmF p l).lookup ("rows" : Str) = some (.ref l) := by
  unfold nmF
  rw [lookup_putF, if_pos rfl]
theorem nmF_no (p : Int) (l : Addr) {m : Str} (h1 : ¬ m = "rows") (h2 : ¬ m = "period") : (nmF p l).lookup m = none := by
  unfold nmF
  rw [lookup_putF, if_neg h1, lookup_putF, if_neg h2]
  rfl
structure NM (K : PySem.W.Frag) (H : Hp) (a : Addr) (p : Int) (rs : List Row) : Prop where
  ex : ∃ dx l vs, H a = some (.ins (He.ga K "NumberMap") dx (nmF p l)) ∧ H l = some (.lst vs) ∧ RowsV H vs rs
  len : (rs.length : Int) = p
  pos : 0 < p
theorem NM.mono {K : PySem.W.Frag} {H H' : Hp} (s : Same H H') {a : Addr} {p : Int} {rs : List Row} (h : NM K H a p rs) : NM K H' a p rs := by
  obtain ⟨⟨dx, l, vs, h1, h2, h3⟩, h4, h5⟩ := h
  exact ⟨⟨dx, l, vs, s _ _ h1, s _ _ h2, h3.mono (Tups.of s)⟩, h4, h5⟩
/-! ### the program -/
def sp_stretched (K : PySem.W.Frag) : Sp := fun vs H Q _ => ∃ (v : V) (r : Row) (shift f : Int) (k : Nat), vs = [v, .int shift, .int f] ∧ RowV H v r ∧ RowOk k r ∧ (1 ≤ k ∧ k ≤ 5000) ∧ 0 < f ∧ Bz 16 f ∧ Bz 16 shift ∧
  ∀ (v' : V) (H' : Hp), Same H H' → RowV H' v' (stretchM r shift f) → Q v' H'
theorem bz_div {f : Int} (hf : 0 < f) (bf : Bz 16 f) {i : Int} : CDiv i f := by
  have : f.natAbs < 65536 := bf
  refine ⟨hf, by omega⟩
theorem c_stretched (T : Tx K mg) : C8.Cal P w K mg base 1 "stretched" (sp_stretched K) [] := by
  refine c_mk T.d_stretched sc_stretched (fun vs H Q E h => ?_) (fun f cdv A outer s H vs Q E hr h => ?_)
  · first | (obtain ⟨rfl, _⟩ := h; rfl) | (obtain ⟨_, rfl, _⟩ := h; rfl) | (obtain ⟨_, _, rfl, _⟩ := h; rfl) | (obtain ⟨_, _, _, rfl, _⟩ := h; rfl) | (obtain ⟨_, _, _, _, rfl, _⟩ := h; rfl) | (obtain ⟨_, _, _, _, _, rfl, _⟩ := h; rfl) | (obtain ⟨_, _, _, _, _, _, rfl, _⟩ := h; rfl) | (obtain ⟨_, _, _, _, _, _, _, rfl, _⟩ := h; rfl) | (obtain ⟨_, _, _, _, _, _, _, _, rfl, _⟩ := h; rfl) | (obtain ⟨_, _, _, _, _, _, _, _, _, rfl, _⟩ := h; rfl) | (obtain ⟨_, _, _, _, _, _, _, _, _, _, rfl, _⟩ := h; rfl) | (obtain ⟨_, _, _, _, _, _, _, _, _, _, _, rfl, _⟩ := h; rfl) | (obtain ⟨_, _, _, _, _, _, _, _, _, _, _, _, rfl, _⟩ := h; rfl) | (obtain ⟨_, _, _, _, _, _, _, _, _, _, _, _, _, rfl, _⟩ := h; rfl)
  have hu := hu_of hr
  refine ⟨_, (pss_cons (ps_if (pt_cmpR op_isN (pv 0) pe_non (nomark _)) (pss_one (ps_ret pe_non)) pss_nil)
    (pss_cons (ps_set (i := 3) sc_stretched.nd rfl (by first | exact Or.inl rfl | exact Or.inr rfl) (pe_un un_neg (pe_op op_fdiv (pe_op op_sub (pv 1) (pe_ix ix_tup (pv 0) pe_int (fun _ _ => rfl))) (pv 2))))
    (pss_cons (ps_set (i := 4) sc_stretched.nd rfl (by first | exact Or.inl rfl | exact Or.inr rfl) (pe_op op_fdiv (pe_op op_sub (pe_ix ix_tup (pv 0) pe_int (fun _ _ => rfl)) (pv 1)) (pv 2)))
    (pss_cons (ps_if (pt_cmpR op_gt (pv 3) (pv 4) (nomark _)) (pss_one (ps_ret pe_non)) pss_nil)
    (pss_one (ps_ret (pe_tup (pa_cons (pe_op op_mulW (pe_ix ix_tup (pv 0) pe_int (fun _ _ => rfl)) (pv 2)) (pa_cons (pe_op op_add (pe_op op_mulW (pe_ix ix_tup (pv 0) pe_int (fun _ _ => rfl)) (pv 1)) (pe_ix ix_tup (pv 0) pe_int (fun _ _ => rfl))) (pa_cons (pv 3) (pa_cons (pv 4) pa_nil))))))))))), ?_⟩
  obtain ⟨v, r, shift, f, kk, rfl, hv, hr0, hkk, hf, bf, bs, k⟩ := h
  refine ⟨_, rfl, rfl, _, rfl, ?_⟩
  cases r with
  | none =>
    cases (show v = .non from hv)
    exact iteD (fun _ => k _ H (Same.refl H) rfl) (fun e => absurd rfl e)
  | some q =>
    obtain ⟨s, t, lo, hi⟩ := q
    obtain ⟨a, rfl, ha⟩ := hv
    obtain ⟨h1, h2, h3, h4, h5⟩ := hr0
    refine iteD (fun e => by cases e) (fun _ => ?_)
    refine ⟨_, rfl, _, rfl, a, _, _, _, rfl, rfl, SqT.of ha, rfl, _, _, rfl, rfl, _, rfl, _, _, rfl, rfl, bz_div hf bf, _, rfl, ?_⟩
    refine ⟨_, rfl, a, _, _, _, rfl, rfl, SqT.of ha, rfl, _, rfl, _, _, rfl, rfl, _, rfl, _, _, rfl, rfl, bz_div hf bf, ?_⟩
    refine ⟨_, rfl, _, rfl, _, _, rfl, rfl, _, rfl, ?_⟩
    have e : stretchM (some (s, t, lo, hi)) shift f = if (hi - shift) / f < -((shift - lo) / f) then none else some (s * f, s * shift + t, -((shift - lo) / f), (hi - shift) / f) := rfl
    refine iteD (fun hc => ?_) (fun hc => ?_)
    · rw [if_pos hc] at e
      refine k .non H (Same.refl H) ?_
      rw [e]
      rfl
    · rw [if_neg hc] at e
      refine ⟨_, rfl, a, _, _, _, rfl, rfl, SqT.of ha, rfl, _, rfl, _, _, rfl, rfl, wide_mul h1 bf (by omega) (by decide) (by omega), _, rfl, a, _, _, _, rfl, rfl, SqT.of ha, rfl, _, rfl, _, _, rfl, rfl, wide_mul h1 bs (by omega) (by decide) (by omega),
        _, rfl, a, _, _, _, rfl, rfl, SqT.of ha, rfl, _, _, rfl, rfl, _, rfl, _, rfl, (by show 4 ≤ sizeLine; decide), fun p hp => ?_⟩
      refine k (.ref p) _ (same_new hp) ?_
      rw [e]
      exact ⟨p, rfl, upd_same⟩

def sp_quotients (K : PySem.W.Frag) : Sp := fun vs H Q _ => ∃ (slope start : Int) (a : Addr) (x y : V) (lo hi : Int) (k : Nat), vs = [.int slope, .int start, .ref a] ∧ H a = some (.tup [x, y, .int lo, .int hi]) ∧ slope ≠ 0 ∧ Bz k slope ∧ (1 ≤ k ∧ k ≤ 8000) ∧
  ∀ (p : Addr), H p = none → Q (.ref p) (upd H p (.tup [.int (quotM slope start lo hi).1, .int (quotM slope start lo hi).2]))
theorem c_quotients (T : Tx K mg) : C8.Cal P w K mg base 1 "quotients" (sp_quotients K) [] := by
  refine c_mk T.d_quotients sc_quotients (fun vs H Q E h => ?_) (fun f cdv A outer s H vs Q E hr h => ?_)
  · first | (obtain ⟨rfl, _⟩ := h; rfl) | (obtain ⟨_, rfl, _⟩ := h; rfl) | (obtain ⟨_, _, rfl, _⟩ := h; rfl) | (obtain ⟨_, _, _, rfl, _⟩ := h; rfl) | (obtain ⟨_, _, _, _, rfl, _⟩ := h; rfl) | (obtain ⟨_, _, _, _, _, rfl, _⟩ := h; rfl) | (obtain ⟨_, _, _, _, _, _, rfl, _⟩ := h; rfl) | (obtain ⟨_, _, _, _, _, _, _, rfl, _⟩ := h; rfl) | (obtain ⟨_, _, _, _, _, _, _, _, rfl, _⟩ := h; rfl) | (obtain ⟨_, _, _, _, _, _, _, _, _, rfl, _⟩ := h; rfl) | (obtain ⟨_, _, _, _, _, _, _, _, _, _, rfl, _⟩ := h; rfl) | (obtain ⟨_, _, _, _, _, _, _, _, _, _, _, rfl, _⟩ := h; rfl) | (obtain ⟨_, _, _, _, _, _, _, _, _, _, _, _, rfl, _⟩ := h; rfl) | (obtain ⟨_, _, _, _, _, _, _, _, _, _, _, _, _, rfl, _⟩ := h; rfl)
  have hu := hu_of hr
  refine ⟨_, (pss_cons (ps_set (i := 3) sc_quotients.nd rfl (by first | exact Or.inl rfl | exact Or.inr rfl) (pe_op op_sub (pe_ix ix_tup (pv 2) pe_int (fun _ _ => rfl)) (pv 1)))
    (pss_cons (ps_set (i := 4) sc_quotients.nd rfl (by first | exact Or.inl rfl | exact Or.inr rfl) (pe_op op_sub (pe_ix ix_tup (pv 2) pe_int (fun _ _ => rfl)) (pv 1)))
    (pss_cons (ps_if (pt_cmpR op_lt (pv 0) pe_int (nomark _)) (pss_one (ps_ret (pe_tup (pa_cons (pe_un un_neg (pe_op op_fdivW (pv 4) (pe_un un_neg (pv 0)))) (pa_cons (pe_op op_fdivW (pe_un un_neg (pv 3)) (pe_un un_neg (pv 0))) pa_nil))))) pss_nil)
    (pss_one (ps_ret (pe_tup (pa_cons (pe_un un_neg (pe_op op_fdivW (pe_un un_neg (pv 3)) (pv 0))) (pa_cons (pe_op op_fdivW (pv 4) (pv 0)) pa_nil)))))))), ?_⟩
  obtain ⟨slope, start, a, x, y, lo, hi, kk, rfl, ha, h0, hb, hkk, k⟩ := h
  refine ⟨_, rfl, a, _, _, _, rfl, rfl, SqT.of ha, rfl, _, rfl, _, _, rfl, rfl, ?_⟩
  refine ⟨_, rfl, a, _, _, _, rfl, rfl, SqT.of ha, rfl, _, rfl, _, _, rfl, rfl, ?_⟩
  refine ⟨_, rfl, _, _, rfl, rfl, _, rfl, ?_⟩
  refine iteD (fun hs => ?_) (fun hs => ?_)
  · have hp : 0 < -slope := by omega
    refine ⟨_, rfl, _, rfl, _, rfl, _, _, rfl, rfl, wide_div hp hb.neg (by omega) (by omega), _, rfl, _, rfl, _, rfl, _, rfl, _, rfl, _, _, rfl, rfl, wide_div hp hb.neg (by omega) (by omega), (by show 2 ≤ sizeLine; decide), fun p hp => ?_⟩
    have z := k p hp
    unfold quotM at z
    rw [if_pos hs] at z
    exact z
  · have hp : 0 < slope := by omega
    refine ⟨_, rfl, _, rfl, _, rfl, _, _, rfl, rfl, wide_div hp hb (by omega) (by omega), _, rfl, _, rfl, _, rfl, _, _, rfl, rfl, wide_div hp hb (by omega) (by omega), (by show 2 ≤ sizeLine; decide), fun p hp => ?_⟩
    have z := k p hp
    unfold quotM at z
    rw [if_neg hs] at z
    exact z
def sp_composed (K : PySem.W.Frag) : Sp := fun vs H Q _ => ∃ (v : V) (r : Row) (shift f : Int) (b : Addr) (p : Int) (rs : List Row) (k : Nat), vs = [v, .int shift, .int f, .ref b] ∧ RowV H v r ∧ RowOk k r ∧ (16 ≤ k ∧ k ≤ 4000) ∧ 0 < f ∧ Bz 16 f ∧ Bz 16 shift ∧
  NM K H b p rs ∧ (∀ r ∈ rs, RowOk k r) ∧ Bz 16 p ∧ ∀ (v' : V) (H' : Hp), Same H H' → RowV H' v' (compM r shift f p rs) → Q v' H'
theorem c_composed (T : Tx K mg) : C8.Cal P w K mg base 2 "composed" (sp_composed K) [] := by
  have C_quotients := c_quotients (P := P) (w := w) (base := base) T
  have C_stretched := c_stretched (P := P) (w := w) (base := base) T
  refine c_mk T.d_composed sc_composed (fun vs H Q E h => ?_) (fun f cdv A outer s H vs Q E hr h => ?_)
  · first | (obtain ⟨rfl, _⟩ := h; rfl) | (obtain ⟨_, rfl, _⟩ := h; rfl) | (obtain ⟨_, _, rfl, _⟩ := h; rfl) | (obtain ⟨_, _, _, rfl, _⟩ := h; rfl) | (obtain ⟨_, _, _, _, rfl, _⟩ := h; rfl) | (obtain ⟨_, _, _, _, _, rfl, _⟩ := h; rfl) | (obtain ⟨_, _, _, _, _, _, rfl, _⟩ := h; rfl) | (obtain ⟨_, _, _, _, _, _, _, rfl, _⟩ := h; rfl) | (obtain ⟨_, _, _, _, _, _, _, _, rfl, _⟩ := h; rfl) | (obtain ⟨_, _, _, _, _, _, _, _, _, rfl, _⟩ := h; rfl) | (obtain ⟨_, _, _, _, _, _, _, _, _, _, rfl, _⟩ := h; rfl) | (obtain ⟨_, _, _, _, _, _, _, _, _, _, _, rfl, _⟩ := h; rfl) | (obtain ⟨_, _, _, _, _, _, _, _, _, _, _, _, rfl, _⟩ := h; rfl) | (obtain ⟨_, _, _, _, _, _, _, _, _, _, _, _, _, rfl, _⟩ := h; rfl)
  have hu := hu_of hr
  refine ⟨_, (pss_cons (ps_set (i := 4) sc_composed.nd rfl (by first | exact Or.inl rfl | exact Or.inr rfl) (C8.pe_c (C_stretched) hr (by decide) rfl (pa_cons (pv 0) (pa_cons (pv 1) (pa_cons (pv 2) pa_nil)))))
    (pss_cons (ps_if (pt_cmpR op_isN (pv 4) pe_non (nomark _)) (pss_one (ps_ret pe_non)) pss_nil)
    (pss_cons (ps_set (i := 5) sc_composed.nd rfl (by first | exact Or.inl rfl | exact Or.inr rfl) (pe_ix ix_list (pe_fld (pv 3) rfl) (pe_op op_mod (pe_ix ix_tup (pv 4) pe_int (fun _ _ => rfl)) (pe_fld (pv 3) rfl)) (fun _ _ => rfl)))
    (pss_cons (ps_if (pt_cmpR op_isN (pv 5) pe_non (nomark _)) (pss_one (ps_ret pe_non)) pss_nil)
    (pss_cons (ps_set (i := 6) sc_composed.nd rfl (by first | exact Or.inl rfl | exact Or.inr rfl) (pe_op op_fdiv (pe_ix ix_tup (pv 4) pe_int (fun _ _ => rfl)) (pe_fld (pv 3) rfl)))
    (pss_cons (ps_set (i := 7) sc_composed.nd rfl (by first | exact Or.inl rfl | exact Or.inr rfl) (pe_op op_fdiv (pe_ix ix_tup (pv 4) pe_int (fun _ _ => rfl)) (pe_fld (pv 3) rfl)))
    (pss_cons (ps_set (i := 8) sc_composed.nd rfl (by first | exact Or.inl rfl | exact Or.inr rfl) (pe_ix ix_tup (pv 4) pe_int (fun _ _ => rfl)))
    (pss_cons (ps_set (i := 9) sc_composed.nd rfl (by first | exact Or.inl rfl | exact Or.inr rfl) (pe_ix ix_tup (pv 4) pe_int (fun _ _ => rfl)))
    (C8.pss_cut (ps_if (pt_cmpR op_ne (pv 6) pe_int (nomark _)) (pss_cons (ps_set (i := 10) sc_composed.nd rfl (by first | exact Or.inl rfl | exact Or.inr rfl) (C8.pe_c (C_quotients) hr (by decide) rfl (pa_cons (pv 6) (pa_cons (pv 7) (pa_cons (pv 5) pa_nil)))))
    (pss_cons (ps_set (i := 8) sc_composed.nd rfl (by first | exact Or.inl rfl | exact Or.inr rfl) (pe_callB (call_max2 rfl) rfl T.b_max (by decide +kernel) (pa_cons (pv 8) (pa_cons (pe_ix ix_tup (pv 10) pe_int (fun _ _ => rfl)) pa_nil))))
    (pss_one (ps_set (i := 9) sc_composed.nd rfl (by first | exact Or.inl rfl | exact Or.inr rfl) (pe_callB (call_min2 rfl) rfl T.b_min (by decide +kernel) (pa_cons (pv 9) (pa_cons (pe_ix ix_tup (pv 10) pe_int (fun _ _ => rfl)) pa_nil))))))) (pss_one (ps_if (pt_not (pt_chain op_le op_le (pe_ix ix_tup (pv 5) pe_int (fun _ _ => rfl)) (pv 7) (pe_ix ix_tup (pv 5) pe_int (fun _ _ => rfl)))) (pss_one (ps_ret pe_non)) pss_nil)))
    (pss_cons (ps_if (pt_cmpR op_gt (pv 8) (pv 9) (nomark _)) (pss_one (ps_ret pe_non)) pss_nil)
    (pss_one (ps_ret (pe_tup (pa_cons (pe_op op_mulW (pe_ix ix_tup (pv 5) pe_int (fun _ _ => rfl)) (pv 6)) (pa_cons (pe_op op_add (pe_op op_mulW (pe_ix ix_tup (pv 5) pe_int (fun _ _ => rfl)) (pv 7)) (pe_ix ix_tup (pv 5) pe_int (fun _ _ => rfl))) (pa_cons (pv 8) (pa_cons (pv 9) pa_nil))))))))))))))))), ?_⟩
  obtain ⟨v, r, shift, f, b, p, rs, kk, rfl, hv, hr0, hkk, hf, bf, bs, hN, hrs, bp, k⟩ := h
  have hp := hN.pos
  refine ⟨_, rfl, _, rfl, _, rfl, v, r, shift, f, kk, rfl, hv, hr0, by omega, hf, bf, bs, fun v1 H1 s1 hv1 => ?_⟩
  have st := stretch_ok hr0 hf bf bs hkk.1
  refine ⟨_, rfl, rfl, _, rfl, ?_⟩
  have ec : compM r shift f p rs = (match stretchM r shift f with
    | none => none
    | some (s, t, lo, hi) => match rowAt rs (t % p) with
      | none => none
      | some (s2, t2, lo2, hi2) =>
        if s / p = 0 then (if lo2 ≤ t / p ∧ t / p ≤ hi2 then cutM s2 t2 (s / p) (t / p) lo hi else none)
        else cutM s2 t2 (s / p) (t / p) (if (quotM (s / p) (t / p) lo2 hi2).1 > lo then (quotM (s / p) (t / p) lo2 hi2).1 else lo) (if (quotM (s / p) (t / p) lo2 hi2).2 < hi then (quotM (s / p) (t / p) lo2 hi2).2 else hi)) := rfl
  generalize stretchM r shift f = r1 at hv1 st ec
  cases r1 with
  | none =>
    cases (show v1 = .non from hv1)
    exact iteD (fun _ => k _ H1 s1 (by rw [ec]; rfl)) (fun e => absurd rfl e)
  | some q =>
    obtain ⟨s, t, lo, hi⟩ := q
    dsimp only at ec
    obtain ⟨a, rfl, ha⟩ := hv1
    obtain ⟨h1, h2, h3, h4, h5⟩ := st
    refine iteD (fun e => by cases e) (fun _ => ?_)
    have hN1 := hN.mono s1
    obtain ⟨⟨dx, l, vs, o1, o2, o3⟩, o4, o5⟩ := hN1
    obtain ⟨v2, at2, hv2⟩ := rows_at o3 (i := t % p) (Int.emod_nonneg _ (by omega)) (by rw [o4]; exact Int.emod_lt_of_pos _ hp)
    refine ⟨_, rfl, _, _, _, _, _, rfl, o1, T.cl_NumberMap, T.n_NumberMap_rows, nmF_rows _ _, _, rfl, a, _, _, _, rfl, rfl, SqT.of ha, rfl, _, rfl, _, _, _, _, _, rfl, o1, T.cl_NumberMap, T.n_NumberMap_period, nmF_period _ _, _, _, rfl, rfl, hp, _, _, _, _, rfl, rfl, SqL.of o2, at2, ?_⟩
    refine ⟨_, rfl, rfl, _, rfl, ?_⟩
    have ro := rowAt_ok hrs (t % p)
    generalize rowAt rs (t % p) = r2 at hv2 ro ec
    cases r2 with
    | none =>
      cases (show v2 = .non from hv2)
      exact iteD (fun _ => k _ H1 s1 (by rw [ec]; rfl)) (fun e => absurd rfl e)
    | some q2 =>
      obtain ⟨s2, t2, lo2, hi2⟩ := q2
      obtain ⟨a2, rfl, ha2⟩ := hv2
      obtain ⟨g1, g2, g3, g4, g5⟩ := ro
      refine iteD (fun e => by cases e) (fun _ => ?_)
      have d1 : Bz (kk + 17) (s / p) := h1.div hp
      have d2 : Bz (kk + 17) (t / p) := h2.div hp
      refine ⟨_, rfl, a, _, _, _, rfl, rfl, SqT.of ha, rfl, _, rfl, _, _, _, _, _, rfl, o1, T.cl_NumberMap, T.n_NumberMap_period, nmF_period _ _, _, _, rfl, rfl, bz_div hp bp, ?_⟩
      refine ⟨_, rfl, a, _, _, _, rfl, rfl, SqT.of ha, rfl, _, rfl, _, _, _, _, _, rfl, o1, T.cl_NumberMap, T.n_NumberMap_period, nmF_period _ _, _, _, rfl, rfl, bz_div hp bp, ?_⟩
      refine ⟨_, rfl, a, _, _, _, rfl, rfl, SqT.of ha, rfl, ?_⟩
      refine ⟨_, rfl, a, _, _, _, rfl, rfl, SqT.of ha, rfl, ?_⟩
      have ec' : compM r shift f p rs = if s / p = 0 then (if lo2 ≤ t / p ∧ t / p ≤ hi2 then cutM s2 t2 (s / p) (t / p) lo hi else none)
        else cutM s2 t2 (s / p) (t / p) (if (quotM (s / p) (t / p) lo2 hi2).1 > lo then (quotM (s / p) (t / p) lo2 hi2).1 else lo) (if (quotM (s / p) (t / p) lo2 hi2).2 < hi then (quotM (s / p) (t / p) lo2 hi2).2 else hi) := ec
      refine ⟨fun σ' H' => ∃ (L U : Int) (vb : Option V), σ' = [some v, some (.int shift), some (.int f), some (.ref b), some (.ref a), some (.ref a2), some (.int (s / p)), some (.int (t / p)), some (.int L), some (.int U), vb] ∧ Same H H' ∧ H' a2 = some (.tup [.int s2, .int t2, .int lo2, .int hi2]) ∧ compM r shift f p rs = cutM s2 t2 (s / p) (t / p) L U, ?_, ?_⟩
      · refine ⟨_, rfl, rfl, _, rfl, ?_⟩
        refine iteN (fun hc => ?_) (fun hc => ?_)
        · have h0 : s / p ≠ 0 := fun e => hc (congrArg V.int e)
          rw [if_neg h0] at ec'
          refine ⟨_, rfl, _, rfl, _, rfl, s / p, t / p, a2, _, _, lo2, hi2, kk + 17, rfl, ha2, h0, d1, by omega, fun pp hpp => ?_⟩
          have s2' : Same H1 (upd H1 pp (.tup [.int (quotM (s / p) (t / p) lo2 hi2).1, .int (quotM (s / p) (t / p) lo2 hi2).2])) := same_new hpp
          refine ⟨_, rfl, _, rfl, pp, _, _, _, rfl, rfl, SqT.of upd_same, rfl, _, _, rfl, ?_⟩
          refine ⟨_, rfl, _, rfl, pp, _, _, _, rfl, rfl, SqT.of upd_same, rfl, _, _, rfl, ?_⟩
          exact ⟨_, _, _, rfl, s1.trans s2', s2' _ _ ha2, ec'⟩
        · have h0 : s / p = 0 := by injection hc
          rw [if_pos h0] at ec'
          refine ⟨_, rfl, a2, _, _, _, rfl, rfl, SqT.of ha2, rfl, _, rfl, _, _, rfl, rfl, _, rfl, ?_⟩
          have fin : ∀ (hin : lo2 ≤ t / p ∧ t / p ≤ hi2), compM r shift f p rs = cutM s2 t2 (s / p) (t / p) lo hi := fun hin => by rw [ec', if_pos hin]
          have fin2 : ∀ (hin : ¬ (lo2 ≤ t / p ∧ t / p ≤ hi2)), compM r shift f p rs = none := fun hin => by rw [ec', if_neg hin]
          refine iteD (fun e1 => ?_) (fun e1 => ?_)
          · refine ⟨_, rfl, a2, _, _, _, rfl, rfl, SqT.of ha2, rfl, _, _, rfl, rfl, _, rfl, ?_⟩
            refine iteN (fun e2 => ?_) (fun e2 => ?_)
            · exact k .non H1 s1 (by rw [fin2 fun z => e2 z.2]; rfl)
            · exact ⟨_, _, _, rfl, s1, ha2, fin ⟨e1, e2⟩⟩
          · refine ⟨_, rfl, iteT ?_⟩
            exact k .non H1 s1 (by rw [fin2 fun z => e1 z.1]; rfl)
      · rintro σ' H' ⟨L, U, vb, rfl, s3, ha3, e3⟩
        refine ⟨_, rfl, _, rfl, _, _, rfl, rfl, _, rfl, ?_⟩
        unfold cutM at e3
        refine iteD (fun hc => ?_) (fun hc => ?_)
        · rw [if_pos hc] at e3
          exact k .non H' s3 (by rw [e3]; rfl)
        · rw [if_neg hc] at e3
          refine ⟨_, rfl, a2, _, _, _, rfl, rfl, SqT.of ha3, rfl, _, rfl, _, _, rfl, rfl, wide_mul g1 d1 (by omega) (by omega) (by omega), _, rfl, a2, _, _, _, rfl, rfl, SqT.of ha3, rfl, _, rfl, _, _, rfl, rfl, wide_mul g1 d2 (by omega) (by omega) (by omega),
            _, rfl, a2, _, _, _, rfl, rfl, SqT.of ha3, rfl, _, _, rfl, rfl, _, rfl, _, rfl, (by show 4 ≤ sizeLine; decide), fun p hp => ?_⟩
          refine k (.ref p) _ (s3.trans (same_new hp)) ?_
          rw [e3]
          exact ⟨p, rfl, upd_same⟩

/-! ### the class -/
def sp_NumberMap___init__ (K : PySem.W.Frag) : Sp := fun vs H Q _ => ∃ (x dx l : Addr) (p : Int) (vs' : List V) (rs : List Row) (k : Nat), vs = [.ref x, .int p, .ref l] ∧ H x = some (.ins (He.ga K "NumberMap") dx []) ∧ H l = some (.lst vs') ∧ RowsV H vs' rs ∧ (∀ r ∈ rs, RowOk k r) ∧ (rs.length : Int) = p ∧ 0 < p ∧ rs.length ≤ 10000 ∧
  ∀ H', (∀ b o, H b = some o → b ≠ x → H' b = some o) → NM K H' x p rs → Q .non H'
theorem c_NumberMap___init__ (T : Tx K mg) : C8.Mak P w K mg base 1 "NumberMap" (He.ga K "NumberMap") (sp_NumberMap___init__ K) [] := by
  refine c_mak T.d_NumberMap___init__ sc_NumberMap___init__ (fun vs H Q E h => ?_) (fun f cdv A outer s H vs Q E hr h => ?_)
  · first | (obtain ⟨rfl, _⟩ := h; rfl) | (obtain ⟨_, rfl, _⟩ := h; rfl) | (obtain ⟨_, _, rfl, _⟩ := h; rfl) | (obtain ⟨_, _, _, rfl, _⟩ := h; rfl) | (obtain ⟨_, _, _, _, rfl, _⟩ := h; rfl) | (obtain ⟨_, _, _, _, _, rfl, _⟩ := h; rfl) | (obtain ⟨_, _, _, _, _, _, rfl, _⟩ := h; rfl) | (obtain ⟨_, _, _, _, _, _, _, rfl, _⟩ := h; rfl) | (obtain ⟨_, _, _, _, _, _, _, _, rfl, _⟩ := h; rfl) | (obtain ⟨_, _, _, _, _, _, _, _, _, rfl, _⟩ := h; rfl) | (obtain ⟨_, _, _, _, _, _, _, _, _, _, rfl, _⟩ := h; rfl) | (obtain ⟨_, _, _, _, _, _, _, _, _, _, _, rfl, _⟩ := h; rfl) | (obtain ⟨_, _, _, _, _, _, _, _, _, _, _, _, rfl, _⟩ := h; rfl) | (obtain ⟨_, _, _, _, _, _, _, _, _, _, _, _, _, rfl, _⟩ := h; rfl)
  have hu := hu_of hr
  refine ⟨_, (pss_cons (ps_if (pt_cmpR op_lt (pv 1) pe_int (nomark _)) (pss_one ps_never) pss_nil)
    (pss_cons (ps_if (pt_cmpR op_ne (pe_callB call_len_seq rfl T.b_len (by decide +kernel) (pa_cons (pv 2) pa_nil)) (pv 1) (nomark _)) (pss_one ps_never) pss_nil)
    (pss_cons (ps_for PassesOwn.never rfl (pi_list (pv 2)) (pg_name (i := 3) sc_NumberMap___init__.nd rfl (by first | exact Or.inl rfl | exact Or.inr rfl)) (pss_one (ps_if (PW.pt (pw_and (pt_cmpR op_notN (pv 3) pe_non (nomark _)) (pw_and1 (pt_cmpR op_gt (pe_ix ix_tup (pv 3) pe_int (fun _ _ => rfl)) (pe_ix ix_tup (pv 3) pe_int (fun _ _ => rfl)) (nomark _))))) (pss_one ps_never) pss_nil)))
    (pss_cons (ps_fld (pv 0) (pv 1) rfl)
    (pss_one (ps_fld (pv 0) (pe_callTy call_list_of rfl T.b_list (by decide +kernel) (pa_cons (pv 2) pa_nil)) rfl)))))), ?_⟩
  obtain ⟨x, dx, l, p, vs', rs, kk, rfl, hx, hl, hv, hok, hlen, hp, hsz, k⟩ := h
  have el := pr_len hv
  have nxl : l ≠ x := ne_of hl hx (by intro z; cases z)
  refine ⟨_, rfl, _, _, rfl, rfl, _, rfl, iteD (fun e => by omega) (fun _ => ?_)⟩
  refine ⟨_, rfl, l, _, rfl, .inl (SqL.of hl), _, rfl, rfl, _, rfl, iteN (fun e => absurd (by rw [el]; exact congrArg V.int hlen) e) (fun _ => ?_)⟩
  refine ⟨_, rfl, l, rfl, ⟨_, SqL.of hl⟩, for_list (xs := vs') (fun i σ H2 => ∃ v : Option V, σ = [some (.ref x), some (.int p), some (.ref l), v] ∧ H2 = H) ⟨none, rfl, rfl⟩ (fun i σ H2 _ ⟨_, _, e⟩ => by rw [e]; exact SqL.of hl) ?_ ?_⟩
  · rintro i y σ H2 hi ⟨v, rfl, rfl⟩
    have hil : i < vs'.length := (List.getElem?_eq_some_iff.mp hi).1
    obtain ⟨y', r, e1, e2, hr⟩ := pr_get hv i (by omega)
    rw [hi] at e1
    cases e1
    have hro := hok r (List.mem_of_getElem? e2)
    refine ⟨_, rfl, rfl, _, rfl, ?_⟩
    cases r with
    | none =>
      cases (show y = .non from hr)
      exact iteN (fun e => absurd rfl e) (fun _ => iteF ⟨_, rfl, rfl⟩)
    | some q =>
      obtain ⟨s, t, lo, hi⟩ := q
      obtain ⟨a, rfl, ha⟩ := hr
      obtain ⟨_, _, _, _, h5⟩ := hro
      refine iteN (fun _ => ?_) (fun e => by cases e)
      refine ⟨_, rfl, a, _, _, _, rfl, rfl, SqT.of ha, rfl, _, rfl, a, _, _, _, rfl, rfl, SqT.of ha, rfl, _, _, rfl, rfl, _, rfl, iteD (fun e => by omega) (fun _ => ⟨_, rfl, rfl⟩)⟩
  · rintro σ H2 ⟨v, rfl, rfl⟩
    refine ⟨_, rfl, _, rfl, _, _, _, _, rfl, hx, T.cl_NumberMap, T.n_NumberMap_period, (by show 0 < 1000; decide), ?_⟩
    refine ⟨_, rfl, l, _, rfl, .inl (SqL.of (by rw [upd_ne nxl]; exact hl)), fun q hq => ?_⟩
    have nqx : x ≠ q := ne_of_none (upd_same (H := H2) (a := x)) hq
    have nql : l ≠ q := ne_of_none (show upd H2 x _ l = some (.lst vs') by rw [upd_ne nxl]; exact hl) hq
    refine ⟨_, rfl, x, _, _, _, rfl, (by rw [upd_ne nqx]; exact upd_same), T.cl_NumberMap, T.n_NumberMap_rows, (by show 1 < 1000; decide), ?_⟩
    refine k _ (fun b o hb hn => ?_) ⟨⟨dx, q, vs', upd_same, ?_, ?_⟩, hlen, hp⟩
    · have hbq : b ≠ q := ne_of_none (show upd H2 x _ b = some o by rw [upd_ne hn]; exact hb) hq
      rw [upd_ne hn, upd_ne hbq, upd_ne hn]
      exact hb
    · rw [upd_ne nqx.symm]; exact upd_same
    · refine hv.mono fun b xs hb => ?_
      have hn : b ≠ x := ne_of hb hx (by intro z; cases z)
      have hbq : b ≠ q := ne_of_none (show upd H2 x _ b = some (.tup xs) by rw [upd_ne hn]; exact hb) hq
      rw [upd_ne hn, upd_ne hbq, upd_ne hn]
      exact hb
def sp_NumberMap_image (K : PySem.W.Frag) : Sp := fun vs H Q _ => ∃ (a : Addr) (p : Int) (rs : List Row) (x : Int) (k : Nat), vs = [.ref a, .int x] ∧ NM K H a p rs ∧ (∀ r ∈ rs, RowOk k r) ∧ Bz 16 p ∧ Bz k x ∧ (1 ≤ k ∧ k ≤ 100000) ∧ Q (optV (imM p rs x)) H
theorem c_NumberMap_image (T : Tx K mg) : C8.Met P w K mg base 1 (He.ga K "NumberMap") "image" (sp_NumberMap_image K) [] := by
  refine c_met T.d_NumberMap_image sc_NumberMap_image (fun vs H Q E h => ?_) (fun f cdv A outer s H vs Q E hr h => ?_)
  · first | (obtain ⟨rfl, _⟩ := h; rfl) | (obtain ⟨_, rfl, _⟩ := h; rfl) | (obtain ⟨_, _, rfl, _⟩ := h; rfl) | (obtain ⟨_, _, _, rfl, _⟩ := h; rfl) | (obtain ⟨_, _, _, _, rfl, _⟩ := h; rfl) | (obtain ⟨_, _, _, _, _, rfl, _⟩ := h; rfl) | (obtain ⟨_, _, _, _, _, _, rfl, _⟩ := h; rfl) | (obtain ⟨_, _, _, _, _, _, _, rfl, _⟩ := h; rfl) | (obtain ⟨_, _, _, _, _, _, _, _, rfl, _⟩ := h; rfl) | (obtain ⟨_, _, _, _, _, _, _, _, _, rfl, _⟩ := h; rfl) | (obtain ⟨_, _, _, _, _, _, _, _, _, _, rfl, _⟩ := h; rfl) | (obtain ⟨_, _, _, _, _, _, _, _, _, _, _, rfl, _⟩ := h; rfl) | (obtain ⟨_, _, _, _, _, _, _, _, _, _, _, _, rfl, _⟩ := h; rfl) | (obtain ⟨_, _, _, _, _, _, _, _, _, _, _, _, _, rfl, _⟩ := h; rfl)
  have hu := hu_of hr
  refine ⟨_, (pss_cons (ps_set (i := 2) sc_NumberMap_image.nd rfl (by first | exact Or.inl rfl | exact Or.inr rfl) (pe_ix ix_list (pe_fld (pv 0) rfl) (pe_op op_mod (pv 1) (pe_fld (pv 0) rfl)) (fun _ _ => rfl)))
    (pss_cons (ps_if (PW.pt (pw_or (pt_cmpR op_isN (pv 2) pe_non (nomark _)) (pw_or1 (pt_not (pt_chain op_le op_le (pe_ix ix_tup (pv 2) pe_int (fun _ _ => rfl)) (pe_op op_fdiv (pv 1) (pe_fld (pv 0) rfl)) (pe_ix ix_tup (pv 2) pe_int (fun _ _ => rfl))))))) (pss_one (ps_ret pe_non)) pss_nil)
    (pss_one (ps_ret (pe_op op_add (pe_op op_mulW (pe_ix ix_tup (pv 2) pe_int (fun _ _ => rfl)) (pe_op op_fdiv (pv 1) (pe_fld (pv 0) rfl))) (pe_ix ix_tup (pv 2) pe_int (fun _ _ => rfl))))))), ?_⟩
  obtain ⟨a, p, rs, x, kk, rfl, hN, hok, bp, bx, hkk, k⟩ := h
  have hp := hN.pos
  obtain ⟨⟨dx, l, vs, o1, o2, o3⟩, o4, o5⟩ := hN
  obtain ⟨v2, at2, hv2⟩ := rows_at o3 (i := x % p) (Int.emod_nonneg _ (by omega)) (by rw [o4]; exact Int.emod_lt_of_pos _ hp)
  have ro := rowAt_ok hok (x % p)
  refine ⟨_, rfl, _, _, _, _, _, rfl, o1, T.cl_NumberMap, T.n_NumberMap_rows, nmF_rows _ _, _, rfl, _, rfl, _, _, _, _, _, rfl, o1, T.cl_NumberMap, T.n_NumberMap_period, nmF_period _ _, _, _, rfl, rfl, hp, _, _, _, _, rfl, rfl, SqL.of o2, at2, ?_⟩
  refine ⟨_, rfl, rfl, _, rfl, ?_⟩
  unfold imM at k
  generalize rowAt rs (x % p) = r2 at hv2 ro k
  cases r2 with
  | none =>
    cases (show v2 = .non from hv2)
    exact iteD (fun _ => iteT k) (fun e => absurd rfl e)
  | some q2 =>
    obtain ⟨s, t, lo, hi⟩ := q2
    obtain ⟨b, rfl, hb⟩ := hv2
    dsimp only at k
    refine iteD (fun e => by cases e) (fun _ => ?_)
    refine ⟨_, rfl, b, _, _, _, rfl, rfl, SqT.of hb, rfl, _, rfl, _, rfl, _, _, _, _, _, rfl, o1, T.cl_NumberMap, T.n_NumberMap_period, nmF_period _ _, _, _, rfl, rfl, bz_div hp bp, _, _, rfl, rfl, _, rfl, ?_⟩
    refine iteD (fun e1 => ?_) (fun e1 => ?_)
    · refine ⟨_, rfl, b, _, _, _, rfl, rfl, SqT.of hb, rfl, _, _, rfl, rfl, _, rfl, ?_⟩
      refine iteN (fun e2 => ?_) (fun e2 => ?_)
      · rw [if_neg (fun z => e2 z.2)] at k
        exact k
      · rw [if_pos ⟨e1, e2⟩] at k
        refine ⟨_, rfl, b, _, _, _, rfl, rfl, SqT.of hb, rfl, _, rfl, _, rfl, _, _, _, _, _, rfl, o1, T.cl_NumberMap, T.n_NumberMap_period, nmF_period _ _, _, _, rfl, rfl, bz_div hp bp, _, _, rfl, rfl, wide_mul ro.1 (Bz.div bx hp) (by omega) (by omega) (by omega), _, rfl, b, _, _, _, rfl, rfl, SqT.of hb, rfl, _, _, rfl, rfl, ?_⟩
        exact k
    · refine ⟨_, rfl, iteT ?_⟩
      rw [if_neg (fun z => e1 z.1)] at k
      exact k
theorem facM_snoc {p2 : Int} : ∀ (rs : List Row) (r : Row) (f : Nat), facM p2 (rs ++ [r]) f = facM p2 [r] (facM p2 rs f)
  | [], r, f => rfl
  | none :: rs, r, f => facM_snoc rs r f
  | some (s, _, _, _) :: rs, r, f => facM_snoc rs r _
theorem take_snoc {α : Type} {l : List α} {i : Nat} {x : α} (h : l[i]? = some x) : l.take (i + 1) = l.take i ++ [x] := by
  rw [List.take_succ, h]
  rfl
def sp_NumberMap_then (K : PySem.W.Frag) : Sp := fun vs H Q _ => ∃ (a b : Addr) (p1 p2 : Int) (rs1 rs2 : List Row) (k : Nat), vs = [.ref a, .ref b] ∧ NM K H a p1 rs1 ∧ NM K H b p2 rs2 ∧ (∀ r ∈ rs1, RowOk k r) ∧ (∀ r ∈ rs2, RowOk k r) ∧ (16 ≤ k ∧ k ≤ 4000) ∧ p1 ≤ 100 ∧ p2 ≤ 100 ∧
  ∀ (c : Addr) (H' : Hp), Same H H' → NM K H' c (p1 * (facM p2 rs1 1 : Nat)) (thenM p1 rs1 p2 rs2 (facM p2 rs1 1 : Nat)) → Q (.ref c) H'
theorem bz16 {x : Int} (h0 : 0 ≤ x) (h1 : x < 65536) : Bz 16 x := by
  show x.natAbs < 2 ^ 16
  omega
theorem c_NumberMap_then (T : Tx K mg) : C8.Met P w K mg base 3 (He.ga K "NumberMap") "then" (sp_NumberMap_then K) [] := by
  have K_NumberMap := c_NumberMap___init__ (P := P) (w := w) (base := base) T
  have C_composed := c_composed (P := P) (w := w) (base := base) T
  refine c_met T.d_NumberMap_then sc_NumberMap_then (fun vs H Q E h => ?_) (fun f cdv A outer s H vs Q E hr h => ?_)
  · first | (obtain ⟨rfl, _⟩ := h; rfl) | (obtain ⟨_, rfl, _⟩ := h; rfl) | (obtain ⟨_, _, rfl, _⟩ := h; rfl) | (obtain ⟨_, _, _, rfl, _⟩ := h; rfl) | (obtain ⟨_, _, _, _, rfl, _⟩ := h; rfl) | (obtain ⟨_, _, _, _, _, rfl, _⟩ := h; rfl) | (obtain ⟨_, _, _, _, _, _, rfl, _⟩ := h; rfl) | (obtain ⟨_, _, _, _, _, _, _, rfl, _⟩ := h; rfl) | (obtain ⟨_, _, _, _, _, _, _, _, rfl, _⟩ := h; rfl) | (obtain ⟨_, _, _, _, _, _, _, _, _, rfl, _⟩ := h; rfl) | (obtain ⟨_, _, _, _, _, _, _, _, _, _, rfl, _⟩ := h; rfl) | (obtain ⟨_, _, _, _, _, _, _, _, _, _, _, rfl, _⟩ := h; rfl) | (obtain ⟨_, _, _, _, _, _, _, _, _, _, _, _, rfl, _⟩ := h; rfl) | (obtain ⟨_, _, _, _, _, _, _, _, _, _, _, _, _, rfl, _⟩ := h; rfl)
  have hu := hu_of hr
  refine ⟨_, (pss_cons (ps_set (i := 2) sc_NumberMap_then.nd rfl (by first | exact Or.inl rfl | exact Or.inr rfl) pe_int)
    (pss_cons (ps_for PassesOwn.never rfl (pi_list (pe_fld (pv 0) rfl)) (pg_name (i := 3) sc_NumberMap_then.nd rfl (by first | exact Or.inl rfl | exact Or.inr rfl)) (pss_one (ps_if (pt_cmpR op_notN (pv 3) pe_non (nomark _)) (pss_one (ps_set (i := 2) sc_NumberMap_then.nd rfl (by first | exact Or.inl rfl | exact Or.inr rfl) (pe_callBfun cr_lcm rfl T.i_lcm (pa_cons (pv 2) (pa_cons (pe_op op_fdiv (pe_fld (pv 1) rfl) (pe_callBfun cr_gcd rfl T.i_gcd (pa_cons (pe_ix ix_tup (pv 3) pe_int (fun _ _ => rfl)) (pa_cons (pe_fld (pv 1) rfl) pa_nil)))) pa_nil))))) pss_nil)))
    (pss_cons (ps_set (i := 4) sc_NumberMap_then.nd rfl (by first | exact Or.inl rfl | exact Or.inr rfl) (pe_lst pa_nil))
    (pss_cons (ps_for PassesOwn.never rfl (pi_range1 rfl T.b_range (pa_cons (pe_op op_mulW (pe_fld (pv 0) rfl) (pv 2)) pa_nil)) (pg_name (i := 5) sc_NumberMap_then.nd rfl (by first | exact Or.inl rfl | exact Or.inr rfl)) (pss_one (ps_expr (pe_bm PySem.F.plainAttrs_list PySem.F.slot_list_append PySem.F.type_list_append mt_append (pv 4) (pa_cons (C8.pe_c (C_composed) hr (by decide) rfl (pa_cons (pe_ix ix_list (pe_fld (pv 0) rfl) (pe_op op_mod (pv 5) (pe_fld (pv 0) rfl)) (fun _ _ => rfl)) (pa_cons (pe_op op_fdiv (pv 5) (pe_fld (pv 0) rfl)) (pa_cons (pv 2) (pa_cons (pv 1) pa_nil))))) pa_nil)))))
    (pss_one (ps_ret (C8.pe_mk (K_NumberMap) hr (by decide) rfl (pa_cons (pe_op op_mulW (pe_fld (pv 0) rfl) (pv 2)) (pa_cons (pv 4) pa_nil))))))))), ?_⟩
  obtain ⟨a, b, p1, p2, rs1, rs2, kk, rfl, hA, hB, ok1, ok2, hkk, hp1, hp2, k⟩ := h
  have hpA := hA.pos
  have hpB := hB.pos
  obtain ⟨⟨dx, l, vs, o1, o2, o3⟩, o4, o5⟩ := id hA
  obtain ⟨⟨dy, m, ws, u1, u2, u3⟩, u4, u5⟩ := id hB
  have el := pr_len o3
  refine ⟨_, rfl, _, _, _, _, _, rfl, o1, T.cl_NumberMap, T.n_NumberMap_rows, nmF_rows _ _, l, rfl, ⟨_, SqL.of o2⟩, for_list (xs := vs) (fun i σ H2 => ∃ v : Option V, σ = [some (.ref a), some (.ref b), some (.int (facM p2 (rs1.take i) 1 : Nat)), v, none, none] ∧ H2 = H) ⟨none, rfl, rfl⟩ (fun i σ H2 _ ⟨_, _, e⟩ => by rw [e]; exact SqL.of o2) ?_ ?_⟩
  · rintro i y σ H2 hi ⟨v, rfl, rfl⟩
    have hil : i < vs.length := (List.getElem?_eq_some_iff.mp hi).1
    obtain ⟨y', r, e1, e2, hr⟩ := pr_get o3 i (by omega)
    rw [hi] at e1
    cases e1
    have et : facM p2 (rs1.take (i + 1)) 1 = facM p2 [r] (facM p2 (rs1.take i) 1) := by rw [take_snoc e2, facM_snoc]
    refine ⟨_, rfl, rfl, _, rfl, ?_⟩
    cases r with
    | none =>
      cases (show y = .non from hr)
      exact iteN (fun e => absurd rfl e) (fun _ => ⟨_, by rw [et]; rfl, rfl⟩)
    | some q =>
      obtain ⟨s, t, lo, hi⟩ := q
      obtain ⟨c, rfl, hc⟩ := hr
      have hg0 : 0 < Nat.gcd s.natAbs p2.natAbs := Nat.gcd_pos_of_pos_right _ (by omega)
      have hg1 : Nat.gcd s.natAbs p2.natAbs ≤ p2.natAbs := Nat.le_of_dvd (by omega) (Nat.gcd_dvd_right _ _)
      have hfl := facM_le hpB (rs1.take i)
      have eq1 : p2 / ((Nat.gcd s.natAbs p2.natAbs : Nat) : Int) = ((p2.natAbs / Nat.gcd s.natAbs p2.natAbs : Nat) : Int) := by
        rw [Int.natCast_ediv, Int.natAbs_of_nonneg (by omega)]
      have hql : p2.natAbs / Nat.gcd s.natAbs p2.natAbs ≤ p2.natAbs := Nat.div_le_self _ _
      refine iteN (fun _ => ?_) (fun e => by cases e)
      refine ⟨_, rfl, _, rfl, _, _, _, _, _, rfl, u1, T.cl_NumberMap, T.n_NumberMap_period, nmF_period _ _, _, rfl, c, _, _, _, rfl, rfl, SqT.of hc, rfl, _, rfl, _, _, _, _, _, rfl, u1, T.cl_NumberMap, T.n_NumberMap_period, nmF_period _ _,
        _, _, rfl, _, _, rfl, rfl, bz_div (by omega) (bz16 (by omega) (by omega)), _, _, rfl, ?_, ?_, ?_⟩
      · show ((facM p2 (rs1.take i) 1 : Nat) : Int).natAbs < 2 ^ 64
        omega
      · show (p2 / ((Nat.gcd s.natAbs p2.natAbs : Nat) : Int)).natAbs < 2 ^ 64
        rw [eq1, Int.natAbs_natCast]
        omega
      · refine ⟨some (.ref c), ?_, rfl⟩
        rw [et, eq1]
        rfl
  · rintro σ H2 ⟨v, rfl, rfl⟩
    rw [List.take_of_length_le (by omega)]
    have hf0 := facM_pos hpB rs1
    have hf1 := facM_le hpB rs1
    have nk : NM K H2 a p1 rs1 := hA
    generalize hf : ((facM p2 rs1 1 : Nat) : Int) = f at *
    have hfp : 0 < f := by omega
    have hmul : p1 * f ≤ 100 * 100 := Int.mul_le_mul hp1 (by omega) (by omega) (by omega)
    have hmul0 : 0 < p1 * f := Int.mul_pos hpA hfp
    have mulW : CMulW p1 f := wide_mul (bz16 (by omega) (by omega)) (bz16 (by omega) (by omega)) (by decide) (by decide) (by decide)
    refine ⟨by decide, fun q hq => ?_⟩
    refine ⟨_, rfl, _, _, _, _, _, rfl, by rw [upd_ne (ne_of_none o1 hq)]; exact o1, T.cl_NumberMap, T.n_NumberMap_period, nmF_period _ _, _, rfl, _, _, rfl, rfl, mulW, _, rfl, by omega, by omega,
      for_range (lo := 0) (n := (p1 * f).toNat) (fun i σ H3 => ∃ (v vt : Option V) (us : List V), σ = [some (.ref a), some (.ref b), some (.int f), v, some (.ref q), vt] ∧ Same H2 H3 ∧ H3 q = some (.lst us) ∧ RowsV H3 us ((List.range i).map fun (i : Nat) => compM (rowAt rs1 ((i : Int) % p1)) ((i : Int) / p1) f p2 rs2)) ?_ ?_ ?_⟩
    · exact ⟨v, none, [], rfl, same_new hq, upd_same, .nil⟩
    · rintro i σ H3 hi ⟨v, vt, us, rfl, s3, h3, hu3⟩
      have hi0 : (0 : Int) + (i : Int) = (i : Int) := by omega
      have hm0 : 0 ≤ ((0 : Int) + (i : Int)) % p1 := Int.emod_nonneg _ (by omega)
      have hd0 : 0 ≤ ((0 : Int) + (i : Int)) / p1 := Int.ediv_nonneg (by omega) (by omega)
      have hd1 : ((0 : Int) + (i : Int)) / p1 ≤ 0 + (i : Int) := Int.ediv_le_self _ (by omega)
      obtain ⟨v2, at2, hv2⟩ := rows_at (o3.mono (Tups.of s3)) (i := ((0 : Int) + (i : Int)) % p1) hm0 (by rw [o4]; exact Int.emod_lt_of_pos _ hpA)
      refine ⟨_, rfl, .inl ⟨rfl, _, .inl (.inl h3)⟩, _, rfl, _, _, _, _, _, rfl, s3 _ _ o1, T.cl_NumberMap, T.n_NumberMap_rows, nmF_rows _ _, _, rfl, _, rfl, _, _, _, _, _, rfl, s3 _ _ o1, T.cl_NumberMap, T.n_NumberMap_period, nmF_period _ _, _, _, rfl, rfl, hpA, _, _, _, _, rfl, rfl, SqL.of (s3 _ _ o2), at2,
        _, rfl, _, rfl, _, _, _, _, _, rfl, s3 _ _ o1, T.cl_NumberMap, T.n_NumberMap_period, nmF_period _ _, _, _, rfl, rfl, bz_div hpA (bz16 (by omega) (by omega)), _, rfl, _, rfl,
        v2, _, _, f, b, p2, rs2, kk, rfl, hv2, rowAt_ok ok1 _, hkk, hfp, bz16 (by omega) (by omega), bz16 hd0 (by omega), hB.mono s3, ok2, bz16 (by omega) (by omega), fun v' H4 s4 hv4 => ?_⟩
      have el3 := pr_len hu3
      rw [List.length_map, List.length_range] at el3
      refine ⟨q, _, _, rfl, rfl, s4 _ _ h3, by rw [el3]; exact Nat.lt_of_le_of_lt (show i ≤ 10000 by omega) (by decide), ?_⟩
      have tp : Tups H4 (upd H4 q (.lst (us ++ [v']))) := fun b xs hb => by
        rw [upd_ne (ne_of hb (s4 _ _ h3) (by intro z; cases z))]
        exact hb
      refine ⟨_, _, us ++ [v'], rfl, fun b o hb => ?_, upd_same, ?_⟩
      · rw [upd_ne (ne_of_none hb hq)]
        exact s4 _ _ (s3 _ _ hb)
      · rw [List.range_succ, List.map_append]
        rw [hi0] at hv4
        exact pr_app ((hu3.mono (Tups.of s4)).mono tp) (.cons (hv4.mono tp) .nil)
    · rintro σ H3 ⟨v, vt, us, rfl, s3, h3, hu3⟩
      refine ⟨_, rfl, _, _, _, _, _, rfl, s3 _ _ o1, T.cl_NumberMap, T.n_NumberMap_period, nmF_period _ _, _, rfl, _, _, rfl, rfl, mulW, _, rfl, fun x dx hx hdx hne => ?_⟩
      have sm : Same H3 (upd (upd H3 dx (.own x)) x (.ins (He.ga K "NumberMap") dx [])) := fun b o e => by
        rw [upd_ne (ne_of_none e hx), upd_ne (ne_of_none e hdx)]
        exact e
      have hlen : (((List.range (p1 * f).toNat).map fun (i : Nat) => compM (rowAt rs1 ((i : Int) % p1)) ((i : Int) / p1) f p2 rs2).length : Int) = p1 * f := by
        rw [List.length_map, List.length_range]
        omega
      refine ⟨x, dx, q, _, us, _, kk + kk + 20, rfl, upd_same, sm _ _ h3, hu3.mono (Tups.of sm), fun r hr => ?_, hlen, hmul0, by omega, fun H4 kp hN4 => ⟨rfl, ?_⟩⟩
      · obtain ⟨i, hi, rfl⟩ := List.mem_map.mp hr
        have hi2 := List.mem_range.mp hi
        have hd0 : 0 ≤ (i : Int) / p1 := Int.ediv_nonneg (by omega) (by omega)
        have hd1 : (i : Int) / p1 ≤ (i : Int) := Int.ediv_le_self _ (by omega)
        exact comp_ok (rowAt_ok ok1 _) ok2 hfp hpB (bz16 (by omega) (by omega)) (bz16 hd0 (by omega)) hkk.1 (by omega)
      · exact k x H4 (fun b o hb => kp b o (sm _ _ (s3 _ _ hb)) (ne_of_none (s3 _ _ hb) hx)) hN4

/-! ### the law's own -/
structure Parts (H : Hp) (v : V) (l : Addr) (p : Int) (rs : List Row) : Prop where
  ex : ∃ (a : Addr) (vs : List V), v = .ref a ∧ H a = some (.tup [.int p, .ref l]) ∧ H l = some (.lst vs) ∧ RowsV H vs rs
  len : (rs.length : Int) = p
  pos : 0 < p
theorem Parts.mono {H H' : Hp} {v : V} {l : Addr} {p : Int} {rs : List Row} (h : Parts H v l p rs) (t : Tups H H') (hl : ∀ xs, H l = some (.lst xs) → H' l = some (.lst xs)) : Parts H' v l p rs := by
  obtain ⟨⟨a, vs, h1, h2, h3, h4⟩, h5, h6⟩ := h
  exact ⟨⟨a, vs, h1, t _ _ h2, hl _ h3, h4.mono t⟩, h5, h6⟩
theorem Parts.same {H H' : Hp} {v : V} {l : Addr} {p : Int} {rs : List Row} (h : Parts H v l p rs) (s : Same H H') : Parts H' v l p rs := h.mono (Tups.of s) fun _ z => s _ _ z
def sp__law_number_image (K : PySem.W.Frag) : Sp := fun vs H Q _ => ∃ (v : V) (l : Addr) (p : Int) (rs : List Row) (x : Int) (k : Nat), vs = [v, .int x] ∧ Parts H v l p rs ∧ (∀ r ∈ rs, RowOk k r) ∧ Bz 16 p ∧ Bz k x ∧ (1 ≤ k ∧ k ≤ 100000) ∧ Q (optV (imM p rs x)) H
theorem c__law_number_image (T : Tx K mg) : C8.Cal P w K mg base 1 "_law_number_image" (sp__law_number_image K) [] := by
  refine c_mk T.d__law_number_image sc__law_number_image (fun vs H Q E h => ?_) (fun f cdv A outer s H vs Q E hr h => ?_)
  · first | (obtain ⟨rfl, _⟩ := h; rfl) | (obtain ⟨_, rfl, _⟩ := h; rfl) | (obtain ⟨_, _, rfl, _⟩ := h; rfl) | (obtain ⟨_, _, _, rfl, _⟩ := h; rfl) | (obtain ⟨_, _, _, _, rfl, _⟩ := h; rfl) | (obtain ⟨_, _, _, _, _, rfl, _⟩ := h; rfl) | (obtain ⟨_, _, _, _, _, _, rfl, _⟩ := h; rfl) | (obtain ⟨_, _, _, _, _, _, _, rfl, _⟩ := h; rfl) | (obtain ⟨_, _, _, _, _, _, _, _, rfl, _⟩ := h; rfl) | (obtain ⟨_, _, _, _, _, _, _, _, _, rfl, _⟩ := h; rfl) | (obtain ⟨_, _, _, _, _, _, _, _, _, _, rfl, _⟩ := h; rfl) | (obtain ⟨_, _, _, _, _, _, _, _, _, _, _, rfl, _⟩ := h; rfl) | (obtain ⟨_, _, _, _, _, _, _, _, _, _, _, _, rfl, _⟩ := h; rfl) | (obtain ⟨_, _, _, _, _, _, _, _, _, _, _, _, _, rfl, _⟩ := h; rfl)
  have hu := hu_of hr
  refine ⟨_, (pss_cons (ps_set (i := 2) sc__law_number_image.nd rfl (by first | exact Or.inl rfl | exact Or.inr rfl) (pe_ix ix_list (pe_ix ix_tup (pv 0) pe_int (fun _ _ => rfl)) (pe_op op_mod (pe_callTy call_int1 rfl T.b_int (by decide +kernel) (pa_cons (pv 1) pa_nil)) (pe_ix ix_tup (pv 0) pe_int (fun _ _ => rfl))) (fun _ _ => rfl)))
    (pss_cons (ps_set (i := 3) sc__law_number_image.nd rfl (by first | exact Or.inl rfl | exact Or.inr rfl) (pe_op op_fdiv (pv 1) (pe_ix ix_tup (pv 0) pe_int (fun _ _ => rfl))))
    (pss_cons (ps_if (PW.pt (pw_or (pt_cmpR op_isN (pv 2) pe_non (nomark _)) (pw_or (pt_cmpR op_lt (pv 3) (pe_ix ix_tup (pv 2) pe_int (fun _ _ => rfl)) (nomark _)) (pw_or1 (pt_cmpR op_gt (pv 3) (pe_ix ix_tup (pv 2) pe_int (fun _ _ => rfl)) (nomark _)))))) (pss_one (ps_ret pe_non)) pss_nil)
    (pss_one (ps_ret (pe_op op_add (pe_op op_mulW (pe_ix ix_tup (pv 2) pe_int (fun _ _ => rfl)) (pv 3)) (pe_ix ix_tup (pv 2) pe_int (fun _ _ => rfl)))))))), ?_⟩
  obtain ⟨v, l, p, rs, x, kk, rfl, hP, hok, bp, bx, hkk, k⟩ := h
  obtain ⟨⟨a, us, rfl, o1, o2, o3⟩, o4, hp⟩ := hP
  obtain ⟨v2, at2, hv2⟩ := rows_at o3 (i := x % p) (Int.emod_nonneg _ (by omega)) (by rw [o4]; exact Int.emod_lt_of_pos _ hp)
  have ro := rowAt_ok hok (x % p)
  refine ⟨_, rfl, a, _, _, _, rfl, rfl, SqT.of o1, rfl, _, rfl, .inl ⟨_, rfl, _, rfl, a, _, _, _, rfl, rfl, SqT.of o1, rfl, _, _, rfl, rfl, hp, _, _, _, _, rfl, rfl, SqL.of o2, at2, ?_⟩⟩
  refine ⟨_, rfl, _, rfl, a, _, _, _, rfl, rfl, SqT.of o1, rfl, _, _, rfl, rfl, bz_div hp bp, ?_⟩
  refine ⟨_, rfl, rfl, _, rfl, ?_⟩
  unfold imM at k
  generalize rowAt rs (x % p) = r2 at hv2 ro k
  cases r2 with
  | none =>
    cases (show v2 = .non from hv2)
    exact iteD (fun _ => iteT k) (fun e => absurd rfl e)
  | some q2 =>
    obtain ⟨s, t, lo, hi⟩ := q2
    obtain ⟨b, rfl, hb⟩ := hv2
    dsimp only at k
    refine iteD (fun e => by cases e) (fun _ => ?_)
    refine ⟨_, rfl, _, rfl, b, _, _, _, rfl, rfl, SqT.of hb, rfl, _, _, rfl, rfl, _, rfl, ?_⟩
    refine iteD (fun e1 => ?_) (fun e1 => ?_)
    · refine iteT ?_
      rw [if_neg (fun z => by omega)] at k
      exact k
    · refine ⟨_, rfl, _, rfl, b, _, _, _, rfl, rfl, SqT.of hb, rfl, _, _, rfl, rfl, _, rfl, ?_⟩
      refine iteD (fun e2 => ?_) (fun e2 => ?_)
      · rw [if_neg (fun z => by omega)] at k
        exact k
      · rw [if_pos ⟨by omega, by omega⟩] at k
        refine ⟨_, rfl, b, _, _, _, rfl, rfl, SqT.of hb, rfl, _, rfl, _, _, rfl, rfl, wide_mul ro.1 (Bz.div bx hp) (by omega) (by omega) (by omega), _, rfl, b, _, _, _, rfl, rfl, SqT.of hb, rfl, _, _, rfl, rfl, ?_⟩
        exact k
def sp__law_then (K : PySem.W.Frag) : Sp := fun vs H Q _ => ∃ (v1 v2 : V) (l1 l2 : Addr) (p1 p2 : Int) (rs1 rs2 : List Row) (x : Int) (k : Nat), vs = [v1, v2, .int x] ∧ Parts H v1 l1 p1 rs1 ∧ Parts H v2 l2 p2 rs2 ∧ (∀ r ∈ rs1, RowOk k r) ∧ (∀ r ∈ rs2, RowOk k r) ∧ Bz 16 p1 ∧ Bz 16 p2 ∧ Bz k x ∧ (1 ≤ k ∧ k ≤ 40000) ∧
  Q (optV ((imM p1 rs1 x).bind (imM p2 rs2))) H
theorem c__law_then (T : Tx K mg) : C8.Cal P w K mg base 2 "_law_then" (sp__law_then K) [] := by
  have C__law_number_image := c__law_number_image (P := P) (w := w) (base := base) T
  refine c_mk T.d__law_then sc__law_then (fun vs H Q E h => ?_) (fun f cdv A outer s H vs Q E hr h => ?_)
  · first | (obtain ⟨rfl, _⟩ := h; rfl) | (obtain ⟨_, rfl, _⟩ := h; rfl) | (obtain ⟨_, _, rfl, _⟩ := h; rfl) | (obtain ⟨_, _, _, rfl, _⟩ := h; rfl) | (obtain ⟨_, _, _, _, rfl, _⟩ := h; rfl) | (obtain ⟨_, _, _, _, _, rfl, _⟩ := h; rfl) | (obtain ⟨_, _, _, _, _, _, rfl, _⟩ := h; rfl) | (obtain ⟨_, _, _, _, _, _, _, rfl, _⟩ := h; rfl) | (obtain ⟨_, _, _, _, _, _, _, _, rfl, _⟩ := h; rfl) | (obtain ⟨_, _, _, _, _, _, _, _, _, rfl, _⟩ := h; rfl) | (obtain ⟨_, _, _, _, _, _, _, _, _, _, rfl, _⟩ := h; rfl) | (obtain ⟨_, _, _, _, _, _, _, _, _, _, _, rfl, _⟩ := h; rfl) | (obtain ⟨_, _, _, _, _, _, _, _, _, _, _, _, rfl, _⟩ := h; rfl) | (obtain ⟨_, _, _, _, _, _, _, _, _, _, _, _, _, rfl, _⟩ := h; rfl)
  have hu := hu_of hr
  refine ⟨_, (pss_cons (ps_set (i := 3) sc__law_then.nd rfl (by first | exact Or.inl rfl | exact Or.inr rfl) (C8.pe_c (C__law_number_image) hr (by decide) rfl (pa_cons (pv 0) (pa_cons (pv 2) pa_nil))))
    (pss_cons (ps_if (pt_cmpR op_isN (pv 3) pe_non (nomark _)) (pss_one (ps_ret pe_non)) pss_nil)
    (pss_one (ps_ret (C8.pe_c (C__law_number_image) hr (by decide) rfl (pa_cons (pv 1) (pa_cons (pv 3) pa_nil))))))), ?_⟩
  obtain ⟨v1, v2, l1, l2, p1, p2, rs1, rs2, x, kk, rfl, hP1, hP2, ok1, ok2, bp1, bp2, bx, hkk, k⟩ := h
  refine ⟨_, rfl, _, rfl, v1, l1, p1, rs1, x, kk, rfl, hP1, ok1, bp1, bx, by omega, ?_⟩
  refine ⟨_, rfl, rfl, _, rfl, ?_⟩
  cases e : imM p1 rs1 x with
  | none =>
    rw [e] at k
    exact iteD (fun _ => k) (fun z => absurd rfl z)
  | some y =>
    rw [e] at k
    refine iteD (fun z => by cases z) (fun _ => ?_)
    exact ⟨_, rfl, _, rfl, v2, l2, p2, rs2, y, kk + kk + 1, rfl, hP2, fun r hr => by
      have := ok2 r hr
      cases r with
      | none => trivial
      | some q =>
        obtain ⟨a, b, c, d, e⟩ := this
        exact ⟨a.mono (by omega), b.mono (by omega), c.mono (by omega), d.mono (by omega), e⟩, bp2, im_ok ok1 hP1.pos bx hkk.1 e, by omega, k⟩
def sp__law_same (K : PySem.W.Frag) : Sp := fun vs H Q _ => ∃ (a b : Option Int), vs = [optV a, optV b] ∧ Q (.bl (decide (a = b))) H
theorem c__law_same (T : Tx K mg) : C8.Cal P w K mg base 1 "_law_same" (sp__law_same K) [] := by
  refine c_mk T.d__law_same sc__law_same (fun vs H Q E h => ?_) (fun f cdv A outer s H vs Q E hr h => ?_)
  · first | (obtain ⟨rfl, _⟩ := h; rfl) | (obtain ⟨_, rfl, _⟩ := h; rfl) | (obtain ⟨_, _, rfl, _⟩ := h; rfl) | (obtain ⟨_, _, _, rfl, _⟩ := h; rfl) | (obtain ⟨_, _, _, _, rfl, _⟩ := h; rfl) | (obtain ⟨_, _, _, _, _, rfl, _⟩ := h; rfl) | (obtain ⟨_, _, _, _, _, _, rfl, _⟩ := h; rfl) | (obtain ⟨_, _, _, _, _, _, _, rfl, _⟩ := h; rfl) | (obtain ⟨_, _, _, _, _, _, _, _, rfl, _⟩ := h; rfl) | (obtain ⟨_, _, _, _, _, _, _, _, _, rfl, _⟩ := h; rfl) | (obtain ⟨_, _, _, _, _, _, _, _, _, _, rfl, _⟩ := h; rfl) | (obtain ⟨_, _, _, _, _, _, _, _, _, _, _, rfl, _⟩ := h; rfl) | (obtain ⟨_, _, _, _, _, _, _, _, _, _, _, _, rfl, _⟩ := h; rfl) | (obtain ⟨_, _, _, _, _, _, _, _, _, _, _, _, _, rfl, _⟩ := h; rfl)
  have hu := hu_of hr
  refine ⟨_, (pss_cons (ps_if (pt_cmpR op_isN (pv 1) pe_non (nomark _)) (pss_one (ps_ret (pe_cmpR op_isN (pv 0) pe_non (nomark _)))) pss_nil)
    (pss_one (ps_ret (pe_and (pe_callB call_isi rfl T.b_isinstance (by decide +kernel) (pa_cons (pv 0) (pa_cons (pe_bltn (v := .ty "int") rfl T.b_int (by decide +kernel) rfl) pa_nil))) (pe_and (pe_not (pe_callB call_isi rfl T.b_isinstance (by decide +kernel) (pa_cons (pv 0) (pa_cons (pe_bltn (v := .ty "bool") rfl T.b_bool (by decide +kernel) rfl) pa_nil)))) (pe_one (pe_cmpR op_eq (pv 0) (pv 1) (nomark _)))))))), ?_⟩
  obtain ⟨a, b, rfl, k⟩ := h
  refine ⟨_, rfl, rfl, _, rfl, ?_⟩
  cases b with
  | none =>
    refine iteD (fun _ => ?_) (fun z => absurd rfl z)
    refine ⟨_, rfl, rfl, ?_⟩
    cases a with
    | none => exact k
    | some x => exact k
  | some y =>
    refine iteD (fun z => by cases z) (fun _ => ?_)
    cases a with
    | none =>
      refine ⟨_, rfl, .non, .ty "int", _, _, false, rfl, .ty _, .base .non, kit_ty (by decide +kernel), _, rfl, iteF ?_⟩
      exact k
    | some x =>
      refine ⟨_, rfl, .int x, .ty "int", _, _, true, rfl, .ty _, .base (.int _), kit_ty (by decide +kernel), _, rfl, iteT ?_⟩
      refine ⟨_, rfl, .int x, .ty "bool", _, _, false, rfl, .ty _, .base (.int _), kit_ty (by decide +kernel), _, rfl, _, rfl, iteT ?_⟩
      refine ⟨_, rfl, _, rfl, rfl, ?_⟩
      have e : decide (V.int x = V.int y) = decide (some x = some y) := by
        by_cases h : x = y
        · subst h; rw [decide_eq_true rfl, decide_eq_true rfl]
        · rw [decide_eq_false (fun z => h (V.int.inj z)), decide_eq_false (fun z => h (Option.some.inj z))]
      show Q (.bl (decide (V.int x = V.int y))) H
      rw [e]
      exact k
def sp__law_preimages (K : PySem.W.Frag) : Sp := fun vs H Q _ => ∃ (v : V) (r : Row) (p a g : Int) (k : Nat), vs = [v, .int p, .int a, .int g] ∧ RowV H v r ∧ RowOk k r ∧ Bz 16 p ∧ Bz 16 a ∧ Bz k g ∧ (16 ≤ k ∧ k ≤ 8000) ∧
  ∀ (q : Addr) (ns : List Int) (H' : Hp), H q = none → Same H H' → H' q = some (.lst (ns.map V.int)) → (∀ n ∈ ns, Bz (k + 20) n) → ns.length ≤ 3 → Q (.ref q) H'
theorem natAbs_fdiv_le {x p : Int} (hp : p ≠ 0) : (x.fdiv p).natAbs ≤ x.natAbs + 1 := by
  have h1 := Int.mul_fdiv_add_fmod x p
  rcases Int.lt_or_gt_of_ne hp with h | h
  · have a1 : x.fdiv p = (-x).fdiv (-p) := (Int.neg_fdiv_neg x p).symm
    rw [a1, Int.fdiv_eq_ediv_of_nonneg _ (by omega)]
    have := natAbs_div_le (x := -x) (p := -p) (by omega)
    omega
  · rw [Int.fdiv_eq_ediv_of_nonneg _ (by omega)]
    have := natAbs_div_le (x := x) (p := p) h
    omega
theorem c__law_preimages (T : Tx K mg) : C8.Cal P w K mg base 1 "_law_preimages" (sp__law_preimages K) [] := by
  refine c_mk T.d__law_preimages sc__law_preimages (fun vs H Q E h => ?_) (fun f cdv A outer s H vs Q E hr h => ?_)
  · first | (obtain ⟨rfl, _⟩ := h; rfl) | (obtain ⟨_, rfl, _⟩ := h; rfl) | (obtain ⟨_, _, rfl, _⟩ := h; rfl) | (obtain ⟨_, _, _, rfl, _⟩ := h; rfl) | (obtain ⟨_, _, _, _, rfl, _⟩ := h; rfl) | (obtain ⟨_, _, _, _, _, rfl, _⟩ := h; rfl) | (obtain ⟨_, _, _, _, _, _, rfl, _⟩ := h; rfl) | (obtain ⟨_, _, _, _, _, _, _, rfl, _⟩ := h; rfl) | (obtain ⟨_, _, _, _, _, _, _, _, rfl, _⟩ := h; rfl) | (obtain ⟨_, _, _, _, _, _, _, _, _, rfl, _⟩ := h; rfl) | (obtain ⟨_, _, _, _, _, _, _, _, _, _, rfl, _⟩ := h; rfl) | (obtain ⟨_, _, _, _, _, _, _, _, _, _, _, rfl, _⟩ := h; rfl) | (obtain ⟨_, _, _, _, _, _, _, _, _, _, _, _, rfl, _⟩ := h; rfl) | (obtain ⟨_, _, _, _, _, _, _, _, _, _, _, _, _, rfl, _⟩ := h; rfl)
  have hu := hu_of hr
  refine ⟨_, (pss_cons (ps_if (PW.pt (pw_or (pt_cmpR op_isN (pv 0) pe_non (nomark _)) (pw_or1 (pt_cmpR op_eq (pe_ix ix_tup (pv 0) pe_int (fun _ _ => rfl)) pe_int (nomark _))))) (pss_one (ps_ret (pe_lst pa_nil))) pss_nil)
    (pss_cons (ps_set (i := 4) sc__law_preimages.nd rfl (by first | exact Or.inl rfl | exact Or.inr rfl) (pe_op op_fdivWN (pe_op op_sub (pv 3) (pe_ix ix_tup (pv 0) pe_int (fun _ _ => rfl))) (pe_ix ix_tup (pv 0) pe_int (fun _ _ => rfl))))
    (pss_one (ps_ret (pe_lc (own := [("k", 5)]) (g := gName 5) rfl sc__law_preimages.nd (pi_tup (pe_tup (pa_cons (pe_un un_neg pe_int) (pa_cons pe_int (pa_cons pe_int pa_nil))))) (blkOk_by (own := [("k", 5)]) (N := N__law_preimages) (sc := defScope s__law_preimages) (by decide +kernel)) (fun _ _ _ _ _ => (pg_name (i := 5) sc__law_preimages.nd rfl (by first | exact Or.inl rfl | exact Or.inr rfl))) (fun _ _ _ _ _ => pts_nil) (fun _ _ _ _ _ => (pe_op op_add (pe_op op_mulW (pv 1) (pe_op op_add (pv 4) (pv 5))) (pv 2)))))))), ?_⟩
  obtain ⟨v, r, p, a, g, kk, rfl, hv, hr0, bp, ba, bg, hkk, k⟩ := h
  refine ⟨_, rfl, rfl, _, rfl, ?_⟩
  cases r with
  | none =>
    cases (show v = .non from hv)
    exact iteD (fun _ => iteT ⟨by decide, fun q hq => k q [] _ hq (same_new hq) upd_same (fun n hn => by cases hn) (by decide)⟩) (fun e => absurd rfl e)
  | some q =>
    obtain ⟨s, t, lo, hi⟩ := q
    obtain ⟨b, rfl, hb⟩ := hv
    obtain ⟨h1, h2, h3, h4, h5⟩ := hr0
    refine iteD (fun e => by cases e) (fun _ => ?_)
    refine ⟨_, rfl, b, _, _, _, rfl, rfl, SqT.of hb, rfl, rfl, _, rfl, ?_⟩
    refine iteD (fun e => ⟨by decide, fun q hq => k q [] _ hq (same_new hq) upd_same (fun n hn => by cases hn) (by decide)⟩) (fun e => ?_)
    have s0 : s ≠ 0 := fun z => e (congrArg V.int z)
    refine ⟨_, rfl, _, rfl, b, _, _, _, rfl, rfl, SqT.of hb, rfl, _, _, rfl, rfl, _, rfl, b, _, _, _, rfl, rfl, SqT.of hb, rfl, _, _, rfl, rfl, ⟨s0, Nat.lt_of_lt_of_le (PySem.Flt.log2_lt_of (by omega) h1) (by omega)⟩, ?_⟩
    have bq : Bz (kk + 2) ((g - t).fdiv s) := by
      have z := natAbs_fdiv_le (x := g - t) (p := s) s0
      have y : Bz (kk + 1) (g - t) := Bz.sub bg h2
      have w := Nat.pow_succ 2 (kk + 1)
      show ((g - t).fdiv s).natAbs < 2 ^ (kk + 2)
      have y' : (g - t).natAbs < 2 ^ (kk + 1) := y
      have w' : 2 ^ (kk + 2) = 2 ^ (kk + 1) * 2 := w
      omega
    refine ⟨_, rfl, (by show 3 ≤ sizeLine; decide), fun tq htq => ?_⟩
    have st : Same H (upd H tq (.tup [.int (-1), .int 0, .int 1])) := same_new htq
    refine ⟨tq, rfl, ⟨_, SqT.of upd_same⟩, fun D hD => lc_tup (xs := [.int (-1), .int 0, .int 1]) (fun i H2 => ∃ ns : List Int, Same (upd H tq (.tup [.int (-1), .int 0, .int 1])) H2 ∧ H2 D = some (.lst (ns.map V.int)) ∧ (∀ n ∈ ns, Bz (kk + 20) n) ∧ ns.length ≤ i)
      ⟨[], same_new hD, upd_same, (fun n hn => by cases hn), Nat.le_refl _⟩ (fun i H2 _ ⟨_, s2, _⟩ => SqT.of (s2 _ _ upd_same)) ?_ ?_⟩
    · rintro i x H2 hi ⟨ns, s2, h2, hb2, hl2⟩
      have hil : i < 3 := (List.getElem?_eq_some_iff.mp hi).1
      obtain ⟨c, rfl, bc⟩ : ∃ c : Int, x = .int c ∧ Bz 1 c := by
        have hm := List.mem_of_getElem? hi
        simp only [List.mem_cons, List.not_mem_nil, or_false] at hm
        rcases hm with rfl | rfl | rfl
        · exact ⟨-1, rfl, by decide⟩
        · exact ⟨0, rfl, by decide⟩
        · exact ⟨1, rfl, by decide⟩
      have b1 : Bz (kk + 3) ((g - t).fdiv s + c) := Bz.add bq (bc.mono (by omega))
      refine ⟨rfl, ?_⟩
      unfold tYes
      refine iteT ?_
      refine ⟨_, rfl, _, rfl, _, rfl, _, _, rfl, rfl, _, _, rfl, rfl, wide_mul bp b1 (by decide) (by omega) (by omega), _, rfl, _, _, rfl, rfl, _, h2, by rw [List.length_map]; exact Nat.lt_of_le_of_lt (show ns.length ≤ 3 by omega) (by decide), ns ++ [p * ((g - t).fdiv s + c) + a], fun b o hb => ?_, ?_, ?_, ?_⟩
      · rw [upd_ne (ne_of_none hb hD)]
        exact s2 _ _ hb
      · rw [upd_same, List.map_append]
        rfl
      · intro n hn
        rcases List.mem_append.mp hn with hn | hn
        · exact hb2 n hn
        · cases (List.mem_singleton.mp hn)
          exact (Bz.add ((Bz.mul bp b1).mono (j := kk + 19) (by omega)) (ba.mono (by omega))).mono (by omega)
      · rw [List.length_append]
        exact Nat.succ_le_succ hl2
    · rintro H2 ⟨ns, s2, h2, hb2, hl2⟩
      exact k D ns H2 (st.free hD) (st.trans s2) h2 hb2 hl2
/-- the list of points, grown -/
structure PT (H H2 : Hp) (q : Addr) (pts : List Int) (kk n : Nat) : Prop where
  sm : Same H H2
  fr : H q = none
  at_ : H2 q = some (.lst (pts.map V.int))
  bz : ∀ z ∈ pts, Bz (kk + 40) z
  le : pts.length ≤ n
theorem PT.mono {H H2 : Hp} {q : Addr} {pts : List Int} {kk n m : Nat} (h : PT H H2 q pts kk n) (l : n ≤ m) : PT H H2 q pts kk m := ⟨h.sm, h.fr, h.at_, h.bz, Nat.le_trans h.le l⟩
theorem PT.same {H H2 H3 : Hp} {q : Addr} {pts : List Int} {kk n : Nat} (h : PT H H2 q pts kk n) (s : Same H2 H3) : PT H H3 q pts kk n := ⟨h.sm.trans s, h.fr, s _ _ h.at_, h.bz, h.le⟩
theorem PT.snoc {H H2 : Hp} {q : Addr} {pts : List Int} {kk n : Nat} (h : PT H H2 q pts kk n) {z : Int} (hz : Bz (kk + 40) z) : PT H (upd H2 q (.lst (pts.map V.int ++ [.int z]))) q (pts ++ [z]) kk (n + 1) where
  sm := fun b o hb => by rw [upd_ne (ne_of_none hb h.fr)]; exact h.sm _ _ hb
  fr := h.fr
  at_ := by rw [upd_same, List.map_append]; rfl
  bz := fun y hy => by
    rcases List.mem_append.mp hy with hy | hy
    · exact h.bz y hy
    · cases (List.mem_singleton.mp hy)
      exact hz
  le := by rw [List.length_append]; exact Nat.succ_le_succ h.le
def sp__law_points (K : PySem.W.Frag) : Sp := fun vs H Q _ => ∃ (v1 v2 : V) (l1 l2 : Addr) (p1 p2 : Int) (rs1 rs2 : List Row) (k : Nat), vs = [v1, v2] ∧ Parts H v1 l1 p1 rs1 ∧ Parts H v2 l2 p2 rs2 ∧ (∀ r ∈ rs1, RowOk k r) ∧ (∀ r ∈ rs2, RowOk k r) ∧ p1 ≤ 100 ∧ p2 ≤ 100 ∧ (16 ≤ k ∧ k ≤ 4000) ∧
  ∀ (q : Addr) (ns : List Int) (H' : Hp), Same H H' → H' q = some (.lst (ns.map V.int)) → (∀ n ∈ ns, Bz (k + 40) n) → Q (.ref q) H'
theorem rg_ints : rgV (-30) 31 = (((List.range 61).map fun (i : Nat) => (-30 : Int) + i)).map V.int := by decide +kernel
theorem c__law_points (T : Tx K mg) : C8.Cal P w K mg base 2 "_law_points" (sp__law_points K) [] := by
  have C__law_preimages := c__law_preimages (P := P) (w := w) (base := base) T
  refine c_mk T.d__law_points sc__law_points (fun vs H Q E h => ?_) (fun f cdv A outer s H vs Q E hr h => ?_)
  · first | (obtain ⟨rfl, _⟩ := h; rfl) | (obtain ⟨_, rfl, _⟩ := h; rfl) | (obtain ⟨_, _, rfl, _⟩ := h; rfl) | (obtain ⟨_, _, _, rfl, _⟩ := h; rfl) | (obtain ⟨_, _, _, _, rfl, _⟩ := h; rfl) | (obtain ⟨_, _, _, _, _, rfl, _⟩ := h; rfl) | (obtain ⟨_, _, _, _, _, _, rfl, _⟩ := h; rfl) | (obtain ⟨_, _, _, _, _, _, _, rfl, _⟩ := h; rfl) | (obtain ⟨_, _, _, _, _, _, _, _, rfl, _⟩ := h; rfl) | (obtain ⟨_, _, _, _, _, _, _, _, _, rfl, _⟩ := h; rfl) | (obtain ⟨_, _, _, _, _, _, _, _, _, _, rfl, _⟩ := h; rfl) | (obtain ⟨_, _, _, _, _, _, _, _, _, _, _, rfl, _⟩ := h; rfl) | (obtain ⟨_, _, _, _, _, _, _, _, _, _, _, _, rfl, _⟩ := h; rfl) | (obtain ⟨_, _, _, _, _, _, _, _, _, _, _, _, _, rfl, _⟩ := h; rfl)
  have hu := hu_of hr
  refine ⟨_, (pss_cons (ps_set (i := 2) sc__law_points.nd rfl (by first | exact Or.inl rfl | exact Or.inr rfl) (pe_listRg rfl rfl T.b_list (prg_2 rfl T.b_range (pe_un un_neg pe_int) pe_int)))
    (pss_cons (ps_for PassesOwn.never rfl (pi_range1 rfl T.b_range (pa_cons (pe_ix ix_tup (pv 0) pe_int (fun _ _ => rfl)) pa_nil)) (pg_name (i := 3) sc__law_points.nd rfl (by first | exact Or.inl rfl | exact Or.inr rfl)) (pss_cons (ps_set (i := 4) sc__law_points.nd rfl (by first | exact Or.inl rfl | exact Or.inr rfl) (pe_ix ix_list (pe_ix ix_tup (pv 0) pe_int (fun _ _ => rfl)) (pv 3) (fun _ _ => rfl)))
    (pss_one (ps_if (pt_cmpR op_notN (pv 4) pe_non (nomark _)) (pss_cons (ps_for PassesOwn.never rfl (pi_tup (pe_tup (pa_cons (pe_op op_sub (pe_ix ix_tup (pv 4) pe_int (fun _ _ => rfl)) pe_int) (pa_cons (pe_ix ix_tup (pv 4) pe_int (fun _ _ => rfl)) (pa_cons (pe_op op_add (pe_ix ix_tup (pv 4) pe_int (fun _ _ => rfl)) pe_int) (pa_cons (pe_op op_sub (pe_ix ix_tup (pv 4) pe_int (fun _ _ => rfl)) pe_int) (pa_cons (pe_ix ix_tup (pv 4) pe_int (fun _ _ => rfl)) (pa_cons (pe_op op_add (pe_ix ix_tup (pv 4) pe_int (fun _ _ => rfl)) pe_int) pa_nil)))))))) (pg_name (i := 5) sc__law_points.nd rfl (by first | exact Or.inl rfl | exact Or.inr rfl)) (pss_one (ps_expr (pe_bm PySem.F.plainAttrs_list PySem.F.slot_list_append PySem.F.type_list_append mt_append (pv 2) (pa_cons (pe_op op_add (pe_op op_mulW (pe_ix ix_tup (pv 0) pe_int (fun _ _ => rfl)) (pv 5)) (pv 3)) pa_nil)))))
    (pss_one (ps_for PassesOwn.never rfl (pi_range1 rfl T.b_range (pa_cons (pe_ix ix_tup (pv 1) pe_int (fun _ _ => rfl)) pa_nil)) (pg_name (i := 6) sc__law_points.nd rfl (by first | exact Or.inl rfl | exact Or.inr rfl)) (pss_cons (ps_set (i := 7) sc__law_points.nd rfl (by first | exact Or.inl rfl | exact Or.inr rfl) (pe_ix ix_list (pe_ix ix_tup (pv 1) pe_int (fun _ _ => rfl)) (pv 6) (fun _ _ => rfl)))
    (pss_one (ps_if (pt_cmpR op_notN (pv 7) pe_non (nomark _)) (pss_one (ps_for PassesOwn.never rfl (pi_tup (pe_tup (pa_cons (pe_op op_sub (pe_ix ix_tup (pv 7) pe_int (fun _ _ => rfl)) pe_int) (pa_cons (pe_ix ix_tup (pv 7) pe_int (fun _ _ => rfl)) (pa_cons (pe_ix ix_tup (pv 7) pe_int (fun _ _ => rfl)) (pa_cons (pe_op op_add (pe_ix ix_tup (pv 7) pe_int (fun _ _ => rfl)) pe_int) pa_nil)))))) (pg_name (i := 5) sc__law_points.nd rfl (by first | exact Or.inl rfl | exact Or.inr rfl)) (pss_one (ps_set (i := 2) sc__law_points.nd rfl (by first | exact Or.inl rfl | exact Or.inr rfl) (pe_op op_cat (pv 2) (C8.pe_c (C__law_preimages) hr (by decide) rfl (pa_cons (pv 4) (pa_cons (pe_ix ix_tup (pv 0) pe_int (fun _ _ => rfl)) (pa_cons (pv 3) (pa_cons (pe_op op_add (pe_op op_mulW (pe_ix ix_tup (pv 1) pe_int (fun _ _ => rfl)) (pv 5)) (pv 6)) pa_nil)))))))))) pss_nil)))))) pss_nil))))
    (pss_one (ps_ret (pv 2))))), ?_⟩
  obtain ⟨v1, v2, l1, l2, p1, p2, rs1, rs2, kk, rfl, hP1, hP2, ok1, ok2, hp1, hp2, hkk, k⟩ := h
  obtain ⟨⟨a1, us1, rfl, o1, o2, o3⟩, o4, hpp1⟩ := hP1
  obtain ⟨⟨a2, us2, rfl, w1, w2, w3⟩, w4, hpp2⟩ := hP2
  have bp1 : Bz 16 p1 := bz16 (by omega) (by omega)
  have bp2 : Bz 16 p2 := bz16 (by omega) (by omega)
  refine ⟨_, rfl, _, _, rfl, rfl, (by unfold RgOk; decide), fun q hq => ?_⟩
  have t0 : PT H (upd H q (.lst (rgV (-30) 31))) q ((List.range 61).map fun (i : Nat) => (-30 : Int) + i) kk 61 := ⟨same_new hq, hq, by rw [upd_same, rg_ints], fun z hz => by
    obtain ⟨i, hi, rfl⟩ := List.mem_map.mp hz
    have := List.mem_range.mp hi
    refine Bz.mono (k := 16) ?_ (by omega)
    show ((-30 : Int) + i).natAbs < 2 ^ 16
    omega, by rw [List.length_map, List.length_range]; exact Nat.le_refl _⟩
  refine ⟨_, rfl, a1, _, _, _, rfl, rfl, SqT.of (t0.sm _ _ o1), rfl, _, rfl, by omega, by omega, for_range (lo := 0) (n := p1.toNat) (fun i σ H2 => ∃ (q : Addr) (pts : List Int) (x3 x4 x5 x6 x7 : Option V),
    σ = [some (.ref a1), some (.ref a2), some (.ref q), x3, x4, x5, x6, x7] ∧ PT H H2 q pts kk (61 + 1300 * i)) ?_ ?_ ?_⟩
  · exact ⟨q, _, none, none, none, none, none, rfl, t0⟩
  · clear t0 hq q
    rintro i σ H2 hi ⟨q, pts, x3, x4, x5, x6, x7, rfl, t⟩
    have bi : Bz 16 ((0 : Int) + (i : Int)) := bz16 (by omega) (by omega)
    obtain ⟨v, at2, hv⟩ := rows_at (o3.mono (Tups.of t.sm)) (i := (0 : Int) + (i : Int)) (by omega) (by omega)
    refine ⟨_, rfl, a1, _, _, _, rfl, rfl, SqT.of (t.sm _ _ o1), rfl, _, rfl, _, _, _, _, rfl, rfl, SqL.of (t.sm _ _ o2), at2, ?_⟩
    refine ⟨_, rfl, rfl, _, rfl, ?_⟩
    have ro := rowAt_ok ok1 ((0 : Int) + (i : Int))
    generalize rowAt rs1 ((0 : Int) + (i : Int)) = r at hv ro
    cases r with
    | none =>
      cases (show v = .non from hv)
      exact iteN (fun e => absurd rfl e) (fun _ => ⟨q, pts, _, _, _, _, _, rfl, t.mono (by omega)⟩)
    | some z =>
      have hv0 := hv
      obtain ⟨s, tt, lo, hi⟩ := z
      obtain ⟨b, rfl, hb⟩ := hv
      obtain ⟨g1, g2, g3, g4, g5⟩ := id ro
      have b1 : Bz (kk + 1) 1 := Bz.mono (k := 1) (by decide) (by omega)
      refine iteN (fun _ => ?_) (fun e => by cases e)
      refine ⟨_, rfl, b, _, _, _, rfl, rfl, SqT.of hb, rfl, _, _, rfl, rfl, _, rfl, b, _, _, _, rfl, rfl, SqT.of hb, rfl, _, rfl, b, _, _, _, rfl, rfl, SqT.of hb, rfl, _, _, rfl, rfl, _, rfl, b, _, _, _, rfl, rfl, SqT.of hb, rfl, _, _, rfl, rfl, _, rfl, b, _, _, _, rfl, rfl, SqT.of hb, rfl,
        _, rfl, b, _, _, _, rfl, rfl, SqT.of hb, rfl, _, _, rfl, rfl, (by show 6 ≤ sizeLine; decide), fun tq htq => ?_⟩
      have t1 := t.same (same_new (o := .tup [.int (lo - 1), .int lo, .int (lo + 1), .int (hi - 1), .int hi, .int (hi + 1)]) htq)
      refine ⟨tq, rfl, ⟨_, SqT.of upd_same⟩, for_tup (xs := [.int (lo - 1), .int lo, .int (lo + 1), .int (hi - 1), .int hi, .int (hi + 1)]) (fun j σ H3 => ∃ (pts : List Int) (x5 : Option V),
        σ = [some (.ref a1), some (.ref a2), some (.ref q), some (.int (0 + i)), some (.ref b), x5, x6, x7] ∧ PT H H3 q pts kk (61 + 1300 * i + j) ∧ H3 tq = some (.tup [.int (lo - 1), .int lo, .int (lo + 1), .int (hi - 1), .int hi, .int (hi + 1)]) ∧ H3 b = some (.tup [.int s, .int tt, .int lo, .int hi])) ?_ ?_ ?_ ?_⟩
      · exact ⟨pts, _, rfl, t1, upd_same, same_new htq _ _ hb⟩
      · rintro j σ H3 _ ⟨_, _, _, _, e, _⟩
        exact SqT.of e
      · rintro j x σ H3 hj ⟨pts, x5, rfl, t3, e3, hb3⟩
        have hjl : j < 6 := (List.getElem?_eq_some_iff.mp hj).1
        obtain ⟨c, rfl, bc⟩ : ∃ c : Int, x = .int c ∧ Bz (kk + 1) c := by
          have hm := List.mem_of_getElem? hj
          have c1 : Bz kk 1 := Bz.mono (k := 1) (by decide) (by omega)
          simp only [List.mem_cons, List.not_mem_nil, or_false] at hm
          rcases hm with rfl | rfl | rfl | rfl | rfl | rfl
          · exact ⟨_, rfl, Bz.sub g3 c1⟩
          · exact ⟨_, rfl, g3.mono (by omega)⟩
          · exact ⟨_, rfl, Bz.add g3 c1⟩
          · exact ⟨_, rfl, Bz.sub g4 c1⟩
          · exact ⟨_, rfl, g4.mono (by omega)⟩
          · exact ⟨_, rfl, Bz.add g4 c1⟩
        refine ⟨_, rfl, .inl ⟨rfl, _, .inl (.inl t3.at_)⟩, _, rfl, a1, _, _, _, rfl, rfl, SqT.of (t3.sm _ _ o1), rfl, _, rfl, _, _, rfl, rfl, wide_mul bp1 bc (by decide) (by omega) (by omega), _, rfl, _, _, rfl, rfl, q, _, _, rfl, rfl, t3.at_, ?_, ?_⟩
        · rw [List.length_map]
          exact Nat.lt_of_le_of_lt (show pts.length ≤ 200000 by have := t3.le; omega) (by decide)
        · refine ⟨pts ++ [p1 * c + (0 + (i : Int))], _, rfl, t3.snoc ((Bz.add ((Bz.mul bp1 bc).mono (j := kk + 17) (by omega)) (bi.mono (by omega))).mono (by omega)), ?_, ?_⟩
          · rw [upd_ne (ne_of e3 t3.at_ (by intro z; cases z))]; exact e3
          · rw [upd_ne (ne_of hb3 t3.at_ (by intro z; cases z))]; exact hb3
      · rintro σ H3 ⟨pts, x5, rfl, t3, e3, hb3⟩
        refine ⟨_, rfl, a2, _, _, _, rfl, rfl, SqT.of (t3.sm _ _ w1), rfl, _, rfl, by omega, by omega, for_range (lo := 0) (n := p2.toNat) (fun j σ H4 => ∃ (q : Addr) (pts : List Int) (x5 x6 x7 : Option V),
          σ = [some (.ref a1), some (.ref a2), some (.ref q), some (.int (0 + i)), some (.ref b), x5, x6, x7] ∧ PT H H4 q pts kk (61 + 1300 * i + 6 + 12 * j) ∧ H4 b = some (.tup [.int s, .int tt, .int lo, .int hi])) ?_ ?_ ?_⟩
        · exact ⟨q, pts, _, _, _, rfl, t3, hb3⟩
        · clear t3 e3 hb3 t1 htq tq
          rintro j σ H4 hj ⟨q, pts, x5, x6, x7, rfl, t4, hb4⟩
          have bj : Bz 16 ((0 : Int) + (j : Int)) := bz16 (by omega) (by omega)
          obtain ⟨v, at4, hv4⟩ := rows_at (w3.mono (Tups.of t4.sm)) (i := (0 : Int) + (j : Int)) (by omega) (by omega)
          refine ⟨_, rfl, a2, _, _, _, rfl, rfl, SqT.of (t4.sm _ _ w1), rfl, _, rfl, _, _, _, _, rfl, rfl, SqL.of (t4.sm _ _ w2), at4, ?_⟩
          refine ⟨_, rfl, rfl, _, rfl, ?_⟩
          have ro4 := rowAt_ok ok2 ((0 : Int) + (j : Int))
          generalize rowAt rs2 ((0 : Int) + (j : Int)) = r at hv4 ro4
          cases r with
          | none =>
            cases (show v = .non from hv4)
            exact iteN (fun e => absurd rfl e) (fun _ => ⟨q, pts, _, _, _, rfl, t4.mono (by omega), hb4⟩)
          | some z =>
            obtain ⟨s', tt', lo', hi'⟩ := z
            obtain ⟨e, rfl, he⟩ := hv4
            obtain ⟨f1, f2, f3, f4, f5⟩ := ro4
            refine iteN (fun _ => ?_) (fun e => by cases e)
            refine ⟨_, rfl, e, _, _, _, rfl, rfl, SqT.of he, rfl, _, _, rfl, rfl, _, rfl, e, _, _, _, rfl, rfl, SqT.of he, rfl, _, rfl, e, _, _, _, rfl, rfl, SqT.of he, rfl, _, rfl, e, _, _, _, rfl, rfl, SqT.of he, rfl, _, _, rfl, rfl, (by show 4 ≤ sizeLine; decide), fun tq htq => ?_⟩
            have t5 := t4.same (same_new (o := .tup [.int (lo' - 1), .int lo', .int hi', .int (hi' + 1)]) htq)
            refine ⟨tq, rfl, ⟨_, SqT.of upd_same⟩, for_tup (xs := [.int (lo' - 1), .int lo', .int hi', .int (hi' + 1)]) (fun m σ H5 => ∃ (q : Addr) (pts : List Int) (x5 : Option V),
              σ = [some (.ref a1), some (.ref a2), some (.ref q), some (.int (0 + i)), some (.ref b), x5, some (.int (0 + j)), some (.ref e)] ∧ PT H H5 q pts kk (61 + 1300 * i + 6 + 12 * j + 3 * m) ∧ H5 tq = some (.tup [.int (lo' - 1), .int lo', .int hi', .int (hi' + 1)]) ∧ H5 b = some (.tup [.int s, .int tt, .int lo, .int hi])) ?_ ?_ ?_ ?_⟩
            · exact ⟨q, pts, _, rfl, t5, upd_same, same_new htq _ _ hb4⟩
            · rintro m σ H5 _ ⟨_, _, _, _, _, e, _⟩
              exact SqT.of e
            · rintro m x σ H5 hm ⟨q, pts, x5, rfl, t6, e6, hb6⟩
              have hml : m < 4 := (List.getElem?_eq_some_iff.mp hm).1
              obtain ⟨c, rfl, bc⟩ : ∃ c : Int, x = .int c ∧ Bz (kk + 1) c := by
                have hm := List.mem_of_getElem? hm
                have c1 : Bz kk 1 := Bz.mono (k := 1) (by decide) (by omega)
                simp only [List.mem_cons, List.not_mem_nil, or_false] at hm
                rcases hm with rfl | rfl | rfl | rfl
                · exact ⟨_, rfl, Bz.sub f3 c1⟩
                · exact ⟨_, rfl, f3.mono (by omega)⟩
                · exact ⟨_, rfl, f4.mono (by omega)⟩
                · exact ⟨_, rfl, Bz.add f4 c1⟩
              have bg : Bz (kk + 18) (p2 * c + (0 + (j : Int))) := Bz.add ((Bz.mul bp2 bc).mono (by omega)) (bj.mono (by omega))
              have rob : RowOk (kk + 18) (some (s, tt, lo, hi)) := ⟨g1.mono (by omega), g2.mono (by omega), g3.mono (by omega), g4.mono (by omega), g5⟩
              refine ⟨_, rfl, _, rfl, _, rfl, a1, _, _, _, rfl, rfl, SqT.of (t6.sm _ _ o1), rfl, _, rfl, _, rfl, a2, _, _, _, rfl, rfl, SqT.of (t6.sm _ _ w1), rfl, _, rfl, _, _, rfl, rfl, wide_mul bp2 bc (by decide) (by omega) (by omega), _, rfl, _, _, rfl, rfl,
                .ref b, some (s, tt, lo, hi), p1, 0 + (i : Int), p2 * c + (0 + (j : Int)), kk + 18, rfl, ⟨b, rfl, hb6⟩, rob, bp1, bi, bg, by omega, fun w ns H6 hw s6 h6 hb7 hl7 => ?_⟩
              refine ⟨q, w, _, _, rfl, rfl, s6 _ _ t6.at_, h6, ?_, fun u hu => ?_⟩
              · rw [List.length_map, List.length_map]
                exact Nat.le_trans (show pts.length + ns.length ≤ 200000 by have := t6.le; omega) (by decide)
              · have t7 := t6.same s6
                refine ⟨u, pts ++ ns, _, rfl, ⟨t7.sm.trans (same_new hu), t7.sm.free hu, by rw [upd_same, List.map_append], fun y hy => ?_, by rw [List.length_append]; have := t6.le; omega⟩, same_new hu _ _ (s6 _ _ e6), same_new hu _ _ (s6 _ _ hb6)⟩
                rcases List.mem_append.mp hy with hy | hy
                · exact t6.bz y hy
                · exact (hb7 y hy).mono (by omega)
            · rintro σ H5 ⟨q, pts, x5, rfl, t6, e6, hb6⟩
              exact ⟨q, pts, _, _, _, rfl, t6.mono (by show 61 + 1300 * i + 6 + 12 * j + 3 * 4 ≤ _; omega), hb6⟩
        · rintro σ H4 ⟨q, pts, x5, x6, x7, rfl, t4, hb4⟩
          exact ⟨q, pts, _, _, _, _, _, rfl, t4.mono (by omega)⟩
  · rintro σ H2 ⟨q, pts, x3, x4, x5, x6, x7, rfl, t⟩
    exact ⟨_, rfl, k q pts H2 t.sm t.at_ t.bz⟩

def sp__law_whole (K : PySem.W.Frag) : Sp := fun vs H Q _ => ∃ (d : Addr) (ds : List Int), vs = [.ref d] ∧ H d = some (.lst (ds.map V.int)) ∧
  ∀ (r : Int) (ds' : List Int), Bz 130 r → Q (.int r) (upd H d (.lst (ds'.map V.int)))
theorem c__law_whole (T : Tx K mg) : C8.Cal P w K mg base 2 "_law_whole" (sp__law_whole K) [] := by
  have C__law_take := c__law_take (P := P) (w := w) (base := base) T
  refine c_mk T.d__law_whole sc__law_whole (fun vs H Q E h => ?_) (fun f cdv A outer s H vs Q E hr h => ?_)
  · first | (obtain ⟨rfl, _⟩ := h; rfl) | (obtain ⟨_, rfl, _⟩ := h; rfl) | (obtain ⟨_, _, rfl, _⟩ := h; rfl) | (obtain ⟨_, _, _, rfl, _⟩ := h; rfl) | (obtain ⟨_, _, _, _, rfl, _⟩ := h; rfl) | (obtain ⟨_, _, _, _, _, rfl, _⟩ := h; rfl) | (obtain ⟨_, _, _, _, _, _, rfl, _⟩ := h; rfl) | (obtain ⟨_, _, _, _, _, _, _, rfl, _⟩ := h; rfl) | (obtain ⟨_, _, _, _, _, _, _, _, rfl, _⟩ := h; rfl) | (obtain ⟨_, _, _, _, _, _, _, _, _, rfl, _⟩ := h; rfl) | (obtain ⟨_, _, _, _, _, _, _, _, _, _, rfl, _⟩ := h; rfl) | (obtain ⟨_, _, _, _, _, _, _, _, _, _, _, rfl, _⟩ := h; rfl) | (obtain ⟨_, _, _, _, _, _, _, _, _, _, _, _, rfl, _⟩ := h; rfl) | (obtain ⟨_, _, _, _, _, _, _, _, _, _, _, _, _, rfl, _⟩ := h; rfl)
  have hu := hu_of hr
  refine ⟨_, (pss_cons (ps_set (i := 1) sc__law_whole.nd rfl (by first | exact Or.inl rfl | exact Or.inr rfl) (C8.pe_c (C__law_take) hr (by decide) rfl (pa_cons (pv 0) (pa_cons pe_int pa_nil))))
    (pss_cons (ps_set (i := 2) sc__law_whole.nd rfl (by first | exact Or.inl rfl | exact Or.inr rfl) (pe_op op_sub (C8.pe_c (C__law_take) hr (by decide) rfl (pa_cons (pv 0) (pa_cons pe_int pa_nil))) pe_int))
    (pss_cons (ps_if (pt_cmpR op_lt (pv 1) pe_int (nomark _)) (pss_one (ps_ret (pv 2))) pss_nil)
    (pss_cons (ps_if (pt_cmpR op_eq (pv 1) pe_int (nomark _)) (pss_one (ps_ret (pe_op op_add (pe_op op_mulW (pv 2) (pe_op op_pow pe_int pe_int)) (C8.pe_c (C__law_take) hr (by decide) rfl (pa_cons (pv 0) (pa_cons pe_int pa_nil)))))) pss_nil)
    (pss_cons (ps_if (pt_cmpR op_eq (pv 1) pe_int (nomark _)) (pss_one (ps_ret (pe_op op_add (pe_op op_mulW (pv 2) (pe_op op_pow pe_int pe_int)) (C8.pe_c (C__law_take) hr (by decide) rfl (pa_cons (pv 0) (pa_cons pe_int pa_nil)))))) pss_nil)
    (pss_one (ps_ret (pe_op op_add (pe_op op_mulW (pe_op op_sub (C8.pe_c (C__law_take) hr (by decide) rfl (pa_cons (pv 0) (pa_cons pe_int pa_nil))) pe_int) (pe_op op_pow pe_int pe_int)) (pv 2))))))))), ?_⟩
  obtain ⟨d, ds, rfl, hd, k⟩ := h
  refine ⟨_, rfl, d, ds, 8, rfl, hd, by decide, fun r0 d1 hr0 hr1 => ?_⟩
  refine ⟨_, rfl, d, d1, 13, rfl, upd_same, by decide, fun r1 d2 h0 h1 => ?_⟩
  rw [upd_upd]
  have small : Bz 4 (r1 - 6) := by
    show (r1 - 6).natAbs < 2 ^ 4
    omega
  refine ⟨_, _, rfl, rfl, ?_⟩
  refine ⟨_, rfl, _, _, rfl, rfl, _, rfl, iteD (fun _ => ⟨_, rfl, k _ d2 (small.mono (by omega))⟩) (fun _ => ?_)⟩
  have take20 : ∀ r : Int, 0 ≤ r → r < 1000003 → Bz 20 r := fun r a b => by
    show r.natAbs < 2 ^ 20
    omega
  refine ⟨_, rfl, rfl, _, rfl, iteD (fun _ => ?_) (fun _ => ?_)⟩
  · refine ⟨_, rfl, _, _, rfl, rfl, ⟨by decide, by decide, by decide⟩, _, _, rfl, rfl, wide_mul (b := 20) small (by decide) (by decide) (by decide) (by decide), _, rfl, d, d2, 1000003, rfl, upd_same, by decide, fun r2 d3 g0 g1 => ?_⟩
    rw [upd_upd]
    exact ⟨_, _, rfl, rfl, k _ d3 ((Bz.add ((Bz.mul (j := 20) small (by decide)).mono (j := 24) (by decide)) ((take20 r2 g0 g1).mono (by decide))).mono (by decide))⟩
  · refine ⟨_, rfl, rfl, _, rfl, iteD (fun _ => ?_) (fun _ => ?_)⟩
    · refine ⟨_, rfl, _, _, rfl, rfl, ⟨by decide, by decide, by decide⟩, _, _, rfl, rfl, wide_mul (b := 40) small (by decide) (by decide) (by decide) (by decide), _, rfl, d, d2, 1000003, rfl, upd_same, by decide, fun r2 d3 g0 g1 => ?_⟩
      rw [upd_upd]
      exact ⟨_, _, rfl, rfl, k _ d3 ((Bz.add ((Bz.mul (j := 40) small (by decide)).mono (j := 44) (by decide)) ((take20 r2 g0 g1).mono (by decide))).mono (by decide))⟩
    · refine ⟨_, rfl, d, d2, 1000003, rfl, upd_same, by decide, fun r2 d3 g0 g1 => ?_⟩
      rw [upd_upd]
      have b2 : Bz 20 (r2 - 500001) := by
        show (r2 - 500001).natAbs < 2 ^ 20
        omega
      refine ⟨_, _, rfl, rfl, _, _, rfl, rfl, ⟨by decide, by decide, by decide⟩, _, _, rfl, rfl, wide_mul (b := 100) b2 (by decide) (by decide) (by decide) (by decide), _, rfl, _, _, rfl, rfl, k _ d3 ?_⟩
      exact ((Bz.add ((Bz.mul (j := 100) b2 (by decide)).mono (j := 120) (by decide)) (small.mono (by decide))).mono (by decide))
def sp__law_parts (K : PySem.W.Frag) : Sp := fun vs H Q _ => ∃ (d : Addr) (ds : List Int) (m : Int), vs = [.ref d, .int m] ∧ H d = some (.lst (ds.map V.int)) ∧ 0 < m ∧ m ≤ 12 ∧
  ∀ (v : V) (l : Addr) (p : Int) (rs : List Row) (ds' : List Int) (H' : Hp), p ≤ m → H l = none → But d H H' → H' d = some (.lst (ds'.map V.int)) → Parts H' v l p rs → (∀ r ∈ rs, RowOk 140 r) → Q v H'
theorem c__law_parts (T : Tx K mg) : C8.Cal P w K mg base 3 "_law_parts" (sp__law_parts K) [] := by
  have C__law_take := c__law_take (P := P) (w := w) (base := base) T
  have C__law_whole := c__law_whole (P := P) (w := w) (base := base) T
  refine c_mk T.d__law_parts sc__law_parts (fun vs H Q E h => ?_) (fun f cdv A outer s H vs Q E hr h => ?_)
  · first | (obtain ⟨rfl, _⟩ := h; rfl) | (obtain ⟨_, rfl, _⟩ := h; rfl) | (obtain ⟨_, _, rfl, _⟩ := h; rfl) | (obtain ⟨_, _, _, rfl, _⟩ := h; rfl) | (obtain ⟨_, _, _, _, rfl, _⟩ := h; rfl) | (obtain ⟨_, _, _, _, _, rfl, _⟩ := h; rfl) | (obtain ⟨_, _, _, _, _, _, rfl, _⟩ := h; rfl) | (obtain ⟨_, _, _, _, _, _, _, rfl, _⟩ := h; rfl) | (obtain ⟨_, _, _, _, _, _, _, _, rfl, _⟩ := h; rfl) | (obtain ⟨_, _, _, _, _, _, _, _, _, rfl, _⟩ := h; rfl) | (obtain ⟨_, _, _, _, _, _, _, _, _, _, rfl, _⟩ := h; rfl) | (obtain ⟨_, _, _, _, _, _, _, _, _, _, _, rfl, _⟩ := h; rfl) | (obtain ⟨_, _, _, _, _, _, _, _, _, _, _, _, rfl, _⟩ := h; rfl) | (obtain ⟨_, _, _, _, _, _, _, _, _, _, _, _, _, rfl, _⟩ := h; rfl)
  have hu := hu_of hr
  refine ⟨_, (pss_cons (ps_set (i := 2) sc__law_parts.nd rfl (by first | exact Or.inl rfl | exact Or.inr rfl) (pe_op op_add pe_int (C8.pe_c (C__law_take) hr (by decide) rfl (pa_cons (pv 0) (pa_cons (pv 1) pa_nil)))))
    (pss_cons (ps_set (i := 3) sc__law_parts.nd rfl (by first | exact Or.inl rfl | exact Or.inr rfl) (pe_lst pa_nil))
    (pss_cons (ps_for PassesOwn.never rfl (pi_range1 rfl T.b_range (pa_cons (pv 2) pa_nil)) (pg_name (i := 4) sc__law_parts.nd rfl (by first | exact Or.inl rfl | exact Or.inr rfl)) (pss_cons (ps_set (i := 5) sc__law_parts.nd rfl (by first | exact Or.inl rfl | exact Or.inr rfl) pe_non)
    (C8.pss_cut (ps_if (pt_cmpR op_gt (C8.pe_c (C__law_take) hr (by decide) rfl (pa_cons (pv 0) (pa_cons pe_int pa_nil))) pe_int (nomark _)) (pss_cons (ps_set (i := 6) sc__law_parts.nd rfl (by first | exact Or.inl rfl | exact Or.inr rfl) (C8.pe_c (C__law_whole) hr (by decide) rfl (pa_cons (pv 0) pa_nil)))
    (pss_cons (ps_set (i := 7) sc__law_parts.nd rfl (by first | exact Or.inl rfl | exact Or.inr rfl) (pe_ix ix_list (pe_lst (pa_cons pe_int (pa_cons pe_int (pa_cons pe_int (pa_cons pe_int (pa_cons (pe_op op_pow pe_int pe_int) (pa_cons (pe_op op_pow pe_int pe_int) pa_nil))))))) (C8.pe_c (C__law_take) hr (by decide) rfl (pa_cons (pv 0) (pa_cons pe_int pa_nil))) (fun _ _ => rfl)))
    (pss_one (ps_set (i := 5) sc__law_parts.nd rfl (by first | exact Or.inl rfl | exact Or.inr rfl) (pe_tup (pa_cons (C8.pe_c (C__law_whole) hr (by decide) rfl (pa_cons (pv 0) pa_nil)) (pa_cons (C8.pe_c (C__law_whole) hr (by decide) rfl (pa_cons (pv 0) pa_nil)) (pa_cons (pv 6) (pa_cons (pe_op op_add (pv 6) (pv 7)) pa_nil))))))))) pss_nil)
    (pss_one (ps_expr (pe_bm PySem.F.plainAttrs_list PySem.F.slot_list_append PySem.F.type_list_append mt_append (pv 3) (pa_cons (pv 5) pa_nil)))))))
    (pss_one (ps_ret (pe_tup (pa_cons (pv 2) (pa_cons (pv 3) pa_nil)))))))), ?_⟩
  obtain ⟨d, ds, m, rfl, hd, hm0, hm1, k⟩ := h
  refine ⟨_, rfl, _, rfl, d, ds, m, rfl, hd, hm0, fun r0 d1 hr0 hr1 => ⟨_, _, rfl, rfl, ?_⟩⟩
  refine ⟨by decide, fun l hl => ?_⟩
  have ndl : l ≠ d := fun e => by rw [e, upd_same] at hl; cases hl
  have hl0 : H l = none := by rw [upd_ne ndl] at hl; exact hl
  refine ⟨_, rfl, _, rfl, by omega, by omega, for_range (lo := 0) (n := (1 + r0).toNat) (fun i σ H2 => ∃ (ds : List Int) (vs : List V) (rs : List Row) (x4 x5 x6 x7 : Option V),
    σ = [some (.ref d), some (.int m), some (.int (1 + r0)), some (.ref l), x4, x5, x6, x7] ∧ But d H H2 ∧ H2 d = some (.lst (ds.map V.int)) ∧ H2 l = some (.lst vs) ∧ RowsV H2 vs rs ∧ rs.length = i ∧ (∀ r ∈ rs, RowOk 140 r)) ?_ ?_ ?_⟩
  · refine ⟨d1, [], [], none, none, none, none, rfl, fun b o hb hn => ?_, ?_, upd_same, .nil, rfl, fun r hr => by cases hr⟩
    · rw [upd_ne (ne_of_none hb hl0), upd_ne hn]; exact hb
    · rw [upd_ne ndl.symm, upd_same]
  · rintro i σ H2 hi ⟨ds, vs, rs, x4, x5, x6, x7, rfl, b2, hd2, hl2, hv2, hlen, hok⟩
    refine ⟨fun σ' H' => ∃ (ds : List Int) (v : V) (r : Row) (x6 x7 : Option V),
      σ' = [some (.ref d), some (.int m), some (.int (1 + r0)), some (.ref l), some (.int (0 + i)), some v, x6, x7] ∧ But d H2 H' ∧ H' d = some (.lst (ds.map V.int)) ∧ RowV H' v r ∧ RowOk 140 r, ?_, ?_⟩
    · refine ⟨_, rfl, d, ds, 5, rfl, hd2, by decide, fun r1 e1 a0 a1 => ?_⟩
      refine ⟨_, _, rfl, rfl, _, rfl, iteD (fun _ => ?_) (fun _ => ?_)⟩
      · refine ⟨_, rfl, d, e1, rfl, upd_same, fun low e2 blow => ?_⟩
        rw [upd_upd]
        refine ⟨_, _, rfl, rfl, ⟨by decide, by decide, by decide⟩, _, _, rfl, rfl, ⟨by decide, by decide, by decide⟩, (by show 6 ≤ sizeLine; decide), fun q hq => ?_⟩
        have nqd : d ≠ q := ne_of_none upd_same hq
        refine ⟨_, rfl, d, e2, 6, rfl, by rw [upd_ne nqd, upd_same], by decide, fun r2 e3 c0 c1 => ?_⟩
        have hq3 : ∀ o, (upd (upd (upd H2 d o) q (.lst [.int 0, .int 1, .int 2, .int 5, .int (10 ^ (6 : Int).toNat), .int (10 ^ (31 : Int).toNat)])) d (.lst (e3.map V.int))) q = some (.lst [.int 0, .int 1, .int 2, .int 5, .int (10 ^ (6 : Int).toNat), .int (10 ^ (31 : Int).toNat)]) := fun o => by rw [upd_ne nqd.symm, upd_same]
        obtain ⟨wd, hwd, bwd, wd0⟩ : ∃ wd : Int, atI [V.int 0, .int 1, .int 2, .int 5, .int (10 ^ (6 : Int).toNat), .int (10 ^ (31 : Int).toNat)] r2 = some (.int wd) ∧ Bz 110 wd ∧ 0 ≤ wd := by
          have : r2 = 0 ∨ r2 = 1 ∨ r2 = 2 ∨ r2 = 3 ∨ r2 = 4 ∨ r2 = 5 := by omega
          rcases this with rfl | rfl | rfl | rfl | rfl | rfl
          · exact ⟨0, rfl, by decide, by decide⟩
          · exact ⟨1, rfl, by decide, by decide⟩
          · exact ⟨2, rfl, by decide, by decide⟩
          · exact ⟨5, rfl, by decide, by decide⟩
          · exact ⟨_, rfl, by decide, by decide⟩
          · exact ⟨_, rfl, by decide, by decide⟩
        refine ⟨q, _, _, _, rfl, rfl, SqL.of (hq3 _), hwd, ?_⟩
        have hq2 : H2 q = none := by rw [upd_ne nqd.symm] at hq; exact hq
        refine ⟨_, rfl, d, e3, rfl, upd_same, fun s e4 bs => ?_⟩
        rw [upd_upd]
        refine ⟨_, rfl, d, e4, rfl, upd_same, fun t e5 bt => ?_⟩
        rw [upd_upd]
        refine ⟨_, rfl, _, rfl, _, rfl, _, _, rfl, rfl, (by show 4 ≤ sizeLine; decide), fun tq htq => ?_⟩
        have ntd : d ≠ tq := ne_of_none upd_same htq
        have ntq : q ≠ tq := ne_of_none (show upd (upd (upd H2 d _) q _) d _ q = some _ by rw [upd_ne nqd.symm, upd_same]) htq
        refine ⟨e5, .ref tq, some (s, t, low, low + wd), _, _, rfl, fun b o hb hn => ?_, ?_, ⟨tq, rfl, upd_same⟩, bs.mono (by decide), bt.mono (by decide), blow.mono (by decide), (Bz.add blow (bwd.mono (by decide))).mono (by decide), by omega⟩
        · have nb : b ≠ q := ne_of_none hb hq2
          have nt : b ≠ tq := ne_of_none (show upd (upd (upd H2 d _) q _) d _ b = some o by rw [upd_ne hn, upd_ne nb, upd_ne hn]; exact hb) htq
          rw [upd_ne nt, upd_ne hn, upd_ne nb, upd_ne hn]
          exact hb
        · rw [upd_ne ntd, upd_same]
      · exact ⟨e1, .non, none, _, _, rfl, But.upd, upd_same, rfl, trivial⟩
    · rintro σ' H' ⟨ds, v, r, x6, x7, rfl, b3, hd3, hv3, hr3⟩
      have hl3 := b3 _ _ hl2 ndl
      have el := pr_len hv2
      refine ⟨_, rfl, .inl ⟨rfl, _, .inl (.inl hl3)⟩, _, rfl, l, _, _, rfl, rfl, hl3, Nat.lt_of_le_of_lt (show vs.length ≤ 100 by omega) (by decide), ?_⟩
      have tp : Tups H' (upd H' l (.lst (vs ++ [v]))) := fun b xs hb => by
        rw [upd_ne (ne_of hb hl3 (by intro z; cases z))]
        exact hb
      refine ⟨ds, vs ++ [v], rs ++ [r], _, _, _, _, rfl, fun b o hb hn => ?_, ?_, upd_same, ?_, by rw [List.length_append, hlen]; rfl, fun z hz => ?_⟩
      · rw [upd_ne (ne_of_none hb hl0)]
        exact b3 _ _ (b2 _ _ hb hn) hn
      · rw [upd_ne ndl.symm]; exact hd3
      · exact pr_app ((hv2.mono (Tups.but b3 hd2)).mono tp) (.cons (hv3.mono tp) .nil)
      · rcases List.mem_append.mp hz with hz | hz
        · exact hok z hz
        · cases (List.mem_singleton.mp hz)
          exact hr3
  · rintro σ H2 ⟨ds, vs, rs, x4, x5, x6, x7, rfl, b2, hd2, hl2, hv2, hlen, hok⟩
    refine ⟨_, rfl, _, rfl, (by show 2 ≤ sizeLine; decide), fun q hq => ?_⟩
    have s3 : Same H2 (upd H2 q (.tup [.int (1 + r0), .ref l])) := same_new hq
    exact k (.ref q) l (1 + r0) rs ds _ (by omega) hl0 (fun b o hb hn => s3 _ _ (b2 _ _ hb hn)) (s3 _ _ hd2) ⟨⟨q, vs, rfl, upd_same, s3 _ _ hl2, hv2.mono (Tups.of s3)⟩, by omega, by omega⟩ hok

def But2 (d l : Addr) (H H' : Hp) : Prop := ∀ b o, H b = some o → b ≠ d → b ≠ l → H' b = some o
theorem RowOk.mono {k j : Nat} (h : k ≤ j) : ∀ {r : Row}, RowOk k r → RowOk j r
  | none, _ => trivial
  | some (_, _, _, _), ⟨a, b, c, d, e⟩ => ⟨a.mono h, b.mono h, c.mono h, d.mono h, e⟩
def sp__law_aimed (K : PySem.W.Frag) : Sp := fun vs H Q _ => ∃ (d : Addr) (ds : List Int) (v1 v2 : V) (l1 l2 : Addr) (p1 p2 : Int) (rs1 rs2 : List Row), vs = [.ref d, v1, v2] ∧ H d = some (.lst (ds.map V.int)) ∧ Parts H v1 l1 p1 rs1 ∧ Parts H v2 l2 p2 rs2 ∧
  (∀ r ∈ rs1, RowOk 140 r) ∧ (∀ r ∈ rs2, RowOk 140 r) ∧ p1 ≤ 100 ∧ p2 ≤ 100 ∧ l1 ≠ d ∧ l2 ≠ d ∧ l1 ≠ l2 ∧
  ∀ (v : V) (rs : List Row) (ds' : List Int) (H' : Hp), But2 d l1 H H' → H' d = some (.lst (ds'.map V.int)) → Parts H' v l1 p1 rs → (∀ r ∈ rs, RowOk 310 r) → Q v H'
/-- an index within -/
theorem ixN_in {n : Nat} {i : Int} (h0 : 0 ≤ i) (h1 : i < (n : Int)) : ixN n i = some i.toNat := by
  unfold ixN
  rw [if_pos h0, if_pos h1]
theorem c__law_aimed (T : Tx K mg) : C8.Cal P w K mg base 2 "_law_aimed" (sp__law_aimed K) [] := by
  have C__law_take := c__law_take (P := P) (w := w) (base := base) T
  refine c_mk T.d__law_aimed sc__law_aimed (fun vs H Q E h => ?_) (fun f cdv A outer s H vs Q E hr h => ?_)
  · first | (obtain ⟨rfl, _⟩ := h; rfl) | (obtain ⟨_, rfl, _⟩ := h; rfl) | (obtain ⟨_, _, rfl, _⟩ := h; rfl) | (obtain ⟨_, _, _, rfl, _⟩ := h; rfl) | (obtain ⟨_, _, _, _, rfl, _⟩ := h; rfl) | (obtain ⟨_, _, _, _, _, rfl, _⟩ := h; rfl) | (obtain ⟨_, _, _, _, _, _, rfl, _⟩ := h; rfl) | (obtain ⟨_, _, _, _, _, _, _, rfl, _⟩ := h; rfl) | (obtain ⟨_, _, _, _, _, _, _, _, rfl, _⟩ := h; rfl) | (obtain ⟨_, _, _, _, _, _, _, _, _, rfl, _⟩ := h; rfl) | (obtain ⟨_, _, _, _, _, _, _, _, _, _, rfl, _⟩ := h; rfl) | (obtain ⟨_, _, _, _, _, _, _, _, _, _, _, rfl, _⟩ := h; rfl) | (obtain ⟨_, _, _, _, _, _, _, _, _, _, _, _, rfl, _⟩ := h; rfl) | (obtain ⟨_, _, _, _, _, _, _, _, _, _, _, _, _, rfl, _⟩ := h; rfl)
  have hu := hu_of hr
  refine ⟨_, (pss_cons (ps_asg (pv 1) (pg_tup rfl (pgs_cons (pg_name (i := 3) sc__law_aimed.nd rfl (by first | exact Or.inl rfl | exact Or.inr rfl)) (pgs_cons (pg_name (i := 4) sc__law_aimed.nd rfl (by first | exact Or.inl rfl | exact Or.inr rfl)) pgs_nil))))
    (pss_cons (ps_for PassesOwn.never rfl (pi_range1 rfl T.b_range (pa_cons (pv 3) pa_nil)) (pg_name (i := 5) sc__law_aimed.nd rfl (by first | exact Or.inl rfl | exact Or.inr rfl)) (pss_cons (ps_set (i := 6) sc__law_aimed.nd rfl (by first | exact Or.inl rfl | exact Or.inr rfl) (pe_ix ix_list (pe_ix ix_tup (pv 2) pe_int (fun _ _ => rfl)) (C8.pe_c (C__law_take) hr (by decide) rfl (pa_cons (pv 0) (pa_cons (pe_ix ix_tup (pv 2) pe_int (fun _ _ => rfl)) pa_nil))) (fun _ _ => rfl)))
    (pss_cons (ps_set (i := 7) sc__law_aimed.nd rfl (by first | exact Or.inl rfl | exact Or.inr rfl) (pe_ix ix_list (pv 4) (pv 5) (fun _ _ => rfl)))
    (pss_one (ps_if (PW.pt (pw_and (pt_cmpR op_notN (pv 7) pe_non (nomark _)) (pw_and1 (pt_cmpR op_notN (pv 6) pe_non (nomark _))))) (pss_cons (ps_set (i := 8) sc__law_aimed.nd rfl (by first | exact Or.inl rfl | exact Or.inr rfl) (pe_ix ix_tup (pv 6) (pe_op op_add pe_int (C8.pe_c (C__law_take) hr (by decide) rfl (pa_cons (pv 0) (pa_cons pe_int pa_nil)))) (fun _ _ => rfl)))
    (pss_cons (ps_set (i := 9) sc__law_aimed.nd rfl (by first | exact Or.inl rfl | exact Or.inr rfl) (pe_op op_add (pe_ix ix_tup (pv 7) pe_int (fun _ _ => rfl)) (pe_op op_mulW (C8.pe_c (C__law_take) hr (by decide) rfl (pa_cons (pv 0) (pa_cons pe_int pa_nil))) (pe_op op_sub (pe_ix ix_tup (pv 7) pe_int (fun _ _ => rfl)) (pe_ix ix_tup (pv 7) pe_int (fun _ _ => rfl))))))
    (pss_cons (ps_set (i := 10) sc__law_aimed.nd rfl (by first | exact Or.inl rfl | exact Or.inr rfl) (pe_ix ix_list (pe_lst (pa_cons (pe_ix ix_tup (pv 7) pe_int (fun _ _ => rfl)) (pa_cons pe_int (pa_cons (pe_un un_neg pe_int) (pa_cons pe_int pa_nil))))) (C8.pe_c (C__law_take) hr (by decide) rfl (pa_cons (pv 0) (pa_cons pe_int pa_nil))) (fun _ _ => rfl)))
    (pss_cons (ps_set (i := 11) sc__law_aimed.nd rfl (by first | exact Or.inl rfl | exact Or.inr rfl) (pe_op op_sub (pe_op op_add (pe_op op_mulW (pe_ix ix_tup (pv 2) pe_int (fun _ _ => rfl)) (pv 8)) (C8.pe_c (C__law_take) hr (by decide) rfl (pa_cons (pv 0) (pa_cons (pe_ix ix_tup (pv 2) pe_int (fun _ _ => rfl)) pa_nil)))) (pe_op op_mulW (pv 10) (pv 9))))
    (pss_one (ps_asg (pe_tup (pa_cons (pv 10) (pa_cons (pv 11) (pa_cons (pe_ix ix_tup (pv 7) pe_int (fun _ _ => rfl)) (pa_cons (pe_ix ix_tup (pv 7) pe_int (fun _ _ => rfl)) pa_nil))))) (pg_sub (pv 4) (pv 5) set_list))))))) pss_nil)))))
    (pss_one (ps_ret (pe_tup (pa_cons (pv 3) (pa_cons (pv 4) pa_nil))))))), ?_⟩
  obtain ⟨d, ds, v1, v2, l1, l2, p1, p2, rs1, rs2, rfl, hd, hP1, hP2, ok1, ok2, hp1, hp2, nd1, nd2, n12, k⟩ := h
  obtain ⟨⟨a1, us1, rfl, o1, o2, o3⟩, o4, hpp1⟩ := hP1
  obtain ⟨⟨a2, us2, rfl, w1, w2, w3⟩, w4, hpp2⟩ := hP2
  have bp2 : Bz 16 p2 := bz16 (by omega) (by omega)
  refine ⟨_, rfl, a1, _, rfl, SqT.of o1, rfl, _, _, rfl, _, _, rfl, rfl, ?_⟩
  refine ⟨_, rfl, _, rfl, by omega, by omega, for_range (lo := 0) (n := p1.toNat) (fun i σ H2 => ∃ (ds : List Int) (vs : List V) (rs : List Row) (x5 x6 x7 x8 x9 x10 x11 : Option V),
    σ = [some (.ref d), some (.ref a1), some (.ref a2), some (.int p1), some (.ref l1), x5, x6, x7, x8, x9, x10, x11] ∧ But2 d l1 H H2 ∧ H2 d = some (.lst (ds.map V.int)) ∧ H2 l1 = some (.lst vs) ∧ RowsV H2 vs rs ∧ rs.length = rs1.length ∧ (∀ r ∈ rs, RowOk 310 r) ∧ (∀ (j : Nat) r, i ≤ j → rs[j]? = some r → RowOk 140 r)) ?_ ?_ ?_⟩
  · exact ⟨ds, us1, rs1, none, none, none, none, none, none, none, rfl, fun b o hb _ _ => hb, hd, o2, o3, rfl, fun r hr => (ok1 r hr).mono (by decide), fun j r _ hj => ok1 r (List.mem_of_getElem? hj)⟩
  · rintro i σ H2 hi ⟨ds, vs, rs, x5, x6, x7, x8, x9, x10, x11, rfl, b2, hd2, hl2, hv2, hlen, hok, hok2⟩
    have na2d : a2 ≠ d := ne_of w1 hd (by intro z; cases z)
    have na2l : a2 ≠ l1 := ne_of w1 o2 (by intro z; cases z)
    have g1 := b2 _ _ w1 na2d na2l
    have g2 := b2 _ _ w2 nd2 n12.symm
    -- goal = second[1][_law_take(deck, second[0])]
    refine ⟨_, rfl, a2, _, _, _, rfl, rfl, SqT.of g1, rfl, _, rfl, _, rfl, a2, _, _, _, rfl, rfl, SqT.of g1, rfl, d, ds, p2, rfl, hd2, hpp2, fun r0 e1 c0 c1 => ?_⟩
    have tp3 : Tups H2 (upd H2 d (.lst (e1.map V.int))) := fun b xs hb => by rw [upd_ne (ne_of hb hd2 (by intro z; cases z))]; exact hb
    have tp0 : Tups H H2 := fun b xs hb => b2 _ _ hb (ne_of hb hd (by intro z; cases z)) (ne_of hb o2 (by intro z; cases z))
    obtain ⟨v, atv, hv⟩ := rows_at ((w3.mono tp0).mono tp3) (i := r0) c0 (by rw [w4]; exact c1)
    obtain ⟨u, atu, hu⟩ := rows_at (hv2.mono tp3) (i := 0 + (i : Int)) (by omega) (by omega)
    have hl3 : upd H2 d (.lst (e1.map V.int)) l1 = some (.lst vs) := by rw [upd_ne nd1]; exact hl2
    have hd3 : upd H2 d (.lst (e1.map V.int)) d = some (.lst (e1.map V.int)) := upd_same
    have b3 : But2 d l1 H (upd H2 d (.lst (e1.map V.int))) := fun b o hb n1 n2 => by rw [upd_ne n1]; exact b2 _ _ hb n1 n2
    have g3 : upd H2 d (.lst (e1.map V.int)) a2 = some (.tup [.int p2, .ref l2]) := by rw [upd_ne na2d]; exact g1
    have g4 : upd H2 d (.lst (e1.map V.int)) l2 = some (.lst us2) := by rw [upd_ne nd2]; exact g2
    have hv3 := hv2.mono tp3
    generalize upd H2 d (.lst (e1.map V.int)) = H3 at *
    refine ⟨l2, _, _, _, rfl, rfl, SqL.of g4, atv, ?_⟩
    refine ⟨_, rfl, _, rfl, l1, _, _, _, rfl, rfl, SqL.of hl3, atu, ?_⟩
    have rou : RowOk 140 (rowAt rs (0 + (i : Int))) := by
      unfold rowAt
      cases e : rs[((0 : Int) + (i : Int)).toNat]? with
      | none => trivial
      | some r => exact hok2 _ r (by omega) e
    have roA : RowOk 310 (rowAt rs (0 + (i : Int))) := rou.mono (by decide)
    have rov := rowAt_ok ok2 r0
    have keep : ∃ (ds : List Int) (vs : List V) (rs : List Row) (y5 y6 y7 y8 y9 y10 y11 : Option V), ([some (.ref d), some (.ref a1), some (.ref a2), some (.int p1), some (.ref l1), some (.int (0 + i)), some v, some u, x8, x9, x10, x11] : List (Option V)) = [some (.ref d), some (.ref a1), some (.ref a2), some (.int p1), some (.ref l1), y5, y6, y7, y8, y9, y10, y11] ∧ But2 d l1 H H3 ∧ H3 d = some (.lst (ds.map V.int)) ∧ H3 l1 = some (.lst vs) ∧ RowsV H3 vs rs ∧ rs.length = rs1.length ∧ (∀ r ∈ rs, RowOk 310 r) ∧ (∀ (j : Nat) r, i + 1 ≤ j → rs[j]? = some r → RowOk 140 r) :=
      ⟨e1, vs, rs, _, _, _, _, _, _, _, rfl, b3, hd3, hl3, hv3, hlen, hok, fun j r hj => hok2 j r (by omega)⟩
    refine ⟨_, rfl, rfl, _, rfl, ?_⟩
    generalize rowAt rs (0 + (i : Int)) = ru at hu rou roA
    cases ru with
    | none =>
      cases (show u = .non from hu)
      refine iteN (fun e => absurd rfl e) (fun _ => ?_)
      exact iteF keep
    | some q =>
      obtain ⟨s, t, lo, hi⟩ := q
      obtain ⟨bu, rfl, hbu⟩ := hu
      obtain ⟨f1, f2, f3, f4, f5⟩ := rou
      refine iteN (fun _ => ?_) (fun e => by cases e)
      refine ⟨_, rfl, rfl, _, rfl, ?_⟩
      generalize rowAt rs2 r0 = rv at hv rov
      cases rv with
      | none =>
        cases (show v = .non from hv)
        refine iteN (fun e => absurd rfl e) (fun _ => ?_)
        exact keep
      | some q2 =>
        obtain ⟨s2, t2, lo2, hi2⟩ := q2
        obtain ⟨bv, rfl, hbv⟩ := hv
        obtain ⟨m1, m2, m3, m4, m5⟩ := rov
        refine iteN (fun _ => ?_) (fun e => by cases e)
        -- end = goal[2 + _law_take(deck, 2)]
        refine ⟨_, rfl, _, rfl, d, e1, 2, rfl, hd3, by decide, fun r1 e2 c2 c3 => ⟨_, _, rfl, rfl, ?_⟩⟩
        obtain ⟨en, hen, ben⟩ : ∃ en : Int, atI [V.int s2, .int t2, .int lo2, .int hi2] (2 + r1) = some (.int en) ∧ Bz 140 en := by
          have : r1 = 0 ∨ r1 = 1 := by omega
          rcases this with rfl | rfl
          · exact ⟨lo2, rfl, m3⟩
          · exact ⟨hi2, rfl, m4⟩
        have nbud : bu ≠ d := ne_of hbu hd3 (by intro z; cases z)
        have nbvd : bv ≠ d := ne_of hbv hd3 (by intro z; cases z)
        have na2 : a2 ≠ d := ne_of g3 hd3 (by intro z; cases z)
        refine ⟨bv, _, _, _, rfl, rfl, SqT.of (by rw [upd_ne nbvd]; exact hbv), hen, ?_⟩
        -- inside = row[2] + _law_take(deck, 2) * (row[3] - row[2])
        refine ⟨_, rfl, bu, _, _, _, rfl, rfl, SqT.of (by rw [upd_ne nbud]; exact hbu), rfl, _, rfl, d, e2, 2, rfl, upd_same, by decide, fun r2 e3 c4 c5 => ?_⟩
        rw [upd_upd]
        have hbu3 : ∀ o, upd H3 d o bu = some (.tup [.int s, .int t, .int lo, .int hi]) := fun o => by rw [upd_ne nbud]; exact hbu
        have br2 : Bz 1 r2 := by
          show r2.natAbs < 2 ^ 1
          omega
        refine ⟨_, rfl, bu, _, _, _, rfl, rfl, SqT.of (hbu3 _), rfl, _, rfl, bu, _, _, _, rfl, rfl, SqT.of (hbu3 _), rfl, _, _, rfl, rfl, _, _, rfl, rfl, wide_mul br2 (Bz.sub f4 f3) (by decide) (by decide) (by decide), _, _, rfl, rfl, ?_⟩
        have bin : Bz 143 (lo + r2 * (hi - lo)) := Bz.add (f3.mono (by decide)) ((Bz.mul br2 (Bz.sub f4 f3)).mono (by decide))
        -- slope = [row[0], 1, -1, 0][_law_take(deck, 4)]
        refine ⟨_, rfl, bu, _, _, _, rfl, rfl, SqT.of (hbu3 _), rfl, _, rfl, (by show 4 ≤ sizeLine; decide), fun q hq => ?_⟩
        have nqd : q ≠ d := fun e => by rw [e, upd_same] at hq; cases hq
        have hq3 : H3 q = none := by rw [upd_ne nqd] at hq; exact hq
        refine ⟨_, rfl, d, e3, 4, rfl, by rw [upd_ne nqd.symm, upd_same], by decide, fun r3 e4 c6 c7 => ?_⟩
        obtain ⟨sl, hsl, bsl⟩ : ∃ sl : Int, atI [V.int s, .int 1, .int (-1), .int 0] r3 = some (.int sl) ∧ Bz 140 sl := by
          have : r3 = 0 ∨ r3 = 1 ∨ r3 = 2 ∨ r3 = 3 := by omega
          rcases this with rfl | rfl | rfl | rfl
          · exact ⟨s, rfl, f1⟩
          · exact ⟨1, rfl, by decide⟩
          · exact ⟨-1, rfl, by decide⟩
          · exact ⟨0, rfl, by decide⟩
        refine ⟨q, _, _, _, rfl, rfl, SqL.of (by rw [upd_ne nqd, upd_same]), hsl, ?_⟩
        -- start
        have nq : ∀ {b : Addr} {o : HO}, H3 b = some o → b ≠ q := fun hb => ne_of_none hb hq3
        have sur : ∀ (o1 o2 : HO) {b : Addr} {o : HO}, H3 b = some o → b ≠ d → upd (upd (upd H3 d o1) q (.lst [.int s, .int 1, .int (-1), .int 0])) d o2 b = some o := fun o1 o2 b o hb hn => by
          rw [upd_ne hn, upd_ne (nq hb), upd_ne hn]
          exact hb
        refine ⟨_, rfl, a2, _, _, _, rfl, rfl, SqT.of (sur _ _ g3 na2), rfl, _, rfl, _, _, rfl, rfl, wide_mul bp2 ben (by decide) (by decide) (by decide), _, rfl, _, rfl, a2, _, _, _, rfl, rfl, SqT.of (sur _ _ g3 na2), rfl, d, e4, p2, rfl, upd_same, hpp2, fun r4 e5 c8 c9 => ?_⟩
        rw [upd_upd]
        refine ⟨_, _, rfl, rfl, _, rfl, _, rfl, _, _, rfl, rfl, wide_mul bsl bin (by decide) (by decide) (by decide), _, _, rfl, rfl, ?_⟩
        have bst : Bz 300 (p2 * en + r4 - sl * (lo + r2 * (hi - lo))) := by
          have z1 : Bz 157 (p2 * en + r4) := Bz.add (Bz.mul bp2 ben) ((bz16 c8 (by omega)).mono (by decide))
          have z2 : Bz 283 (sl * (lo + r2 * (hi - lo))) := Bz.mul bsl bin
          exact (Bz.sub (z1.mono (j := 283) (by decide)) z2).mono (by decide)
        -- rows[at] = (slope, start, row[2], row[3])
        refine ⟨_, rfl, _, rfl, _, rfl, bu, _, _, _, rfl, rfl, SqT.of (sur _ _ hbu nbud), rfl, _, rfl, bu, _, _, _, rfl, rfl, SqT.of (sur _ _ hbu nbud), rfl, (by show 4 ≤ sizeLine; decide), fun w hw => ?_⟩
        have hw3 : H3 w = none := by
          have nwd : w ≠ d := fun e => by rw [e, upd_same] at hw; cases hw
          have nwq : w ≠ q := fun e => by rw [e, upd_ne nqd, upd_same] at hw; cases hw
          rw [upd_ne nwd, upd_ne nwq, upd_ne nwd] at hw
          exact hw
        have nwl : l1 ≠ w := ne_of_none hl3 hw3
        have ndw : d ≠ w := ne_of_none hd3 hw3
        have el := pr_len hv3
        refine ⟨_, rfl, _, rfl, l1, _, _, _, rfl, rfl, by rw [upd_ne nwl]; exact sur _ _ hl3 nd1, ixN_in (by omega) (by omega), ?_⟩
        have tp : Tups H3 (upd (upd (upd (upd (upd H3 d (.lst (e3.map V.int))) q (.lst [.int s, .int 1, .int (-1), .int 0])) d (.lst (e5.map V.int))) w (.tup [.int sl, .int (p2 * en + r4 - sl * (lo + r2 * (hi - lo))), .int lo, .int hi])) l1 (.lst (vs.set ((0 : Int) + (i : Int)).toNat (.ref w)))) := fun b xs hb => by
          rw [upd_ne (ne_of hb hl3 (by intro z; cases z)), upd_ne (ne_of_none hb hw3)]
          exact sur _ _ hb (ne_of hb hd3 (by intro z; cases z))
        refine ⟨e5, vs.set ((0 : Int) + (i : Int)).toNat (.ref w), rs.set ((0 : Int) + (i : Int)).toNat (some (sl, p2 * en + r4 - sl * (lo + r2 * (hi - lo)), lo, hi)), _, _, _, _, _, _, _, rfl, fun b o hb n1 n2 => ?_, ?_, upd_same, ?_, by rw [List.length_set]; exact hlen, fun r hr => ?_, fun j r hj hr => ?_⟩
        · rw [upd_ne n2, upd_ne (ne_of_none (b3 _ _ hb n1 n2) hw3)]
          exact sur _ _ (b3 _ _ hb n1 n2) n1
        · rw [upd_ne nd1.symm, upd_ne ndw, upd_same]
        · refine pr_set ⟨w, rfl, ?_⟩ _ (hv3.mono tp)
          rw [upd_ne nwl.symm, upd_same]
        · rcases List.mem_or_eq_of_mem_set hr with hr | rfl
          · exact hok r hr
          · exact ⟨bsl.mono (by decide), bst.mono (by decide), f3.mono (by decide), f4.mono (by decide), f5⟩
        · rw [List.getElem?_set_ne (by omega)] at hr
          exact hok2 j r (by omega) hr
  · rintro σ H2 ⟨ds, vs, rs, x5, x6, x7, x8, x9, x10, x11, rfl, b2, hd2, hl2, hv2, hlen, hok, _⟩
    refine ⟨_, rfl, _, rfl, (by show 2 ≤ sizeLine; decide), fun q hq => ?_⟩
    have s3 : Same H2 (upd H2 q (.tup [.int p1, .ref l1])) := same_new hq
    exact k (.ref q) rs ds _ (fun b o hb n1 n2 => s3 _ _ (b2 _ _ hb n1 n2)) (s3 _ _ hd2) ⟨⟨q, vs, rfl, upd_same, s3 _ _ hl2, hv2.mono (Tups.of s3)⟩, by omega, hpp1⟩ hok

/-! ### equality of row lists -/
def rowD : Row → PyData
  | none => .none
  | some (a, b, c, d) => .tuple [.int a, .int b, .int c, .int d]
instance instDatumRow : PySem.W.Datum Row where
  toD := rowD
  plain r := by
    cases r with
    | none => rfl
    | some q => obtain ⟨a, b, c, d⟩ := q; rfl
  eqv r s := by
    cases r with
    | none =>
      cases s with
      | none => rfl
      | some q => obtain ⟨a, b, c, d⟩ := q; rfl
    | some q =>
      obtain ⟨a, b, c, d⟩ := q
      cases s with
      | none => rfl
      | some q' =>
        obtain ⟨a', b', c', d'⟩ := q'
        have e : decide (some (a, b, c, d) = some (a', b', c', d')) = (decide (a = a') && (decide (b = b') && (decide (c = c') && decide (d = d')))) := by
          rw [Bool.eq_iff_iff]
          simp
        rw [e]
        simp only [rowD, PyData.eqv, PyData.eqvAll, Bool.and_true, PySem.W.beq_decide]
  depth := 1
  depth_le r := by
    cases r with
    | none => exact Nat.zero_le _
    | some q => obtain ⟨a, b, c, d⟩ := q; exact Nat.le_refl _
theorem RowV.dp {K : PySem.W.Frag} {H : Hp} {v : V} {r : Row} (h : RowV H v r) : Dp K H v (toD r) := by
  cases r with
  | none =>
    cases (show v = .non from h)
    exact .non
  | some q =>
    obtain ⟨a, b, c, d⟩ := q
    obtain ⟨p, rfl, hp⟩ := h
    exact .tup (SqT.of hp) (.cons (.int _) (.cons (.int _) (.cons (.int _) (.cons (.int _) .nil))))
theorem RowsV.dps {K : PySem.W.Frag} {H : Hp} : ∀ {vs : List V} {rs : List Row}, RowsV H vs rs → DpAll K H vs (rs.map toD)
  | _, _, .nil => .nil
  | _, _, .cons r t => .cons r.dp (RowsV.dps t)
theorem RowsV.dp {K : PySem.W.Frag} {H : Hp} {l : Addr} {vs : List V} {rs : List Row} (h : RowsV H vs rs) (hl : H l = some (.lst vs)) : Dp K H (.ref l) (toD rs) := .lst (SqL.of hl) h.dps
def sp_law (K : PySem.W.Frag) : Sp := fun vs H Q _ => ∃ (a : Addr) (ns : List Int), vs = [.ref a] ∧ SqL K H a (ns.map V.int) ∧ ns.length ≤ 63 ∧ ∀ H', Q (.bl true) H'
theorem made {H : Hp} {x dx C : Addr} (hx : H x = none) (hdx : H dx = none) : Same H (upd (upd H dx (.own x)) x (.ins C dx [])) := fun b o e => by
  rw [upd_ne (ne_of_none e hx), upd_ne (ne_of_none e hdx)]
  exact e
theorem ok_law {f : Addr} {fd : FuncData} (F : FnP K "law" "law" s_law f fd) (T : Tx K mg) : FnOk P w K mg base C8.CX0 4 f fd ["script"] (sp_law K) := by
  have C__law_points := c__law_points (P := P) (w := w) (base := base) T
  have C__law_same := c__law_same (P := P) (w := w) (base := base) T
  have M_NumberMap_image := c_NumberMap_image (P := P) (w := w) (base := base) T
  have C__law_number_image := c__law_number_image (P := P) (w := w) (base := base) T
  have C__law_then := c__law_then (P := P) (w := w) (base := base) T
  have M_NumberMap_then := c_NumberMap_then (P := P) (w := w) (base := base) T
  have K_NumberMap := c_NumberMap___init__ (P := P) (w := w) (base := base) T
  have C__law_take := c__law_take (P := P) (w := w) (base := base) T
  have C__law_aimed := c__law_aimed (P := P) (w := w) (base := base) T
  have C__law_parts := c__law_parts (P := P) (w := w) (base := base) T
  have C__law_deck := c__law_deck (P := P) (w := w) (base := base) T
  refine law_mk F sc_law (fun vs H Q E h => ?_) (fun f cdv A outer s H vs Q E hr h => ?_)
  · first | (obtain ⟨rfl, _⟩ := h; rfl) | (obtain ⟨_, rfl, _⟩ := h; rfl) | (obtain ⟨_, _, rfl, _⟩ := h; rfl) | (obtain ⟨_, _, _, rfl, _⟩ := h; rfl) | (obtain ⟨_, _, _, _, rfl, _⟩ := h; rfl) | (obtain ⟨_, _, _, _, _, rfl, _⟩ := h; rfl) | (obtain ⟨_, _, _, _, _, _, rfl, _⟩ := h; rfl) | (obtain ⟨_, _, _, _, _, _, _, rfl, _⟩ := h; rfl) | (obtain ⟨_, _, _, _, _, _, _, _, rfl, _⟩ := h; rfl) | (obtain ⟨_, _, _, _, _, _, _, _, _, rfl, _⟩ := h; rfl) | (obtain ⟨_, _, _, _, _, _, _, _, _, _, rfl, _⟩ := h; rfl) | (obtain ⟨_, _, _, _, _, _, _, _, _, _, _, rfl, _⟩ := h; rfl) | (obtain ⟨_, _, _, _, _, _, _, _, _, _, _, _, rfl, _⟩ := h; rfl) | (obtain ⟨_, _, _, _, _, _, _, _, _, _, _, _, _, rfl, _⟩ := h; rfl)
  have hu := hu_of hr
  refine ⟨_, (pss_cons (ps_set (i := 1) sc_law.nd rfl (by first | exact Or.inl rfl | exact Or.inr rfl) (C8.pe_c (C__law_deck) hr (by decide) rfl (pa_cons (pv 0) (pa_cons pe_int (pa_cons pe_int pa_nil)))))
    (pss_cons (ps_set (i := 2) sc_law.nd rfl (by first | exact Or.inl rfl | exact Or.inr rfl) (C8.pe_c (C__law_parts) hr (by decide) rfl (pa_cons (pv 1) (pa_cons (pe_ix ix_list (pe_lst (pa_cons pe_int (pa_cons pe_int (pa_cons pe_int (pa_cons pe_int pa_nil))))) (C8.pe_c (C__law_take) hr (by decide) rfl (pa_cons (pv 1) (pa_cons pe_int pa_nil))) (fun _ _ => rfl)) pa_nil))))
    (pss_cons (ps_set (i := 3) sc_law.nd rfl (by first | exact Or.inl rfl | exact Or.inr rfl) (C8.pe_c (C__law_parts) hr (by decide) rfl (pa_cons (pv 1) (pa_cons (pe_ix ix_list (pe_lst (pa_cons pe_int (pa_cons pe_int (pa_cons pe_int pa_nil)))) (C8.pe_c (C__law_take) hr (by decide) rfl (pa_cons (pv 1) (pa_cons pe_int pa_nil))) (fun _ _ => rfl)) pa_nil))))
    (C8.pss_cut (ps_if (pt_cmpR op_eq (C8.pe_c (C__law_take) hr (by decide) rfl (pa_cons (pv 1) (pa_cons pe_int pa_nil))) pe_int (nomark _)) (pss_one (ps_set (i := 3) sc_law.nd rfl (by first | exact Or.inl rfl | exact Or.inr rfl) (C8.pe_c (C__law_aimed) hr (by decide) rfl (pa_cons (pv 1) (pa_cons (pv 3) (pa_cons (pv 2) pa_nil)))))) pss_nil)
    (pss_cons (ps_set (i := 4) sc_law.nd rfl (by first | exact Or.inl rfl | exact Or.inr rfl) (C8.pe_mk (K_NumberMap) hr (by decide) rfl (pa_cons (pe_ix ix_tup (pv 3) pe_int (fun _ _ => rfl)) (pa_cons (pe_callTy call_list_of rfl T.b_list (by decide +kernel) (pa_cons (pe_ix ix_tup (pv 3) pe_int (fun _ _ => rfl)) pa_nil)) pa_nil))))
    (pss_cons (ps_set (i := 5) sc_law.nd rfl (by first | exact Or.inl rfl | exact Or.inr rfl) (C8.pe_mk (K_NumberMap) hr (by decide) rfl (pa_cons (pe_ix ix_tup (pv 2) pe_int (fun _ _ => rfl)) (pa_cons (pe_callTy call_list_of rfl T.b_list (by decide +kernel) (pa_cons (pe_ix ix_tup (pv 2) pe_int (fun _ _ => rfl)) pa_nil)) pa_nil))))
    (pss_cons (ps_set (i := 6) sc_law.nd rfl (by first | exact Or.inl rfl | exact Or.inr rfl) (C8.pe_mt (M_NumberMap_then) hr (by decide) (pv 4) (pa_cons (pv 5) pa_nil)))
    (pss_cons (ps_if (PW.pt (pw_or (pt_not (pt_val (pe_callB (C8.call_isC T.is_NumberMap) rfl T.b_isinstance (by decide +kernel) (pa_cons (pv 6) (pa_cons (pe_glob (v := .ref (He.ga K "NumberMap")) rfl T.g_NumberMap rfl) pa_nil))))) (pw_or1 (pt_not (pt_chain op_le op_le pe_int (pe_fld (pv 6) rfl) (pe_op op_mulW (pe_ix ix_tup (pv 3) pe_int (fun _ _ => rfl)) (pe_ix ix_tup (pv 2) pe_int (fun _ _ => rfl)))))))) (pss_one (ps_ret pe_bl)) pss_nil)
    (pss_cons (ps_set (i := 7) sc_law.nd rfl (by first | exact Or.inl rfl | exact Or.inr rfl) (C8.pe_mt (M_NumberMap_then) hr (by decide) (pv 6) (pa_cons (pv 4) pa_nil)))
    (pss_cons (ps_if (PW.pt (pw_or (pt_not (pt_val (pe_callB (C8.call_isC T.is_NumberMap) rfl T.b_isinstance (by decide +kernel) (pa_cons (pv 7) (pa_cons (pe_glob (v := .ref (He.ga K "NumberMap")) rfl T.g_NumberMap rfl) pa_nil))))) (pw_or1 (pt_not (pt_chain op_le op_le pe_int (pe_fld (pv 7) rfl) (pe_op op_mulW (pe_fld (pv 6) rfl) (pe_ix ix_tup (pv 3) pe_int (fun _ _ => rfl)))))))) (pss_one (ps_ret pe_bl)) pss_nil)
    (pss_cons (ps_for PassesOwn.never rfl (pi_list (C8.pe_c (C__law_points) hr (by decide) rfl (pa_cons (pv 3) (pa_cons (pv 2) pa_nil)))) (pg_name (i := 8) sc_law.nd rfl (by first | exact Or.inl rfl | exact Or.inr rfl)) (pss_cons (ps_set (i := 9) sc_law.nd rfl (by first | exact Or.inl rfl | exact Or.inr rfl) (C8.pe_c (C__law_then) hr (by decide) rfl (pa_cons (pv 3) (pa_cons (pv 2) (pa_cons (pv 8) pa_nil)))))
    (pss_cons (ps_if (pt_not (pt_val (C8.pe_c (C__law_same) hr (by decide) rfl (pa_cons (C8.pe_mt (M_NumberMap_image) hr (by decide) (pv 6) (pa_cons (pv 8) pa_nil)) (pa_cons (pv 9) pa_nil))))) (pss_one (ps_ret pe_bl)) pss_nil)
    (C8.pss_cut (ps_if (pt_cmpR op_notN (pv 9) pe_non (nomark _)) (pss_one (ps_set (i := 9) sc_law.nd rfl (by first | exact Or.inl rfl | exact Or.inr rfl) (C8.pe_c (C__law_number_image) hr (by decide) rfl (pa_cons (pv 3) (pa_cons (pv 9) pa_nil))))) pss_nil)
    (pss_one (ps_if (pt_not (pt_val (C8.pe_c (C__law_same) hr (by decide) rfl (pa_cons (C8.pe_mt (M_NumberMap_image) hr (by decide) (pv 7) (pa_cons (pv 8) pa_nil)) (pa_cons (pv 9) pa_nil))))) (pss_one (ps_ret pe_bl)) pss_nil))))))
    (pss_one (ps_ret (pe_and (pe_cmpR (op_eqP hr.units) (pe_fld (pv 4) rfl) (pe_ix ix_tup (pv 3) pe_int (fun _ _ => rfl)) (nomark _)) (pe_and (pe_cmpR (op_eqP hr.units) (pe_fld (pv 5) rfl) (pe_ix ix_tup (pv 2) pe_int (fun _ _ => rfl)) (nomark _)) (pe_one (pe_cmpR op_eq (pe_fld (pv 4) rfl) (pe_ix ix_tup (pv 3) pe_int (fun _ _ => rfl)) (nomark _)))))))))))))))))), ?_⟩
  obtain ⟨a, ns, rfl, hS, hl, k⟩ := h
  refine ⟨_, rfl, a, ns, 20, 16, rfl, hS, hl, by decide, by decide, by decide, by decide, fun d H1 ds hdn s1 hd1 => ?_⟩
  -- second
  refine ⟨_, rfl, (by show 4 ≤ sizeLine; decide), fun q hq => ?_⟩
  have nqd : d ≠ q := ne_of_none hd1 hq
  refine ⟨_, rfl, d, ds, 4, rfl, by rw [upd_ne nqd]; exact hd1, by decide, fun r0 e1 c0 c1 => ?_⟩
  obtain ⟨m, hm, hm0, hm1⟩ : ∃ m : Int, atI [V.int 4, .int 4, .int 6, .int 12] r0 = some (.int m) ∧ 0 < m ∧ m ≤ 12 := by
    have : r0 = 0 ∨ r0 = 1 ∨ r0 = 2 ∨ r0 = 3 := by omega
    rcases this with rfl | rfl | rfl | rfl
    · exact ⟨4, rfl, by decide, by decide⟩
    · exact ⟨4, rfl, by decide, by decide⟩
    · exact ⟨6, rfl, by decide, by decide⟩
    · exact ⟨12, rfl, by decide, by decide⟩
  refine ⟨q, _, _, _, rfl, rfl, SqL.of (by rw [upd_ne nqd.symm, upd_same]), hm, d, e1, m, rfl, upd_same, hm0, hm1, fun v2 l2 p2 rs2 e2 H2 hp2 hl2 b2 hd2 hP2 ok2 => ?_⟩
  have n2d : l2 ≠ d := fun e => by rw [e, upd_same] at hl2; cases hl2
  -- first
  refine ⟨_, rfl, (by show 3 ≤ sizeLine; decide), fun q2 hq2 => ?_⟩
  have nqd2 : d ≠ q2 := ne_of_none hd2 hq2
  refine ⟨_, rfl, d, e2, 3, rfl, by rw [upd_ne nqd2]; exact hd2, by decide, fun r1 e3 c2 c3 => ?_⟩
  obtain ⟨m1, hm2, hm3, hm4⟩ : ∃ m : Int, atI [V.int 4, .int 4, .int 6] r1 = some (.int m) ∧ 0 < m ∧ m ≤ 6 := by
    have : r1 = 0 ∨ r1 = 1 ∨ r1 = 2 := by omega
    rcases this with rfl | rfl | rfl
    · exact ⟨4, rfl, by decide, by decide⟩
    · exact ⟨4, rfl, by decide, by decide⟩
    · exact ⟨6, rfl, by decide, by decide⟩
  refine ⟨q2, _, _, _, rfl, rfl, SqL.of (by rw [upd_ne nqd2.symm, upd_same]), hm2, d, e3, m1, rfl, upd_same, hm3, by omega, fun v1 l1 p1 rs1 e4 H3 hp1 hl1 b3 hd3 hP1 ok1 => ?_⟩
  have n1d : l1 ≠ d := fun e => by rw [e, upd_same] at hl1; cases hl1
  -- what of second stands still
  have b23 : But d H2 H3 := fun b o hb hn => b3 _ _ (by rw [upd_ne hn, upd_ne (ne_of_none hb hq2)]; exact hb) hn
  have hP2' : Parts H3 v2 l2 p2 rs2 := hP2.mono (Tups.but b23 hd2) fun xs hx => b23 _ _ hx n2d
  have n12 : l1 ≠ l2 := by
    obtain ⟨⟨a2, us2, _, _, w2, _⟩, _⟩ := hP2
    intro e
    rw [e, upd_ne n2d, upd_ne (ne_of_none w2 hq2), w2] at hl1
    cases hl1
  clear hP2 b23 b2 b3 hl1 hl2 hq hq2 s1 hS
  -- if _law_take(deck, 2) == 0
  refine ⟨fun σ' H' => ∃ (v1 : V) (rs1 : List Row), σ' = [some (.ref a), some (.ref d), some v2, some v1, none, none, none, none, none, none] ∧ Parts H' v1 l1 p1 rs1 ∧ Parts H' v2 l2 p2 rs2 ∧ (∀ r ∈ rs1, RowOk 310 r), ?_, ?_⟩
  · refine ⟨_, rfl, d, e4, 2, rfl, hd3, by decide, fun r2 e5 c4 c5 => ?_⟩
    have b4 : But d H3 (upd H3 d (.lst (e5.map V.int))) := But.upd
    have hP1' : Parts (upd H3 d (.lst (e5.map V.int))) v1 l1 p1 rs1 := hP1.mono (Tups.but b4 hd3) fun xs hx => b4 _ _ hx n1d
    have hP2'' : Parts (upd H3 d (.lst (e5.map V.int))) v2 l2 p2 rs2 := hP2'.mono (Tups.but b4 hd3) fun xs hx => b4 _ _ hx n2d
    refine ⟨rfl, _, rfl, iteD (fun _ => ?_) (fun _ => ?_)⟩
    · refine ⟨_, rfl, _, rfl, _, rfl, d, e5, v1, v2, l1, l2, p1, p2, rs1, rs2, rfl, upd_same, hP1', hP2'', ok1, ok2, by omega, by omega, n1d, n2d, n12, fun v rs ds' H' b5 hd5 hP5 ok5 => ?_⟩
      refine ⟨v, rs, rfl, hP5, hP2''.mono (fun b xs hb => ?_) (fun xs hx => b5 _ _ hx n2d n12.symm), ok5⟩
      obtain ⟨⟨_, us, _, _, y, _⟩, _⟩ := hP1'
      exact b5 _ _ hb (ne_of hb upd_same (by intro z; cases z)) (ne_of hb y (by intro z; cases z))
    · exact ⟨v1, rs1, rfl, hP1', hP2'', fun r hr => (ok1 r hr).mono (by decide)⟩
  · clear hP1 hP2' ok1 rs1 v1 hd3 H3
    rintro σ' H4 ⟨v1, rs1, rfl, hP1, hP2, ok1⟩
    have ok2' : ∀ r ∈ rs2, RowOk 310 r := fun r hr => (ok2 r hr).mono (by decide)
    obtain ⟨⟨a1, us1, rfl, o1, o2, o3⟩, o4, hpp1⟩ := id hP1
    -- one
    refine ⟨_, rfl, a1, _, _, _, rfl, rfl, SqT.of o1, rfl, _, rfl, a1, _, _, _, rfl, rfl, SqT.of o1, rfl, l1, us1, rfl, .inl (SqL.of o2), fun c hc => ?_⟩
    have s5 : Same H4 (upd H4 c (.lst us1)) := same_new hc
    intro x dx hx hdx hne
    have s6 := made (C := He.ga K "NumberMap") hx hdx
    refine ⟨x, dx, c, p1, us1, rs1, 310, rfl, upd_same, s6 _ _ upd_same, (o3.mono (Tups.of s5)).mono (Tups.of s6), ok1, o4, hpp1, by omega, fun H5 k5 hN1 => ⟨rfl, ?_⟩⟩
    have s7 : Same H4 H5 := fun b o hb => k5 _ _ (s6 _ _ (s5 _ _ hb)) (ne_of_none (s5 _ _ hb) hx)
    have hP1 := hP1.same s7
    have hP2 := hP2.same s7
    clear k5 s7 s6 s5 hx hdx hne hc o1 o2 o3
    obtain ⟨⟨a1', us1, ea, o1, o2, o3⟩, _, _⟩ := id hP1
    cases ea
    obtain ⟨⟨a2, us2, rfl, w1, w2, w3⟩, w4, hpp2⟩ := id hP2
    -- other
    refine ⟨_, rfl, a2, _, _, _, rfl, rfl, SqT.of w1, rfl, _, rfl, a2, _, _, _, rfl, rfl, SqT.of w1, rfl, l2, us2, rfl, .inl (SqL.of w2), fun c' hc => ?_⟩
    have s5 : Same H5 (upd H5 c' (.lst us2)) := same_new hc
    intro y dy hy hdy hne
    have s6 := made (C := He.ga K "NumberMap") hy hdy
    refine ⟨y, dy, c', p2, us2, rs2, 310, rfl, upd_same, s6 _ _ upd_same, (w3.mono (Tups.of s5)).mono (Tups.of s6), ok2', w4, hpp2, by omega, fun H6 k6 hN2 => ⟨rfl, ?_⟩⟩
    have s7 : Same H5 H6 := fun b o hb => k6 _ _ (s6 _ _ (s5 _ _ hb)) (ne_of_none (s5 _ _ hb) hy)
    have hP1 := hP1.same s7
    have hP2 := hP2.same s7
    have hN1 := hN1.mono s7
    clear k6 s7 s6 s5 hy hdy hne hc o1 o2 o3 w1 w2 w3
    -- both
    have hN1o := hN1.ex
    obtain ⟨dx1, f1, g1, j1, j2, j3⟩ := hN1o
    refine ⟨_, rfl, x, _, _, rfl, j1, nmF_no _ _ (by decide +kernel) (by decide +kernel), _, rfl, x, y, p1, p2, rs1, rs2, 310, rfl, hN1, hN2, ok1, ok2', by decide, by omega, by omega, fun b H7 s8 hNb => ?_⟩
    have hP1 := hP1.same s8
    have hP2 := hP2.same s8
    have hN1 := hN1.mono s8
    have hN2 := hN2.mono s8
    have hf0 := facM_pos hpp2 rs1
    have hf1 := facM_le hpp2 rs1
    have im2 := then_im (rs1 := rs1) (rs2 := rs2) hpp1 hpp2
    have okb : ∀ r ∈ thenM p1 rs1 p2 rs2 (facM p2 rs1 1 : Nat), RowOk 640 r := fun r hr => by
      obtain ⟨i, hi, rfl⟩ := List.mem_map.mp hr
      have hi2 := List.mem_range.mp hi
      have hmul : p1 * (facM p2 rs1 1 : Nat) ≤ 12 * 12 := Int.mul_le_mul (by omega) (by omega) (by omega) (by omega)
      have hd0 : 0 ≤ (i : Int) / p1 := Int.ediv_nonneg (by omega) (by omega)
      have hd1 : (i : Int) / p1 ≤ (i : Int) := Int.ediv_le_self _ (by omega)
      exact (comp_ok (k := 310) (j := 310) (rowAt_ok ok1 _) ok2' (by omega) hpp2 (bz16 (by omega) (by omega)) (bz16 hd0 (by omega)) (by decide) (by decide)).mono (by decide)
    have hPb1 : p1 * (facM p2 rs1 1 : Nat) ≤ p1 * p2 := Int.mul_le_mul_of_nonneg_left hf1 (by omega)
    have hmul : p1 * p2 ≤ 12 * 12 := Int.mul_le_mul (by omega) (by omega) (by omega) (by omega)
    have hPb0 := hNb.pos
    generalize thenM p1 rs1 p2 rs2 (facM p2 rs1 1 : Nat) = rsb at hNb im2 okb
    generalize p1 * (facM p2 rs1 1 : Nat) = Pb at hNb im2 hPb1 hPb0
    clear s8 j1 j2 j3
    obtain ⟨dxb, fb, gb, j1, j2, j3⟩ := hNb.ex
    obtain ⟨⟨a1', us1, ea, o1, o2, o3⟩, _, _⟩ := id hP1
    cases ea
    obtain ⟨⟨a2', us2, ea, w1, w2, w3⟩, _, _⟩ := id hP2
    cases ea
    refine ⟨_, rfl, b, _, _, rfl, j1, _, rfl, ?_⟩
    refine iteF ⟨_, rfl, _, _, _, _, _, rfl, j1, T.cl_NumberMap, T.n_NumberMap_period, nmF_period _ _, _, _, rfl, rfl, _, rfl, ?_⟩
    refine iteD (fun _ => ?_) (fun e => absurd (by omega) e)
    refine ⟨_, rfl, a1, _, _, _, rfl, rfl, SqT.of o1, rfl, _, rfl, a2, _, _, _, rfl, rfl, SqT.of w1, rfl, _, _, rfl, rfl, wide_mul (bz16 (by omega) (by omega)) (bz16 (by omega) (by omega)) (by decide) (by decide) (by decide), _, _, rfl, rfl, _, rfl, iteN (fun e => absurd hPb1 e) (fun _ => ?_)⟩
    -- again
    have hPb2 : Pb ≤ 6 * 12 := Int.le_trans hPb1 (Int.mul_le_mul (by omega) (by omega) (by omega) (by omega))
    refine ⟨_, rfl, b, _, _, rfl, j1, nmF_no _ _ (by decide +kernel) (by decide +kernel), _, rfl, b, x, Pb, p1, rsb, rs1, 640, rfl, hNb, hN1, okb, fun r hr => (ok1 r hr).mono (by decide), by decide, by omega, by omega, fun g H8 s8 hNg => ?_⟩
    have hP1 := hP1.same s8
    have hP2 := hP2.same s8
    have hN1 := hN1.mono s8
    have hN2 := hN2.mono s8
    have hNb := hNb.mono s8
    have hg0 := facM_pos hpp1 rsb
    have hg1 := facM_le hpp1 rsb
    have im3 := then_im (rs1 := rsb) (rs2 := rs1) hPb0 hpp1
    have okg : ∀ r ∈ thenM Pb rsb p1 rs1 (facM p1 rsb 1 : Nat), RowOk 1300 r := fun r hr => by
      obtain ⟨i, hi, rfl⟩ := List.mem_map.mp hr
      have hi2 := List.mem_range.mp hi
      have hmul : Pb * (facM p1 rsb 1 : Nat) ≤ 72 * 6 := Int.mul_le_mul (by omega) (by omega) (by omega) (by omega)
      have hd0 : 0 ≤ (i : Int) / Pb := Int.ediv_nonneg (by omega) (by omega)
      have hd1 : (i : Int) / Pb ≤ (i : Int) := Int.ediv_le_self _ (by omega)
      exact (comp_ok (k := 640) (j := 640) (rowAt_ok okb _) (fun r hr => (ok1 r hr).mono (by decide)) (by omega) hpp1 (bz16 (by omega) (by omega)) (bz16 hd0 (by omega)) (by decide) (by decide)).mono (by decide)
    have hPg1 : Pb * (facM p1 rsb 1 : Nat) ≤ Pb * p1 := Int.mul_le_mul_of_nonneg_left hg1 (by omega)
    have hmul2 : Pb * p1 ≤ 72 * 6 := Int.mul_le_mul (by omega) (by omega) (by omega) (by omega)
    have hPg0 := hNg.pos
    generalize thenM Pb rsb p1 rs1 (facM p1 rsb 1 : Nat) = rsg at hNg im3 okg
    generalize Pb * (facM p1 rsb 1 : Nat) = Pg at hNg im3 hPg1 hPg0
    have z8 : ∀ b o, H7 b = some o → H8 b = some o := s8
    have j1' := s8 _ _ j1
    have o1' := s8 _ _ o1
    have o2' := s8 _ _ o2
    have w1' := s8 _ _ w1
    have w2' := s8 _ _ w2
    have o3' := o3.mono (Tups.of s8)
    have w3' := w3.mono (Tups.of s8)
    clear z8 s8
    obtain ⟨dxg, fg, gg, y1, y2, y3⟩ := hNg.ex
    refine ⟨_, rfl, g, _, _, rfl, y1, _, rfl, ?_⟩
    refine iteF ⟨_, rfl, _, _, _, _, _, rfl, y1, T.cl_NumberMap, T.n_NumberMap_period, nmF_period _ _, _, _, rfl, rfl, _, rfl, ?_⟩
    refine iteD (fun _ => ?_) (fun e => absurd (by omega) e)
    refine ⟨_, rfl, _, _, _, _, _, rfl, j1', T.cl_NumberMap, T.n_NumberMap_period, nmF_period _ _, _, rfl, a1, _, _, _, rfl, rfl, SqT.of o1', rfl, _, _, rfl, rfl, wide_mul (bz16 (by omega) (by omega)) (bz16 (by omega) (by omega)) (by decide) (by decide) (by decide), _, _, rfl, rfl, _, rfl, iteN (fun e => absurd hPg1 e) (fun _ => ?_)⟩
    -- for x in _law_points(first, second)
    refine ⟨_, rfl, _, rfl, .ref a1, .ref a2, l1, l2, p1, p2, rs1, rs2, 310, rfl, hP1, hP2, ok1, ok2', by omega, by omega, by decide, fun q pts H9 s9 hq9 bz9 => ?_⟩
    have hP1 := hP1.same s9
    have hP2 := hP2.same s9
    have hN1 := hN1.mono s9
    have hN2 := hN2.mono s9
    have hNb := hNb.mono s9
    have hNg := hNg.mono s9
    have j1'' := s9 _ _ j1'
    have y1' := s9 _ _ y1
    have o1'' := s9 _ _ o1'
    have o2'' := s9 _ _ o2'
    have w1'' := s9 _ _ w1'
    have w2'' := s9 _ _ w2'
    have o3'' := o3'.mono (Tups.of s9)
    have w3'' := w3'.mono (Tups.of s9)
    clear s9 j1 j1' j2 j3 o1 o1' o2 o2' o3 o3' w1 w1' w2 w2' w3 w3' y1 y2 y3
    refine ⟨q, rfl, ⟨_, SqL.of hq9⟩, for_list (xs := pts.map V.int) (fun i σ H' => ∃ x8 x9 : Option V, σ = [some (.ref a), some (.ref d), some (.ref a2), some (.ref a1), some (.ref x), some (.ref y), some (.ref b), some (.ref g), x8, x9] ∧ H' = H9) ⟨_, _, rfl, rfl⟩ (fun i σ H' _ ⟨_, _, _, e⟩ => by rw [e]; exact SqL.of hq9) ?_ ?_⟩
    · rintro i v σ H' hi ⟨x8, x9, rfl, rfl⟩
      obtain ⟨z, rfl, bzz⟩ : ∃ z : Int, v = .int z ∧ Bz 350 z := by
        have hm := List.mem_of_getElem? hi
        obtain ⟨z, hz, rfl⟩ := List.mem_map.mp hm
        exact ⟨z, rfl, bz9 z hz⟩
      have bp1 : Bz 16 p1 := bz16 (by omega) (by omega)
      have bp2 : Bz 16 p2 := bz16 (by omega) (by omega)
      refine ⟨_, rfl, _, rfl, _, rfl, .ref a1, .ref a2, l1, l2, p1, p2, rs1, rs2, z, 350, rfl, hP1, hP2, fun r hr => (ok1 r hr).mono (by decide), fun r hr => (ok2' r hr).mono (by decide), bp1, bp2, bzz, by decide, ?_⟩
      have be : ∀ w, (imM p1 rs1 z).bind (imM p2 rs2) = some w → Bz 1500 w := fun w hw => by
        cases e1 : imM p1 rs1 z with
        | none => rw [e1] at hw; cases hw
        | some u =>
          rw [e1] at hw
          have b1 := im_ok (k := 350) (j := 350) (fun r hr => (ok1 r hr).mono (by decide)) hpp1 bzz (by decide) e1
          exact (im_ok (k := 310) (j := 701) ok2' hpp2 b1 (by decide) hw).mono (by decide)
      -- both.image(x)
      refine ⟨_, rfl, b, _, _, rfl, j1'', nmF_no _ _ (by decide +kernel) (by decide +kernel), _, rfl, b, Pb, rsb, z, 640, rfl, hNb, okb, bz16 (by omega) (by omega), bzz.mono (by decide), by decide, ?_⟩
      refine ⟨_, rfl, _, _, rfl, _, rfl, iteN (fun e => absurd (im2 z) e) (fun _ => ?_)⟩
      -- if expected is not None
      refine ⟨fun σ' Hq => σ' = [some (.ref a), some (.ref d), some (.ref a2), some (.ref a1), some (.ref x), some (.ref y), some (.ref b), some (.ref g), some (.int z), some (optV (((imM p1 rs1 z).bind (imM p2 rs2)).bind (imM p1 rs1)))] ∧ Hq = H', ?_, ?_⟩
      · refine ⟨_, rfl, rfl, _, rfl, ?_⟩
        cases e : (imM p1 rs1 z).bind (imM p2 rs2) with
        | none => exact iteN (fun z => absurd rfl z) (fun _ => ⟨rfl, rfl⟩)
        | some w =>
          refine iteN (fun _ => ?_) (fun z => by cases z)
          exact ⟨_, rfl, _, rfl, .ref a1, l1, p1, rs1, w, 1500, rfl, hP1, fun r hr => (ok1 r hr).mono (by decide), bp1, be w e, by decide, rfl, rfl⟩
      · rintro σ' H'' ⟨rfl, rfl⟩
        refine ⟨_, rfl, g, _, _, rfl, y1', nmF_no _ _ (by decide +kernel) (by decide +kernel), _, rfl, g, Pg, rsg, z, 1300, rfl, hNg, okg, bz16 (by omega) (by omega), bzz.mono (by decide), by decide, ?_⟩
        refine ⟨_, rfl, _, _, rfl, _, rfl, iteN (fun e => absurd (by rw [im3 z, im2 z]) e) (fun _ => ?_)⟩
        exact ⟨_, _, rfl, rfl⟩
    · rintro σ H' ⟨x8, x9, rfl, rfl⟩
      obtain ⟨dx1, f1, g1, u1, u2, u3⟩ := hN1.ex
      obtain ⟨dx2, f2, g2, t1, t2, t3⟩ := hN2.ex
      have tt : ∀ {A : Prop} [Decidable A], A → decide A = true := fun h => decide_eq_true h
      refine ⟨_, rfl, _, _, _, _, _, rfl, u1, T.cl_NumberMap, T.n_NumberMap_rows, nmF_rows _ _, _, rfl, a1, _, _, _, rfl, rfl, SqT.of o1'', rfl, eq_at rs1 rs1 (u3.dp u2) (o3''.dp o2'') (by decide) ⟨_, rfl, ?_⟩⟩
      rw [tt rfl]
      refine iteT ⟨_, rfl, _, _, _, _, _, rfl, t1, T.cl_NumberMap, T.n_NumberMap_rows, nmF_rows _ _, _, rfl, a2, _, _, _, rfl, rfl, SqT.of w1'', rfl, eq_at rs2 rs2 (t3.dp t2) (w3''.dp w2'') (by decide) ⟨_, rfl, ?_⟩⟩
      rw [tt rfl]
      refine iteT ⟨_, rfl, _, _, _, _, _, rfl, u1, T.cl_NumberMap, T.n_NumberMap_period, nmF_period _ _, _, rfl, a1, _, _, _, rfl, rfl, SqT.of o1'', rfl, rfl, ?_⟩
      have e : decide (V.int p1 = V.int p1) = true := decide_eq_true rfl
      show Q (.bl (decide (V.int p1 = V.int p1))) H'
      rw [e]
      exact k H'

end
def fa : List He.Fa := [.glo "stretched", .glo "quotients", .glo "composed", .glo "NumberMap", .mkr "NumberMap", .cls "NumberMap", .meth "NumberMap" "image", .meth "NumberMap" "then", .glo "_law_deck", .glo "_law_take", .glo "_law_whole", .glo "_law_parts", .glo "_law_number_image", .glo "_law_same", .glo "_law_then", .glo "_law_preimages", .glo "_law_points", .glo "_law_aimed", .glo "law", .noat "NumberMap" "period", .noat "NumberMap" "rows", .free "min", .free "max", .free "list", .free "len", .free "range", .free "int", .free "abs", .free "isinstance", .free "bool"]
def fn0 : He.DefD := ⟨("stretched", none), "stretched", "stretched", defArgs s_stretched, defBody s_stretched, defScope s_stretched, [], []⟩
def fn1 : He.DefD := ⟨("quotients", none), "quotients", "quotients", defArgs s_quotients, defBody s_quotients, defScope s_quotients, [], []⟩
def fn2 : He.DefD := ⟨("composed", none), "composed", "composed", defArgs s_composed, defBody s_composed, defScope s_composed, [], []⟩
def fn3 : He.DefD := ⟨("NumberMap", some "__init__"), "__init__", "NumberMap.__init__", defArgs s_NumberMap___init__, defBody s_NumberMap___init__, defScope s_NumberMap___init__, [], []⟩
def fn4 : He.DefD := ⟨("NumberMap", some "image"), "image", "NumberMap.image", defArgs s_NumberMap_image, defBody s_NumberMap_image, defScope s_NumberMap_image, [], []⟩
def fn5 : He.DefD := ⟨("NumberMap", some "then"), "then", "NumberMap.then", defArgs s_NumberMap_then, defBody s_NumberMap_then, defScope s_NumberMap_then, [], []⟩
def fn6 : He.DefD := ⟨("_law_deck", none), "_law_deck", "_law_deck", defArgs s__law_deck, defBody s__law_deck, defScope s__law_deck, [], []⟩
def fn7 : He.DefD := ⟨("_law_take", none), "_law_take", "_law_take", defArgs s__law_take, defBody s__law_take, defScope s__law_take, [], []⟩
def fn8 : He.DefD := ⟨("_law_whole", none), "_law_whole", "_law_whole", defArgs s__law_whole, defBody s__law_whole, defScope s__law_whole, [], []⟩
def fn9 : He.DefD := ⟨("_law_parts", none), "_law_parts", "_law_parts", defArgs s__law_parts, defBody s__law_parts, defScope s__law_parts, [], []⟩
def fn10 : He.DefD := ⟨("_law_number_image", none), "_law_number_image", "_law_number_image", defArgs s__law_number_image, defBody s__law_number_image, defScope s__law_number_image, [], []⟩
def fn11 : He.DefD := ⟨("_law_same", none), "_law_same", "_law_same", defArgs s__law_same, defBody s__law_same, defScope s__law_same, [], []⟩
def fn12 : He.DefD := ⟨("_law_then", none), "_law_then", "_law_then", defArgs s__law_then, defBody s__law_then, defScope s__law_then, [], []⟩
def fn13 : He.DefD := ⟨("_law_preimages", none), "_law_preimages", "_law_preimages", defArgs s__law_preimages, defBody s__law_preimages, defScope s__law_preimages, [], []⟩
def fn14 : He.DefD := ⟨("_law_points", none), "_law_points", "_law_points", defArgs s__law_points, defBody s__law_points, defScope s__law_points, [], []⟩
def fn15 : He.DefD := ⟨("_law_aimed", none), "_law_aimed", "_law_aimed", defArgs s__law_aimed, defBody s__law_aimed, defScope s__law_aimed, [], []⟩
def fn16 : He.DefD := ⟨("law", none), "law", "law", defArgs s_law, defBody s_law, defScope s_law, [], []⟩
def fn : List He.DefD := [fn0, fn1, fn2, fn3, fn4, fn5, fn6, fn7, fn8, fn9, fn10, fn11, fn12, fn13, fn14, fn15, fn16]
def ex (K : PySem.W.Frag) : Bool := insB K "NumberMap" && (bltB K "lcm" "math.lcm" && (bltB K "gcd" "math.gcd"))
def loose : List Str := (["gcd", "lcm", "_wall", "BridgeError", "InvalidMap", "stretched", "quotients", "composed", "NumberMap", "_law_deck", "_law_take", "_law_whole", "_law_parts", "_law_number_image", "_law_same", "_law_then", "_law_preimages", "_law_points", "_law_aimed"] : List Str)
theorem tx_of {K : PySem.W.Frag} {h : Heap} {mg : Str → Option Value} (X : K.In h) (G : h.Ns mainGlobals mg) (c : SaysX fa fn ex K) : Tx K mg where
  d_stretched := defAt_of X G (c.d.fact 0 rfl) (c.d.def_ 0 rfl) (fun _ _ _ _ _ _ us hl => match us, hl with | [_, _, _], _ => rfl)
  d_quotients := defAt_of X G (c.d.fact 1 rfl) (c.d.def_ 1 rfl) (fun _ _ _ _ _ _ us hl => match us, hl with | [_, _, _], _ => rfl)
  d_composed := defAt_of X G (c.d.fact 2 rfl) (c.d.def_ 2 rfl) (fun _ _ _ _ _ _ us hl => match us, hl with | [_, _, _, _], _ => rfl)
  d_NumberMap___init__ := makAt_of X G (c.d.fact 3 rfl) (c.d.fact 4 rfl) (c.d.def_ 3 rfl) (fun _ _ _ _ _ _ us hl => match us, hl with | [_, _, _], _ => rfl)
  d_NumberMap_image := metAt_of (c.d.fact 5 rfl) (c.d.fact 6 rfl) (c.d.def_ 4 rfl) (fun _ _ _ _ _ _ us hl => match us, hl with | [_, _], _ => rfl)
  d_NumberMap_then := metAt_of (c.d.fact 5 rfl) (c.d.fact 7 rfl) (c.d.def_ 5 rfl) (fun _ _ _ _ _ _ us hl => match us, hl with | [_, _], _ => rfl)
  d__law_deck := defAt_of X G (c.d.fact 8 rfl) (c.d.def_ 6 rfl) (fun _ _ _ _ _ _ us hl => match us, hl with | [_, _, _], _ => rfl)
  d__law_take := defAt_of X G (c.d.fact 9 rfl) (c.d.def_ 7 rfl) (fun _ _ _ _ _ _ us hl => match us, hl with | [_, _], _ => rfl)
  d__law_whole := defAt_of X G (c.d.fact 10 rfl) (c.d.def_ 8 rfl) (fun _ _ _ _ _ _ us hl => match us, hl with | [_], _ => rfl)
  d__law_parts := defAt_of X G (c.d.fact 11 rfl) (c.d.def_ 9 rfl) (fun _ _ _ _ _ _ us hl => match us, hl with | [_, _], _ => rfl)
  d__law_number_image := defAt_of X G (c.d.fact 12 rfl) (c.d.def_ 10 rfl) (fun _ _ _ _ _ _ us hl => match us, hl with | [_, _], _ => rfl)
  d__law_same := defAt_of X G (c.d.fact 13 rfl) (c.d.def_ 11 rfl) (fun _ _ _ _ _ _ us hl => match us, hl with | [_, _], _ => rfl)
  d__law_then := defAt_of X G (c.d.fact 14 rfl) (c.d.def_ 12 rfl) (fun _ _ _ _ _ _ us hl => match us, hl with | [_, _, _], _ => rfl)
  d__law_preimages := defAt_of X G (c.d.fact 15 rfl) (c.d.def_ 13 rfl) (fun _ _ _ _ _ _ us hl => match us, hl with | [_, _, _, _], _ => rfl)
  d__law_points := defAt_of X G (c.d.fact 16 rfl) (c.d.def_ 14 rfl) (fun _ _ _ _ _ _ us hl => match us, hl with | [_, _], _ => rfl)
  d__law_aimed := defAt_of X G (c.d.fact 17 rfl) (c.d.def_ 15 rfl) (fun _ _ _ _ _ _ us hl => match us, hl with | [_, _, _], _ => rfl)
  cl_NumberMap := He.cls_ok (c.d.fact 5 rfl)
  g_NumberMap := He.glo_ok X G (c.d.fact 3 rfl)
  n_NumberMap_period := He.noat_ok (c.d.fact 19 rfl)
  n_NumberMap_rows := He.noat_ok (c.d.fact 20 rfl)
  is_NumberMap := insB_ok ((He.ba c.e).1)
  b_min := He.free_ok X G (c.d.fact 21 rfl)
  b_max := He.free_ok X G (c.d.fact 22 rfl)
  b_list := He.free_ok X G (c.d.fact 23 rfl)
  b_len := He.free_ok X G (c.d.fact 24 rfl)
  b_range := He.free_ok X G (c.d.fact 25 rfl)
  i_lcm := bltB_ok X G ((He.ba (He.ba c.e).2).1)
  i_gcd := bltB_ok X G ((He.ba (He.ba c.e).2).2)
  b_int := He.free_ok X G (c.d.fact 26 rfl)
  b_abs := He.free_ok X G (c.d.fact 27 rfl)
  b_isinstance := He.free_ok X G (c.d.fact 28 rfl)
  b_bool := He.free_ok X G (c.d.fact 29 rfl)
theorem facts {P : Program} {w : World} {K : PySem.W.Frag} {h : Heap} {mg : Str → Option Value} {f : Addr} (X : K.In h) (G : h.Ns mainGlobals mg) (hfa : mg ("law" : Str) = some (.ref f)) (c : SaysX fa fn ex K) :
    ∃ fd : FuncData, (∀ (s : Shared) (v : Value), BindsTo s fd ⟨[v], []⟩ [("script", v)]) ∧ ∀ base : Heap, K.In base → base.Ns mainGlobals mg → FnOk P w K mg base C8.CX0 4 f fd ["script"] (sp_law K) := by
  obtain ⟨fd, F⟩ := c.d.def_ 16 rfl
  have e := hfa.symm.trans (He.glo_ok X G (c.d.fact 18 rfl))
  cases e
  have b := FunD.bindsA (ps := ["script"]) F fun _ _ _ _ _ _ us hl => match us, hl with | [_], _ => rfl
  exact ⟨fd, fun s v => b s [v] rfl, fun base _ _ => ok_law F (tx_of X G c)⟩

end K01
open PySem PySem.W PyProof.Rows
set_option maxRecDepth 100000 in
set_option maxHeartbeats 0 in
theorem PySem.Challenge.cw_surebridge_k01_number_compositions_holds : PySem.Challenge.rw_surebridge_k01_number_compositions.Holds := by
  w_on; o_law; k_head; (case hw => w_witness2)
  k_fill
  refine L2.walk_ofK (l := PySem.Challenge.rw_surebridge_k01_number_compositions) (n := 63) (k := 4) (x := "script") (CX := C8.CX0) (sp := K01.sp_law) rfl (by decide) rfl ⟨rfl, by decide, by decide⟩ (fun w h Y => PySem.W.kIn_of Y) ?F (fun _ _ a ns hl _ hS => ⟨a, ns, rfl, hS, hl, fun _ => rfl⟩) (fun _ _ _ _ z => z)
  case F =>
    intro w mg fa h KX G hmg
    exact K01.facts KX G hmg (by unfold Pr.SaysX; kernel_rfl)
#print axioms PySem.Challenge.cw_surebridge_k01_number_compositions_holds

