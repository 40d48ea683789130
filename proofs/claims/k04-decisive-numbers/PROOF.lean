import PyProof.Rows.All
import Wide.All
import OpenK.AllK
import Wide.FinOn
import KE.KStateDown
import KE.KMathGC
import KE.Datum
import HandS.ForMost
import HandS.Defaults
import HandS.Wide
import HandS.Gcd
import HandS.IsInst
import HandS.Codes
import HandS.SortInts
import HandS.Style
import HandS.Conv
import HandS.Head0
import HandS.Head1
import HandS.Head2
import HandS.HeadEnd
import HandS.HeadHook1
import HandS.HeadHook2

import HandS.SetFor
import HandS.Strs
import PySem.Challenge.RW_surebridge_k04_decisive_numbers
set_option Elab.async false
set_option linter.all false
set_option maxRecDepth 100000
set_option maxHeartbeats 4000000
namespace Pr
open PySem PySem.Spec PyProof.Rows L2
/-! ### defs, methods, classes as the top left them -/
abbrev FnP (K : PySem.W.Frag) (x q : Str) (st : Stmt) (f : Addr) (fd : FuncData) : Prop := FunD K x q (defArgs st) (defBody st) (defScope st) [] [] f fd
structure DefAt (K : PySem.W.Frag) (mg : Str → Option Value) (x : Str) (st : Stmt) (ps : List Str) : Prop where
  ex : ∃ (f : Addr) (fd : FuncData), FnP K x x st f fd ∧ mg x = some (.ref f) ∧ Binds K fd ps []
structure MetAt (K : PySem.W.Frag) (C : Addr) (m q : Str) (st : Stmt) (ps : List Str) : Prop where
  ex : ∃ (f : Addr) (fd : FuncData), FnP K m q st f fd ∧ Cls K C ∧ Meth K C m f ∧ Binds K fd ps []
structure MakAt (K : PySem.W.Frag) (mg : Str → Option Value) (x : Str) (C : Addr) (q : Str) (st : Stmt) (ps : List Str) : Prop where
  ex : ∃ (f : Addr) (fd : FuncData), FnP K "__init__" q st f fd ∧ Mk K C f ∧ mg x = some (.ref C) ∧ Binds K fd ps []
section
variable {P : Program} {w : World} {K : PySem.W.Frag} {mg : Str → Option Value} {base : Heap} {x q m : Str} {C : Addr} {st : Stmt} {N ps : List Str} {k : Nat} {sp : Sp}
theorem c_mk (D : DefAt K mg x st ps) (S : FnScope N ps (defScope st)) (len : ∀ vs H Q E, sp vs H Q E → vs.length = ps.length)
    (hbody : ∀ (f : Addr) (cdv : Value) (A : Around) (outer : List Env) (s : Shared) (H : Hp) (vs : List V) (Q : VK) (E : XK), Room k (A.deeper (envOfC x (defScope st) s.heap.objs.size f cdv)) → sp vs H Q E →
      ∃ t, PSs (cxOf C8.CX0 P w K mg base N x (defScope st) f cdv A outer s H E).nox (defBody st) t ∧ t { nx := fun _ H' => Q .non H', rt := Q } (start N vs) H) : C8.Cal P w K mg base (k + 1) x sp [] := by
  obtain ⟨f, fd, F, hm, hb⟩ := D.ex
  exact ⟨f, fd, ps, [], F.ok S len (fun cdv A outer s H vs Q E hr hs => let ⟨t, h1, h2⟩ := hbody f cdv A outer s H vs Q E hr hs; ⟨t, PSs.nox h1, h2⟩), hm, F.kp, hb, .nil⟩
theorem c_met (D : MetAt K C m q st ps) (S : FnScope N ps (defScope st)) (len : ∀ vs H Q E, sp vs H Q E → vs.length = ps.length)
    (hbody : ∀ (f : Addr) (cdv : Value) (A : Around) (outer : List Env) (s : Shared) (H : Hp) (vs : List V) (Q : VK) (E : XK), Room k (A.deeper (envOfC q (defScope st) s.heap.objs.size f cdv)) → sp vs H Q E →
      ∃ t, PSs (cxOf C8.CX0 P w K mg base N q (defScope st) f cdv A outer s H E).nox (defBody st) t ∧ t { nx := fun _ H' => Q .non H', rt := Q } (start N vs) H) : C8.Met P w K mg base (k + 1) C m sp [] := by
  obtain ⟨f, fd, F, hc, hm, hb⟩ := D.ex
  exact ⟨f, fd, ps, [], hc, hm, F.ok S len (fun cdv A outer s H vs Q E hr hs => let ⟨t, h1, h2⟩ := hbody f cdv A outer s H vs Q E hr hs; ⟨t, PSs.nox h1, h2⟩), hb, .nil⟩
theorem c_mak (D : MakAt K mg x C q st ps) (S : FnScope N ps (defScope st)) (len : ∀ vs H Q E, sp vs H Q E → vs.length = ps.length)
    (hbody : ∀ (f : Addr) (cdv : Value) (A : Around) (outer : List Env) (s : Shared) (H : Hp) (vs : List V) (Q : VK) (E : XK), Room k (A.deeper (envOfC q (defScope st) s.heap.objs.size f cdv)) → sp vs H Q E →
      ∃ t, PSs (cxOf C8.CX0 P w K mg base N q (defScope st) f cdv A outer s H E).nox (defBody st) t ∧ t { nx := fun _ H' => Q .non H', rt := Q } (start N vs) H) : C8.Mak P w K mg base (k + 1) x C sp [] := by
  obtain ⟨f, fd, F, hk, hm, hb⟩ := D.ex
  exact ⟨f, fd, ps, [], hk, F.ok S len (fun cdv A outer s H vs Q E hr hs => let ⟨t, h1, h2⟩ := hbody f cdv A outer s H vs Q E hr hs; ⟨t, PSs.nox h1, h2⟩), hm, hb, .nil⟩
end
section
variable {X : Cx} {k j : Nat} {C : Addr} {x : Str} {sp : Sp} {dvs : List V} {p pos : Pos} {cr : List V → Hp → VK → Prop}
theorem pe_c0x (c : C8.Cal X.prog X.w X.K X.mg X.base k x sp dvs) (hr : Room j X.A) (hk : k ≤ j) (hg : Gl X x) (hdb : (x == ("__debug__" : Str)) = false := by decide) : PE X (.Call (.Name x p) [] [] pos) (tCall sp dvs C8.E0 tNil) := by
  obtain ⟨f, fd, ps, ds, F, hm, kp, b, d⟩ := c.ex
  exact pe_call0 F (hr.mono hk) hg hm kp b d C8.pass0 hdb
theorem pe_mk0x (c : C8.Mak X.prog X.w X.K X.mg X.base k x C sp dvs) (hr : Room j X.A) (hk : k + 1 ≤ j) (hg : Gl X x) (hdb : (x == ("__debug__" : Str)) = false := by decide) : PE X (.Call (.Name x p) [] [] pos) (tMake C sp dvs C8.E0 tNil) := by
  obtain ⟨f, fd, ps, ds, M, F, hm, b, d⟩ := c.ex
  exact pe_make0 M F (hr.mono hk) hg hm b d C8.pass0 hdb
theorem pe_gcx {v : V} (hg : Gl X x) (h : ∃ u, X.mg x = some u ∧ RelV v u) (hd : (x == ("__debug__" : Str)) = false := by decide) : PE X (.Name x pos) (tC v) := C8.pe_gc hg h hd
end
/-! ### the head's facts: those of HeadHook2, and one Bool of one's own -/
abbrev AlX : Type := Bool × He.AlD
def obsX (fa : List He.Fa) (fn : List He.DefD) (ex : PySem.W.Frag → Bool) (K : PySem.W.Frag) : AlX := (ex K, He.obsD fa fn K)
def valX (fn : List He.DefD) : AlX := (true, He.valD fn)
def SaysX (fa : List He.Fa) (fn : List He.DefD) (ex : PySem.W.Frag → Bool) (K : PySem.W.Frag) : Prop := obsX fa fn ex K = valX fn
def obsXG (n : Nat) (fa : List He.Fa) (fn : List He.DefD) (ex : PySem.W.Frag → Bool) (g : Addr → Option Obj) : AlX := obsX fa fn ex (He.frG g (He.asD g n))
def hookX (n : Nat) (fa : List He.Fa) (fn : List He.DefD) (ex : PySem.W.Frag → Bool) : PySem.W.Hook where
  α := AlX
  obs := fun s => obsXG n fa fn ex s.heap.get?
  val := fun _ => valX fn
  says := fun _ h => ∃ K : PySem.W.Frag, K.In h ∧ SaysX fa fn ex K
  of := fun _ _ e => ⟨_, He.frG_in, e⟩
  keeps := fun _ _ _ ⟨K, hK, c⟩ k => ⟨K, PySem.W.Frag.In.keeps hK k, c⟩
theorem obsXG_eq {n : Nat} {fa : List He.Fa} {fn : List He.DefD} {ex : PySem.W.Frag → Bool} {g : Addr → Option Obj} {s : Shared} (h : ∀ a, g a = s.heap.get? a) : obsXG n fa fn ex g = (hookX n fa fn ex).obs s := by
  have e : g = s.heap.get? := funext h
  rw [e] <;> rfl
section
variable {fa : List He.Fa} {fn : List He.DefD} {ex : PySem.W.Frag → Bool} {K : PySem.W.Frag}
theorem SaysX.d (c : SaysX fa fn ex K) : He.SaysD fa fn K := congrArg (fun z : AlX => z.2) c
theorem SaysX.e (c : SaysX fa fn ex K) : ex K = true := congrArg (fun z : AlX => z.1) c
end
/-- a name of the module that stands for a built-in function -/
def bltB (K : PySem.W.Frag) (x : Str) (id : String) : Bool := match PySem.W.nsIn K mainGlobals x with
  | some (some (.builtin j)) => decide (j = id)
  | _ => false
theorem bltB_ok {K : PySem.W.Frag} {h : Heap} {mg : Str → Option Value} {x : Str} {id : String} (X : K.In h) (G : h.Ns mainGlobals mg) (c : bltB K x id = true) : mg x = some (.builtin id) := by
  unfold bltB at c
  cases e : PySem.W.nsIn K mainGlobals x with
  | none =>
    rw [e] at c
    cases c
  | some o =>
    rw [e] at c
    cases o with
    | none => cases c
    | some v =>
      cases v with
      | builtin j =>
        have ej : j = id := of_decide_eq_true c
        rw [ej] at e
        exact PySem.W.mg_of X G e
      | _ => cases c
def intB (K : PySem.W.Frag) (x : Str) (i : Int) : Bool := (He.Fa.int x i).ok K
theorem defAt_of {K : PySem.W.Frag} {h : Heap} {mg : Str → Option Value} {x : Str} {st : Stmt} {ps : List Str} (X : K.In h) (G : h.Ns mainGlobals mg) (c1 : (He.Fa.glo x).ok K = true)
    (F : ∃ fd, FnP K x x st (He.fAd K (x, none)) fd)
    (b : ∀ (kV doc pm : Value) (an : Option Addr) (cdv ct : Value) (us : List Value), us.length = ps.length → bindArgs (PySem.W.fnOf x x (defArgs st) (defBody st) (defScope st) .none kV doc pm an cdv ct) ⟨us, []⟩ = pure (ps.zip us)) : DefAt K mg x st ps := by
  obtain ⟨fd, F⟩ := F
  exact ⟨_, fd, F, He.glo_ok X G c1, F.bindsN b⟩
theorem metAt_of {K : PySem.W.Frag} {x m q : Str} {st : Stmt} {ps : List Str} (c1 : (He.Fa.cls x).ok K = true) (c2 : (He.Fa.meth x m).ok K = true)
    (F : ∃ fd, FnP K m q st (He.fAd K (x, some m)) fd)
    (b : ∀ (kV doc pm : Value) (an : Option Addr) (cdv ct : Value) (us : List Value), us.length = ps.length → bindArgs (PySem.W.fnOf m q (defArgs st) (defBody st) (defScope st) .none kV doc pm an cdv ct) ⟨us, []⟩ = pure (ps.zip us)) : MetAt K (He.ga K x) m q st ps := by
  obtain ⟨fd, F⟩ := F
  exact ⟨_, fd, F, He.cls_ok c1, He.meth_ok c2, F.bindsN b⟩
theorem makAt_of {K : PySem.W.Frag} {h : Heap} {mg : Str → Option Value} {x q : Str} {st : Stmt} {ps : List Str} (X : K.In h) (G : h.Ns mainGlobals mg) (c0 : (He.Fa.glo x).ok K = true) (c2 : (He.Fa.mkr x).ok K = true)
    (F : ∃ fd, FnP K "__init__" q st (He.fAd K (x, some "__init__")) fd)
    (b : ∀ (kV doc pm : Value) (an : Option Addr) (cdv ct : Value) (us : List Value), us.length = ps.length → bindArgs (PySem.W.fnOf "__init__" q (defArgs st) (defBody st) (defScope st) .none kV doc pm an cdv ct) ⟨us, []⟩ = pure (ps.zip us)) : MakAt K mg x (He.ga K x) q st ps := by
  obtain ⟨fd, F⟩ := F
  exact ⟨_, fd, F, He.mkr_ok c2, He.glo_ok X G c0, F.bindsN b⟩
/-- the law's own def, from its promise -/
theorem law_mk {P : Program} {w : World} {K : PySem.W.Frag} {mg : Str → Option Value} {base : Heap} {k : Nat} {sp : Sp} {f : Addr} {fd : FuncData} {st : Stmt} {N : List Str} (F : FnP K "law" "law" st f fd)
    (S : FnScope N ["script"] (defScope st)) (len : ∀ vs H Q E, sp vs H Q E → vs.length = ["script"].length)
    (hbody : ∀ (f : Addr) (cdv : Value) (A : Around) (outer : List Env) (s : Shared) (H : Hp) (vs : List V) (Q : VK) (E : XK), Room k (A.deeper (envOfC "law" (defScope st) s.heap.objs.size f cdv)) → sp vs H Q E →
      ∃ t, PSs (cxOf C8.CX0 P w K mg base N "law" (defScope st) f cdv A outer s H E).nox (defBody st) t ∧ t { nx := fun _ H' => Q .non H', rt := Q } (start N vs) H) : FnOk P w K mg base C8.CX0 (k + 1) f fd ["script"] sp :=
  F.ok S len fun cdv A outer s H vs Q E hr hs => let ⟨t, h1, h2⟩ := hbody f cdv A outer s H vs Q E hr hs; ⟨t, PSs.nox h1, h2⟩
/-! ### heaps -/
/-- all that was tracked is as it was, but for d -/
def But (d : Addr) (H H' : Hp) : Prop := ∀ b o, H b = some o → b ≠ d → H' b = some o
theorem But.refl (d : Addr) (H : Hp) : But d H H := fun _ _ h _ => h
theorem But.trans {d : Addr} {H H1 H2 : Hp} (a : But d H H1) (b : But d H1 H2) : But d H H2 := fun c o h n => b c o (a c o h n) n
theorem Same.but {d : Addr} {H H' : Hp} (a : Same H H') : But d H H' := fun c o h _ => a c o h
theorem But.upd {d : Addr} {H : Hp} {o : HO} : But d H (L2.upd H d o) := fun b u h n => by rw [upd_ne n]; exact h
theorem same_new {H : Hp} {p : Addr} {o : HO} (h : H p = none) : Same H (upd H p o) := fun a u e => by rw [upd_ne (ne_of_none e h)]; exact e
theorem but_new {d : Addr} {H : Hp} {p : Addr} {o : HO} (h : H p = none) : But d H (upd H p o) := Same.but (same_new h)
theorem But.free {d p : Addr} {H H' : Hp} (a : But d H H') (hd : p ≠ d) (h : H' p = none) : H p = none := by
  cases q : H p with
  | none => rfl
  | some o => rw [a p o q hd] at h; cases h
theorem upd_id {H : Hp} {a : Addr} {o : HO} (h : H a = some o) : upd H a o = H := by
  funext b
  unfold upd
  split
  · rename_i e; rw [e, h]
  · rfl
end Pr
namespace Pr
open PySem PySem.Spec PyProof.Rows L2
theorem of_int {mg : Str → Option Value} {x : Str} {i : Int} (h : ∃ t, mg x = some (.int i t)) : ∃ u, mg x = some u ∧ RelV (.int i) u := let ⟨t, e⟩ := h; ⟨_, e, t, rfl⟩
theorem of_str {mg : Str → Option Value} {x z : Str} (h : ∃ t, mg x = some (.str z t)) : ∃ u, mg x = some u ∧ RelV (.str z) u := let ⟨t, e⟩ := h; ⟨_, e, t, rfl⟩
/-- what isinstance asks of an own class -/
def insB (K : PySem.W.Frag) (x : Str) : Bool := He.eqO (PySem.W.findIn K (.ref (He.ga K x)) "__class__") (some (some (.builtin "object.__class__"))) && (He.eqO (PySem.W.specialIn K (.builtin "object.__class__") "__get__") (some (some (.builtin "getset_descriptor.__get__"))) &&
  (decide (PySem.W.takesIn K (.builtin "object.__class__") = some true) && (decide (PySem.W.mroIn K (He.ga K x) (.type "object") = some true) && (decide (PySem.W.kitOne K (.ref (He.ga K x)) (.ref (He.ga K x)) = some true) && (He.Fa.cls x).ok K))))
theorem insB_ok {K : PySem.W.Frag} {x : Str} (h : insB K x = true) : C8.InsC K (He.ga K x) := by
  obtain ⟨h1, h⟩ := He.ba h
  obtain ⟨h2, h⟩ := He.ba h
  obtain ⟨h3, h⟩ := He.ba h
  obtain ⟨h4, h⟩ := He.ba h
  obtain ⟨h5, h6⟩ := He.ba h
  exact ⟨He.cls_ok h6, He.eqO_ok h1, He.eqO_ok h2, of_decide_eq_true h3, of_decide_eq_true h4, of_decide_eq_true h5⟩
/-- isinstance of two own classes -/
def kitB2 (K : PySem.W.Frag) (x y : Str) (b : Bool) : Bool := decide (PySem.W.kitOne K (.ref (He.ga K x)) (.ref (He.ga K y)) = some b)
theorem kitB2_ok {K : PySem.W.Frag} {x y : Str} {b : Bool} (h : kitB2 K x y b = true) : PySem.W.kitOne K (.ref (He.ga K x)) (.ref (He.ga K y)) = some b := of_decide_eq_true h
section
variable {X : Cx}
/-- // of any size, the divisor of any sign -/
def CDivWN (_ j : Int) : Prop := j ≠ 0 ∧ j.natAbs.log2 < 9000
theorem op_fdivWN : OpR X (binaryOp .FloorDiv) (rI CDivWN fun i j => .int (i.fdiv j)) := opI fun i j _ _ _ _ _ hc q => floordiv_int hc.1 q (.inl (PyProof.noPylong_of_log2 hc.2))
def rLcm : List V → Hp → VK → Prop := fun vs H Q => ∃ a b : Int, vs = [.int a, .int b] ∧ a.natAbs < 2 ^ 64 ∧ b.natAbs < 2 ^ 64 ∧ Q (.int ((Nat.lcm a.natAbs b.natAbs : Nat) : Int)) H
theorem cr_lcm : CallR X (.builtin "math.lcm") rLcm := by
  intro pins s σ H vs us Q I r h
  obtain ⟨a, b, rfl, h1, h2, q⟩ := h
  obtain ⟨t, u, rfl⟩ := Vals.int2 r
  exact PySem.W.mc_lcm h1 h2 fun _ => ⟨.int _, H, I.tok _, ⟨_, rfl⟩, q⟩
end
end Pr
namespace Pr
open PySem PySem.Spec PyProof.Rows L2
/-! ### == and in over data of any depth (no dicts, no instances) -/
def rEqP (K : PySem.W.Frag) : R2 := fun x y H Q => ∃ (d e : PyData) (r : Bool), Dp K H x d ∧ Dp K H y e ∧ d.plain = true ∧ e.plain = true ∧ d.depth ≤ 60 ∧ PyData.eqv d e = r ∧ Q (.bl r) H
def rNeP (K : PySem.W.Frag) : R2 := fun x y H Q => ∃ (d e : PyData) (r : Bool), Dp K H x d ∧ Dp K H y e ∧ d.plain = true ∧ e.plain = true ∧ d.depth ≤ 60 ∧ PyData.eqv d e = r ∧ Q (.bl (!r)) H
def rInP (K : PySem.W.Frag) (neg : Bool) : R2 := fun x y H Q => ∃ (d : PyData) (es : List PyData) (r : Bool), Dp K H x d ∧ (Dp K H y (.list es) ∨ Dp K H y (.tuple es)) ∧ d.plain = true ∧ PyData.plainAll es = true ∧ d.depth ≤ 60 ∧ es.any (fun e => PyData.eqv e d) = r ∧ Q (.bl (if neg then !r else r)) H
section
variable {X : Cx}
theorem op_eqP (hu : X.A.units + 64 < cLine) : OpR X (compareOp .Eq) (rEqP X.K) := by
  intro pins s σ H x y v u Q I rx ry h
  obtain ⟨d, e, r, hd, he, sd, se, dd, hr, q⟩ := h
  obtain ⟨as, r1⟩ := Dp.reads I d x v hd rx
  obtain ⟨bs, r2⟩ := Dp.reads I e y u he ry
  refine PySem.SeqAt.eq_plain r1 r2 sd se (by omega) ⟨.bl _, H, I, rfl, ?_⟩
  rw [hr]
  exact q
theorem op_neP (hu : X.A.units + 64 < cLine) : OpR X (compareOp .NotEq) (rNeP X.K) := by
  intro pins s σ H x y v u Q I rx ry h
  obtain ⟨d, e, r, hd, he, sd, se, dd, hr, q⟩ := h
  obtain ⟨as, r1⟩ := Dp.reads I d x v hd rx
  obtain ⟨bs, r2⟩ := Dp.reads I e y u he ry
  refine PySem.SeqAt.ne_plain r1 r2 sd se (by omega) ⟨.bl _, H, I, rfl, ?_⟩
  rw [hr]
  exact q
theorem op_inP (hu : X.A.units + 64 < cLine) : OpR X (compareOp .In) (rInP X.K false) := by
  intro pins s σ H x y v u Q I rx ry h
  obtain ⟨d, es, r, hd, he, sd, se, dd, hr, q⟩ := h
  obtain ⟨as, r1⟩ := Dp.reads I d x v hd rx
  rcases he with he | he
  · obtain ⟨bs, r2⟩ := Dp.reads I _ y u he ry
    refine PySem.SeqAt.in_list_data r2 r1 se sd (by omega) ⟨.bl _, H, I, rfl, ?_⟩
    rw [hr]
    exact q
  · obtain ⟨bs, r2⟩ := Dp.reads I _ y u he ry
    refine PySem.SeqAt.in_tuple_data r2 r1 se sd (by omega) ⟨.bl _, H, I, rfl, ?_⟩
    rw [hr]
    exact q
theorem op_notInP (hu : X.A.units + 64 < cLine) : OpR X (compareOp .NotIn) (rInP X.K true) := by
  intro pins s σ H x y v u Q I rx ry h
  obtain ⟨d, es, r, hd, he, sd, se, dd, hr, q⟩ := h
  obtain ⟨as, r1⟩ := Dp.reads I d x v hd rx
  rcases he with he | he
  · obtain ⟨bs, r2⟩ := Dp.reads I _ y u he ry
    refine PySem.SeqAt.notIn_list_data r2 r1 se sd (by omega) ⟨.bl _, H, I, rfl, ?_⟩
    rw [hr]
    exact q
  · obtain ⟨bs, r2⟩ := Dp.reads I _ y u he ry
    refine PySem.SeqAt.notIn_tuple_data r2 r1 se sd (by omega) ⟨.bl _, H, I, rfl, ?_⟩
    rw [hr]
    exact q
end
/-- data with a Lean type: the two ends of == -/
abbrev toD {α : Type} [DecidableEq α] [PySem.W.Datum α] (a : α) : PyData := PySem.W.Datum.toD a
theorem eq_at {α : Type} [DecidableEq α] [PySem.W.Datum α] {K : PySem.W.Frag} {H : Hp} {x y : V} {Q : VK} (a b : α) (hx : Dp K H x (toD a)) (hy : Dp K H y (toD b)) (hd : PySem.W.Datum.depth α ≤ 60) (q : Q (.bl (decide (a = b))) H) : rEqP K x y H Q :=
  ⟨_, _, _, hx, hy, PySem.W.Datum.plain a, PySem.W.Datum.plain b, Nat.le_trans (PySem.W.Datum.depth_le a) hd, PySem.W.Datum.eqv a b, q⟩
theorem ne_at {α : Type} [DecidableEq α] [PySem.W.Datum α] {K : PySem.W.Frag} {H : Hp} {x y : V} {Q : VK} (a b : α) (hx : Dp K H x (toD a)) (hy : Dp K H y (toD b)) (hd : PySem.W.Datum.depth α ≤ 60) (q : Q (.bl (!decide (a = b))) H) : rNeP K x y H Q :=
  ⟨_, _, _, hx, hy, PySem.W.Datum.plain a, PySem.W.Datum.plain b, Nat.le_trans (PySem.W.Datum.depth_le a) hd, PySem.W.Datum.eqv a b, q⟩
end Pr

/-! ### set(xs), xs a list of ints, and sorted of it -/
namespace Pr
open PySem PySem.Spec PyProof.Rows L2
abbrev sO (w : World) : Obj := { cls := .type "set", dict := none, data := .set #[] 0 (.fresh 0 0 (!w.params.followText "set-order")) }
abbrev sH (w : World) (h : Heap) : Heap := h.push (sO w)
/-- what is left behind: a set of these ints at a, all else as before -/
def SetLaid (w : World) (s s₂ : Shared) (ns : List Int) : Prop := ∃ (h' : Heap) (tk c : Nat), s₂ = { s with heap := h', toks := tk } ∧ SetR w h' s.heap.objs.size (fun j => decide (j ∈ ns)) c ∧ c ≤ ns.length ∧ ∀ b o, s.heap.get? b = some o → h'.get? b = some o
section
variable {P : Program} {w : World} {A : Around} {E : Value → Shared → Prop} {s : Shared} {l : Addr} {its : Array Value} {ns : List Int}
theorem vals_at (hI : IntsAre its.toList ns) (i : Nat) (v : Value) (hv : its[i]? = some v) : ∃ k t, ns[i]? = some k ∧ v = .int k t := by
  have en := hI.length; rw [Array.length_toList] at en
  have hi : i < ns.length := en ▸ (Array.getElem?_eq_some_iff.mp hv).1
  obtain ⟨t, e⟩ := IntsAre.int_at hI i v (by rw [Array.getElem?_toList]; exact hv)
  exact ⟨_, t, List.getElem?_eq_getElem hi, by rw [e, List.getD_eq_getElem?_getD, List.getElem?_eq_getElem hi] <;> rfl⟩
theorem laid_after {s' : Shared} {h₁ : Heap} {G : Array GenState → Array GenState → Prop} {I : Addr} {c : Nat} (hI : I = s.heap.objs.size + 1) (he : ∀ b o, s.heap.get? b = some o → h₁.get? b = some o)
    (hm : Moved [s.heap.objs.size, I] G { s with heap := h₁ } s') (hG : s'.gens = s.gens) (hS : SetR w s'.heap s.heap.objs.size (fun j => decide (j ∈ ns)) c) (hc : c ≤ ns.length) : SetLaid w s s' ns := by
  refine ⟨s'.heap, s'.toks, c, ?_, hS, hc, fun b o e => ?_⟩
  · have ed := hm.drawn; have eo := hm.os
    cases s'; cases s; cases hG; cases ed; cases eo; rfl
  · have hb := Heap.lt_size e
    refine hm.heap b o (fun z => ?_) (he b o e)
    rcases List.mem_cons.mp z with z | z
    · exact Nat.lt_irrefl _ (z ▸ hb)
    · have z := List.mem_singleton.mp z
      rw [z, hI] at hb
      exact Nat.lt_irrefl _ (Nat.lt_of_succ_lt hb)
theorem set_of_list {Q : Value → Shared → Prop} (hh : A.handled = none) (hl : s.heap.IsList l its) (hI : IntsAre its.toList ns) (hb : ns.length + 1 < scanBound)
    (h : ∀ s₂, SetLaid w s s₂ ns → Q (.ref s.heap.objs.size) s₂) : wpAny (model P w) A (call (.type "set") [.ref l]) Q E s := by
  obtain ⟨_, _, mro⟩ := F.called_set.mro
  have made := F.called_set.made; have sub := F.called_set.sub; have nty := F.called_set.notType; have can := F.called_set.canCreate; have tyc := F.typeCall_set_1 (.ref l)
  refine wpAny_call (codeAny_of_tree (show wpAny _ _ (callAny (.type "set") _) _ _ _ from wpAny_pure ⟨Code.quiet_builtin _ (by decide +kernel), codeAny_builtin F.entry_type_call ?_⟩))
  rw [Around.under_plain (weight_type_call_type "set" [.ref l] []) rfl]; repeat (any_goals (first | assumption | wp_step))
  refine codeAny_mono (code_set_led1 (.ref l) (E := E) (Q₁ := fun x s₁ => x = .ref s.heap.objs.size ∧ s₁ = { s with heap := sH w s.heap }) ⟨rfl, rfl⟩) ?_
  rintro (e | fl) s₁ hr; · exact hr
  cases fl with
  | ret x =>
    obtain ⟨rfl, rfl⟩ := hr
    have at0 : (sH w s.heap).get? s.heap.objs.size = some (sO w) := Heap.get?_push_size _ rfl
    have hT : Shared.TypeIs { s with heap := sH w s.heap } (.ref s.heap.objs.size) "set" := ⟨_, at0, rfl⟩
    have ini := F.called_set.init.lookup; have bnd := F.called_set.init.bind (.ref s.heap.objs.size)
    repeat (any_goals (first | assumption | wp_step))
    refine codeAny_mono (codeAny_call_builtin (R := wants (fun r s₂ => r = .none ∧ SetLaid w s s₂ ns) E) F.called_set.init.plain F.entry_set_init (check_set_init_1 hT ?_)) ?_
    · have en : its.size = ns.length := by have := hI.length; rw [Array.length_toList] at this; exact this
      obtain ⟨⟨oc, od, odt, osl⟩, ho, hcl, m, hd⟩ := id hl
      simp only at hcl hd; subst hcl hd
      have lt : l < s.heap.objs.size := Heap.lt_size ho
      have ho1 : (sH w s.heap).get? l = some ⟨.type "list", od, .seq its m, osl⟩ := Heap.get?_push_of_some _ ho
      have hl1 : (sH w s.heap).IsList l its := ⟨_, ho1, rfl, m, rfl⟩
      have n1 := F.sub_list_set; have n2 := F.sub_list_frozenset; have n3 : (Value.type "list" == Value.type "dict") = false := by decide
      unfold Builtin.«set.__init__» noKeywords Builtin.Frozenset.updateFrom
      generalize ePI : pyIter = PI; wp_walk; subst ePI
      refine wpAny_pyIter_list hl1 (wpAny_bind (wpAny_runValue ?_))
      have hh3 : A.in1.in1.in1.handled = none := by simp [hh]
      have sz : (sH w s.heap).objs.size = s.heap.objs.size + 1 := Heap.size_push ..
      have nI : l ≠ (sH w s.heap).objs.size := by rw [sz]; exact Nat.ne_of_lt (Nat.lt_succ_of_lt lt)
      have nS : s.heap.objs.size ∉ [(sH w s.heap).objs.size, l] := fun z => by
        rcases List.mem_cons.mp z with z | z; · exact absurd (z.trans sz) (Nat.ne_of_lt (Nat.lt_succ_self _))
        · exact Nat.ne_of_lt lt (List.mem_singleton.mp z).symm
      refine set_update_ints ((Walks.list hh3 _ l nI its).toS) s.heap.objs.size nS ns en hb (vals_at hI) (its.size - 0) 0 _ (by omega) (Nat.zero_le _) ⟨⟨_, Heap.get?_push_size _ rfl, rfl, rfl⟩, hl1.push _⟩ ⟨0, Nat.le_refl 0, setR_new_at (Heap.get?_push_of_some _ at0)⟩ fun s' c hm hc hS => ?_
      have J := laid_after (h₁ := _) sz (fun b o e => Heap.get?_push_of_some _ (Heap.get?_push_of_some _ e)) hm hm.gens hS (en ▸ hc)
      exact wpAny_pure (show wpAny _ _ (ret Value.none) _ _ _ from wpAny_pure ⟨rfl, J⟩)
    · rintro (e | fl) s₂ hr; · exact hr
      cases fl with
      | ret r => obtain ⟨rfl, J⟩ := hr; repeat (any_goals (first | assumption | wp_step))
                 exact h _ J
      | _ => exact hr.elim
  | _ => exact hr.elim
end
section
variable {X : Cx}
/-- set(xs) of a list of ints -/
def rSetL (w : World) (K : PySem.W.Frag) : List V → Hp → VK → Prop := fun vs H Q => ∃ (a : Addr) (ns : List Int), vs = [.ref a] ∧ SqL K H a (ns.map V.int) ∧ ns.length + 1 < scanBound ∧
  ∀ (p : Addr) (c : Nat), H p = none → c ≤ ns.length → Q (.ref p) (upd H p (SetO w p (fun j => decide (j ∈ ns)) c))
theorem cr_setL (hc : X.calm = true) : CallR X (.type "set") (rSetL X.w X.K) := by
  intro pins s σ H vs us Q I r h
  obtain ⟨a, ns, rfl, hS, hb, q⟩ := h
  rw [Vals.ref1 r]
  obtain ⟨its, rv, hl, _⟩ := I.list hS
  have hl' : s.heap.IsList a its.toArray := by obtain ⟨o, n, ho, h1, _, h2⟩ := hl; exact ⟨o, ho, h1, n, h2⟩
  refine set_of_list (I.ok.hd hc) hl' (ints_of_vals rv) hb ?_
  rintro _ ⟨h', tk, c, rfl, R, hcn, k⟩
  exact ⟨.ref _, _, I.laid (t' := tk) k (Nat.le_refl _) (setO_new R), rfl, q _ _ (I.hok.fresh (Nat.le_refl _)) hcn⟩
end
end Pr

namespace K04
open PySem PySem.Spec PyProof.Rows L2 Pr
/-! ### number maps in plain Lean -/
abbrev Row := Option (Int × Int × Int × Int)
/-- the row at an index (none where there is none) -/
def rowAt (rs : List Row) (i : Int) : Row := (rs[i.toNat]?).getD none
def stretchM (r : Row) (shift factor : Int) : Row := match r with
  | none => none
  | some (s, t, lo, hi) => if (hi - shift) / factor < -((shift - lo) / factor) then none else some (s * factor, s * shift + t, -((shift - lo) / factor), (hi - shift) / factor)
def quotM (slope start lo hi : Int) : Int × Int := if slope < 0 then (-((hi - start) / -slope), -(lo - start) / -slope) else (-(-(lo - start) / slope), (hi - start) / slope)
def cutM (s2 t2 slope start lo hi : Int) : Row := if hi < lo then none else some (s2 * slope, s2 * start + t2, lo, hi)
def compM (r : Row) (shift factor p : Int) (rs : List Row) : Row := match stretchM r shift factor with
  | none => none
  | some (s, t, lo, hi) => match rowAt rs (t % p) with
    | none => none
    | some (s2, t2, lo2, hi2) =>
      if s / p = 0 then (if lo2 ≤ t / p ∧ t / p ≤ hi2 then cutM s2 t2 (s / p) (t / p) lo hi else none)
      else cutM s2 t2 (s / p) (t / p) (if (quotM (s / p) (t / p) lo2 hi2).1 > lo then (quotM (s / p) (t / p) lo2 hi2).1 else lo) (if (quotM (s / p) (t / p) lo2 hi2).2 < hi then (quotM (s / p) (t / p) lo2 hi2).2 else hi)
def imM (p : Int) (rs : List Row) (x : Int) : Option Int := match rowAt rs (x % p) with
  | none => none
  | some (s, t, lo, hi) => if lo ≤ x / p ∧ x / p ≤ hi then some (s * (x / p) + t) else none
def facM (p2 : Int) : List Row → Nat → Nat
  | [], f => f
  | none :: rs, f => facM p2 rs f
  | some (s, _, _, _) :: rs, f => facM p2 rs (Nat.lcm f (p2.natAbs / Nat.gcd s.natAbs p2.natAbs))
def thenM (p1 : Int) (rs1 : List Row) (p2 : Int) (rs2 : List Row) (f : Int) : List Row := (List.range (p1 * f).toNat).map fun (i : Nat) => compM (rowAt rs1 ((i : Int) % p1)) ((i : Int) / p1) f p2 rs2

theorem facM_dvd {p2 : Int} : ∀ (rs : List Row) (f : Nat), f ∣ facM p2 rs f
  | [], f => Nat.dvd_refl f
  | none :: rs, f => facM_dvd rs f
  | some (s, _, _, _) :: rs, f => Nat.dvd_trans (Nat.dvd_lcm_left _ _) (facM_dvd rs _)
theorem facM_into {p2 : Int} : ∀ (rs : List Row) (f : Nat), f ∣ p2.natAbs → facM p2 rs f ∣ p2.natAbs
  | [], f, h => h
  | none :: rs, f, h => facM_into rs f h
  | some (s, _, _, _) :: rs, f, h => facM_into rs _ (Nat.lcm_dvd h (Nat.div_dvd_of_dvd (Nat.gcd_dvd_right _ _)))
theorem facM_row {p2 : Int} {s t lo hi : Int} : ∀ (rs : List Row) (f : Nat), some (s, t, lo, hi) ∈ rs → (p2.natAbs / Nat.gcd s.natAbs p2.natAbs) ∣ facM p2 rs f
  | [], f, h => by cases h
  | none :: rs, f, h => by
    rcases List.mem_cons.mp h with e | h
    · cases e
    · exact facM_row rs f h
  | some (a, b, c, d) :: rs, f, h => by
    rcases List.mem_cons.mp h with e | h
    · cases e
      exact Nat.dvd_trans (Nat.dvd_lcm_right _ _) (facM_dvd rs _)
    · exact facM_row rs _ h
theorem facM_mul {p2 : Int} {s t lo hi : Int} (hp : 0 < p2) {rs : List Row} {f : Nat} (h : some (s, t, lo, hi) ∈ rs) : p2 ∣ s * (facM p2 rs f : Nat) := by
  have h1 := facM_row (p2 := p2) rs f h
  have hg := Nat.gcd_dvd_right s.natAbs p2.natAbs
  have hs := Nat.gcd_dvd_left s.natAbs p2.natAbs
  have hpos : 0 < p2.natAbs := by omega
  have gpos : 0 < Nat.gcd s.natAbs p2.natAbs := Nat.gcd_pos_of_pos_right _ hpos
  obtain ⟨c, hc⟩ := h1
  obtain ⟨d, hd⟩ := hs
  have e1 : p2.natAbs = Nat.gcd s.natAbs p2.natAbs * (p2.natAbs / Nat.gcd s.natAbs p2.natAbs) := (Nat.mul_div_cancel' hg).symm
  have h2 : p2.natAbs ∣ s.natAbs * facM p2 rs f := by
    refine ⟨d * c, ?_⟩
    have : s.natAbs * facM p2 rs f = (Nat.gcd s.natAbs p2.natAbs * d) * ((p2.natAbs / Nat.gcd s.natAbs p2.natAbs) * c) := by rw [← hc, ← hd]
    rw [this]
    calc (Nat.gcd s.natAbs p2.natAbs * d) * ((p2.natAbs / Nat.gcd s.natAbs p2.natAbs) * c)
        = (Nat.gcd s.natAbs p2.natAbs * (p2.natAbs / Nat.gcd s.natAbs p2.natAbs)) * (d * c) := by
          rw [Nat.mul_assoc, Nat.mul_assoc, Nat.mul_left_comm d]
      _ = p2.natAbs * (d * c) := by rw [← e1]
  have h3 : p2.natAbs ∣ (s * (facM p2 rs f : Nat)).natAbs := by rw [Int.natAbs_mul]; exact h2
  exact Int.natAbs_dvd_natAbs.mp h3
theorem facM_pos {p2 : Int} (hp : 0 < p2) (rs : List Row) : 0 < facM p2 rs 1 := by
  have := facM_into (p2 := p2) rs 1 (Nat.one_dvd _)
  exact Nat.pos_of_dvd_of_pos this (by omega)
theorem facM_le {p2 : Int} (hp : 0 < p2) (rs : List Row) : ((facM p2 rs 1 : Nat) : Int) ≤ p2 := by
  have := Nat.le_of_dvd (by omega) (facM_into (p2 := p2) rs 1 (Nat.one_dvd _))
  omega

/-- an interval in steps of f: lo ≤ f * q + shift ≤ hi -/
theorem le_ceil {f shift lo q : Int} (hf : 0 < f) : -((shift - lo) / f) ≤ q ↔ lo ≤ f * q + shift := by
  constructor
  · intro h
    have h1 : -q ≤ (shift - lo) / f := by omega
    have h2 := (Int.le_ediv_iff_mul_le hf).mp h1
    have h3 : -q * f = -(f * q) := by rw [Int.neg_mul, Int.mul_comm]
    omega
  · intro h
    have h2 : -q * f ≤ shift - lo := by
      have h3 : -q * f = -(f * q) := by rw [Int.neg_mul, Int.mul_comm]
      omega
    have h1 := (Int.le_ediv_iff_mul_le hf).mpr h2
    omega
theorem le_floor {f shift hi q : Int} (hf : 0 < f) : q ≤ (hi - shift) / f ↔ f * q + shift ≤ hi := by
  rw [Int.le_ediv_iff_mul_le hf, Int.mul_comm q f]
  constructor <;> intro h <;> omega
theorem quot_iff {slope start lo hi q : Int} (h0 : slope ≠ 0) : ((quotM slope start lo hi).1 ≤ q ∧ q ≤ (quotM slope start lo hi).2) ↔ (lo ≤ slope * q + start ∧ slope * q + start ≤ hi) := by
  unfold quotM
  by_cases hs : slope < 0
  · rw [if_pos hs]
    have hp : 0 < -slope := by omega
    have e1 : (-slope) * q = -(slope * q) := by rw [Int.neg_mul]
    have a1 : -((hi - start) / -slope) ≤ q ↔ slope * q + start ≤ hi := by
      have := le_ceil (f := -slope) (shift := hi - start) (lo := 0) (q := q) hp
      rw [Int.sub_zero] at this
      rw [this, e1]
      constructor <;> intro h <;> omega
    have a2 : q ≤ -(lo - start) / -slope ↔ lo ≤ slope * q + start := by
      rw [Int.le_ediv_iff_mul_le hp, Int.mul_comm q, e1]
      constructor <;> intro h <;> omega
    constructor
    · rintro ⟨h1, h2⟩; exact ⟨a2.mp h2, a1.mp h1⟩
    · rintro ⟨h1, h2⟩; exact ⟨a1.mpr h2, a2.mpr h1⟩
  · rw [if_neg hs]
    have hp : 0 < slope := by omega
    have a1 : -(-(lo - start) / slope) ≤ q ↔ lo ≤ slope * q + start := by
      have := le_ceil (f := slope) (shift := -(lo - start)) (lo := 0) (q := q) hp
      rw [Int.sub_zero] at this
      rw [this]
      constructor <;> intro h <;> omega
    have a2 : q ≤ (hi - start) / slope ↔ slope * q + start ≤ hi := le_floor hp
    constructor
    · rintro ⟨h1, h2⟩; exact ⟨a1.mp h1, a2.mp h2⟩
    · rintro ⟨h1, h2⟩; exact ⟨a1.mpr h1, a2.mpr h2⟩
theorem cut_at {s2 t2 slope start lo hi q : Int} : (match cutM s2 t2 slope start lo hi with
    | none => (none : Option Int)
    | some (s, t, lo, hi) => if lo ≤ q ∧ q ≤ hi then some (s * q + t) else none) = if lo ≤ q ∧ q ≤ hi then some (s2 * (slope * q + start) + t2) else none := by
  unfold cutM
  by_cases h : hi < lo
  · rw [if_pos h]
    show none = _
    rw [if_neg (by omega)]
  · rw [if_neg h]
    show (if lo ≤ q ∧ q ≤ hi then some (s2 * slope * q + (s2 * start + t2)) else none) = _
    have e : s2 * slope * q + (s2 * start + t2) = s2 * (slope * q + start) + t2 := by rw [Int.mul_add, Int.mul_assoc]; omega
    rw [e]
/-- the row of a composition at q -/
theorem comp_at {r : Row} {shift f p q : Int} {rs : List Row} (hf : 0 < f) (hp : 0 < p) (hd : ∀ s t lo hi, r = some (s, t, lo, hi) → p ∣ s * f) :
    (match compM r shift f p rs with
    | none => (none : Option Int)
    | some (s, t, lo, hi) => if lo ≤ q ∧ q ≤ hi then some (s * q + t) else none) =
    (match r with
    | none => (none : Option Int)
    | some (s, t, lo, hi) => if lo ≤ f * q + shift ∧ f * q + shift ≤ hi then some (s * (f * q + shift) + t) else none).bind (imM p rs) := by
  cases r with
  | none => rfl
  | some r =>
    obtain ⟨s, t, lo, hi⟩ := r
    have hdv := hd s t lo hi rfl
    unfold compM stretchM
    have c1 := le_ceil (shift := shift) (lo := lo) (q := q) hf
    have c2 := le_floor (shift := shift) (hi := hi) (q := q) hf
    by_cases he : (hi - shift) / f < -((shift - lo) / f)
    · simp only [if_pos he]
      rw [if_neg (by intro h; have := c1.mpr h.1; have := c2.mpr h.2; omega)]
      rfl
    · simp only [if_neg he]
      obtain ⟨k, hk⟩ := hdv
      have e1 : s * f / p = k := by rw [hk]; exact Int.mul_ediv_cancel_left k (by omega)
      have ey : s * (f * q + shift) + t = p * (k * q) + (s * shift + t) := by
        have : s * (f * q) = p * (k * q) := by rw [← Int.mul_assoc, hk, Int.mul_assoc]
        rw [Int.mul_add, this]; omega
      have ed : (s * (f * q + shift) + t) / p = k * q + (s * shift + t) / p := by rw [ey, Int.mul_add_ediv_left _ _ (by omega)]
      have em : (s * (f * q + shift) + t) % p = (s * shift + t) % p := by rw [ey, Int.mul_add_emod_self_left]
      have eim : imM p rs (s * (f * q + shift) + t) = (match rowAt rs ((s * shift + t) % p) with
        | none => (none : Option Int)
        | some (s2, t2, lo2, hi2) => if lo2 ≤ k * q + (s * shift + t) / p ∧ k * q + (s * shift + t) / p ≤ hi2 then some (s2 * (k * q + (s * shift + t) / p) + t2) else none) := by
        unfold imM
        rw [em, ed]
      have eb : (if lo ≤ f * q + shift ∧ f * q + shift ≤ hi then some (s * (f * q + shift) + t) else none).bind (imM p rs) =
          if (-((shift - lo) / f) ≤ q ∧ q ≤ (hi - shift) / f) then imM p rs (s * (f * q + shift) + t) else none := by
        by_cases hq : lo ≤ f * q + shift ∧ f * q + shift ≤ hi
        · rw [if_pos hq, if_pos ⟨c1.mpr hq.1, c2.mpr hq.2⟩]; rfl
        · rw [if_neg hq, if_neg (fun h => hq ⟨c1.mp h.1, c2.mp h.2⟩)]; rfl
      rw [eb, eim, e1]
      cases hr : rowAt rs ((s * shift + t) % p) with
      | none => simp
      | some r2 =>
        obtain ⟨s2, t2, lo2, hi2⟩ := r2
        simp only
        by_cases hk0 : k = 0
        · subst hk0
          rw [if_pos rfl]
          have e0 : (0 : Int) * q + (s * shift + t) / p = (s * shift + t) / p := by omega
          rw [e0]
          by_cases hin : lo2 ≤ (s * shift + t) / p ∧ (s * shift + t) / p ≤ hi2
          · rw [if_pos hin, if_pos hin, cut_at, e0]
          · rw [if_neg hin, if_neg hin]
            simp
        · rw [if_neg hk0, cut_at]
          have qi := quot_iff (start := (s * shift + t) / p) (lo := lo2) (hi := hi2) (q := q) hk0
          generalize quotM k ((s * shift + t) / p) lo2 hi2 = b at qi
          generalize (s * shift + t) / p = st at qi
          generalize -((shift - lo) / f) = L
          generalize (hi - shift) / f = U
          have em : ((if b.1 > L then b.1 else L) ≤ q ∧ q ≤ (if b.2 < U then b.2 else U)) ↔ ((L ≤ q ∧ q ≤ U) ∧ (b.1 ≤ q ∧ q ≤ b.2)) := by
            constructor
            · rintro ⟨h1, h2⟩
              split at h1 <;> split at h2 <;> omega
            · rintro ⟨⟨h1, h2⟩, h3, h4⟩
              constructor <;> split <;> omega
          by_cases h1 : L ≤ q ∧ q ≤ U
          · rw [if_pos h1]
            by_cases h2 : b.1 ≤ q ∧ q ≤ b.2
            · rw [if_pos (em.mpr ⟨h1, h2⟩), if_pos (qi.mp h2)]
            · rw [if_neg (fun h => h2 (em.mp h).2), if_neg (fun h => h2 (qi.mpr h))]
          · rw [if_neg (fun h => h1 (em.mp h).1), if_neg h1]
theorem rowAt_mem {rs : List Row} {i : Int} {x : Int × Int × Int × Int} (h : rowAt rs i = some x) : some x ∈ rs := by
  unfold rowAt at h
  cases e : rs[i.toNat]? with
  | none => rw [e] at h; cases h
  | some r =>
    rw [e] at h
    have : r = some x := h
    rw [← this]
    exact List.mem_of_getElem? e
/-- THE LAW OF COMPOSITIONS -/
theorem then_im {p1 p2 : Int} {rs1 rs2 : List Row} (h1 : 0 < p1) (h2 : 0 < p2) (x : Int) :
    imM (p1 * (facM p2 rs1 1 : Nat)) (thenM p1 rs1 p2 rs2 (facM p2 rs1 1 : Nat)) x = (imM p1 rs1 x).bind (imM p2 rs2) := by
  have hf0 := facM_pos h2 rs1
  generalize hf : ((facM p2 rs1 1 : Nat) : Int) = f at *
  have hfp : 0 < f := by omega
  have hP : 0 < p1 * f := Int.mul_pos h1 hfp
  have n0 : 0 ≤ x % (p1 * f) := Int.emod_nonneg _ (by omega)
  have n1 : x % (p1 * f) < p1 * f := Int.emod_lt_of_pos _ hP
  have er : rowAt (thenM p1 rs1 p2 rs2 f) (x % (p1 * f)) = compM (rowAt rs1 (x % (p1 * f) % p1)) (x % (p1 * f) / p1) f p2 rs2 := by
    unfold rowAt thenM
    have hl : (x % (p1 * f)).toNat < (p1 * f).toNat := by omega
    rw [List.getElem?_map, List.getElem?_range hl]
    show compM _ _ _ _ _ = _
    have e : (((x % (p1 * f)).toNat : Nat) : Int) = x % (p1 * f) := Int.toNat_of_nonneg n0
    rw [e]
    rfl
  have em : x % (p1 * f) % p1 = x % p1 := Int.emod_emod_of_dvd x ⟨f, rfl⟩
  have ed : x / p1 = f * (x / (p1 * f)) + x % (p1 * f) / p1 := by
    have h3 := Int.mul_ediv_add_emod x (p1 * f)
    have h4 : x / p1 = (p1 * (f * (x / (p1 * f))) + x % (p1 * f)) / p1 := by
      rw [← Int.mul_assoc]; rw [h3]
    rw [h4, Int.mul_add_ediv_left _ _ (by omega)]
  have key := comp_at (r := rowAt rs1 (x % p1)) (shift := x % (p1 * f) / p1) (f := f) (p := p2) (q := x / (p1 * f)) (rs := rs2) hfp h2 (fun s t lo hi e => by
    have := facM_mul h2 (f := 1) (rowAt_mem e)
    rw [hf] at this
    exact this)
  have l1 : imM (p1 * f) (thenM p1 rs1 p2 rs2 f) x = (match compM (rowAt rs1 (x % p1)) (x % (p1 * f) / p1) f p2 rs2 with
    | none => (none : Option Int)
    | some (s, t, lo, hi) => if lo ≤ x / (p1 * f) ∧ x / (p1 * f) ≤ hi then some (s * (x / (p1 * f)) + t) else none) := by
    unfold imM
    rw [er, em]
  have l2 : imM p1 rs1 x = (match rowAt rs1 (x % p1) with
    | none => (none : Option Int)
    | some (s, t, lo, hi) => if lo ≤ f * (x / (p1 * f)) + x % (p1 * f) / p1 ∧ f * (x / (p1 * f)) + x % (p1 * f) / p1 ≤ hi then some (s * (f * (x / (p1 * f)) + x % (p1 * f) / p1) + t) else none) := by
    unfold imM
    rw [ed]
  rw [l1, l2]
  exact key
/-! ### sizes -/
def Bz (k : Nat) (x : Int) : Prop := x.natAbs < 2 ^ k
instance (k : Nat) (x : Int) : Decidable (Bz k x) := inferInstanceAs (Decidable (x.natAbs < 2 ^ k))
theorem Bz.mono {k j : Nat} {x : Int} (h : Bz k x) (hk : k ≤ j) : Bz j x := Nat.lt_of_lt_of_le h (Nat.pow_le_pow_right (by decide) hk)
theorem Bz.add {k : Nat} {x y : Int} (h : Bz k x) (h' : Bz k y) : Bz (k + 1) (x + y) := by
  unfold Bz at *
  have := Nat.pow_succ 2 k
  omega
theorem Bz.sub {k : Nat} {x y : Int} (h : Bz k x) (h' : Bz k y) : Bz (k + 1) (x - y) := by
  unfold Bz at *
  have := Nat.pow_succ 2 k
  omega
theorem Bz.neg {k : Nat} {x : Int} (h : Bz k x) : Bz k (-x) := by
  unfold Bz at *
  omega
theorem Bz.mul {k j : Nat} {x y : Int} (h : Bz k x) (h' : Bz j y) : Bz (k + j) (x * y) := by
  unfold Bz at *
  rw [Int.natAbs_mul, Nat.pow_add]
  exact Nat.mul_lt_mul'' h h'
theorem natAbs_div_le {x p : Int} (hp : 0 < p) : (x / p).natAbs ≤ x.natAbs := by
  rcases Int.lt_or_le x 0 with hx | hx
  · have h1 : x / p < 0 := Int.ediv_neg_of_neg_of_pos hx hp
    have h2 : x ≤ x / p := by
      rw [Int.le_ediv_iff_mul_le hp]
      have : x * p ≤ x * 1 := Int.mul_le_mul_of_nonpos_left (by omega) (by omega)
      omega
    omega
  · have h1 : 0 ≤ x / p := Int.ediv_nonneg hx (by omega)
    have h2 := Int.ediv_le_self p hx
    omega
theorem Bz.div {k : Nat} {x p : Int} (h : Bz k x) (hp : 0 < p) : Bz k (x / p) := Nat.lt_of_le_of_lt (natAbs_div_le hp) h
theorem Bz.small {k : Nat} {x : Int} (h : x.natAbs < 2 ^ k) : Bz k x := h
/-- a row's numbers are small, its interval is not empty -/
def RowOk (k : Nat) : Row → Prop
  | none => True
  | some (s, t, lo, hi) => Bz k s ∧ Bz k t ∧ Bz k lo ∧ Bz k hi ∧ lo ≤ hi
theorem stretch_ok {k : Nat} {r : Row} {shift f : Int} (h : RowOk k r) (hf : 0 < f) (bf : Bz 16 f) (bs : Bz 16 shift) (hk : 16 ≤ k) : RowOk (k + 17) (stretchM r shift f) := by
  cases r with
  | none => trivial
  | some r =>
    obtain ⟨s, t, lo, hi⟩ := r
    obtain ⟨h1, h2, h3, h4, h5⟩ := h
    unfold stretchM
    by_cases he : (hi - shift) / f < -((shift - lo) / f)
    · simp only [if_pos he]; trivial
    · simp only [if_neg he]
      refine ⟨(h1.mul bf).mono (by omega), (Bz.add (h1.mul bs) (h2.mono (by omega))), ((Bz.sub (bs.mono hk) h3).div hf).neg.mono (by omega), ((Bz.sub h4 (bs.mono hk)).div hf).mono (by omega), by omega⟩
theorem quot_ok {k : Nat} {slope start lo hi : Int} (h2 : Bz k start) (h3 : Bz k lo) (h4 : Bz k hi) (h0 : slope ≠ 0) : Bz (k + 1) (quotM slope start lo hi).1 ∧ Bz (k + 1) (quotM slope start lo hi).2 := by
  unfold quotM
  by_cases hs : slope < 0
  · rw [if_pos hs]
    exact ⟨((Bz.sub h4 h2).div (by omega)).neg, (Bz.sub h3 h2).neg.div (by omega)⟩
  · rw [if_neg hs]
    exact ⟨((Bz.sub h3 h2).neg.div (by omega)).neg, (Bz.sub h4 h2).div (by omega)⟩
theorem cut_ok {k j : Nat} {s2 t2 slope start lo hi : Int} (h1 : Bz k s2) (h2 : Bz k t2) (h3 : Bz j slope) (h4 : Bz j start) (h5 : Bz (k + j) lo) (h6 : Bz (k + j) hi) : RowOk (k + j + 1) (cutM s2 t2 slope start lo hi) := by
  unfold cutM
  by_cases h : hi < lo
  · rw [if_pos h]; trivial
  · rw [if_neg h]
    exact ⟨(h1.mul h3).mono (by omega), Bz.add (h1.mul h4) (h2.mono (by omega)), h5.mono (by omega), h6.mono (by omega), by omega⟩
theorem rowAt_ok {k : Nat} {rs : List Row} (h : ∀ r ∈ rs, RowOk k r) (i : Int) : RowOk k (rowAt rs i) := by
  unfold rowAt
  cases e : rs[i.toNat]? with
  | none => trivial
  | some r => exact h r (List.mem_of_getElem? e)
theorem comp_ok {k j : Nat} {r : Row} {shift f p : Int} {rs : List Row} (h : RowOk k r) (hr : ∀ r ∈ rs, RowOk j r) (hf : 0 < f) (hp : 0 < p) (bf : Bz 16 f) (bs : Bz 16 shift) (hk : 16 ≤ k) (hj : 1 ≤ j) : RowOk (k + j + 20) (compM r shift f p rs) := by
  have st := stretch_ok h hf bf bs hk
  unfold compM
  cases e : stretchM r shift f with
  | none => trivial
  | some q =>
    obtain ⟨s, t, lo, hi⟩ := q
    rw [e] at st
    obtain ⟨h1, h2, h3, h4, h5⟩ := st
    simp only
    have ro := rowAt_ok hr (t % p)
    cases e2 : rowAt rs (t % p) with
    | none => trivial
    | some q2 =>
      obtain ⟨s2, t2, lo2, hi2⟩ := q2
      rw [e2] at ro
      obtain ⟨g1, g2, g3, g4, g5⟩ := ro
      simp only
      have d1 : Bz (k + 17) (s / p) := h1.div hp
      have d2 : Bz (k + 17) (t / p) := h2.div hp
      by_cases h0 : s / p = 0
      · rw [if_pos h0]
        by_cases hin : lo2 ≤ t / p ∧ t / p ≤ hi2
        · rw [if_pos hin]
          have := cut_ok (k := j) (j := k + 19) g1 g2 (d1.mono (by omega)) (d2.mono (by omega)) (h3.mono (j := j + (k + 19)) (by omega)) (h4.mono (j := j + (k + 19)) (by omega))
          rwa [show j + (k + 19) + 1 = k + j + 20 by omega] at this
        · rw [if_neg hin]; trivial
      · rw [if_neg h0]
        obtain ⟨q1, q2⟩ := quot_ok (k := k + j + 17) (slope := s / p) (start := t / p) (lo := lo2) (hi := hi2) (d2.mono (by omega)) (g3.mono (by omega)) (g4.mono (by omega)) h0
        have := cut_ok (k := j) (j := k + 19) g1 g2 (d1.mono (by omega)) (d2.mono (by omega)) (lo := if (quotM (s / p) (t / p) lo2 hi2).1 > lo then (quotM (s / p) (t / p) lo2 hi2).1 else lo) (hi := if (quotM (s / p) (t / p) lo2 hi2).2 < hi then (quotM (s / p) (t / p) lo2 hi2).2 else hi)
          (by split; exact q1.mono (by omega); exact h3.mono (by omega)) (by split; exact q2.mono (by omega); exact h4.mono (by omega))
        rwa [show j + (k + 19) + 1 = k + j + 20 by omega] at this
theorem im_ok {k j : Nat} {p : Int} {rs : List Row} {x y : Int} (h : ∀ r ∈ rs, RowOk k r) (hp : 0 < p) (hx : Bz j x) (hj : 1 ≤ j) (e : imM p rs x = some y) : Bz (k + j + 1) y := by
  unfold imM at e
  have ro := rowAt_ok h (x % p)
  cases e2 : rowAt rs (x % p) with
  | none => rw [e2] at e; cases e
  | some q =>
    obtain ⟨s, t, lo, hi⟩ := q
    rw [e2] at e ro
    obtain ⟨h1, h2, _⟩ := ro
    have e3 : (if lo ≤ x / p ∧ x / p ≤ hi then some (s * (x / p) + t) else none) = some y := e
    by_cases hin : lo ≤ x / p ∧ x / p ≤ hi
    · rw [if_pos hin] at e3
      cases e3
      exact Bz.add (h1.mul (hx.div hp)) (h2.mono (by omega))
    · rw [if_neg hin] at e3
      cases e3

/-! ### differences of number maps -/
def rowVal (r : Row) (q : Int) : Option Int := match r with
  | none => none
  | some (s, t, lo, hi) => if lo ≤ q ∧ q ≤ hi then some (s * q + t) else none
/-- the row of a residue of a multiple of the period -/
def rowAtM (p : Int) (rs : List Row) (r P : Int) : Row := stretchM (rowAt rs (r % p)) (r / p) (P / p)
theorem str_at {r : Row} {sh f q : Int} (hf : 0 < f) : rowVal (stretchM r sh f) q = rowVal r (f * q + sh) := by
  cases r with
  | none => rfl
  | some r =>
    obtain ⟨s, t, lo, hi⟩ := r
    have c1 := le_ceil (shift := sh) (lo := lo) (q := q) hf
    have c2 := le_floor (shift := sh) (hi := hi) (q := q) hf
    unfold stretchM
    by_cases he : (hi - sh) / f < -((sh - lo) / f)
    · simp only [if_pos he]
      show none = if lo ≤ f * q + sh ∧ f * q + sh ≤ hi then some (s * (f * q + sh) + t) else none
      rw [if_neg (by intro h; have := c1.mpr h.1; have := c2.mpr h.2; omega)]
    · simp only [if_neg he]
      show (if -((sh - lo) / f) ≤ q ∧ q ≤ (hi - sh) / f then some (s * f * q + (s * sh + t)) else none) = if lo ≤ f * q + sh ∧ f * q + sh ≤ hi then some (s * (f * q + sh) + t) else none
      have e : s * f * q + (s * sh + t) = s * (f * q + sh) + t := by rw [Int.mul_add, Int.mul_assoc]; omega
      rw [e]
      by_cases hq : lo ≤ f * q + sh ∧ f * q + sh ≤ hi
      · rw [if_pos hq, if_pos ⟨c1.mpr hq.1, c2.mpr hq.2⟩]
      · rw [if_neg hq, if_neg fun h => hq ⟨c1.mp h.1, c2.mp h.2⟩]
theorem im_rowVal {p : Int} {rs : List Row} {x : Int} : imM p rs x = rowVal (rowAt rs (x % p)) (x / p) := rfl
theorem im_row {p P r q : Int} {rs : List Row} (hp : 0 < p) (hP : 0 < P) (hd : p ∣ P) : imM p rs (P * q + r) = rowVal (rowAtM p rs r P) q := by
  obtain ⟨f, rfl⟩ := hd
  have hf : 0 < f := by
    rcases Int.lt_or_le 0 f with h | h
    · exact h
    · have := Int.mul_nonpos_of_nonneg_of_nonpos (Int.le_of_lt hp) h
      omega
  have e1 : p * f / p = f := Int.mul_ediv_cancel_left f (by omega)
  unfold rowAtM
  rw [e1, str_at hf, im_rowVal]
  have e2 : (p * f * q + r) % p = r % p := by rw [Int.mul_assoc, Int.mul_add_emod_self_left]
  have e3 : (p * f * q + r) / p = f * q + r / p := by rw [Int.mul_assoc, Int.mul_add_ediv_left _ _ (by omega)]
  rw [e2, e3]
/-- a row is nothing, or its interval is not empty -/
def RowIn : Row → Prop
  | none => True
  | some (_, _, lo, hi) => lo ≤ hi
theorem stretch_in {r : Row} {sh f : Int} : RowIn (stretchM r sh f) := by
  cases r with
  | none => trivial
  | some r =>
    obtain ⟨s, t, lo, hi⟩ := r
    unfold stretchM
    by_cases he : (hi - sh) / f < -((sh - lo) / f)
    · simp only [if_pos he]; trivial
    · simp only [if_neg he]
      show -((sh - lo) / f) ≤ (hi - sh) / f
      omega
def endsR : Row → List Int
  | none => []
  | some (_, _, lo, hi) => [lo, hi]
theorem lin_eq {s1 t1 s2 t2 lo hi q : Int} (h1 : s1 * lo + t1 = s2 * lo + t2) (h2 : s1 * hi + t1 = s2 * hi + t2) (h3 : lo ≤ q) (h4 : q ≤ hi) : s1 * q + t1 = s2 * q + t2 := by
  have e1 : (s1 - s2) * lo = t2 - t1 := by rw [Int.sub_mul]; omega
  have e2 : (s1 - s2) * hi = t2 - t1 := by rw [Int.sub_mul]; omega
  have e3 : (s1 - s2) * (hi - lo) = 0 := by rw [Int.mul_sub]; omega
  have e4 : (s1 - s2) * q = t2 - t1 := by
    rcases Int.mul_eq_zero.mp e3 with h | h
    · rw [h, Int.zero_mul] at e1 ⊢
      exact e1
    · have : q = lo := by omega
      rw [this]
      exact e1
  rw [Int.sub_mul] at e4
  omega
theorem val_in {s t lo hi q : Int} (h : lo ≤ q ∧ q ≤ hi) : rowVal (some (s, t, lo, hi)) q = some (s * q + t) := if_pos h
theorem val_out {s t lo hi q : Int} (h : ¬ (lo ≤ q ∧ q ≤ hi)) : rowVal (some (s, t, lo, hi)) q = none := if_neg h
theorem dec_row {r1 r2 : Row} (h1 : RowIn r1) (h2 : RowIn r2) (h : ∀ q ∈ endsR r1 ++ endsR r2, rowVal r1 q = rowVal r2 q) (q : Int) : rowVal r1 q = rowVal r2 q := by
  cases r1 with
  | none =>
    cases r2 with
    | none => rfl
    | some r =>
      obtain ⟨s, t, lo, hi⟩ := r
      have z := h lo (by simp [endsR])
      rw [val_in ⟨Int.le_refl _, h2⟩] at z
      cases z
  | some r =>
    obtain ⟨s, t, lo, hi⟩ := r
    have hin1 : lo ≤ hi := h1
    cases r2 with
    | none =>
      have z := h lo (by simp [endsR])
      rw [val_in ⟨Int.le_refl _, hin1⟩] at z
      cases z
    | some r' =>
      obtain ⟨s', t', lo', hi'⟩ := r'
      have hin2 : lo' ≤ hi' := h2
      have za := h lo (by simp [endsR])
      have zb := h hi (by simp [endsR])
      have zc := h lo' (by simp [endsR])
      have zd := h hi' (by simp [endsR])
      rw [val_in ⟨Int.le_refl _, hin1⟩] at za
      rw [val_in ⟨hin1, Int.le_refl _⟩] at zb
      rw [val_in (s := s') (t := t') ⟨Int.le_refl _, hin2⟩] at zc
      rw [val_in (s := s') (t := t') ⟨hin2, Int.le_refl _⟩] at zd
      have a1 : lo' ≤ lo ∧ lo ≤ hi' := by
        by_cases c : lo' ≤ lo ∧ lo ≤ hi'
        · exact c
        · rw [val_out c] at za; cases za
      have a2 : lo' ≤ hi ∧ hi ≤ hi' := by
        by_cases c : lo' ≤ hi ∧ hi ≤ hi'
        · exact c
        · rw [val_out c] at zb; cases zb
      have a3 : lo ≤ lo' ∧ lo' ≤ hi := by
        by_cases c : lo ≤ lo' ∧ lo' ≤ hi
        · exact c
        · rw [val_out c] at zc; cases zc
      have a4 : lo ≤ hi' ∧ hi' ≤ hi := by
        by_cases c : lo ≤ hi' ∧ hi' ≤ hi
        · exact c
        · rw [val_out c] at zd; cases zd
      have el : lo' = lo := by omega
      have eh : hi' = hi := by omega
      subst el eh
      rw [val_in ⟨Int.le_refl _, hin1⟩] at za
      rw [val_in ⟨hin1, Int.le_refl _⟩] at zb
      by_cases c : lo' ≤ q ∧ q ≤ hi'
      · rw [val_in c, val_in c, lin_eq (Option.some.inj za) (Option.some.inj zb) c.1 c.2]
      · rw [val_out c, val_out c]
/-- the law's ends of a residue, in x -/
def endsM (p : Int) (rs : List Row) (P r : Int) : List Int := match rowAt rs (r % p) with
  | none => []
  | some (_, _, lo, hi) =>
    let first := p * lo + r % p + (r - (p * lo + r % p)) % P
    let last := p * hi + r % p - (p * hi + r % p - r) % P
    if last < first then [] else [first, last]
theorem ends_row {p P r : Int} {rs : List Row} (hp : 0 < p) (hP : 0 < P) (hd : p ∣ P) : endsM p rs P r = (endsR (rowAtM p rs r P)).map fun q => P * q + r := by
  obtain ⟨f, rfl⟩ := hd
  have hf : 0 < f := by
    rcases Int.lt_or_le 0 f with h | h
    · exact h
    · have := Int.mul_nonpos_of_nonneg_of_nonpos (Int.le_of_lt hp) h
      omega
  have e1 : p * f / p = f := Int.mul_ediv_cancel_left f (by omega)
  unfold endsM rowAtM
  rw [e1]
  cases rowAt rs (r % p) with
  | none => rfl
  | some q =>
    obtain ⟨s, t, lo, hi⟩ := q
    simp only
    have er : p * (r / p) + r % p = r := Int.mul_ediv_add_emod r p
    have em : ∀ q, p * f * q + r = p * (f * q + r / p) + r % p := fun q => by rw [Int.mul_add, ← Int.mul_assoc]; omega
    -- the first
    have a1 := (le_ceil (shift := r / p) (lo := lo) (q := -((r / p - lo) / f)) hf).mp (Int.le_refl _)
    have a2 : ¬ lo ≤ f * (-((r / p - lo) / f) - 1) + r / p := fun h => by
      have := (le_ceil (shift := r / p) (lo := lo) hf).mpr h
      omega
    have first : p * lo + r % p + (r - (p * lo + r % p)) % (p * f) = p * f * -((r / p - lo) / f) + r := by
      generalize -((r / p - lo) / f) = L at a1 a2
      have b1 : p * lo ≤ p * (f * L + r / p) := Int.mul_le_mul_of_nonneg_left a1 (by omega)
      have b2 : p * (f * (L - 1) + r / p) ≤ p * (lo - 1) := Int.mul_le_mul_of_nonneg_left (by omega) (by omega)
      have b3 := em L
      have b4 := em (L - 1)
      have b5 : p * f * (L - 1) = p * f * L - p * f := by rw [Int.mul_sub, Int.mul_one]
      have b6 : p * (lo - 1) = p * lo - p := by rw [Int.mul_sub, Int.mul_one]
      have c1 : (r - (p * lo + r % p)) % (p * f) = p * f * L + r - (p * lo + r % p) := by
        have c2 : r - (p * lo + r % p) = (p * f * L + r - (p * lo + r % p)) + p * f * (-L) := by rw [Int.mul_neg]; omega
        rw [c2, Int.add_mul_emod_self_left]
        exact Int.emod_eq_of_lt (by omega) (by have := Int.emod_lt_of_pos r hp; omega)
      omega
    have z1 := (le_floor (shift := r / p) (hi := hi) (q := (hi - r / p) / f) hf).mp (Int.le_refl _)
    have z2 : ¬ f * ((hi - r / p) / f + 1) + r / p ≤ hi := fun h => by
      have := (le_floor (shift := r / p) (hi := hi) hf).mpr h
      omega
    have last : p * hi + r % p - (p * hi + r % p - r) % (p * f) = p * f * ((hi - r / p) / f) + r := by
      generalize (hi - r / p) / f = U at z1 z2
      have b1 : p * (f * U + r / p) ≤ p * hi := Int.mul_le_mul_of_nonneg_left z1 (by omega)
      have b2 : p * (hi + 1) ≤ p * (f * (U + 1) + r / p) := Int.mul_le_mul_of_nonneg_left (by omega) (by omega)
      have b3 := em U
      have b4 := em (U + 1)
      have b5 : p * f * (U + 1) = p * f * U + p * f := by rw [Int.mul_add, Int.mul_one]
      have b6 : p * (hi + 1) = p * hi + p := by rw [Int.mul_add, Int.mul_one]
      have c1 : (p * hi + r % p - r) % (p * f) = p * hi + r % p - (p * f * U + r) := by
        have c2 : p * hi + r % p - r = (p * hi + r % p - (p * f * U + r)) + p * f * U := by omega
        rw [c2, Int.add_mul_emod_self_left]
        exact Int.emod_eq_of_lt (by omega) (by omega)
      omega
    rw [first, last]
    unfold stretchM
    by_cases he : (hi - r / p) / f < -((r / p - lo) / f)
    · simp only [if_pos he]
      have : p * f * ((hi - r / p) / f) + r < p * f * -((r / p - lo) / f) + r := by
        have := Int.mul_lt_mul_of_pos_left he hP
        omega
      rw [if_pos this]
      rfl
    · simp only [if_neg he]
      have : ¬ (p * f * ((hi - r / p) / f) + r < p * f * -((r / p - lo) / f) + r) := fun h => by
        have := Int.mul_le_mul_of_nonneg_left (show -((r / p - lo) / f) ≤ (hi - r / p) / f by omega) (Int.le_of_lt hP)
        omega
      rw [if_neg this]
      rfl
/-- the law's points decide -/
theorem ends_dec {p1 p2 P : Int} {rs1 rs2 : List Row} (h1 : 0 < p1) (h2 : 0 < p2) (hP : 0 < P) (d1 : p1 ∣ P) (d2 : p2 ∣ P)
    (h : ∀ r, 0 ≤ r → r < P → ∀ x ∈ endsM p1 rs1 P r ++ endsM p2 rs2 P r, imM p1 rs1 x = imM p2 rs2 x) (x : Int) : imM p1 rs1 x = imM p2 rs2 x := by
  have n0 : 0 ≤ x % P := Int.emod_nonneg _ (by omega)
  have n1 : x % P < P := Int.emod_lt_of_pos _ hP
  have hh := h (x % P) n0 n1
  rw [ends_row h1 hP d1, ends_row h2 hP d2, ← List.map_append] at hh
  have ex : x = P * (x / P) + x % P := (Int.mul_ediv_add_emod x P).symm
  rw [ex, im_row h1 hP d1, im_row h2 hP d2]
  have e3 : (P * (x / P) + x % P) % P = x % P := by rw [← ex]
  refine dec_row (by unfold rowAtM; exact stretch_in) (by unfold rowAtM; exact stretch_in) (fun q hq => ?_) _
  have := hh (P * q + x % P) (List.mem_map.mpr ⟨q, hq, rfl⟩)
  rw [im_row h1 hP d1, im_row h2 hP d2] at this
  exact this
/-! ### the nearest difference -/
def keyLe (b c : Int) : Prop := b.natAbs < c.natAbs ∨ (b.natAbs = c.natAbs ∧ c ≤ b)
theorem keyLe.trans {a b c : Int} (h : keyLe a b) (h' : keyLe b c) : keyLe a c := by
  unfold keyLe at *
  omega
theorem keyLe.anti {a b : Int} (h : keyLe a b) (h' : keyLe b a) : a = b := by
  unfold keyLe at *
  omega
theorem keyLe.refl (a : Int) : keyLe a a := .inr ⟨rfl, Int.le_refl _⟩
/-- the first difference of two maps, or none -/
def Nearest (D : Int → Prop) : Option Int → Prop
  | none => ∀ x, ¬ D x
  | some b => D b ∧ ∀ c, D c → keyLe b c
theorem Nearest.one {D : Int → Prop} {a b : Option Int} (h : Nearest D a) (h' : Nearest D b) : a = b := by
  cases a with
  | none =>
    cases b with
    | none => rfl
    | some b => exact (h b h'.1).elim
  | some a =>
    cases b with
    | none => exact (h' a h.1).elim
    | some b => rw [(h.2 b h'.1).anti (h'.2 a h.1)]
theorem least_nat {E : Nat → Prop} : ∀ (n m : Nat), m ≤ n → E m → ∃ k, E k ∧ ∀ j, E j → k ≤ j
  | 0, m, hm, h => ⟨m, h, fun j _ => by omega⟩
  | n + 1, m, hm, h => by
    by_cases c : ∃ j, j < m ∧ E j
    · obtain ⟨j, hj, ej⟩ := c
      exact least_nat n j (by omega) ej
    · exact ⟨m, h, fun j ej => by
        rcases Nat.lt_or_ge j m with l | l
        · exact (c ⟨j, l, ej⟩).elim
        · exact l⟩
theorem exists_min {D : Int → Prop} {x : Int} (h : D x) : ∃ b, D b ∧ ∀ c, D c → keyLe b c := by
  obtain ⟨k, ⟨y, hy, ey⟩, hk⟩ := least_nat (E := fun n => ∃ y, D y ∧ y.natAbs = n) x.natAbs x.natAbs (Nat.le_refl _) ⟨x, h, rfl⟩
  by_cases c : D (k : Int)
  · refine ⟨(k : Int), c, fun z hz => ?_⟩
    have := hk z.natAbs ⟨z, hz, rfl⟩
    unfold keyLe
    omega
  · refine ⟨y, hy, fun z hz => ?_⟩
    have h1 := hk z.natAbs ⟨z, hz, rfl⟩
    have h2 : y ≠ (k : Int) := fun e => c (by rw [← e]; exact hy)
    unfold keyLe
    by_cases e : z.natAbs = k
    · have : z ≠ (k : Int) := fun e' => c (by rw [← e']; exact hz)
      omega
    · omega
def nearR : Row → List Int
  | none => []
  | some (_, _, lo, hi) => [lo - 1, lo, lo + 1, hi - 1, hi, hi + 1]
def nearL (r1 r2 : Row) : List Int := [-2, -1, 0, 1] ++ nearR r1 ++ nearR r2
theorem lin_back {s1 t1 s2 t2 q : Int} (h1 : s1 * (q - 1) + t1 = s2 * (q - 1) + t2) (h2 : s1 * (q - 2) + t1 = s2 * (q - 2) + t2) : s1 * q + t1 = s2 * q + t2 := by
  rw [Int.mul_sub, Int.mul_sub] at h1 h2
  omega
theorem lin_fore {s1 t1 s2 t2 q : Int} (h1 : s1 * (q + 1) + t1 = s2 * (q + 1) + t2) (h2 : s1 * (q + 2) + t1 = s2 * (q + 2) + t2) : s1 * q + t1 = s2 * q + t2 := by
  rw [Int.mul_add, Int.mul_add] at h1 h2
  omega
/-- two rows that agree on the two places before q and differ at q have an end near q -/
theorem near_back {r1 r2 : Row} {q : Int} (hq : rowVal r1 q ≠ rowVal r2 q) (h1 : rowVal r1 (q - 1) = rowVal r2 (q - 1)) (h2 : rowVal r1 (q - 2) = rowVal r2 (q - 2)) : q ∈ nearR r1 ++ nearR r2 := by
  by_cases hn : q ∈ nearR r1 ++ nearR r2
  · exact hn
  exfalso
  cases r1 with
  | none =>
    cases r2 with
    | none => exact hq rfl
    | some r =>
      obtain ⟨s, t, lo, hi⟩ := r
      simp only [nearR, List.nil_append, List.mem_cons, List.not_mem_nil, or_false, not_or] at hn
      by_cases c : lo ≤ q ∧ q ≤ hi
      · rw [val_in (q := q - 1) (by omega)] at h1
        cases h1
      · rw [val_out c] at hq
        exact hq rfl
  | some r =>
    obtain ⟨s, t, lo, hi⟩ := r
    cases r2 with
    | none =>
      simp only [nearR, List.append_nil, List.mem_cons, List.not_mem_nil, or_false, not_or] at hn
      by_cases c : lo ≤ q ∧ q ≤ hi
      · rw [val_in (q := q - 1) (by omega)] at h1
        cases h1
      · rw [val_out c] at hq
        exact hq rfl
    | some r' =>
      obtain ⟨s', t', lo', hi'⟩ := r'
      simp only [nearR, List.mem_append, List.mem_cons, List.not_mem_nil, or_false, not_or] at hn
      by_cases c : lo ≤ q ∧ q ≤ hi
      · rw [val_in (q := q - 1) (by omega)] at h1
        rw [val_in (q := q - 2) (by omega)] at h2
        by_cases c' : lo' ≤ q ∧ q ≤ hi'
        · rw [val_in (q := q - 1) (by omega)] at h1
          rw [val_in (q := q - 2) (by omega)] at h2
          rw [val_in c, val_in c'] at hq
          exact hq (congrArg some (lin_back (Option.some.inj h1) (Option.some.inj h2)))
        · rw [val_out (s := s') (t := t') (q := q - 1) (by omega)] at h1
          cases h1
      · by_cases c' : lo' ≤ q ∧ q ≤ hi'
        · rw [val_in (s := s') (t := t') (q := q - 1) (by omega), val_out (q := q - 1) (by omega)] at h1
          cases h1
        · rw [val_out c, val_out c'] at hq
          exact hq rfl
theorem near_fore {r1 r2 : Row} {q : Int} (hq : rowVal r1 q ≠ rowVal r2 q) (h1 : rowVal r1 (q + 1) = rowVal r2 (q + 1)) (h2 : rowVal r1 (q + 2) = rowVal r2 (q + 2)) : q ∈ nearR r1 ++ nearR r2 := by
  by_cases hn : q ∈ nearR r1 ++ nearR r2
  · exact hn
  exfalso
  cases r1 with
  | none =>
    cases r2 with
    | none => exact hq rfl
    | some r =>
      obtain ⟨s, t, lo, hi⟩ := r
      simp only [nearR, List.nil_append, List.mem_cons, List.not_mem_nil, or_false, not_or] at hn
      by_cases c : lo ≤ q ∧ q ≤ hi
      · rw [val_in (q := q + 1) (by omega)] at h1
        cases h1
      · rw [val_out c] at hq
        exact hq rfl
  | some r =>
    obtain ⟨s, t, lo, hi⟩ := r
    cases r2 with
    | none =>
      simp only [nearR, List.append_nil, List.mem_cons, List.not_mem_nil, or_false, not_or] at hn
      by_cases c : lo ≤ q ∧ q ≤ hi
      · rw [val_in (q := q + 1) (by omega)] at h1
        cases h1
      · rw [val_out c] at hq
        exact hq rfl
    | some r' =>
      obtain ⟨s', t', lo', hi'⟩ := r'
      simp only [nearR, List.mem_append, List.mem_cons, List.not_mem_nil, or_false, not_or] at hn
      by_cases c : lo ≤ q ∧ q ≤ hi
      · rw [val_in (q := q + 1) (by omega)] at h1
        rw [val_in (q := q + 2) (by omega)] at h2
        by_cases c' : lo' ≤ q ∧ q ≤ hi'
        · rw [val_in (q := q + 1) (by omega)] at h1
          rw [val_in (q := q + 2) (by omega)] at h2
          rw [val_in c, val_in c'] at hq
          exact hq (congrArg some (lin_fore (Option.some.inj h1) (Option.some.inj h2)))
        · rw [val_out (s := s') (t := t') (q := q + 1) (by omega)] at h1
          cases h1
      · by_cases c' : lo' ≤ q ∧ q ≤ hi'
        · rw [val_in (s := s') (t := t') (q := q + 1) (by omega), val_out (q := q + 1) (by omega)] at h1
          cases h1
        · rw [val_out c, val_out c'] at hq
          exact hq rfl
/-- the nearest difference stands among the near quotients of its residue -/
theorem near_min {p1 p2 P b : Int} {rs1 rs2 : List Row} (h1 : 0 < p1) (h2 : 0 < p2) (hP : 0 < P) (d1 : p1 ∣ P) (d2 : p2 ∣ P) (hb : imM p1 rs1 b ≠ imM p2 rs2 b)
    (hm : ∀ c, imM p1 rs1 c ≠ imM p2 rs2 c → keyLe b c) : b / P ∈ nearL (rowAtM p1 rs1 (b % P) P) (rowAtM p2 rs2 (b % P) P) := by
  have n0 : 0 ≤ b % P := Int.emod_nonneg _ (by omega)
  have n1 : b % P < P := Int.emod_lt_of_pos _ hP
  have ex : P * (b / P) + b % P = b := Int.mul_ediv_add_emod b P
  have agree : ∀ k : Int, ¬ keyLe b (P * k + b % P) → rowVal (rowAtM p1 rs1 (b % P) P) k = rowVal (rowAtM p2 rs2 (b % P) P) k := fun k hk => by
    rw [← im_row h1 hP d1, ← im_row h2 hP d2]
    exact Classical.byContradiction fun z => hk (hm _ z)
  have hq : rowVal (rowAtM p1 rs1 (b % P) P) (b / P) ≠ rowVal (rowAtM p2 rs2 (b % P) P) (b / P) := by
    rw [← im_row h1 hP d1, ← im_row h2 hP d2, ex]
    exact hb
  unfold nearL
  rw [List.append_assoc, List.mem_append]
  generalize b / P = q at *
  generalize b % P = r at *
  by_cases c1 : 2 ≤ q
  · right
    have e1 : P * (q - 1) = P * q - P := by rw [Int.mul_sub, Int.mul_one]
    have e2 : P * (q - 2) = P * q - P * 2 := by rw [Int.mul_sub]
    have g2 : P * 2 ≤ P * q := Int.mul_le_mul_of_nonneg_left c1 (by omega)
    exact near_back hq (agree _ (by unfold keyLe; omega)) (agree _ (by unfold keyLe; omega))
  · by_cases c2 : q ≤ -3
    · right
      have e1 : P * (q + 1) = P * q + P := by rw [Int.mul_add, Int.mul_one]
      have e2 : P * (q + 2) = P * q + P * 2 := by rw [Int.mul_add]
      have g2 : P * q ≤ P * (-3) := Int.mul_le_mul_of_nonneg_left c2 (by omega)
      exact near_fore hq (agree _ (by unfold keyLe; omega)) (agree _ (by unfold keyLe; omega))
    · left
      have : q = -2 ∨ q = -1 ∨ q = 0 ∨ q = 1 := by omega
      rcases this with rfl | rfl | rfl | rfl <;> simp
/-- the best of what was seen -/
def Best (D S : Int → Prop) : Option Int → Prop
  | none => ∀ x, S x → ¬ D x
  | some b => D b ∧ ∀ c, S c → D c → keyLe b c
/-- what number_difference looks at: residue by residue -/
def Seen (p1 p2 P : Int) (rs1 rs2 : List Row) (i : Nat) (x : Int) : Prop := ∃ (r : Nat) (q : Int), r < i ∧ rowAtM p1 rs1 r P ≠ rowAtM p2 rs2 r P ∧ q ∈ nearL (rowAtM p1 rs1 r P) (rowAtM p2 rs2 r P) ∧ x = P * q + r
theorem best_near {p1 p2 P : Int} {rs1 rs2 : List Row} {o : Option Int} (h1 : 0 < p1) (h2 : 0 < p2) (hP : 0 < P) (d1 : p1 ∣ P) (d2 : p2 ∣ P)
    (h : Best (fun x => imM p1 rs1 x ≠ imM p2 rs2 x) (Seen p1 p2 P rs1 rs2 P.toNat) o) : Nearest (fun x => imM p1 rs1 x ≠ imM p2 rs2 x) o := by
  have seen : ∀ b, imM p1 rs1 b ≠ imM p2 rs2 b → (∀ c, imM p1 rs1 c ≠ imM p2 rs2 c → keyLe b c) → Seen p1 p2 P rs1 rs2 P.toNat b := fun b hb hm => by
    have n0 : 0 ≤ b % P := Int.emod_nonneg _ (by omega)
    have n1 : b % P < P := Int.emod_lt_of_pos _ hP
    have ex : P * (b / P) + b % P = b := Int.mul_ediv_add_emod b P
    have er : (((b % P).toNat : Nat) : Int) = b % P := Int.toNat_of_nonneg n0
    refine ⟨(b % P).toNat, b / P, by omega, ?_, ?_, by rw [er, ex]⟩
    · rw [er]
      intro e
      apply hb
      have z1 := im_row (rs := rs1) (r := b % P) (q := b / P) h1 hP d1
      have z2 := im_row (rs := rs2) (r := b % P) (q := b / P) h2 hP d2
      rw [ex] at z1 z2
      rw [z1, z2, e]
    · rw [er]
      exact near_min h1 h2 hP d1 d2 hb hm
  cases o with
  | none =>
    intro x hx
    obtain ⟨b, hb, hm⟩ := exists_min (D := fun x => imM p1 rs1 x ≠ imM p2 rs2 x) hx
    exact h b (seen b hb hm) hb
  | some b =>
    refine ⟨h.1, fun c hc => ?_⟩
    obtain ⟨m, hm, hmin⟩ := exists_min (D := fun x => imM p1 rs1 x ≠ imM p2 rs2 x) hc
    exact (h.2 m (seen m hm hmin) hm).trans (hmin c hc)

def top (i : Nat) : Stmt := PySem.Challenge.pw_surebridge_k04_decisive_numbers.main.body.getD i (.Pass ⟨0, 0, 0, 0⟩)
abbrev s_stretched : Stmt := top 6
abbrev s_NumberMap___init__ : Stmt := inClass (top 7) 0
abbrev s_NumberMap_image : Stmt := inClass (top 7) 1
abbrev s_row_at : Stmt := top 8
abbrev s_decisive_numbers : Stmt := top 9
abbrev s__law_deck : Stmt := top 11
abbrev s__law_take : Stmt := top 12
abbrev s__law_whole : Stmt := top 13
abbrev s__law_parts : Stmt := top 14
abbrev s__law_number_image : Stmt := top 15
abbrev s__law_ends : Stmt := top 16
abbrev s__law_common : Stmt := top 17
abbrev s__law_points : Stmt := top 18
abbrev s__law_refined : Stmt := top 19
abbrev s__law_touched : Stmt := top 20
abbrev s__law_near : Stmt := top 21
abbrev s__law_is_integer : Stmt := top 22
abbrev s__law_listed : Stmt := top 23
abbrev s__law_shown : Stmt := top 24
abbrev s_law : Stmt := top 25
abbrev N_stretched : List Str := ["row", "shift", "factor", "low", "high"]
theorem sc_stretched : FnScope N_stretched ["row", "shift", "factor"] (defScope s_stretched) := ⟨rfl, rfl, rfl, by decide +kernel, rfl, by decide +kernel, by decide +kernel⟩
abbrev N_NumberMap___init__ : List Str := ["self", "period", "rows", "row"]
theorem sc_NumberMap___init__ : FnScope N_NumberMap___init__ ["self", "period", "rows"] (defScope s_NumberMap___init__) := ⟨rfl, rfl, rfl, by decide +kernel, rfl, by decide +kernel, by decide +kernel⟩
abbrev N_NumberMap_image : List Str := ["self", "x", "row"]
theorem sc_NumberMap_image : FnScope N_NumberMap_image ["self", "x"] (defScope s_NumberMap_image) := ⟨rfl, rfl, rfl, by decide +kernel, rfl, by decide +kernel, by decide +kernel⟩
abbrev N_row_at : List Str := ["number_map", "residue", "period", "factor"]
theorem sc_row_at : FnScope N_row_at ["number_map", "residue", "period"] (defScope s_row_at) := ⟨rfl, rfl, rfl, by decide +kernel, rfl, by decide +kernel, by decide +kernel⟩
abbrev N_decisive_numbers : List Str := ["first", "second", "period", "numbers", "residue", "row"]
theorem sc_decisive_numbers : FnScope N_decisive_numbers ["first", "second"] (defScope s_decisive_numbers) := ⟨rfl, rfl, rfl, by decide +kernel, rfl, by decide +kernel, by decide +kernel⟩
abbrev N__law_deck : List Str := ["script", "cells", "each", "deck", "seed", "k", "cell", "rest", "at"]
theorem sc__law_deck : FnScope N__law_deck ["script", "cells", "each"] (defScope s__law_deck) := ⟨rfl, rfl, rfl, by decide +kernel, rfl, by decide +kernel, by decide +kernel⟩
abbrev N__law_take : List Str := ["deck", "many"]
theorem sc__law_take : FnScope N__law_take ["deck", "many"] (defScope s__law_take) := ⟨rfl, rfl, rfl, by decide +kernel, rfl, by decide +kernel, by decide +kernel⟩
abbrev N__law_whole : List Str := ["deck", "digit", "small"]
theorem sc__law_whole : FnScope N__law_whole ["deck"] (defScope s__law_whole) := ⟨rfl, rfl, rfl, by decide +kernel, rfl, by decide +kernel, by decide +kernel⟩
abbrev N__law_parts : List Str := ["deck", "most", "period", "rows", "at", "row", "low", "wide"]
theorem sc__law_parts : FnScope N__law_parts ["deck", "most"] (defScope s__law_parts) := ⟨rfl, rfl, rfl, by decide +kernel, rfl, by decide +kernel, by decide +kernel⟩
abbrev N__law_number_image : List Str := ["parts", "x", "row", "at"]
theorem sc__law_number_image : FnScope N__law_number_image ["parts", "x"] (defScope s__law_number_image) := ⟨rfl, rfl, rfl, by decide +kernel, rfl, by decide +kernel, by decide +kernel⟩
abbrev N__law_ends : List Str := ["parts", "period", "residue", "size", "rows", "at", "row", "first", "last"]
theorem sc__law_ends : FnScope N__law_ends ["parts", "period", "residue"] (defScope s__law_ends) := ⟨rfl, rfl, rfl, by decide +kernel, rfl, by decide +kernel, by decide +kernel⟩
abbrev N__law_common : List Str := ["first", "second", "period"]
theorem sc__law_common : FnScope N__law_common ["first", "second"] (defScope s__law_common) := ⟨rfl, rfl, rfl, by decide +kernel, rfl, by decide +kernel, by decide +kernel⟩
abbrev N__law_points : List Str := ["first", "second", "period", "points", "residue", "end"]
theorem sc__law_points : FnScope N__law_points ["first", "second"] (defScope s__law_points) := ⟨rfl, rfl, rfl, by decide +kernel, rfl, by decide +kernel, by decide +kernel⟩
abbrev N__law_refined : List Str := ["parts", "factor", "size", "rows", "found", "at", "row", "shift", "low", "high"]
theorem sc__law_refined : FnScope N__law_refined ["parts", "factor"] (defScope s__law_refined) := ⟨rfl, rfl, rfl, by decide +kernel, rfl, by decide +kernel, by decide +kernel⟩
abbrev N__law_touched : List Str := ["deck", "row", "digit", "slope", "start", "low", "high", "change", "cross"]
theorem sc__law_touched : FnScope N__law_touched ["deck", "row"] (defScope s__law_touched) := ⟨rfl, rfl, rfl, by decide +kernel, rfl, by decide +kernel, by decide +kernel⟩
abbrev N__law_near : List Str := ["deck", "parts", "size", "rows", "k", "at", "row", "slope"]
theorem sc__law_near : FnScope N__law_near ["deck", "parts"] (defScope s__law_near) := ⟨rfl, rfl, rfl, by decide +kernel, rfl, by decide +kernel, by decide +kernel⟩
abbrev N__law_is_integer : List Str := ["actual"]
theorem sc__law_is_integer : FnScope N__law_is_integer ["actual"] (defScope s__law_is_integer) := ⟨rfl, rfl, rfl, by decide +kernel, rfl, by decide +kernel, by decide +kernel⟩
abbrev N__law_listed : List Str := ["found", "period", "at"]
theorem sc__law_listed : FnScope N__law_listed ["found", "period"] (defScope s__law_listed) := ⟨rfl, rfl, rfl, by decide +kernel, rfl, by decide +kernel, by decide +kernel⟩
abbrev N__law_shown : List Str := ["first", "second", "numbers", "x"]
theorem sc__law_shown : FnScope N__law_shown ["first", "second", "numbers"] (defScope s__law_shown) := ⟨rfl, rfl, rfl, by decide +kernel, rfl, by decide +kernel, by decide +kernel⟩
abbrev N_law : List Str := ["script", "deck", "first", "second", "one", "other", "found", "same", "asked", "x", "again", "k"]
theorem sc_law : FnScope N_law ["script"] (defScope s_law) := ⟨rfl, rfl, rfl, by decide +kernel, rfl, by decide +kernel, by decide +kernel⟩
structure Tx (K : PySem.W.Frag) (mg : Str → Option Value) : Prop where
  d_stretched : DefAt K mg "stretched" s_stretched ["row", "shift", "factor"]
  d_NumberMap___init__ : MakAt K mg "NumberMap" (He.ga K "NumberMap") "NumberMap.__init__" s_NumberMap___init__ ["self", "period", "rows"]
  d_NumberMap_image : MetAt K (He.ga K "NumberMap") "image" "NumberMap.image" s_NumberMap_image ["self", "x"]
  d_row_at : DefAt K mg "row_at" s_row_at ["number_map", "residue", "period"]
  d_decisive_numbers : DefAt K mg "decisive_numbers" s_decisive_numbers ["first", "second"]
  d__law_deck : DefAt K mg "_law_deck" s__law_deck ["script", "cells", "each"]
  d__law_take : DefAt K mg "_law_take" s__law_take ["deck", "many"]
  d__law_whole : DefAt K mg "_law_whole" s__law_whole ["deck"]
  d__law_parts : DefAt K mg "_law_parts" s__law_parts ["deck", "most"]
  d__law_number_image : DefAt K mg "_law_number_image" s__law_number_image ["parts", "x"]
  d__law_ends : DefAt K mg "_law_ends" s__law_ends ["parts", "period", "residue"]
  d__law_common : DefAt K mg "_law_common" s__law_common ["first", "second"]
  d__law_points : DefAt K mg "_law_points" s__law_points ["first", "second"]
  d__law_refined : DefAt K mg "_law_refined" s__law_refined ["parts", "factor"]
  d__law_touched : DefAt K mg "_law_touched" s__law_touched ["deck", "row"]
  d__law_near : DefAt K mg "_law_near" s__law_near ["deck", "parts"]
  d__law_is_integer : DefAt K mg "_law_is_integer" s__law_is_integer ["actual"]
  d__law_listed : DefAt K mg "_law_listed" s__law_listed ["found", "period"]
  d__law_shown : DefAt K mg "_law_shown" s__law_shown ["first", "second", "numbers"]
  cl_NumberMap : Cls K (He.ga K "NumberMap")
  g_NumberMap : mg "NumberMap" = some (.ref (He.ga K "NumberMap"))
  n_NumberMap_period : NoAttr K (He.ga K "NumberMap") "period"
  n_NumberMap_rows : NoAttr K (He.ga K "NumberMap") "rows"
  b_list : mg "list" = none
  b_len : mg "len" = none
  b_sorted : mg "sorted" = none
  b_set : mg "set" = none
  b_range : mg "range" = none
  i_lcm : mg "lcm" = some (.builtin "math.lcm")
  b_int : mg "int" = none
  b_abs : mg "abs" = none
  b_isinstance : mg "isinstance" = none
  b_bool : mg "bool" = none
section
variable {P : Program} {w : World} {K : PySem.W.Frag} {mg : Str → Option Value} {base : Heap}
/-! ### the deck -/
def Dk (H : Hp) (d : Addr) : Prop := ∃ ds : List Int, H d = some (.lst (ds.map V.int))
def sp__law_take (K : PySem.W.Frag) : Sp := fun vs H Q _ => ∃ (d : Addr) (ds : List Int) (m : Int), vs = [.ref d, .int m] ∧ H d = some (.lst (ds.map V.int)) ∧ 0 < m ∧
  ∀ (r : Int) (ds' : List Int), 0 ≤ r → r < m → Q (.int r) (upd H d (.lst (ds'.map V.int)))
theorem c__law_take (T : Tx K mg) : C8.Cal P w K mg base 1 "_law_take" (sp__law_take K) [] := by
  refine c_mk T.d__law_take sc__law_take (fun vs H Q E h => ?_) (fun f cdv A outer s H vs Q E hr h => ?_)
  · first | (obtain ⟨rfl, _⟩ := h; rfl) | (obtain ⟨_, rfl, _⟩ := h; rfl) | (obtain ⟨_, _, rfl, _⟩ := h; rfl) | (obtain ⟨_, _, _, rfl, _⟩ := h; rfl) | (obtain ⟨_, _, _, _, rfl, _⟩ := h; rfl) | (obtain ⟨_, _, _, _, _, rfl, _⟩ := h; rfl) | (obtain ⟨_, _, _, _, _, _, rfl, _⟩ := h; rfl) | (obtain ⟨_, _, _, _, _, _, _, rfl, _⟩ := h; rfl) | (obtain ⟨_, _, _, _, _, _, _, _, rfl, _⟩ := h; rfl) | (obtain ⟨_, _, _, _, _, _, _, _, _, rfl, _⟩ := h; rfl) | (obtain ⟨_, _, _, _, _, _, _, _, _, _, rfl, _⟩ := h; rfl) | (obtain ⟨_, _, _, _, _, _, _, _, _, _, _, rfl, _⟩ := h; rfl) | (obtain ⟨_, _, _, _, _, _, _, _, _, _, _, _, rfl, _⟩ := h; rfl) | (obtain ⟨_, _, _, _, _, _, _, _, _, _, _, _, _, rfl, _⟩ := h; rfl)
  have hu := hu_of hr
  refine ⟨_, (pss_cons (ps_if (pt_cmpR op_eq (pe_callB call_len_seq rfl T.b_len (by decide +kernel) (pa_cons (pv 0) pa_nil)) pe_int (nomark _)) (pss_one (ps_ret pe_int)) pss_nil)
    (pss_one (ps_ret (pe_op op_mod (pe_callTy call_int1 rfl T.b_int (by decide +kernel) (pa_cons (pe_bm0 PySem.F.plainAttrs_list PySem.F.slot_list_pop PySem.F.type_list_pop mt_pop (pv 0)) pa_nil)) (pv 1))))), ?_⟩
  obtain ⟨d, ds, m, rfl, hd, hm, k⟩ := h
  refine ⟨_, rfl, d, _, rfl, .inl (SqL.of hd), rfl, _, rfl, ?_⟩
  refine ite2 (fun e => ?_) (fun e => ?_)
  · have z := k 0 ds (Int.le_refl 0) hm
    rw [upd_id hd] at z
    exact z
  · have hne : ds ≠ [] := by rintro rfl; exact e rfl
    obtain ⟨ini, z, rfl⟩ : ∃ (ini : List Int) (z : Int), ds = ini ++ [z] := ⟨ds.dropLast, ds.getLast hne, (List.dropLast_concat_getLast hne).symm⟩
    refine ⟨_, rfl, .inl ⟨rfl, _, .inl (.inl hd)⟩, d, _, .int z, rfl, rfl, hd, by simp, .inl ⟨_, rfl, _, rfl, _, _, rfl, rfl, hm, ?_⟩⟩
    have y := k (z % m) ini (Int.emod_nonneg _ (by omega)) (Int.emod_lt_of_pos _ hm)
    have e2 : (List.map V.int (ini ++ [z])).dropLast = ini.map V.int := by simp
    rw [← e2] at y
    exact y
def sp__law_deck (K : PySem.W.Frag) : Sp := fun vs H Q _ => ∃ (a : Addr) (ns : List Int) (c e : Int), vs = [.ref a, .int c, .int e] ∧ SqL K H a (ns.map V.int) ∧ ns.length ≤ 63 ∧ 0 ≤ c ∧ c ≤ 100 ∧ 0 ≤ e ∧ e ≤ 100 ∧
  ∀ (p : Addr) (H' : Hp) (ds : List Int), H p = none → Same H H' → H' p = some (.lst (ds.map V.int)) → Q (.ref p) H'
theorem c__law_deck (T : Tx K mg) : C8.Cal P w K mg base 1 "_law_deck" (sp__law_deck K) [] := by
  refine c_mk T.d__law_deck sc__law_deck (fun vs H Q E h => ?_) (fun f cdv A outer s H vs Q E hr h => ?_)
  · first | (obtain ⟨rfl, _⟩ := h; rfl) | (obtain ⟨_, rfl, _⟩ := h; rfl) | (obtain ⟨_, _, rfl, _⟩ := h; rfl) | (obtain ⟨_, _, _, rfl, _⟩ := h; rfl) | (obtain ⟨_, _, _, _, rfl, _⟩ := h; rfl) | (obtain ⟨_, _, _, _, _, rfl, _⟩ := h; rfl) | (obtain ⟨_, _, _, _, _, _, rfl, _⟩ := h; rfl) | (obtain ⟨_, _, _, _, _, _, _, rfl, _⟩ := h; rfl) | (obtain ⟨_, _, _, _, _, _, _, _, rfl, _⟩ := h; rfl) | (obtain ⟨_, _, _, _, _, _, _, _, _, rfl, _⟩ := h; rfl) | (obtain ⟨_, _, _, _, _, _, _, _, _, _, rfl, _⟩ := h; rfl) | (obtain ⟨_, _, _, _, _, _, _, _, _, _, _, rfl, _⟩ := h; rfl) | (obtain ⟨_, _, _, _, _, _, _, _, _, _, _, _, rfl, _⟩ := h; rfl) | (obtain ⟨_, _, _, _, _, _, _, _, _, _, _, _, _, rfl, _⟩ := h; rfl)
  have hu := hu_of hr
  refine ⟨_, (pss_cons (ps_set (i := 3) sc__law_deck.nd rfl (by first | exact Or.inl rfl | exact Or.inr rfl) (pe_lst pa_nil))
    (pss_cons (ps_set (i := 4) sc__law_deck.nd rfl (by first | exact Or.inl rfl | exact Or.inr rfl) (pe_op op_add pe_int (pe_callB call_len_seq rfl T.b_len (by decide +kernel) (pa_cons (pv 0) pa_nil))))
    (pss_cons (ps_for PassesOwn.never rfl (pi_range1 rfl T.b_range (pa_cons (pv 1) pa_nil)) (pg_name (i := 5) sc__law_deck.nd rfl (by first | exact Or.inl rfl | exact Or.inr rfl)) (pss_cons (ps_set (i := 6) sc__law_deck.nd rfl (by first | exact Or.inl rfl | exact Or.inr rfl) pe_int)
    (C8.pss_cut (ps_if (pt_cmpR op_lt (pv 5) (pe_callB call_len_seq rfl T.b_len (by decide +kernel) (pa_cons (pv 0) pa_nil)) (nomark _)) (pss_one (ps_set (i := 6) sc__law_deck.nd rfl (by first | exact Or.inl rfl | exact Or.inr rfl) (pe_ix ix_list (pv 0) (pv 5) (fun _ _ => rfl)))) pss_nil)
    (pss_cons (ps_set (i := 7) sc__law_deck.nd rfl (by first | exact Or.inl rfl | exact Or.inr rfl) (pe_callB call_abs rfl T.b_abs (by decide +kernel) (pa_cons (pv 6) pa_nil)))
    (pss_one (ps_if (pt_cmpR op_ge (pv 7) (pe_op op_pow pe_int pe_int) (nomark _)) (pss_one (ps_for PassesOwn.never rfl (pi_range1 rfl T.b_range (pa_cons (pv 2) pa_nil)) (pg_name (i := 8) sc__law_deck.nd rfl (by first | exact Or.inl rfl | exact Or.inr rfl)) (pss_cons (ps_expr (pe_bm PySem.F.plainAttrs_list PySem.F.slot_list_append PySem.F.type_list_append mt_append (pv 3) (pa_cons (pe_op op_mod (pe_callTy call_int1 rfl T.b_int (by decide +kernel) (pa_cons (pv 7) pa_nil)) pe_int) pa_nil)))
    (pss_one (ps_set (i := 7) sc__law_deck.nd rfl (by first | exact Or.inl rfl | exact Or.inr rfl) (pe_op op_fdiv (pv 7) pe_int)))))) (pss_cons (ps_set (i := 4) sc__law_deck.nd rfl (by first | exact Or.inl rfl | exact Or.inr rfl) (pe_op op_mod (pe_callTy call_int1 rfl T.b_int (by decide +kernel) (pa_cons (pe_op op_add (pe_op op_add (pe_op op_add (pe_op op_mul (pv 4) pe_int) (pe_op op_mul pe_int (pv 7))) (pe_callTy call_int1 rfl T.b_int (by decide +kernel) (pa_cons (pe_cmpR op_lt (pv 6) pe_int (nomark _)) pa_nil))) (pv 5)) pa_nil)) pe_int))
    (pss_one (ps_for PassesOwn.never rfl (pi_range1 rfl T.b_range (pa_cons (pv 2) pa_nil)) (pg_name (i := 8) sc__law_deck.nd rfl (by first | exact Or.inl rfl | exact Or.inr rfl)) (pss_cons (ps_set (i := 4) sc__law_deck.nd rfl (by first | exact Or.inl rfl | exact Or.inr rfl) (pe_op op_mod (pe_callTy call_int1 rfl T.b_int (by decide +kernel) (pa_cons (pe_op op_add (pe_op op_add (pe_op op_mul (pv 4) pe_int) (pv 8)) pe_int) pa_nil)) pe_int))
    (pss_one (ps_expr (pe_bm PySem.F.plainAttrs_list PySem.F.slot_list_append PySem.F.type_list_append mt_append (pv 3) (pa_cons (pe_op op_mod (pe_callTy call_int1 rfl T.b_int (by decide +kernel) (pa_cons (pe_op op_fdiv (pv 4) pe_int) pa_nil)) pe_int) pa_nil))))))))))))))
    (pss_cons (ps_expr (pe_bm0 PySem.F.plainAttrs_list PySem.F.slot_list_reverse PySem.F.type_list_reverse mt_reverse (pv 3)))
    (pss_one (ps_ret (pv 3))))))), ?_⟩
  obtain ⟨a, ns, c, e, rfl, hS, hl, hc0, hc1, he0, he1, k⟩ := h
  refine ⟨by decide, fun p hp => ?_⟩
  have s0 : Same H (upd H p (.lst [])) := same_new hp
  refine ⟨_, rfl, _, _, rfl, .inl (s0.seq hS), _, _, rfl, rfl, ?_⟩
  refine ⟨_, rfl, c, rfl, by omega, by omega, for_range (lo := 0) (n := c.toNat) (fun i σ H2 => ∃ (ds : List Int) (seed : Int) (v5 v6 v7 v8 : Option V),
    σ = [some (.ref a), some (.int c), some (.int e), some (.ref p), some (.int seed), v5, v6, v7, v8] ∧ Same H H2 ∧ H2 p = some (.lst (ds.map V.int)) ∧ ds.length ≤ i * e.toNat ∧ 0 ≤ seed ∧ seed < 2147483647) ?_ ?_ ?_⟩
  · exact ⟨[], _, none, none, none, none, rfl, s0, upd_same, by simp, by omega, by rw [List.length_map]; omega⟩
  · rintro i σ H2 hi ⟨ds, seed, v5, v6, v7, v8, rfl, s2, h2, hz, hs0, hs1⟩
    refine ⟨fun σ' H' => ∃ cell : Int, σ' = [some (.ref a), some (.int c), some (.int e), some (.ref p), some (.int seed), some (.int (0 + i)), some (.int cell), v7, v8] ∧ H' = H2, ?_, ?_⟩
    · refine ⟨_, rfl, _, rfl, _, _, rfl, .inl (s2.seq hS), _, _, rfl, rfl, _, rfl, ?_⟩
      refine ite2 (fun q => ?_) (fun q => ?_)
      · have q1 := of_decide_eq_true q
        rw [List.length_map] at q1
        have q2 : i < ns.length := by omega
        refine ⟨_, rfl, _, rfl, a, ns.map V.int, _, .int (ns[i]'q2), rfl, rfl, s2.seq hS, ?_, _, rfl, rfl⟩
        rw [show (0 : Int) + (i : Int) = ((i : Nat) : Int) by omega]
        exact atI_nat (by simp [q2])
      · exact ⟨0, rfl, rfl⟩
    · rintro σ' H' ⟨cell, rfl, rfl⟩
      refine ⟨_, rfl, _, rfl, ?_⟩
      have hr0 : 0 ≤ (if cell < 0 then -cell else cell) := by split <;> omega
      generalize (if cell < 0 then -cell else cell) = rest at hr0
      refine ⟨_, rfl, _, _, rfl, rfl, ⟨by decide, by decide, by decide⟩, _, _, rfl, rfl, _, rfl, ?_⟩
      have em : ∀ (j : Nat), i * e.toNat + j ≤ 10000 + j := fun j => by
        have : i ≤ 100 := by omega
        have h1 : e.toNat ≤ 100 := by omega
        have := Nat.mul_le_mul this h1
        omega
      have ei : ∀ (l : Nat), l ≤ i * e.toNat + e.toNat → l ≤ (i + 1) * e.toNat := fun l hl => by rw [Nat.succ_mul]; exact hl
      refine ite2 (fun q => ?_) (fun q => ?_)
      · refine ⟨_, rfl, e, rfl, by omega, by omega, for_range (lo := 0) (n := e.toNat) (fun j σ H3 => ∃ (ds : List Int) (rest : Int) (v8 : Option V),
          σ = [some (.ref a), some (.int c), some (.int e), some (.ref p), some (.int seed), some (.int (0 + i)), some (.int cell), some (.int rest), v8] ∧ Same H H3 ∧ H3 p = some (.lst (ds.map V.int)) ∧ ds.length ≤ i * e.toNat + j ∧ 0 ≤ rest) ?_ ?_ ?_⟩
        · exact ⟨ds, rest, v8, rfl, s2, h2, hz, hr0⟩
        · rintro j σ H3 hj ⟨ds, rest, v8, rfl, s3, h3, hz3, hr⟩
          have := em j
          refine ⟨_, rfl, .inl ⟨rfl, _, .inl (.inl h3)⟩, _, rfl, .inl ⟨_, rfl, _, _, rfl, rfl, (by dsimp only; decide), p, _, _, rfl, rfl, h3, by rw [List.length_map]; exact Nat.lt_of_le_of_lt (show ds.length ≤ 10100 by omega) (by decide), ?_⟩⟩
          refine ⟨_, rfl, _, _, rfl, rfl, ⟨by decide, by decide⟩, ⟨ds ++ [rest % 1000003], _, _, rfl, fun b o z => by rw [upd_ne (ne_of_none z hp)]; exact s3 b o z, by rw [upd_same, List.map_append]; rfl, by rw [List.length_append]; show ds.length + 1 ≤ _; omega, by omega⟩⟩
        · rintro σ H3 ⟨ds, rest, v8, rfl, s3, h3, hz3, hr⟩
          exact ⟨ds, seed, _, _, _, _, rfl, s3, h3, ei _ hz3, hs0, hs1⟩
      · have q1 : ¬ (10 ^ (30 : Int).toNat ≤ rest) := fun z => q (decide_eq_true z)
        refine ⟨_, rfl, _, _, rfl, rfl, .inr ⟨by decide, by decide⟩, _, rfl, _, _, rfl, rfl, .inl ⟨by decide, by decide⟩, _, _, rfl, rfl, _, rfl, _, _, rfl, rfl, .inr ⟨_, rfl, _, _, rfl, rfl, _, rfl, _, _, rfl, rfl, .inl ⟨_, rfl, _, _, rfl, rfl, (by dsimp only; decide), ?_⟩⟩⟩
        refine ⟨_, rfl, e, rfl, by omega, by omega, for_range (lo := 0) (n := e.toNat) (fun j σ H3 => ∃ (ds : List Int) (seed : Int) (v8 : Option V),
          σ = [some (.ref a), some (.int c), some (.int e), some (.ref p), some (.int seed), some (.int (0 + i)), some (.int cell), some (.int rest), v8] ∧ Same H H3 ∧ H3 p = some (.lst (ds.map V.int)) ∧ ds.length ≤ i * e.toNat + j ∧ 0 ≤ seed ∧ seed < 2147483647) ?_ ?_ ?_⟩
        · exact ⟨ds, _, v8, rfl, s2, h2, hz, Int.emod_nonneg _ (by decide), Int.emod_lt_of_pos _ (by decide)⟩
        · rintro j σ H3 hj ⟨ds, seed, v8, rfl, s3, h3, hz3, hs2, hs3⟩
          have := em j
          refine ⟨_, rfl, _, _, rfl, rfl, .inr ⟨by decide, by decide⟩, _, rfl, _, _, rfl, rfl, _, _, rfl, rfl, .inl ⟨_, rfl, _, _, rfl, rfl, (by dsimp only; decide), ?_⟩⟩
          refine ⟨_, rfl, .inl ⟨rfl, _, .inl (.inl h3)⟩, _, rfl, _, _, rfl, rfl, ⟨by decide, by decide⟩, .inl ⟨_, rfl, _, _, rfl, rfl, (by dsimp only; decide), p, _, _, rfl, rfl, h3, by rw [List.length_map]; exact Nat.lt_of_le_of_lt (show ds.length ≤ 10100 by omega) (by decide), ?_⟩⟩
          exact ⟨ds ++ [(seed * 69621 + (0 + (j : Int)) + 1) % 2147483629 / 5 % 1000003], _, _, rfl, fun b o z => by rw [upd_ne (ne_of_none z hp)]; exact s3 b o z, by rw [upd_same, List.map_append]; rfl, by rw [List.length_append]; show ds.length + 1 ≤ _; omega, Int.emod_nonneg _ (by decide), Int.lt_trans (Int.emod_lt_of_pos _ (by decide)) (by decide)⟩
        · rintro σ H3 ⟨ds, seed, v8, rfl, s3, h3, hz3, hs2, hs3⟩
          exact ⟨ds, seed, _, _, _, _, rfl, s3, h3, ei _ hz3, hs2, hs3⟩
  · rintro σ H2 ⟨ds, seed, v5, v6, v7, v8, rfl, s2, h2, hz, hs0, hs1⟩
    refine ⟨_, rfl, .inl ⟨rfl, _, .inl (.inl h2)⟩, p, _, rfl, rfl, h2, _, rfl, ?_⟩
    exact k p _ ds.reverse hp (fun b o z => by rw [upd_ne (ne_of_none z hp)]; exact s2 b o z) (by rw [upd_same, List.map_reverse])

/-! ### what stands in the heap -/
theorem iteD {c A B : Prop} [Decidable c] (h1 : c → A) (h2 : ¬ c → B) : if decide c = true then A else B := ite2 (fun e => h1 (of_decide_eq_true e)) (fun e => h2 fun z => e (decide_eq_true z))
theorem iteN {c A B : Prop} [Decidable c] (h1 : ¬ c → A) (h2 : c → B) : if (!decide c) = true then A else B := by
  by_cases h : c
  · rw [decide_eq_true h]; exact iteF (h2 h)
  · rw [decide_eq_false h]; exact iteT (h1 h)
def Tups (H H' : Hp) : Prop := ∀ a xs, H a = some (.tup xs) → H' a = some (.tup xs)
theorem Tups.of {H H' : Hp} (s : Same H H') : Tups H H' := fun _ _ h => s _ _ h
theorem Tups.but {d : Addr} {H H' : Hp} {xs : List V} (s : But d H H') (hd : H d = some (.lst xs)) : Tups H H' := fun a ys h => s _ _ h fun e => by
  rw [e, hd] at h
  cases h
def RowV (H : Hp) (v : V) : Row → Prop
  | none => v = .non
  | some (s, t, lo, hi) => ∃ a, v = .ref a ∧ H a = some (.tup [.int s, .int t, .int lo, .int hi])
theorem RowV.mono {H H' : Hp} (t : Tups H H') : ∀ {v : V} {r : Row}, RowV H v r → RowV H' v r
  | _, none, h => h
  | _, some (_, _, _, _), ⟨a, e, h⟩ => ⟨a, e, t _ _ h⟩
abbrev RowsV (H : Hp) : List V → List Row → Prop := Paired (RowV H)
theorem RowsV.mono {H H' : Hp} (t : Tups H H') {vs : List V} {rs : List Row} (h : RowsV H vs rs) : RowsV H' vs rs := Paired.mapP h fun _ _ z => z.mono t
theorem pr_get {α β : Type} {F : α → β → Prop} : ∀ {l₁ : List α} {l₂ : List β}, Paired F l₁ l₂ → ∀ (i : Nat), i < l₂.length → ∃ x y, l₁[i]? = some x ∧ l₂[i]? = some y ∧ F x y
  | _, _, .nil, i, h => by cases h
  | _, _, .cons r t, 0, _ => ⟨_, _, rfl, rfl, r⟩
  | _, _, .cons r t, i + 1, h => by
    obtain ⟨x, y, h1, h2, h3⟩ := pr_get t i (Nat.lt_of_succ_lt_succ h)
    exact ⟨x, y, by simpa using h1, by simpa using h2, h3⟩
theorem pr_len {α β : Type} {F : α → β → Prop} : ∀ {l₁ : List α} {l₂ : List β}, Paired F l₁ l₂ → l₁.length = l₂.length
  | _, _, .nil => rfl
  | _, _, .cons _ t => congrArg Nat.succ (pr_len t)
theorem pr_app {α β : Type} {F : α → β → Prop} : ∀ {l₁ m₁ : List α} {l₂ m₂ : List β}, Paired F l₁ l₂ → Paired F m₁ m₂ → Paired F (l₁ ++ m₁) (l₂ ++ m₂)
  | _, _, _, _, .nil, h => h
  | _, _, _, _, .cons r t, h => .cons r (pr_app t h)
theorem pr_set {α β : Type} {F : α → β → Prop} {x : α} {y : β} (r : F x y) : ∀ {l₁ : List α} {l₂ : List β} (i : Nat), Paired F l₁ l₂ → Paired F (l₁.set i x) (l₂.set i y)
  | _, _, _, .nil => .nil
  | _, _, 0, .cons _ t => .cons r t
  | _, _, i + 1, .cons q t => .cons q (pr_set r i t)
/-- the item of a row list at an int index -/
theorem rows_at {H : Hp} {vs : List V} {rs : List Row} (h : RowsV H vs rs) {i : Int} (h0 : 0 ≤ i) (h1 : i < (rs.length : Int)) : ∃ v, atI vs i = some v ∧ RowV H v (rowAt rs i) := by
  obtain ⟨x, y, e1, e2, r⟩ := pr_get h i.toNat (by omega)
  refine ⟨x, ?_, ?_⟩
  · have z := atI_nat e1
    rwa [Int.toNat_of_nonneg h0] at z
  · unfold rowAt
    rw [e2]
    exact r
def optV : Option Int → V
  | none => .non
  | some i => .int i
/-! ### a NumberMap -/
def nmF (p : Int) (l : Addr) : List (Str × V) := putF "rows" (.ref l) (putF "period" (.int p) [])
theorem nm_kc : ¬ (("period" : Str) = "rows") := by decide +kernel
theorem nmF_period (p : Int) (l : Addr) : (nmF p l).lookup ("period" : Str) = some (.int p) := by
  unfold nmF
  rw [lookup_putF, if_neg nm_kc, lookup_putF, if_pos rfl]
theorem nmF_rows (p : Int) (l : Addr) : (nmF p l).lookup ("rows" : Str) = some (.ref l) := by
  unfold nmF
  rw [lookup_putF, if_pos rfl]
theorem nmF_no (p : Int) (l : Addr) {m : Str} (h1 : ¬ m = "rows") (h2 : ¬ m = "period") : (nmF p l).lookup m = none := by
  unfold nmF
  rw [lookup_putF, if_neg h1, lookup_putF, if_neg h2]
  rfl
structure NM (K : PySem.W.Frag) (H : Hp) (a : Addr) (p : Int) (rs : List Row) : Prop where
  ex : ∃ dx l vs, H a = some (.ins (He.ga K "NumberMap") dx (nmF p l)) ∧ H l = some (.lst vs) ∧ RowsV H vs rs
  len : (rs.length : Int) = p
  pos : 0 < p
theorem NM.mono {K : PySem.W.Frag} {H H' : Hp} (s : Same H H') {a : Addr} {p : Int} {rs : List Row} (h : NM K H a p rs) : NM K H' a p rs := by
  obtain ⟨⟨dx, l, vs, h1, h2, h3⟩, h4, h5⟩ := h
  exact ⟨⟨dx, l, vs, s _ _ h1, s _ _ h2, h3.mono (Tups.of s)⟩, h4, h5⟩
theorem take_snoc {α : Type} {l : List α} {i : Nat} {x : α} (h : l[i]? = some x) : l.take (i + 1) = l.take i ++ [x] := by
  rw [List.take_succ, h]
  rfl
theorem bz16 {x : Int} (h0 : 0 ≤ x) (h1 : x < 65536) : Bz 16 x := by
  show x.natAbs < 2 ^ 16
  omega
theorem RowOk.mono {k j : Nat} (h : k ≤ j) : ∀ {r : Row}, RowOk k r → RowOk j r
  | none, _ => trivial
  | some (_, _, _, _), ⟨a, b, c, d, e⟩ => ⟨a.mono h, b.mono h, c.mono h, d.mono h, e⟩
/-- an index within -/
theorem ixN_in {n : Nat} {i : Int} (h0 : 0 ≤ i) (h1 : i < (n : Int)) : ixN n i = some i.toNat := by
  unfold ixN
  rw [if_pos h0, if_pos h1]
/-! ### equality of row lists -/
def rowD : Row → PyData
  | none => .none
  | some (a, b, c, d) => .tuple [.int a, .int b, .int c, .int d]
instance instDatumRow : PySem.W.Datum Row where
  toD := rowD
  plain r := by
    cases r with
    | none => rfl
    | some q => obtain ⟨a, b, c, d⟩ := q; rfl
  eqv r s := by
    cases r with
    | none =>
      cases s with
      | none => rfl
      | some q => obtain ⟨a, b, c, d⟩ := q; rfl
    | some q =>
      obtain ⟨a, b, c, d⟩ := q
      cases s with
      | none => rfl
      | some q' =>
        obtain ⟨a', b', c', d'⟩ := q'
        have e : decide (some (a, b, c, d) = some (a', b', c', d')) = (decide (a = a') && (decide (b = b') && (decide (c = c') && decide (d = d')))) := by
          rw [Bool.eq_iff_iff]
          simp
        rw [e]
        simp only [rowD, PyData.eqv, PyData.eqvAll, Bool.and_true, PySem.W.beq_decide]
  depth := 1
  depth_le r := by
    cases r with
    | none => exact Nat.zero_le _
    | some q => obtain ⟨a, b, c, d⟩ := q; exact Nat.le_refl _
theorem RowV.dp {K : PySem.W.Frag} {H : Hp} {v : V} {r : Row} (h : RowV H v r) : Dp K H v (toD r) := by
  cases r with
  | none =>
    cases (show v = .non from h)
    exact .non
  | some q =>
    obtain ⟨a, b, c, d⟩ := q
    obtain ⟨p, rfl, hp⟩ := h
    exact .tup (SqT.of hp) (.cons (.int _) (.cons (.int _) (.cons (.int _) (.cons (.int _) .nil))))
theorem RowsV.dps {K : PySem.W.Frag} {H : Hp} : ∀ {vs : List V} {rs : List Row}, RowsV H vs rs → DpAll K H vs (rs.map toD)
  | _, _, .nil => .nil
  | _, _, .cons r t => .cons r.dp (RowsV.dps t)
theorem RowsV.dp {K : PySem.W.Frag} {H : Hp} {l : Addr} {vs : List V} {rs : List Row} (h : RowsV H vs rs) (hl : H l = some (.lst vs)) : Dp K H (.ref l) (toD rs) := .lst (SqL.of hl) h.dps

/-! ### the program -/
def sp_stretched (K : PySem.W.Frag) : Sp := fun vs H Q _ => ∃ (v : V) (r : Row) (shift f : Int) (k : Nat), vs = [v, .int shift, .int f] ∧ RowV H v r ∧ RowOk k r ∧ (1 ≤ k ∧ k ≤ 5000) ∧ 0 < f ∧ Bz 16 f ∧ Bz 16 shift ∧
  ∀ (v' : V) (H' : Hp), Same H H' → RowV H' v' (stretchM r shift f) → Q v' H'
theorem bz_div {f : Int} (hf : 0 < f) (bf : Bz 16 f) {i : Int} : CDiv i f := by
  have : f.natAbs < 65536 := bf
  refine ⟨hf, by omega⟩
theorem c_stretched (T : Tx K mg) : C8.Cal P w K mg base 1 "stretched" (sp_stretched K) [] := by
  refine c_mk T.d_stretched sc_stretched (fun vs H Q E h => ?_) (fun f cdv A outer s H vs Q E hr h => ?_)
  · first | (obtain ⟨rfl, _⟩ := h; rfl) | (obtain ⟨_, rfl, _⟩ := h; rfl) | (obtain ⟨_, _, rfl, _⟩ := h; rfl) | (obtain ⟨_, _, _, rfl, _⟩ := h; rfl) | (obtain ⟨_, _, _, _, rfl, _⟩ := h; rfl) | (obtain ⟨_, _, _, _, _, rfl, _⟩ := h; rfl) | (obtain ⟨_, _, _, _, _, _, rfl, _⟩ := h; rfl) | (obtain ⟨_, _, _, _, _, _, _, rfl, _⟩ := h; rfl) | (obtain ⟨_, _, _, _, _, _, _, _, rfl, _⟩ := h; rfl) | (obtain ⟨_, _, _, _, _, _, _, _, _, rfl, _⟩ := h; rfl) | (obtain ⟨_, _, _, _, _, _, _, _, _, _, rfl, _⟩ := h; rfl) | (obtain ⟨_, _, _, _, _, _, _, _, _, _, _, rfl, _⟩ := h; rfl) | (obtain ⟨_, _, _, _, _, _, _, _, _, _, _, _, rfl, _⟩ := h; rfl) | (obtain ⟨_, _, _, _, _, _, _, _, _, _, _, _, _, rfl, _⟩ := h; rfl)
  have hu := hu_of hr
  refine ⟨_, (pss_cons (ps_if (pt_cmpR op_isN (pv 0) pe_non (nomark _)) (pss_one (ps_ret pe_non)) pss_nil)
    (pss_cons (ps_set (i := 3) sc_stretched.nd rfl (by first | exact Or.inl rfl | exact Or.inr rfl) (pe_un un_neg (pe_op op_fdiv (pe_op op_sub (pv 1) (pe_ix ix_tup (pv 0) pe_int (fun _ _ => rfl))) (pv 2))))
    (pss_cons (ps_set (i := 4) sc_stretched.nd rfl (by first | exact Or.inl rfl | exact Or.inr rfl) (pe_op op_fdiv (pe_op op_sub (pe_ix ix_tup (pv 0) pe_int (fun _ _ => rfl)) (pv 1)) (pv 2)))
    (pss_cons (ps_if (pt_cmpR op_gt (pv 3) (pv 4) (nomark _)) (pss_one (ps_ret pe_non)) pss_nil)
    (pss_one (ps_ret (pe_tup (pa_cons (pe_op op_mulW (pe_ix ix_tup (pv 0) pe_int (fun _ _ => rfl)) (pv 2)) (pa_cons (pe_op op_add (pe_op op_mulW (pe_ix ix_tup (pv 0) pe_int (fun _ _ => rfl)) (pv 1)) (pe_ix ix_tup (pv 0) pe_int (fun _ _ => rfl))) (pa_cons (pv 3) (pa_cons (pv 4) pa_nil))))))))))), ?_⟩
  obtain ⟨v, r, shift, f, kk, rfl, hv, hr0, hkk, hf, bf, bs, k⟩ := h
  refine ⟨_, rfl, rfl, _, rfl, ?_⟩
  cases r with
  | none =>
    cases (show v = .non from hv)
    exact iteD (fun _ => k _ H (Same.refl H) rfl) (fun e => absurd rfl e)
  | some q =>
    obtain ⟨s, t, lo, hi⟩ := q
    obtain ⟨a, rfl, ha⟩ := hv
    obtain ⟨h1, h2, h3, h4, h5⟩ := hr0
    refine iteD (fun e => by cases e) (fun _ => ?_)
    refine ⟨_, rfl, _, rfl, a, _, _, _, rfl, rfl, SqT.of ha, rfl, _, _, rfl, rfl, _, rfl, _, _, rfl, rfl, bz_div hf bf, _, rfl, ?_⟩
    refine ⟨_, rfl, a, _, _, _, rfl, rfl, SqT.of ha, rfl, _, rfl, _, _, rfl, rfl, _, rfl, _, _, rfl, rfl, bz_div hf bf, ?_⟩
    refine ⟨_, rfl, _, rfl, _, _, rfl, rfl, _, rfl, ?_⟩
    have e : stretchM (some (s, t, lo, hi)) shift f = if (hi - shift) / f < -((shift - lo) / f) then none else some (s * f, s * shift + t, -((shift - lo) / f), (hi - shift) / f) := rfl
    refine iteD (fun hc => ?_) (fun hc => ?_)
    · rw [if_pos hc] at e
      refine k .non H (Same.refl H) ?_
      rw [e]
      rfl
    · rw [if_neg hc] at e
      refine ⟨_, rfl, a, _, _, _, rfl, rfl, SqT.of ha, rfl, _, rfl, _, _, rfl, rfl, wide_mul h1 bf (by omega) (by decide) (by omega), _, rfl, a, _, _, _, rfl, rfl, SqT.of ha, rfl, _, rfl, _, _, rfl, rfl, wide_mul h1 bs (by omega) (by decide) (by omega),
        _, rfl, a, _, _, _, rfl, rfl, SqT.of ha, rfl, _, _, rfl, rfl, _, rfl, _, rfl, (by show 4 ≤ sizeLine; decide), fun p hp => ?_⟩
      refine k (.ref p) _ (same_new hp) ?_
      rw [e]
      exact ⟨p, rfl, upd_same⟩


/-! ### the class -/
def sp_NumberMap___init__ (K : PySem.W.Frag) : Sp := fun vs H Q _ => ∃ (x dx l : Addr) (p : Int) (vs' : List V) (rs : List Row) (k : Nat), vs = [.ref x, .int p, .ref l] ∧ H x = some (.ins (He.ga K "NumberMap") dx []) ∧ H l = some (.lst vs') ∧ RowsV H vs' rs ∧ (∀ r ∈ rs, RowOk k r) ∧ (rs.length : Int) = p ∧ 0 < p ∧ rs.length ≤ 10000 ∧
  ∀ H', (∀ b o, H b = some o → b ≠ x → H' b = some o) → NM K H' x p rs → Q .non H'
theorem c_NumberMap___init__ (T : Tx K mg) : C8.Mak P w K mg base 1 "NumberMap" (He.ga K "NumberMap") (sp_NumberMap___init__ K) [] := by
  refine c_mak T.d_NumberMap___init__ sc_NumberMap___init__ (fun vs H Q E h => ?_) (fun f cdv A outer s H vs Q E hr h => ?_)
  · first | (obtain ⟨rfl, _⟩ := h; rfl) | (obtain ⟨_, rfl, _⟩ := h; rfl) | (obtain ⟨_, _, rfl, _⟩ := h; rfl) | (obtain ⟨_, _, _, rfl, _⟩ := h; rfl) | (obtain ⟨_, _, _, _, rfl, _⟩ := h; rfl) | (obtain ⟨_, _, _, _, _, rfl, _⟩ := h; rfl) | (obtain ⟨_, _, _, _, _, _, rfl, _⟩ := h; rfl) | (obtain ⟨_, _, _, _, _, _, _, rfl, _⟩ := h; rfl) | (obtain ⟨_, _, _, _, _, _, _, _, rfl, _⟩ := h; rfl) | (obtain ⟨_, _, _, _, _, _, _, _, _, rfl, _⟩ := h; rfl) | (obtain ⟨_, _, _, _, _, _, _, _, _, _, rfl, _⟩ := h; rfl) | (obtain ⟨_, _, _, _, _, _, _, _, _, _, _, rfl, _⟩ := h; rfl) | (obtain ⟨_, _, _, _, _, _, _, _, _, _, _, _, rfl, _⟩ := h; rfl) | (obtain ⟨_, _, _, _, _, _, _, _, _, _, _, _, _, rfl, _⟩ := h; rfl)
  have hu := hu_of hr
  refine ⟨_, (pss_cons (ps_if (pt_cmpR op_lt (pv 1) pe_int (nomark _)) (pss_one ps_never) pss_nil)
    (pss_cons (ps_if (pt_cmpR op_ne (pe_callB call_len_seq rfl T.b_len (by decide +kernel) (pa_cons (pv 2) pa_nil)) (pv 1) (nomark _)) (pss_one ps_never) pss_nil)
    (pss_cons (ps_for PassesOwn.never rfl (pi_list (pv 2)) (pg_name (i := 3) sc_NumberMap___init__.nd rfl (by first | exact Or.inl rfl | exact Or.inr rfl)) (pss_one (ps_if (PW.pt (pw_and (pt_cmpR op_notN (pv 3) pe_non (nomark _)) (pw_and1 (pt_cmpR op_gt (pe_ix ix_tup (pv 3) pe_int (fun _ _ => rfl)) (pe_ix ix_tup (pv 3) pe_int (fun _ _ => rfl)) (nomark _))))) (pss_one ps_never) pss_nil)))
    (pss_cons (ps_fld (pv 0) (pv 1) rfl)
    (pss_one (ps_fld (pv 0) (pe_callTy call_list_of rfl T.b_list (by decide +kernel) (pa_cons (pv 2) pa_nil)) rfl)))))), ?_⟩
  obtain ⟨x, dx, l, p, vs', rs, kk, rfl, hx, hl, hv, hok, hlen, hp, hsz, k⟩ := h
  have el := pr_len hv
  have nxl : l ≠ x := ne_of hl hx (by intro z; cases z)
  refine ⟨_, rfl, _, _, rfl, rfl, _, rfl, iteD (fun e => by omega) (fun _ => ?_)⟩
  refine ⟨_, rfl, l, _, rfl, .inl (SqL.of hl), _, rfl, rfl, _, rfl, iteN (fun e => absurd (by rw [el]; exact congrArg V.int hlen) e) (fun _ => ?_)⟩
  refine ⟨_, rfl, l, rfl, ⟨_, SqL.of hl⟩, for_list (xs := vs') (fun i σ H2 => ∃ v : Option V, σ = [some (.ref x), some (.int p), some (.ref l), v] ∧ H2 = H) ⟨none, rfl, rfl⟩ (fun i σ H2 _ ⟨_, _, e⟩ => by rw [e]; exact SqL.of hl) ?_ ?_⟩
  · rintro i y σ H2 hi ⟨v, rfl, rfl⟩
    have hil : i < vs'.length := (List.getElem?_eq_some_iff.mp hi).1
    obtain ⟨y', r, e1, e2, hr⟩ := pr_get hv i (by omega)
    rw [hi] at e1
    cases e1
    have hro := hok r (List.mem_of_getElem? e2)
    refine ⟨_, rfl, rfl, _, rfl, ?_⟩
    cases r with
    | none =>
      cases (show y = .non from hr)
      exact iteN (fun e => absurd rfl e) (fun _ => iteF ⟨_, rfl, rfl⟩)
    | some q =>
      obtain ⟨s, t, lo, hi⟩ := q
      obtain ⟨a, rfl, ha⟩ := hr
      obtain ⟨_, _, _, _, h5⟩ := hro
      refine iteN (fun _ => ?_) (fun e => by cases e)
      refine ⟨_, rfl, a, _, _, _, rfl, rfl, SqT.of ha, rfl, _, rfl, a, _, _, _, rfl, rfl, SqT.of ha, rfl, _, _, rfl, rfl, _, rfl, iteD (fun e => by omega) (fun _ => ⟨_, rfl, rfl⟩)⟩
  · rintro σ H2 ⟨v, rfl, rfl⟩
    refine ⟨_, rfl, _, rfl, _, _, _, _, rfl, hx, T.cl_NumberMap, T.n_NumberMap_period, (by show 0 < 1000; decide), ?_⟩
    refine ⟨_, rfl, l, _, rfl, .inl (SqL.of (by rw [upd_ne nxl]; exact hl)), fun q hq => ?_⟩
    have nqx : x ≠ q := ne_of_none (upd_same (H := H2) (a := x)) hq
    have nql : l ≠ q := ne_of_none (show upd H2 x _ l = some (.lst vs') by rw [upd_ne nxl]; exact hl) hq
    refine ⟨_, rfl, x, _, _, _, rfl, (by rw [upd_ne nqx]; exact upd_same), T.cl_NumberMap, T.n_NumberMap_rows, (by show 1 < 1000; decide), ?_⟩
    refine k _ (fun b o hb hn => ?_) ⟨⟨dx, q, vs', upd_same, ?_, ?_⟩, hlen, hp⟩
    · have hbq : b ≠ q := ne_of_none (show upd H2 x _ b = some o by rw [upd_ne hn]; exact hb) hq
      rw [upd_ne hn, upd_ne hbq, upd_ne hn]
      exact hb
    · rw [upd_ne nqx.symm]; exact upd_same
    · refine hv.mono fun b xs hb => ?_
      have hn : b ≠ x := ne_of hb hx (by intro z; cases z)
      have hbq : b ≠ q := ne_of_none (show upd H2 x _ b = some (.tup xs) by rw [upd_ne hn]; exact hb) hq
      rw [upd_ne hn, upd_ne hbq, upd_ne hn]
      exact hb
def sp_NumberMap_image (K : PySem.W.Frag) : Sp := fun vs H Q _ => ∃ (a : Addr) (p : Int) (rs : List Row) (x : Int) (k : Nat), vs = [.ref a, .int x] ∧ NM K H a p rs ∧ (∀ r ∈ rs, RowOk k r) ∧ Bz 16 p ∧ Bz k x ∧ (1 ≤ k ∧ k ≤ 100000) ∧ Q (optV (imM p rs x)) H
theorem c_NumberMap_image (T : Tx K mg) : C8.Met P w K mg base 1 (He.ga K "NumberMap") "image" (sp_NumberMap_image K) [] := by
  refine c_met T.d_NumberMap_image sc_NumberMap_image (fun vs H Q E h => ?_) (fun f cdv A outer s H vs Q E hr h => ?_)
  · first | (obtain ⟨rfl, _⟩ := h; rfl) | (obtain ⟨_, rfl, _⟩ := h; rfl) | (obtain ⟨_, _, rfl, _⟩ := h; rfl) | (obtain ⟨_, _, _, rfl, _⟩ := h; rfl) | (obtain ⟨_, _, _, _, rfl, _⟩ := h; rfl) | (obtain ⟨_, _, _, _, _, rfl, _⟩ := h; rfl) | (obtain ⟨_, _, _, _, _, _, rfl, _⟩ := h; rfl) | (obtain ⟨_, _, _, _, _, _, _, rfl, _⟩ := h; rfl) | (obtain ⟨_, _, _, _, _, _, _, _, rfl, _⟩ := h; rfl) | (obtain ⟨_, _, _, _, _, _, _, _, _, rfl, _⟩ := h; rfl) | (obtain ⟨_, _, _, _, _, _, _, _, _, _, rfl, _⟩ := h; rfl) | (obtain ⟨_, _, _, _, _, _, _, _, _, _, _, rfl, _⟩ := h; rfl) | (obtain ⟨_, _, _, _, _, _, _, _, _, _, _, _, rfl, _⟩ := h; rfl) | (obtain ⟨_, _, _, _, _, _, _, _, _, _, _, _, _, rfl, _⟩ := h; rfl)
  have hu := hu_of hr
  refine ⟨_, (pss_cons (ps_set (i := 2) sc_NumberMap_image.nd rfl (by first | exact Or.inl rfl | exact Or.inr rfl) (pe_ix ix_list (pe_fld (pv 0) rfl) (pe_op op_mod (pv 1) (pe_fld (pv 0) rfl)) (fun _ _ => rfl)))
    (pss_cons (ps_if (PW.pt (pw_or (pt_cmpR op_isN (pv 2) pe_non (nomark _)) (pw_or1 (pt_not (pt_chain op_le op_le (pe_ix ix_tup (pv 2) pe_int (fun _ _ => rfl)) (pe_op op_fdiv (pv 1) (pe_fld (pv 0) rfl)) (pe_ix ix_tup (pv 2) pe_int (fun _ _ => rfl))))))) (pss_one (ps_ret pe_non)) pss_nil)
    (pss_one (ps_ret (pe_op op_add (pe_op op_mulW (pe_ix ix_tup (pv 2) pe_int (fun _ _ => rfl)) (pe_op op_fdiv (pv 1) (pe_fld (pv 0) rfl))) (pe_ix ix_tup (pv 2) pe_int (fun _ _ => rfl))))))), ?_⟩
  obtain ⟨a, p, rs, x, kk, rfl, hN, hok, bp, bx, hkk, k⟩ := h
  have hp := hN.pos
  obtain ⟨⟨dx, l, vs, o1, o2, o3⟩, o4, o5⟩ := hN
  obtain ⟨v2, at2, hv2⟩ := rows_at o3 (i := x % p) (Int.emod_nonneg _ (by omega)) (by rw [o4]; exact Int.emod_lt_of_pos _ hp)
  have ro := rowAt_ok hok (x % p)
  refine ⟨_, rfl, _, _, _, _, _, rfl, o1, T.cl_NumberMap, T.n_NumberMap_rows, nmF_rows _ _, _, rfl, _, rfl, _, _, _, _, _, rfl, o1, T.cl_NumberMap, T.n_NumberMap_period, nmF_period _ _, _, _, rfl, rfl, hp, _, _, _, _, rfl, rfl, SqL.of o2, at2, ?_⟩
  refine ⟨_, rfl, rfl, _, rfl, ?_⟩
  unfold imM at k
  generalize rowAt rs (x % p) = r2 at hv2 ro k
  cases r2 with
  | none =>
    cases (show v2 = .non from hv2)
    exact iteD (fun _ => iteT k) (fun e => absurd rfl e)
  | some q2 =>
    obtain ⟨s, t, lo, hi⟩ := q2
    obtain ⟨b, rfl, hb⟩ := hv2
    dsimp only at k
    refine iteD (fun e => by cases e) (fun _ => ?_)
    refine ⟨_, rfl, b, _, _, _, rfl, rfl, SqT.of hb, rfl, _, rfl, _, rfl, _, _, _, _, _, rfl, o1, T.cl_NumberMap, T.n_NumberMap_period, nmF_period _ _, _, _, rfl, rfl, bz_div hp bp, _, _, rfl, rfl, _, rfl, ?_⟩
    refine iteD (fun e1 => ?_) (fun e1 => ?_)
    · refine ⟨_, rfl, b, _, _, _, rfl, rfl, SqT.of hb, rfl, _, _, rfl, rfl, _, rfl, ?_⟩
      refine iteN (fun e2 => ?_) (fun e2 => ?_)
      · rw [if_neg (fun z => e2 z.2)] at k
        exact k
      · rw [if_pos ⟨e1, e2⟩] at k
        refine ⟨_, rfl, b, _, _, _, rfl, rfl, SqT.of hb, rfl, _, rfl, _, rfl, _, _, _, _, _, rfl, o1, T.cl_NumberMap, T.n_NumberMap_period, nmF_period _ _, _, _, rfl, rfl, bz_div hp bp, _, _, rfl, rfl, wide_mul ro.1 (Bz.div bx hp) (by omega) (by omega) (by omega), _, rfl, b, _, _, _, rfl, rfl, SqT.of hb, rfl, _, _, rfl, rfl, ?_⟩
        exact k
    · refine ⟨_, rfl, iteT ?_⟩
      rw [if_neg (fun z => e1 z.1)] at k
      exact k

/-! ### the law's own -/
structure Parts (H : Hp) (v : V) (l : Addr) (p : Int) (rs : List Row) : Prop where
  ex : ∃ (a : Addr) (vs : List V), v = .ref a ∧ H a = some (.tup [.int p, .ref l]) ∧ H l = some (.lst vs) ∧ RowsV H vs rs
  len : (rs.length : Int) = p
  pos : 0 < p
theorem Parts.mono {H H' : Hp} {v : V} {l : Addr} {p : Int} {rs : List Row} (h : Parts H v l p rs) (t : Tups H H') (hl : ∀ xs, H l = some (.lst xs) → H' l = some (.lst xs)) : Parts H' v l p rs := by
  obtain ⟨⟨a, vs, h1, h2, h3, h4⟩, h5, h6⟩ := h
  exact ⟨⟨a, vs, h1, t _ _ h2, hl _ h3, h4.mono t⟩, h5, h6⟩
theorem Parts.same {H H' : Hp} {v : V} {l : Addr} {p : Int} {rs : List Row} (h : Parts H v l p rs) (s : Same H H') : Parts H' v l p rs := h.mono (Tups.of s) fun _ z => s _ _ z
def sp__law_number_image (K : PySem.W.Frag) : Sp := fun vs H Q _ => ∃ (v : V) (l : Addr) (p : Int) (rs : List Row) (x : Int) (k : Nat), vs = [v, .int x] ∧ Parts H v l p rs ∧ (∀ r ∈ rs, RowOk k r) ∧ Bz 16 p ∧ Bz k x ∧ (1 ≤ k ∧ k ≤ 100000) ∧ Q (optV (imM p rs x)) H
theorem c__law_number_image (T : Tx K mg) : C8.Cal P w K mg base 1 "_law_number_image" (sp__law_number_image K) [] := by
  refine c_mk T.d__law_number_image sc__law_number_image (fun vs H Q E h => ?_) (fun f cdv A outer s H vs Q E hr h => ?_)
  · first | (obtain ⟨rfl, _⟩ := h; rfl) | (obtain ⟨_, rfl, _⟩ := h; rfl) | (obtain ⟨_, _, rfl, _⟩ := h; rfl) | (obtain ⟨_, _, _, rfl, _⟩ := h; rfl) | (obtain ⟨_, _, _, _, rfl, _⟩ := h; rfl) | (obtain ⟨_, _, _, _, _, rfl, _⟩ := h; rfl) | (obtain ⟨_, _, _, _, _, _, rfl, _⟩ := h; rfl) | (obtain ⟨_, _, _, _, _, _, _, rfl, _⟩ := h; rfl) | (obtain ⟨_, _, _, _, _, _, _, _, rfl, _⟩ := h; rfl) | (obtain ⟨_, _, _, _, _, _, _, _, _, rfl, _⟩ := h; rfl) | (obtain ⟨_, _, _, _, _, _, _, _, _, _, rfl, _⟩ := h; rfl) | (obtain ⟨_, _, _, _, _, _, _, _, _, _, _, rfl, _⟩ := h; rfl) | (obtain ⟨_, _, _, _, _, _, _, _, _, _, _, _, rfl, _⟩ := h; rfl) | (obtain ⟨_, _, _, _, _, _, _, _, _, _, _, _, _, rfl, _⟩ := h; rfl)
  have hu := hu_of hr
  refine ⟨_, (pss_cons (ps_set (i := 2) sc__law_number_image.nd rfl (by first | exact Or.inl rfl | exact Or.inr rfl) (pe_ix ix_list (pe_ix ix_tup (pv 0) pe_int (fun _ _ => rfl)) (pe_op op_mod (pe_callTy call_int1 rfl T.b_int (by decide +kernel) (pa_cons (pv 1) pa_nil)) (pe_ix ix_tup (pv 0) pe_int (fun _ _ => rfl))) (fun _ _ => rfl)))
    (pss_cons (ps_set (i := 3) sc__law_number_image.nd rfl (by first | exact Or.inl rfl | exact Or.inr rfl) (pe_op op_fdiv (pv 1) (pe_ix ix_tup (pv 0) pe_int (fun _ _ => rfl))))
    (pss_cons (ps_if (PW.pt (pw_or (pt_cmpR op_isN (pv 2) pe_non (nomark _)) (pw_or (pt_cmpR op_lt (pv 3) (pe_ix ix_tup (pv 2) pe_int (fun _ _ => rfl)) (nomark _)) (pw_or1 (pt_cmpR op_gt (pv 3) (pe_ix ix_tup (pv 2) pe_int (fun _ _ => rfl)) (nomark _)))))) (pss_one (ps_ret pe_non)) pss_nil)
    (pss_one (ps_ret (pe_op op_add (pe_op op_mulW (pe_ix ix_tup (pv 2) pe_int (fun _ _ => rfl)) (pv 3)) (pe_ix ix_tup (pv 2) pe_int (fun _ _ => rfl)))))))), ?_⟩
  obtain ⟨v, l, p, rs, x, kk, rfl, hP, hok, bp, bx, hkk, k⟩ := h
  obtain ⟨⟨a, us, rfl, o1, o2, o3⟩, o4, hp⟩ := hP
  obtain ⟨v2, at2, hv2⟩ := rows_at o3 (i := x % p) (Int.emod_nonneg _ (by omega)) (by rw [o4]; exact Int.emod_lt_of_pos _ hp)
  have ro := rowAt_ok hok (x % p)
  refine ⟨_, rfl, a, _, _, _, rfl, rfl, SqT.of o1, rfl, _, rfl, .inl ⟨_, rfl, _, rfl, a, _, _, _, rfl, rfl, SqT.of o1, rfl, _, _, rfl, rfl, hp, _, _, _, _, rfl, rfl, SqL.of o2, at2, ?_⟩⟩
  refine ⟨_, rfl, _, rfl, a, _, _, _, rfl, rfl, SqT.of o1, rfl, _, _, rfl, rfl, bz_div hp bp, ?_⟩
  refine ⟨_, rfl, rfl, _, rfl, ?_⟩
  unfold imM at k
  generalize rowAt rs (x % p) = r2 at hv2 ro k
  cases r2 with
  | none =>
    cases (show v2 = .non from hv2)
    exact iteD (fun _ => iteT k) (fun e => absurd rfl e)
  | some q2 =>
    obtain ⟨s, t, lo, hi⟩ := q2
    obtain ⟨b, rfl, hb⟩ := hv2
    dsimp only at k
    refine iteD (fun e => by cases e) (fun _ => ?_)
    refine ⟨_, rfl, _, rfl, b, _, _, _, rfl, rfl, SqT.of hb, rfl, _, _, rfl, rfl, _, rfl, ?_⟩
    refine iteD (fun e1 => ?_) (fun e1 => ?_)
    · refine iteT ?_
      rw [if_neg (fun z => by omega)] at k
      exact k
    · refine ⟨_, rfl, _, rfl, b, _, _, _, rfl, rfl, SqT.of hb, rfl, _, _, rfl, rfl, _, rfl, ?_⟩
      refine iteD (fun e2 => ?_) (fun e2 => ?_)
      · rw [if_neg (fun z => by omega)] at k
        exact k
      · rw [if_pos ⟨by omega, by omega⟩] at k
        refine ⟨_, rfl, b, _, _, _, rfl, rfl, SqT.of hb, rfl, _, rfl, _, _, rfl, rfl, wide_mul ro.1 (Bz.div bx hp) (by omega) (by omega) (by omega), _, rfl, b, _, _, _, rfl, rfl, SqT.of hb, rfl, _, _, rfl, rfl, ?_⟩
        exact k

def sp__law_whole (K : PySem.W.Frag) : Sp := fun vs H Q _ => ∃ (d : Addr) (ds : List Int), vs = [.ref d] ∧ H d = some (.lst (ds.map V.int)) ∧
  ∀ (r : Int) (ds' : List Int), Bz 130 r → Q (.int r) (upd H d (.lst (ds'.map V.int)))
theorem c__law_whole (T : Tx K mg) : C8.Cal P w K mg base 2 "_law_whole" (sp__law_whole K) [] := by
  have C__law_take := c__law_take (P := P) (w := w) (base := base) T
  refine c_mk T.d__law_whole sc__law_whole (fun vs H Q E h => ?_) (fun f cdv A outer s H vs Q E hr h => ?_)
  · first | (obtain ⟨rfl, _⟩ := h; rfl) | (obtain ⟨_, rfl, _⟩ := h; rfl) | (obtain ⟨_, _, rfl, _⟩ := h; rfl) | (obtain ⟨_, _, _, rfl, _⟩ := h; rfl) | (obtain ⟨_, _, _, _, rfl, _⟩ := h; rfl) | (obtain ⟨_, _, _, _, _, rfl, _⟩ := h; rfl) | (obtain ⟨_, _, _, _, _, _, rfl, _⟩ := h; rfl) | (obtain ⟨_, _, _, _, _, _, _, rfl, _⟩ := h; rfl) | (obtain ⟨_, _, _, _, _, _, _, _, rfl, _⟩ := h; rfl) | (obtain ⟨_, _, _, _, _, _, _, _, _, rfl, _⟩ := h; rfl) | (obtain ⟨_, _, _, _, _, _, _, _, _, _, rfl, _⟩ := h; rfl) | (obtain ⟨_, _, _, _, _, _, _, _, _, _, _, rfl, _⟩ := h; rfl) | (obtain ⟨_, _, _, _, _, _, _, _, _, _, _, _, rfl, _⟩ := h; rfl) | (obtain ⟨_, _, _, _, _, _, _, _, _, _, _, _, _, rfl, _⟩ := h; rfl)
  have hu := hu_of hr
  refine ⟨_, (pss_cons (ps_set (i := 1) sc__law_whole.nd rfl (by first | exact Or.inl rfl | exact Or.inr rfl) (C8.pe_c (C__law_take) hr (by decide) rfl (pa_cons (pv 0) (pa_cons pe_int pa_nil))))
    (pss_cons (ps_set (i := 2) sc__law_whole.nd rfl (by first | exact Or.inl rfl | exact Or.inr rfl) (pe_op op_sub (C8.pe_c (C__law_take) hr (by decide) rfl (pa_cons (pv 0) (pa_cons pe_int pa_nil))) pe_int))
    (pss_cons (ps_if (pt_cmpR op_lt (pv 1) pe_int (nomark _)) (pss_one (ps_ret (pv 2))) pss_nil)
    (pss_cons (ps_if (pt_cmpR op_eq (pv 1) pe_int (nomark _)) (pss_one (ps_ret (pe_op op_add (pe_op op_mulW (pv 2) (pe_op op_pow pe_int pe_int)) (C8.pe_c (C__law_take) hr (by decide) rfl (pa_cons (pv 0) (pa_cons pe_int pa_nil)))))) pss_nil)
    (pss_cons (ps_if (pt_cmpR op_eq (pv 1) pe_int (nomark _)) (pss_one (ps_ret (pe_op op_add (pe_op op_mulW (pv 2) (pe_op op_pow pe_int pe_int)) (C8.pe_c (C__law_take) hr (by decide) rfl (pa_cons (pv 0) (pa_cons pe_int pa_nil)))))) pss_nil)
    (pss_one (ps_ret (pe_op op_add (pe_op op_mulW (pe_op op_sub (C8.pe_c (C__law_take) hr (by decide) rfl (pa_cons (pv 0) (pa_cons pe_int pa_nil))) pe_int) (pe_op op_pow pe_int pe_int)) (pv 2))))))))), ?_⟩
  obtain ⟨d, ds, rfl, hd, k⟩ := h
  refine ⟨_, rfl, d, ds, 8, rfl, hd, by decide, fun r0 d1 hr0 hr1 => ?_⟩
  refine ⟨_, rfl, d, d1, 13, rfl, upd_same, by decide, fun r1 d2 h0 h1 => ?_⟩
  rw [upd_upd]
  have small : Bz 4 (r1 - 6) := by
    show (r1 - 6).natAbs < 2 ^ 4
    omega
  refine ⟨_, _, rfl, rfl, ?_⟩
  refine ⟨_, rfl, _, _, rfl, rfl, _, rfl, iteD (fun _ => ⟨_, rfl, k _ d2 (small.mono (by omega))⟩) (fun _ => ?_)⟩
  have take20 : ∀ r : Int, 0 ≤ r → r < 1000003 → Bz 20 r := fun r a b => by
    show r.natAbs < 2 ^ 20
    omega
  refine ⟨_, rfl, rfl, _, rfl, iteD (fun _ => ?_) (fun _ => ?_)⟩
  · refine ⟨_, rfl, _, _, rfl, rfl, ⟨by decide, by decide, by decide⟩, _, _, rfl, rfl, wide_mul (b := 20) small (by decide) (by decide) (by decide) (by decide), _, rfl, d, d2, 1000003, rfl, upd_same, by decide, fun r2 d3 g0 g1 => ?_⟩
    rw [upd_upd]
    exact ⟨_, _, rfl, rfl, k _ d3 ((Bz.add ((Bz.mul (j := 20) small (by decide)).mono (j := 24) (by decide)) ((take20 r2 g0 g1).mono (by decide))).mono (by decide))⟩
  · refine ⟨_, rfl, rfl, _, rfl, iteD (fun _ => ?_) (fun _ => ?_)⟩
    · refine ⟨_, rfl, _, _, rfl, rfl, ⟨by decide, by decide, by decide⟩, _, _, rfl, rfl, wide_mul (b := 40) small (by decide) (by decide) (by decide) (by decide), _, rfl, d, d2, 1000003, rfl, upd_same, by decide, fun r2 d3 g0 g1 => ?_⟩
      rw [upd_upd]
      exact ⟨_, _, rfl, rfl, k _ d3 ((Bz.add ((Bz.mul (j := 40) small (by decide)).mono (j := 44) (by decide)) ((take20 r2 g0 g1).mono (by decide))).mono (by decide))⟩
    · refine ⟨_, rfl, d, d2, 1000003, rfl, upd_same, by decide, fun r2 d3 g0 g1 => ?_⟩
      rw [upd_upd]
      have b2 : Bz 20 (r2 - 500001) := by
        show (r2 - 500001).natAbs < 2 ^ 20
        omega
      refine ⟨_, _, rfl, rfl, _, _, rfl, rfl, ⟨by decide, by decide, by decide⟩, _, _, rfl, rfl, wide_mul (b := 100) b2 (by decide) (by decide) (by decide) (by decide), _, rfl, _, _, rfl, rfl, k _ d3 ?_⟩
      exact ((Bz.add ((Bz.mul (j := 100) b2 (by decide)).mono (j := 120) (by decide)) (small.mono (by decide))).mono (by decide))
def sp__law_parts (K : PySem.W.Frag) : Sp := fun vs H Q _ => ∃ (d : Addr) (ds : List Int) (m : Int), vs = [.ref d, .int m] ∧ H d = some (.lst (ds.map V.int)) ∧ 0 < m ∧ m ≤ 12 ∧
  ∀ (v : V) (l : Addr) (p : Int) (rs : List Row) (ds' : List Int) (H' : Hp), p ≤ m → H l = none → But d H H' → H' d = some (.lst (ds'.map V.int)) → Parts H' v l p rs → (∀ r ∈ rs, RowOk 140 r) → Q v H'
theorem c__law_parts (T : Tx K mg) : C8.Cal P w K mg base 3 "_law_parts" (sp__law_parts K) [] := by
  have C__law_take := c__law_take (P := P) (w := w) (base := base) T
  have C__law_whole := c__law_whole (P := P) (w := w) (base := base) T
  refine c_mk T.d__law_parts sc__law_parts (fun vs H Q E h => ?_) (fun f cdv A outer s H vs Q E hr h => ?_)
  · first | (obtain ⟨rfl, _⟩ := h; rfl) | (obtain ⟨_, rfl, _⟩ := h; rfl) | (obtain ⟨_, _, rfl, _⟩ := h; rfl) | (obtain ⟨_, _, _, rfl, _⟩ := h; rfl) | (obtain ⟨_, _, _, _, rfl, _⟩ := h; rfl) | (obtain ⟨_, _, _, _, _, rfl, _⟩ := h; rfl) | (obtain ⟨_, _, _, _, _, _, rfl, _⟩ := h; rfl) | (obtain ⟨_, _, _, _, _, _, _, rfl, _⟩ := h; rfl) | (obtain ⟨_, _, _, _, _, _, _, _, rfl, _⟩ := h; rfl) | (obtain ⟨_, _, _, _, _, _, _, _, _, rfl, _⟩ := h; rfl) | (obtain ⟨_, _, _, _, _, _, _, _, _, _, rfl, _⟩ := h; rfl) | (obtain ⟨_, _, _, _, _, _, _, _, _, _, _, rfl, _⟩ := h; rfl) | (obtain ⟨_, _, _, _, _, _, _, _, _, _, _, _, rfl, _⟩ := h; rfl) | (obtain ⟨_, _, _, _, _, _, _, _, _, _, _, _, _, rfl, _⟩ := h; rfl)
  have hu := hu_of hr
  refine ⟨_, (pss_cons (ps_set (i := 2) sc__law_parts.nd rfl (by first | exact Or.inl rfl | exact Or.inr rfl) (pe_op op_add pe_int (C8.pe_c (C__law_take) hr (by decide) rfl (pa_cons (pv 0) (pa_cons (pv 1) pa_nil)))))
    (pss_cons (ps_set (i := 3) sc__law_parts.nd rfl (by first | exact Or.inl rfl | exact Or.inr rfl) (pe_lst pa_nil))
    (pss_cons (ps_for PassesOwn.never rfl (pi_range1 rfl T.b_range (pa_cons (pv 2) pa_nil)) (pg_name (i := 4) sc__law_parts.nd rfl (by first | exact Or.inl rfl | exact Or.inr rfl)) (pss_cons (ps_set (i := 5) sc__law_parts.nd rfl (by first | exact Or.inl rfl | exact Or.inr rfl) pe_non)
    (C8.pss_cut (ps_if (pt_cmpR op_gt (C8.pe_c (C__law_take) hr (by decide) rfl (pa_cons (pv 0) (pa_cons pe_int pa_nil))) pe_int (nomark _)) (pss_cons (ps_set (i := 6) sc__law_parts.nd rfl (by first | exact Or.inl rfl | exact Or.inr rfl) (C8.pe_c (C__law_whole) hr (by decide) rfl (pa_cons (pv 0) pa_nil)))
    (pss_cons (ps_set (i := 7) sc__law_parts.nd rfl (by first | exact Or.inl rfl | exact Or.inr rfl) (pe_ix ix_list (pe_lst (pa_cons pe_int (pa_cons pe_int (pa_cons pe_int (pa_cons pe_int (pa_cons (pe_op op_pow pe_int pe_int) (pa_cons (pe_op op_pow pe_int pe_int) pa_nil))))))) (C8.pe_c (C__law_take) hr (by decide) rfl (pa_cons (pv 0) (pa_cons pe_int pa_nil))) (fun _ _ => rfl)))
    (pss_one (ps_set (i := 5) sc__law_parts.nd rfl (by first | exact Or.inl rfl | exact Or.inr rfl) (pe_tup (pa_cons (C8.pe_c (C__law_whole) hr (by decide) rfl (pa_cons (pv 0) pa_nil)) (pa_cons (C8.pe_c (C__law_whole) hr (by decide) rfl (pa_cons (pv 0) pa_nil)) (pa_cons (pv 6) (pa_cons (pe_op op_add (pv 6) (pv 7)) pa_nil))))))))) pss_nil)
    (pss_one (ps_expr (pe_bm PySem.F.plainAttrs_list PySem.F.slot_list_append PySem.F.type_list_append mt_append (pv 3) (pa_cons (pv 5) pa_nil)))))))
    (pss_one (ps_ret (pe_tup (pa_cons (pv 2) (pa_cons (pv 3) pa_nil)))))))), ?_⟩
  obtain ⟨d, ds, m, rfl, hd, hm0, hm1, k⟩ := h
  refine ⟨_, rfl, _, rfl, d, ds, m, rfl, hd, hm0, fun r0 d1 hr0 hr1 => ⟨_, _, rfl, rfl, ?_⟩⟩
  refine ⟨by decide, fun l hl => ?_⟩
  have ndl : l ≠ d := fun e => by rw [e, upd_same] at hl; cases hl
  have hl0 : H l = none := by rw [upd_ne ndl] at hl; exact hl
  refine ⟨_, rfl, _, rfl, by omega, by omega, for_range (lo := 0) (n := (1 + r0).toNat) (fun i σ H2 => ∃ (ds : List Int) (vs : List V) (rs : List Row) (x4 x5 x6 x7 : Option V),
    σ = [some (.ref d), some (.int m), some (.int (1 + r0)), some (.ref l), x4, x5, x6, x7] ∧ But d H H2 ∧ H2 d = some (.lst (ds.map V.int)) ∧ H2 l = some (.lst vs) ∧ RowsV H2 vs rs ∧ rs.length = i ∧ (∀ r ∈ rs, RowOk 140 r)) ?_ ?_ ?_⟩
  · refine ⟨d1, [], [], none, none, none, none, rfl, fun b o hb hn => ?_, ?_, upd_same, .nil, rfl, fun r hr => by cases hr⟩
    · rw [upd_ne (ne_of_none hb hl0), upd_ne hn]; exact hb
    · rw [upd_ne ndl.symm, upd_same]
  · rintro i σ H2 hi ⟨ds, vs, rs, x4, x5, x6, x7, rfl, b2, hd2, hl2, hv2, hlen, hok⟩
    refine ⟨fun σ' H' => ∃ (ds : List Int) (v : V) (r : Row) (x6 x7 : Option V),
      σ' = [some (.ref d), some (.int m), some (.int (1 + r0)), some (.ref l), some (.int (0 + i)), some v, x6, x7] ∧ But d H2 H' ∧ H' d = some (.lst (ds.map V.int)) ∧ RowV H' v r ∧ RowOk 140 r, ?_, ?_⟩
    · refine ⟨_, rfl, d, ds, 5, rfl, hd2, by decide, fun r1 e1 a0 a1 => ?_⟩
      refine ⟨_, _, rfl, rfl, _, rfl, iteD (fun _ => ?_) (fun _ => ?_)⟩
      · refine ⟨_, rfl, d, e1, rfl, upd_same, fun low e2 blow => ?_⟩
        rw [upd_upd]
        refine ⟨_, _, rfl, rfl, ⟨by decide, by decide, by decide⟩, _, _, rfl, rfl, ⟨by decide, by decide, by decide⟩, (by show 6 ≤ sizeLine; decide), fun q hq => ?_⟩
        have nqd : d ≠ q := ne_of_none upd_same hq
        refine ⟨_, rfl, d, e2, 6, rfl, by rw [upd_ne nqd, upd_same], by decide, fun r2 e3 c0 c1 => ?_⟩
        have hq3 : ∀ o, (upd (upd (upd H2 d o) q (.lst [.int 0, .int 1, .int 2, .int 5, .int (10 ^ (6 : Int).toNat), .int (10 ^ (31 : Int).toNat)])) d (.lst (e3.map V.int))) q = some (.lst [.int 0, .int 1, .int 2, .int 5, .int (10 ^ (6 : Int).toNat), .int (10 ^ (31 : Int).toNat)]) := fun o => by rw [upd_ne nqd.symm, upd_same]
        obtain ⟨wd, hwd, bwd, wd0⟩ : ∃ wd : Int, atI [V.int 0, .int 1, .int 2, .int 5, .int (10 ^ (6 : Int).toNat), .int (10 ^ (31 : Int).toNat)] r2 = some (.int wd) ∧ Bz 110 wd ∧ 0 ≤ wd := by
          have : r2 = 0 ∨ r2 = 1 ∨ r2 = 2 ∨ r2 = 3 ∨ r2 = 4 ∨ r2 = 5 := by omega
          rcases this with rfl | rfl | rfl | rfl | rfl | rfl
          · exact ⟨0, rfl, by decide, by decide⟩
          · exact ⟨1, rfl, by decide, by decide⟩
          · exact ⟨2, rfl, by decide, by decide⟩
          · exact ⟨5, rfl, by decide, by decide⟩
          · exact ⟨_, rfl, by decide, by decide⟩
          · exact ⟨_, rfl, by decide, by decide⟩
        refine ⟨q, _, _, _, rfl, rfl, SqL.of (hq3 _), hwd, ?_⟩
        have hq2 : H2 q = none := by rw [upd_ne nqd.symm] at hq; exact hq
        refine ⟨_, rfl, d, e3, rfl, upd_same, fun s e4 bs => ?_⟩
        rw [upd_upd]
        refine ⟨_, rfl, d, e4, rfl, upd_same, fun t e5 bt => ?_⟩
        rw [upd_upd]
        refine ⟨_, rfl, _, rfl, _, rfl, _, _, rfl, rfl, (by show 4 ≤ sizeLine; decide), fun tq htq => ?_⟩
        have ntd : d ≠ tq := ne_of_none upd_same htq
        have ntq : q ≠ tq := ne_of_none (show upd (upd (upd H2 d _) q _) d _ q = some _ by rw [upd_ne nqd.symm, upd_same]) htq
        refine ⟨e5, .ref tq, some (s, t, low, low + wd), _, _, rfl, fun b o hb hn => ?_, ?_, ⟨tq, rfl, upd_same⟩, bs.mono (by decide), bt.mono (by decide), blow.mono (by decide), (Bz.add blow (bwd.mono (by decide))).mono (by decide), by omega⟩
        · have nb : b ≠ q := ne_of_none hb hq2
          have nt : b ≠ tq := ne_of_none (show upd (upd (upd H2 d _) q _) d _ b = some o by rw [upd_ne hn, upd_ne nb, upd_ne hn]; exact hb) htq
          rw [upd_ne nt, upd_ne hn, upd_ne nb, upd_ne hn]
          exact hb
        · rw [upd_ne ntd, upd_same]
      · exact ⟨e1, .non, none, _, _, rfl, But.upd, upd_same, rfl, trivial⟩
    · rintro σ' H' ⟨ds, v, r, x6, x7, rfl, b3, hd3, hv3, hr3⟩
      have hl3 := b3 _ _ hl2 ndl
      have el := pr_len hv2
      refine ⟨_, rfl, .inl ⟨rfl, _, .inl (.inl hl3)⟩, _, rfl, l, _, _, rfl, rfl, hl3, Nat.lt_of_le_of_lt (show vs.length ≤ 100 by omega) (by decide), ?_⟩
      have tp : Tups H' (upd H' l (.lst (vs ++ [v]))) := fun b xs hb => by
        rw [upd_ne (ne_of hb hl3 (by intro z; cases z))]
        exact hb
      refine ⟨ds, vs ++ [v], rs ++ [r], _, _, _, _, rfl, fun b o hb hn => ?_, ?_, upd_same, ?_, by rw [List.length_append, hlen]; rfl, fun z hz => ?_⟩
      · rw [upd_ne (ne_of_none hb hl0)]
        exact b3 _ _ (b2 _ _ hb hn) hn
      · rw [upd_ne ndl.symm]; exact hd3
      · exact pr_app ((hv2.mono (Tups.but b3 hd2)).mono tp) (.cons (hv3.mono tp) .nil)
      · rcases List.mem_append.mp hz with hz | hz
        · exact hok z hz
        · cases (List.mem_singleton.mp hz)
          exact hr3
  · rintro σ H2 ⟨ds, vs, rs, x4, x5, x6, x7, rfl, b2, hd2, hl2, hv2, hlen, hok⟩
    refine ⟨_, rfl, _, rfl, (by show 2 ≤ sizeLine; decide), fun q hq => ?_⟩
    have s3 : Same H2 (upd H2 q (.tup [.int (1 + r0), .ref l])) := same_new hq
    exact k (.ref q) l (1 + r0) rs ds _ (by omega) hl0 (fun b o hb hn => s3 _ _ (b2 _ _ hb hn)) (s3 _ _ hd2) ⟨⟨q, vs, rfl, upd_same, s3 _ _ hl2, hv2.mono (Tups.of s3)⟩, by omega, by omega⟩ hok

/-! ### rows at residues, the law's points -/
theorem int_pos {z : Int} (h : 0 < z) (h2 : z < 65536) : Bz 16 z := bz16 (by omega) h2
def sp_row_at (K : PySem.W.Frag) : Sp := fun vs H Q _ => ∃ (a : Addr) (p : Int) (rs : List Row) (r P : Int) (k : Nat), vs = [.ref a, .int r, .int P] ∧ NM K H a p rs ∧ (∀ row ∈ rs, RowOk k row) ∧ (1 ≤ k ∧ k ≤ 4000) ∧ p ∣ P ∧ 0 < P ∧ P ≤ 10000 ∧ 0 ≤ r ∧ r < P ∧
  ∀ (v' : V) (H' : Hp), Same H H' → RowV H' v' (rowAtM p rs r P) → Q v' H'
theorem div_fac {p P : Int} (hp : 0 < p) (hP : 0 < P) (h : p ∣ P) : 0 < P / p ∧ P / p ≤ P := by
  obtain ⟨f, rfl⟩ := h
  rw [Int.mul_ediv_cancel_left f (by omega)]
  have hf : 0 < f := by
    rcases Int.lt_or_le 0 f with h | h
    · exact h
    · have := Int.mul_nonpos_of_nonneg_of_nonpos (Int.le_of_lt hp) h
      omega
  have : 1 * f ≤ p * f := Int.mul_le_mul_of_nonneg_right (by omega) (by omega)
  omega
theorem c_row_at (T : Tx K mg) : C8.Cal P w K mg base 2 "row_at" (sp_row_at K) [] := by
  have C_stretched := c_stretched (P := P) (w := w) (base := base) T
  refine c_mk T.d_row_at sc_row_at (fun vs H Q E h => ?_) (fun f cdv A outer s H vs Q E hr h => ?_)
  · first | (obtain ⟨rfl, _⟩ := h; rfl) | (obtain ⟨_, rfl, _⟩ := h; rfl) | (obtain ⟨_, _, rfl, _⟩ := h; rfl) | (obtain ⟨_, _, _, rfl, _⟩ := h; rfl) | (obtain ⟨_, _, _, _, rfl, _⟩ := h; rfl) | (obtain ⟨_, _, _, _, _, rfl, _⟩ := h; rfl) | (obtain ⟨_, _, _, _, _, _, rfl, _⟩ := h; rfl) | (obtain ⟨_, _, _, _, _, _, _, rfl, _⟩ := h; rfl) | (obtain ⟨_, _, _, _, _, _, _, _, rfl, _⟩ := h; rfl) | (obtain ⟨_, _, _, _, _, _, _, _, _, rfl, _⟩ := h; rfl) | (obtain ⟨_, _, _, _, _, _, _, _, _, _, rfl, _⟩ := h; rfl) | (obtain ⟨_, _, _, _, _, _, _, _, _, _, _, rfl, _⟩ := h; rfl) | (obtain ⟨_, _, _, _, _, _, _, _, _, _, _, _, rfl, _⟩ := h; rfl) | (obtain ⟨_, _, _, _, _, _, _, _, _, _, _, _, _, rfl, _⟩ := h; rfl)
  have hu := hu_of hr
  refine ⟨_, (pss_cons (ps_set (i := 3) sc_row_at.nd rfl (by first | exact Or.inl rfl | exact Or.inr rfl) (pe_op op_fdiv (pv 2) (pe_fld (pv 0) rfl)))
    (pss_one (ps_ret (C8.pe_c (C_stretched) hr (by decide) rfl (pa_cons (pe_ix ix_list (pe_fld (pv 0) rfl) (pe_op op_mod (pv 1) (pe_fld (pv 0) rfl)) (fun _ _ => rfl)) (pa_cons (pe_op op_fdiv (pv 1) (pe_fld (pv 0) rfl)) (pa_cons (pv 3) pa_nil))))))), ?_⟩
  obtain ⟨a, p, rs, r, P, kk, rfl, hN, hok, hkk, hd, hP0, hP1, hr0, hr1, k⟩ := h
  have hp := hN.pos
  obtain ⟨⟨dx, l, vs, o1, o2, o3⟩, o4, o5⟩ := hN
  have hpP : p ≤ P := Int.le_of_dvd hP0 hd
  have hf := div_fac hp hP0 hd
  obtain ⟨v2, at2, hv2⟩ := rows_at o3 (i := r % p) (Int.emod_nonneg _ (by omega)) (by rw [o4]; exact Int.emod_lt_of_pos _ hp)
  have hd0 : 0 ≤ r / p := Int.ediv_nonneg hr0 (by omega)
  have hd1 : r / p ≤ r := Int.ediv_le_self _ hr0
  have dv : CDiv P p := bz_div hp (int_pos hp (by omega))
  have dv2 : CDiv r p := bz_div hp (int_pos hp (by omega))
  refine ⟨_, rfl, _, rfl, _, _, _, _, _, rfl, o1, T.cl_NumberMap, T.n_NumberMap_period, nmF_period _ _, _, _, rfl, rfl, dv, ?_⟩
  refine ⟨_, rfl, _, _, _, _, _, rfl, o1, T.cl_NumberMap, T.n_NumberMap_rows, nmF_rows _ _, _, rfl, _, rfl, _, _, _, _, _, rfl, o1, T.cl_NumberMap, T.n_NumberMap_period, nmF_period _ _, _, _, rfl, rfl, hp, _, _, _, _, rfl, rfl, SqL.of o2, at2,
    _, rfl, _, rfl, _, _, _, _, _, rfl, o1, T.cl_NumberMap, T.n_NumberMap_period, nmF_period _ _, _, _, rfl, rfl, dv2, _, rfl, ?_⟩
  exact ⟨v2, rowAt rs (r % p), r / p, P / p, kk, rfl, hv2, rowAt_ok hok _, by omega, hf.1, int_pos hf.1 (by omega), bz16 hd0 (by omega), fun v' H' s hv' => k v' H' s hv'⟩
def sp__law_ends (K : PySem.W.Frag) : Sp := fun vs H Q _ => ∃ (v : V) (l : Addr) (p : Int) (rs : List Row) (P r : Int) (k : Nat), vs = [v, .int P, .int r] ∧ Parts H v l p rs ∧ (∀ r ∈ rs, RowOk k r) ∧ Bz 16 p ∧ (1 ≤ k ∧ k ≤ 100000) ∧ 0 < P ∧
  ∀ (q : Addr) (H' : Hp), H q = none → Same H H' → H' q = some (.lst ((endsM p rs P r).map V.int)) → Q (.ref q) H'
theorem c__law_ends (T : Tx K mg) : C8.Cal P w K mg base 1 "_law_ends" (sp__law_ends K) [] := by
  refine c_mk T.d__law_ends sc__law_ends (fun vs H Q E h => ?_) (fun f cdv A outer s H vs Q E hr h => ?_)
  · first | (obtain ⟨rfl, _⟩ := h; rfl) | (obtain ⟨_, rfl, _⟩ := h; rfl) | (obtain ⟨_, _, rfl, _⟩ := h; rfl) | (obtain ⟨_, _, _, rfl, _⟩ := h; rfl) | (obtain ⟨_, _, _, _, rfl, _⟩ := h; rfl) | (obtain ⟨_, _, _, _, _, rfl, _⟩ := h; rfl) | (obtain ⟨_, _, _, _, _, _, rfl, _⟩ := h; rfl) | (obtain ⟨_, _, _, _, _, _, _, rfl, _⟩ := h; rfl) | (obtain ⟨_, _, _, _, _, _, _, _, rfl, _⟩ := h; rfl) | (obtain ⟨_, _, _, _, _, _, _, _, _, rfl, _⟩ := h; rfl) | (obtain ⟨_, _, _, _, _, _, _, _, _, _, rfl, _⟩ := h; rfl) | (obtain ⟨_, _, _, _, _, _, _, _, _, _, _, rfl, _⟩ := h; rfl) | (obtain ⟨_, _, _, _, _, _, _, _, _, _, _, _, rfl, _⟩ := h; rfl) | (obtain ⟨_, _, _, _, _, _, _, _, _, _, _, _, _, rfl, _⟩ := h; rfl)
  have hu := hu_of hr
  refine ⟨_, (pss_cons (ps_asg (pv 0) (pg_tup rfl (pgs_cons (pg_name (i := 3) sc__law_ends.nd rfl (by first | exact Or.inl rfl | exact Or.inr rfl)) (pgs_cons (pg_name (i := 4) sc__law_ends.nd rfl (by first | exact Or.inl rfl | exact Or.inr rfl)) pgs_nil))))
    (pss_cons (ps_set (i := 5) sc__law_ends.nd rfl (by first | exact Or.inl rfl | exact Or.inr rfl) (pe_op op_mod (pe_callTy call_int1 rfl T.b_int (by decide +kernel) (pa_cons (pv 2) pa_nil)) (pv 3)))
    (pss_cons (ps_set (i := 6) sc__law_ends.nd rfl (by first | exact Or.inl rfl | exact Or.inr rfl) (pe_ix ix_list (pv 4) (pv 5) (fun _ _ => rfl)))
    (pss_cons (ps_if (pt_cmpR op_isN (pv 6) pe_non (nomark _)) (pss_one (ps_ret (pe_lst pa_nil))) pss_nil)
    (pss_cons (ps_set (i := 7) sc__law_ends.nd rfl (by first | exact Or.inl rfl | exact Or.inr rfl) (pe_op op_add (pe_op op_mulW (pv 3) (pe_ix ix_tup (pv 6) pe_int (fun _ _ => rfl))) (pv 5)))
    (pss_cons (ps_set (i := 8) sc__law_ends.nd rfl (by first | exact Or.inl rfl | exact Or.inr rfl) (pe_op op_add (pe_op op_mulW (pv 3) (pe_ix ix_tup (pv 6) pe_int (fun _ _ => rfl))) (pv 5)))
    (pss_cons (ps_set (i := 7) sc__law_ends.nd rfl (by first | exact Or.inl rfl | exact Or.inr rfl) (pe_op op_add (pv 7) (pe_op op_mod (pe_callTy call_int1 rfl T.b_int (by decide +kernel) (pa_cons (pe_op op_sub (pv 2) (pv 7)) pa_nil)) (pv 1))))
    (pss_cons (ps_set (i := 8) sc__law_ends.nd rfl (by first | exact Or.inl rfl | exact Or.inr rfl) (pe_op op_sub (pv 8) (pe_op op_mod (pe_callTy call_int1 rfl T.b_int (by decide +kernel) (pa_cons (pe_op op_sub (pv 8) (pv 2)) pa_nil)) (pv 1))))
    (pss_cons (ps_if (pt_cmpR op_gt (pv 7) (pv 8) (nomark _)) (pss_one (ps_ret (pe_lst pa_nil))) pss_nil)
    (pss_one (ps_ret (pe_lst (pa_cons (pv 7) (pa_cons (pv 8) pa_nil)))))))))))))), ?_⟩
  obtain ⟨v, l, p, rs, P, r, kk, rfl, hPa, hok, bp, hkk, hP, k⟩ := h
  obtain ⟨⟨a, us, rfl, o1, o2, o3⟩, o4, hp⟩ := hPa
  obtain ⟨v2, at2, hv2⟩ := rows_at o3 (i := r % p) (Int.emod_nonneg _ (by omega)) (by rw [o4]; exact Int.emod_lt_of_pos _ hp)
  have ro := rowAt_ok hok (r % p)
  refine ⟨_, rfl, a, _, rfl, SqT.of o1, rfl, _, _, rfl, _, _, rfl, rfl, ?_⟩
  refine ⟨_, rfl, .inl ⟨_, rfl, _, rfl, _, _, rfl, rfl, hp, ?_⟩⟩
  refine ⟨_, rfl, _, rfl, l, _, _, _, rfl, rfl, SqL.of o2, at2, ?_⟩
  refine ⟨_, rfl, rfl, _, rfl, ?_⟩
  unfold endsM at k
  generalize rowAt rs (r % p) = r2 at hv2 ro k
  cases r2 with
  | none =>
    cases (show v2 = .non from hv2)
    exact iteD (fun _ => ⟨by decide, fun q hq => k q _ hq (same_new hq) upd_same⟩) (fun e => absurd rfl e)
  | some z =>
    obtain ⟨s, t, lo, hi⟩ := z
    obtain ⟨b, rfl, hb⟩ := hv2
    obtain ⟨_, _, g3, g4, _⟩ := ro
    refine iteD (fun e => by cases e) (fun _ => ?_)
    refine ⟨_, rfl, _, rfl, b, _, _, _, rfl, rfl, SqT.of hb, rfl, _, _, rfl, rfl, wide_mul bp g3 (by decide) (by omega) (by omega), _, rfl, _, _, rfl, rfl, ?_⟩
    refine ⟨_, rfl, _, rfl, b, _, _, _, rfl, rfl, SqT.of hb, rfl, _, _, rfl, rfl, wide_mul bp g4 (by decide) (by omega) (by omega), _, rfl, _, _, rfl, rfl, ?_⟩
    refine ⟨_, rfl, _, rfl, _, rfl, _, _, rfl, rfl, .inl ⟨_, rfl, _, rfl, _, _, rfl, rfl, hP, _, _, rfl, rfl, ?_⟩⟩
    refine ⟨_, rfl, _, rfl, _, rfl, _, _, rfl, rfl, .inl ⟨_, rfl, _, rfl, _, _, rfl, rfl, hP, _, _, rfl, rfl, ?_⟩⟩
    refine ⟨_, rfl, _, rfl, _, _, rfl, rfl, _, rfl, ?_⟩
    dsimp only at k
    refine iteD (fun hc => ?_) (fun hc => ?_)
    · rw [if_pos hc] at k
      exact ⟨by decide, fun q hq => k q _ hq (same_new hq) upd_same⟩
    · rw [if_neg hc] at k
      exact ⟨_, rfl, _, rfl, (by show 2 ≤ sizeLine; decide), fun q hq => k q _ hq (same_new hq) upd_same⟩
theorem ends_bz {k : Nat} {p P r : Int} {rs : List Row} (hok : ∀ r ∈ rs, RowOk k r) (hp : 0 < p) (bp : Bz 16 p) (hP : 0 < P) (bP : Bz 16 P) : ∀ x ∈ endsM p rs P r, Bz (k + 40) x := by
  intro x hx
  have ro := rowAt_ok hok (r % p)
  unfold endsM at hx
  generalize rowAt rs (r % p) = r2 at ro hx
  have m0 : 0 ≤ r % p := Int.emod_nonneg _ (by omega)
  have m1 : r % p < p := Int.emod_lt_of_pos _ hp
  have bm : Bz 16 (r % p) := by
    have : p.natAbs < 2 ^ 16 := bp
    show (r % p).natAbs < 2 ^ 16
    omega
  have bmod : ∀ z : Int, Bz 16 (z % P) := fun z => by
    have n0 : 0 ≤ z % P := Int.emod_nonneg _ (by omega)
    have n1 : z % P < P := Int.emod_lt_of_pos _ hP
    have : P.natAbs < 2 ^ 16 := bP
    show (z % P).natAbs < 2 ^ 16
    omega
  cases r2 with
  | none => cases hx
  | some z =>
    obtain ⟨s, t, lo, hi⟩ := z
    obtain ⟨_, _, g3, g4, _⟩ := ro
    simp only at hx
    have b1 : Bz (k + 40) (p * lo + r % p + (r - (p * lo + r % p)) % P) := (Bz.add (Bz.add ((bp.mul g3).mono (j := k + 16) (by omega)) (bm.mono (by omega))) ((bmod _).mono (by omega))).mono (by omega)
    have b2 : Bz (k + 40) (p * hi + r % p - (p * hi + r % p - r) % P) := (Bz.sub (Bz.add ((bp.mul g4).mono (j := k + 16) (by omega)) (bm.mono (by omega))) ((bmod _).mono (by omega))).mono (by omega)
    split at hx
    · cases hx
    · simp only [List.mem_cons, List.not_mem_nil, or_false] at hx
      rcases hx with rfl | rfl
      · exact b1
      · exact b2
theorem ends_len (p : Int) (rs : List Row) (P r : Int) : (endsM p rs P r).length ≤ 2 := by
  unfold endsM
  cases rowAt rs (r % p) with
  | none => exact Nat.zero_le _
  | some z =>
    obtain ⟨s, t, lo, hi⟩ := z
    simp only
    split
    · exact Nat.zero_le _
    · exact Nat.le_refl _
def sp__law_common (K : PySem.W.Frag) : Sp := fun vs H Q _ => ∃ (v1 v2 : V) (l1 l2 : Addr) (p1 p2 : Int) (rs1 rs2 : List Row), vs = [v1, v2] ∧ Parts H v1 l1 p1 rs1 ∧ Parts H v2 l2 p2 rs2 ∧
  ∀ P : Int, 0 < P → p1 ∣ P → p2 ∣ P → P ≤ p1 * p2 → Q (.int P) H
theorem c__law_common (T : Tx K mg) : C8.Cal P w K mg base 1 "_law_common" (sp__law_common K) [] := by
  refine c_mk T.d__law_common sc__law_common (fun vs H Q E h => ?_) (fun f cdv A outer s H vs Q E hr h => ?_)
  · first | (obtain ⟨rfl, _⟩ := h; rfl) | (obtain ⟨_, rfl, _⟩ := h; rfl) | (obtain ⟨_, _, rfl, _⟩ := h; rfl) | (obtain ⟨_, _, _, rfl, _⟩ := h; rfl) | (obtain ⟨_, _, _, _, rfl, _⟩ := h; rfl) | (obtain ⟨_, _, _, _, _, rfl, _⟩ := h; rfl) | (obtain ⟨_, _, _, _, _, _, rfl, _⟩ := h; rfl) | (obtain ⟨_, _, _, _, _, _, _, rfl, _⟩ := h; rfl) | (obtain ⟨_, _, _, _, _, _, _, _, rfl, _⟩ := h; rfl) | (obtain ⟨_, _, _, _, _, _, _, _, _, rfl, _⟩ := h; rfl) | (obtain ⟨_, _, _, _, _, _, _, _, _, _, rfl, _⟩ := h; rfl) | (obtain ⟨_, _, _, _, _, _, _, _, _, _, _, rfl, _⟩ := h; rfl) | (obtain ⟨_, _, _, _, _, _, _, _, _, _, _, _, rfl, _⟩ := h; rfl) | (obtain ⟨_, _, _, _, _, _, _, _, _, _, _, _, _, rfl, _⟩ := h; rfl)
  have hu := hu_of hr
  refine ⟨_, (pss_cons (ps_set (i := 2) sc__law_common.nd rfl (by first | exact Or.inl rfl | exact Or.inr rfl) (pe_ix ix_tup (pv 0) pe_int (fun _ _ => rfl)))
    (pss_cons (ps_while PassesOwn.never (pt_cmpR op_ne (pe_op op_mod (pe_callTy call_int1 rfl T.b_int (by decide +kernel) (pa_cons (pv 2) pa_nil)) (pe_ix ix_tup (pv 1) pe_int (fun _ _ => rfl))) pe_int (nomark _)) (pss_one (ps_set (i := 2) sc__law_common.nd rfl (by first | exact Or.inl rfl | exact Or.inr rfl) (pe_op op_add (pv 2) (pe_ix ix_tup (pv 0) pe_int (fun _ _ => rfl))))))
    (pss_one (ps_ret (pv 2))))), ?_⟩
  obtain ⟨v1, v2, l1, l2, p1, p2, rs1, rs2, rfl, hP1, hP2, k⟩ := h
  obtain ⟨⟨a1, us1, rfl, o1, o2, o3⟩, o4, hp1⟩ := hP1
  obtain ⟨⟨a2, us2, rfl, w1, w2, w3⟩, w4, hp2⟩ := hP2
  refine ⟨_, rfl, a1, _, _, _, rfl, rfl, SqT.of o1, rfl, ?_⟩
  refine ⟨fun m σ H' => ∃ j : Int, m = (p2 - j).toNat ∧ 1 ≤ j ∧ j ≤ p2 ∧ σ = [some (.ref a1), some (.ref a2), some (.int (p1 * j))] ∧ H' = H, ⟨_, 1, rfl, by omega, by omega, by rw [Int.mul_one]; rfl, rfl⟩, ?_⟩
  rintro m σ H' ⟨j, rfl, hj0, hj1, rfl, rfl⟩
  refine ⟨_, rfl, .inl ⟨_, rfl, _, rfl, a2, _, _, _, rfl, rfl, SqT.of w1, rfl, _, _, rfl, rfl, hp2, rfl, _, rfl, ?_⟩⟩
  refine iteN (fun hc => ?_) (fun hc => ?_)
  · have hne : p1 * j % p2 ≠ 0 := fun e => hc (congrArg V.int e)
    have hj : j ≠ p2 := fun e => hne (by rw [e]; exact Int.mul_emod_left p1 p2)
    refine ⟨fun σ' H'' => σ' = [some (.ref a1), some (.ref a2), some (.int (p1 * (j + 1)))] ∧ H'' = H', fun σ' H'' ⟨e1, e2⟩ => ⟨(p2 - (j + 1)).toNat, by omega, j + 1, rfl, by omega, by omega, e1, e2⟩, ?_⟩
    exact ⟨_, rfl, _, rfl, a1, _, _, _, rfl, rfl, SqT.of o1, rfl, _, _, rfl, rfl, by rw [Int.mul_add, Int.mul_one]; rfl, rfl⟩
  · have he : p1 * j % p2 = 0 := by injection hc
    exact ⟨_, rfl, k (p1 * j) (Int.mul_pos hp1 (by omega)) ⟨j, rfl⟩ (Int.dvd_of_emod_eq_zero he) (Int.mul_le_mul_of_nonneg_left hj1 (by omega))⟩
def sp__law_points (K : PySem.W.Frag) : Sp := fun vs H Q _ => ∃ (v1 v2 : V) (l1 l2 : Addr) (p1 p2 : Int) (rs1 rs2 : List Row) (k : Nat), vs = [v1, v2] ∧ Parts H v1 l1 p1 rs1 ∧ Parts H v2 l2 p2 rs2 ∧ (∀ r ∈ rs1, RowOk k r) ∧ (∀ r ∈ rs2, RowOk k r) ∧ p1 ≤ 100 ∧ p2 ≤ 100 ∧ (1 ≤ k ∧ k ≤ 4000) ∧
  ∀ (q : Addr) (pts : List Int) (H' : Hp), H q = none → Same H H' → H' q = some (.lst (pts.map V.int)) → (∀ x ∈ pts, Bz (k + 41) x) → pts.length ≤ 120000 → ((∀ x ∈ pts, imM p1 rs1 x = imM p2 rs2 x) → ∀ x, imM p1 rs1 x = imM p2 rs2 x) → Q (.ref q) H'
theorem c__law_points (T : Tx K mg) : C8.Cal P w K mg base 2 "_law_points" (sp__law_points K) [] := by
  have C__law_ends := c__law_ends (P := P) (w := w) (base := base) T
  have C__law_common := c__law_common (P := P) (w := w) (base := base) T
  refine c_mk T.d__law_points sc__law_points (fun vs H Q E h => ?_) (fun f cdv A outer s H vs Q E hr h => ?_)
  · first | (obtain ⟨rfl, _⟩ := h; rfl) | (obtain ⟨_, rfl, _⟩ := h; rfl) | (obtain ⟨_, _, rfl, _⟩ := h; rfl) | (obtain ⟨_, _, _, rfl, _⟩ := h; rfl) | (obtain ⟨_, _, _, _, rfl, _⟩ := h; rfl) | (obtain ⟨_, _, _, _, _, rfl, _⟩ := h; rfl) | (obtain ⟨_, _, _, _, _, _, rfl, _⟩ := h; rfl) | (obtain ⟨_, _, _, _, _, _, _, rfl, _⟩ := h; rfl) | (obtain ⟨_, _, _, _, _, _, _, _, rfl, _⟩ := h; rfl) | (obtain ⟨_, _, _, _, _, _, _, _, _, rfl, _⟩ := h; rfl) | (obtain ⟨_, _, _, _, _, _, _, _, _, _, rfl, _⟩ := h; rfl) | (obtain ⟨_, _, _, _, _, _, _, _, _, _, _, rfl, _⟩ := h; rfl) | (obtain ⟨_, _, _, _, _, _, _, _, _, _, _, _, rfl, _⟩ := h; rfl) | (obtain ⟨_, _, _, _, _, _, _, _, _, _, _, _, _, rfl, _⟩ := h; rfl)
  have hu := hu_of hr
  refine ⟨_, (pss_cons (ps_set (i := 2) sc__law_points.nd rfl (by first | exact Or.inl rfl | exact Or.inr rfl) (C8.pe_c (C__law_common) hr (by decide) rfl (pa_cons (pv 0) (pa_cons (pv 1) pa_nil))))
    (pss_cons (ps_set (i := 3) sc__law_points.nd rfl (by first | exact Or.inl rfl | exact Or.inr rfl) (pe_lst pa_nil))
    (pss_cons (ps_for PassesOwn.never rfl (pi_range1 rfl T.b_range (pa_cons (pv 2) pa_nil)) (pg_name (i := 4) sc__law_points.nd rfl (by first | exact Or.inl rfl | exact Or.inr rfl)) (pss_one (ps_for PassesOwn.never rfl (pi_list (pe_op op_cat (C8.pe_c (C__law_ends) hr (by decide) rfl (pa_cons (pv 0) (pa_cons (pv 2) (pa_cons (pv 4) pa_nil)))) (C8.pe_c (C__law_ends) hr (by decide) rfl (pa_cons (pv 1) (pa_cons (pv 2) (pa_cons (pv 4) pa_nil)))))) (pg_name (i := 5) sc__law_points.nd rfl (by first | exact Or.inl rfl | exact Or.inr rfl)) (pss_one (ps_set (i := 3) sc__law_points.nd rfl (by first | exact Or.inl rfl | exact Or.inr rfl) (pe_op op_cat (pv 3) (pe_lst (pa_cons (pe_op op_sub (pv 5) (pv 2)) (pa_cons (pv 5) (pa_cons (pe_op op_add (pv 5) (pv 2)) pa_nil))))))))))
    (pss_one (ps_ret (pv 3)))))), ?_⟩
  obtain ⟨v1, v2, l1, l2, p1, p2, rs1, rs2, kk, rfl, hP1, hP2, ok1, ok2, hp1, hp2, hkk, k⟩ := h
  have hq1 := hP1.pos
  have hq2 := hP2.pos
  refine ⟨_, rfl, _, rfl, v1, v2, l1, l2, p1, p2, rs1, rs2, rfl, hP1, hP2, fun P hP d1 d2 hPle => ?_⟩
  have hPle2 : P ≤ 10000 := Int.le_trans hPle (Int.le_trans (Int.mul_le_mul hp1 hp2 (by omega) (by omega)) (by decide))
  refine ⟨by decide, fun q hq => ?_⟩
  refine ⟨_, rfl, _, rfl, by omega, by omega, for_range (lo := 0) (n := P.toNat) (fun i σ H2 => ∃ (q : Addr) (pts : List Int) (x4 x5 : Option V), σ = [some v1, some v2, some (.int P), some (.ref q), x4, x5] ∧ H q = none ∧ Same H H2 ∧ H2 q = some (.lst (pts.map V.int)) ∧ (∀ x ∈ pts, Bz (kk + 41) x) ∧ pts.length ≤ 12 * i ∧
    (∀ r : Int, 0 ≤ r → r < (i : Int) → ∀ x ∈ endsM p1 rs1 P r ++ endsM p2 rs2 P r, x ∈ pts)) ?_ ?_ ?_⟩
  · exact ⟨q, [], none, none, rfl, hq, same_new hq, upd_same, (fun x hx => by cases hx), Nat.le_refl _, fun r h0 h1 => by omega⟩
  · clear hq q
    rintro i σ H2 hi ⟨q, pts, x4, x5, rfl, hq, s2, h2, hb, hl, hall⟩
    have bP : Bz 16 P := int_pos hP (by omega)
    have ei : (0 : Int) + (i : Int) = (i : Int) := by omega
    refine ⟨_, rfl, _, rfl, _, rfl, v1, l1, p1, rs1, P, 0 + (i : Int), kk, rfl, hP1.same s2, ok1, int_pos hq1 (by omega), by omega, hP, fun u H3 hu s3 h3 => ?_⟩
    refine ⟨_, rfl, _, rfl, _, rfl, v2, l2, p2, rs2, P, 0 + (i : Int), kk, rfl, (hP2.same s2).same s3, ok2, int_pos hq2 (by omega), by omega, hP, fun w H4 hw s4 h4 => ?_⟩
    rw [ei] at h3 h4
    have le1 := ends_len p1 rs1 P i
    have le2 := ends_len p2 rs2 P i
    refine ⟨u, w, _, _, rfl, rfl, s4 _ _ h3, h4, by rw [List.length_map, List.length_map]; exact Nat.le_trans (show (endsM p1 rs1 P i).length + (endsM p2 rs2 P i).length ≤ 4 by omega) (by decide), fun e he => ?_⟩
    have s5 : Same H4 (upd H4 e (.lst ((endsM p1 rs1 P i).map V.int ++ (endsM p2 rs2 P i).map V.int))) := same_new he
    have sA := ((s2.trans s3).trans s4).trans s5
    refine ⟨e, rfl, ⟨_, SqL.of upd_same⟩, for_list (xs := (endsM p1 rs1 P i).map V.int ++ (endsM p2 rs2 P i).map V.int) (fun j σ H5 => ∃ (q : Addr) (pts' : List Int) (x5 : Option V), σ = [some v1, some v2, some (.int P), some (.ref q), some (.int (0 + i)), x5] ∧ H q = none ∧ Same H H5 ∧ H5 q = some (.lst (pts'.map V.int)) ∧ H5 e = some (.lst ((endsM p1 rs1 P i).map V.int ++ (endsM p2 rs2 P i).map V.int)) ∧ q ≠ e ∧ (∀ x ∈ pts', Bz (kk + 41) x) ∧ pts'.length ≤ 12 * i + 3 * j ∧
      (∀ x ∈ pts, x ∈ pts') ∧ (∀ x ∈ (endsM p1 rs1 P i ++ endsM p2 rs2 P i).take j, x ∈ pts')) ?_ ?_ ?_ ?_⟩
    · exact ⟨q, pts, _, rfl, hq, sA, s5 _ _ (s4 _ _ (s3 _ _ h2)), upd_same, ne_of_none (s4 _ _ (s3 _ _ h2)) he, hb, hl, fun x hx => hx, fun x hx => by cases hx⟩
    · rintro j σ H5 _ ⟨_, _, _, _, _, _, _, z, _⟩
      exact SqL.of z
    · rintro j x σ H5 hj ⟨q, pts', x5, rfl, hq, s6, h6, he6, hne, hb6, hl6, hk6, ht6⟩
      rw [← List.map_append] at hj
      have hjl : j < ((endsM p1 rs1 P i ++ endsM p2 rs2 P i).map V.int).length := (List.getElem?_eq_some_iff.mp hj).1
      rw [List.length_map, List.length_append] at hjl
      rw [List.getElem?_map] at hj
      obtain ⟨z, hz, rfl⟩ := Option.map_eq_some_iff.mp hj
      have bz : Bz (kk + 40) z := by
        rcases List.mem_append.mp (List.mem_of_getElem? hz) with h | h
        · exact ends_bz ok1 hq1 (int_pos hq1 (by omega)) hP bP z h
        · exact ends_bz ok2 hq2 (int_pos hq2 (by omega)) hP bP z h
      refine ⟨_, rfl, _, rfl, _, rfl, _, _, rfl, rfl, _, rfl, _, rfl, _, rfl, _, _, rfl, rfl, (by show 3 ≤ sizeLine; decide), fun t ht => ?_⟩
      refine ⟨q, t, _, _, rfl, rfl, by rw [upd_ne (ne_of_none h6 ht)]; exact h6, upd_same, by rw [List.length_map]; exact Nat.le_trans (show pts'.length + 3 ≤ 200000 by omega) (by decide), fun c hc => ?_⟩
      have s7 : Same H5 (upd H5 t (.lst [.int (z - P), .int z, .int (z + P)])) := same_new ht
      have s8 : Same (upd H5 t (.lst [.int (z - P), .int z, .int (z + P)])) (upd (upd H5 t (.lst [.int (z - P), .int z, .int (z + P)])) c (.lst (pts'.map V.int ++ [.int (z - P), .int z, .int (z + P)]))) := same_new hc
      refine ⟨c, pts' ++ [z - P, z, z + P], _, rfl, (s6.trans s7).free hc, (s6.trans s7).trans s8, ?_, s8 _ _ (s7 _ _ he6), (ne_of_none (s7 _ _ he6) hc).symm, ?_, by rw [List.length_append]; show pts'.length + 3 ≤ _; omega, fun x hx => List.mem_append_left _ (hk6 x hx), fun x hx => ?_⟩
      · rw [upd_same, List.map_append]
        rfl
      · intro x hx
        rcases List.mem_append.mp hx with hx | hx
        · exact hb6 x hx
        · simp only [List.mem_cons, List.not_mem_nil, or_false] at hx
          rcases hx with rfl | rfl | rfl
          · exact Bz.sub bz (bP.mono (by omega))
          · exact bz.mono (by omega)
          · exact Bz.add bz (bP.mono (by omega))
      · rw [take_snoc hz] at hx
        rcases List.mem_append.mp hx with hx | hx
        · exact List.mem_append_left _ (ht6 x hx)
        · cases (List.mem_singleton.mp hx)
          exact List.mem_append_right _ (by simp)
    · rintro σ H5 ⟨q, pts', x5, rfl, hq, s6, h6, he6, hne, hb6, hl6, hk6, ht6⟩
      rw [List.length_append, List.length_map, List.length_map] at hl6
      refine ⟨q, pts', _, _, rfl, hq, s6, h6, hb6, by omega, fun r h0 h1 x hx => ?_⟩
      by_cases hr : r = (i : Int)
      · subst hr
        refine ht6 x ?_
        rw [List.take_of_length_le (by rw [List.length_append, List.length_append, List.length_map, List.length_map]; exact Nat.le_refl _)]
        exact hx
      · exact hk6 x (hall r h0 (by omega) x hx)
  · rintro σ H2 ⟨q, pts, x4, x5, rfl, hq, s2, h2, hb, hl, hall⟩
    refine ⟨_, rfl, k q pts H2 hq s2 h2 hb (by omega) fun hx => ends_dec hq1 hq2 hP d1 d2 fun r h0 h1 x hm => hx x (hall r h0 (by omega) x hm)⟩
def sp__law_refined (K : PySem.W.Frag) : Sp := fun vs H Q _ => ∃ (v : V) (l : Addr) (p : Int) (rs : List Row) (f : Int) (k : Nat), vs = [v, .int f] ∧ Parts H v l p rs ∧ (∀ r ∈ rs, RowOk k r) ∧ p ≤ 100 ∧ 0 < f ∧ f ≤ 100 ∧ (16 ≤ k ∧ k ≤ 4000) ∧
  ∀ (v' : V) (l' : Addr) (rs' : List Row) (H' : Hp), Same H H' → Parts H' v' l' (p * f) rs' → (∀ r ∈ rs', RowOk (k + 17) r) → Q v' H'
theorem c__law_refined (T : Tx K mg) : C8.Cal P w K mg base 1 "_law_refined" (sp__law_refined K) [] := by
  refine c_mk T.d__law_refined sc__law_refined (fun vs H Q E h => ?_) (fun f cdv A outer s H vs Q E hr h => ?_)
  · first | (obtain ⟨rfl, _⟩ := h; rfl) | (obtain ⟨_, rfl, _⟩ := h; rfl) | (obtain ⟨_, _, rfl, _⟩ := h; rfl) | (obtain ⟨_, _, _, rfl, _⟩ := h; rfl) | (obtain ⟨_, _, _, _, rfl, _⟩ := h; rfl) | (obtain ⟨_, _, _, _, _, rfl, _⟩ := h; rfl) | (obtain ⟨_, _, _, _, _, _, rfl, _⟩ := h; rfl) | (obtain ⟨_, _, _, _, _, _, _, rfl, _⟩ := h; rfl) | (obtain ⟨_, _, _, _, _, _, _, _, rfl, _⟩ := h; rfl) | (obtain ⟨_, _, _, _, _, _, _, _, _, rfl, _⟩ := h; rfl) | (obtain ⟨_, _, _, _, _, _, _, _, _, _, rfl, _⟩ := h; rfl) | (obtain ⟨_, _, _, _, _, _, _, _, _, _, _, rfl, _⟩ := h; rfl) | (obtain ⟨_, _, _, _, _, _, _, _, _, _, _, _, rfl, _⟩ := h; rfl) | (obtain ⟨_, _, _, _, _, _, _, _, _, _, _, _, _, rfl, _⟩ := h; rfl)
  have hu := hu_of hr
  refine ⟨_, (pss_cons (ps_asg (pv 0) (pg_tup rfl (pgs_cons (pg_name (i := 2) sc__law_refined.nd rfl (by first | exact Or.inl rfl | exact Or.inr rfl)) (pgs_cons (pg_name (i := 3) sc__law_refined.nd rfl (by first | exact Or.inl rfl | exact Or.inr rfl)) pgs_nil))))
    (pss_cons (ps_set (i := 4) sc__law_refined.nd rfl (by first | exact Or.inl rfl | exact Or.inr rfl) (pe_lst pa_nil))
    (pss_cons (ps_for PassesOwn.never rfl (pi_range1 rfl T.b_range (pa_cons (pe_op op_mulW (pv 2) (pv 1)) pa_nil)) (pg_name (i := 5) sc__law_refined.nd rfl (by first | exact Or.inl rfl | exact Or.inr rfl)) (pss_cons (ps_set (i := 6) sc__law_refined.nd rfl (by first | exact Or.inl rfl | exact Or.inr rfl) (pe_ix ix_list (pv 3) (pe_op op_mod (pe_callTy call_int1 rfl T.b_int (by decide +kernel) (pa_cons (pv 5) pa_nil)) (pv 2)) (fun _ _ => rfl)))
    (pss_cons (ps_set (i := 7) sc__law_refined.nd rfl (by first | exact Or.inl rfl | exact Or.inr rfl) (pe_op op_fdiv (pv 5) (pv 2)))
    (C8.pss_cut (ps_if (pt_cmpR op_notN (pv 6) pe_non (nomark _)) (pss_cons (ps_set (i := 8) sc__law_refined.nd rfl (by first | exact Or.inl rfl | exact Or.inr rfl) (pe_un un_neg (pe_op op_fdiv (pe_op op_sub (pv 7) (pe_ix ix_tup (pv 6) pe_int (fun _ _ => rfl))) (pv 1))))
    (pss_cons (ps_set (i := 9) sc__law_refined.nd rfl (by first | exact Or.inl rfl | exact Or.inr rfl) (pe_op op_fdiv (pe_op op_sub (pe_ix ix_tup (pv 6) pe_int (fun _ _ => rfl)) (pv 7)) (pv 1)))
    (pss_one (ps_if (pt_cmpR op_le (pv 8) (pv 9) (nomark _)) (pss_one (ps_set (i := 6) sc__law_refined.nd rfl (by first | exact Or.inl rfl | exact Or.inr rfl) (pe_tup (pa_cons (pe_op op_mulW (pe_ix ix_tup (pv 6) pe_int (fun _ _ => rfl)) (pv 1)) (pa_cons (pe_op op_add (pe_op op_mulW (pe_ix ix_tup (pv 6) pe_int (fun _ _ => rfl)) (pv 7)) (pe_ix ix_tup (pv 6) pe_int (fun _ _ => rfl))) (pa_cons (pv 8) (pa_cons (pv 9) pa_nil))))))) (pss_one (ps_set (i := 6) sc__law_refined.nd rfl (by first | exact Or.inl rfl | exact Or.inr rfl) pe_non)))))) pss_nil)
    (pss_one (ps_expr (pe_bm PySem.F.plainAttrs_list PySem.F.slot_list_append PySem.F.type_list_append mt_append (pv 4) (pa_cons (pv 6) pa_nil))))))))
    (pss_one (ps_ret (pe_tup (pa_cons (pe_op op_mulW (pv 2) (pv 1)) (pa_cons (pv 4) pa_nil)))))))), ?_⟩
  obtain ⟨v, l, p, rs, f, kk, rfl, hPa, hok, hp1, hf0, hf1, hkk, k⟩ := h
  obtain ⟨⟨a, us, rfl, o1, o2, o3⟩, o4, hp⟩ := hPa
  have bp : Bz 16 p := int_pos hp (by omega)
  have bf : Bz 16 f := int_pos hf0 (by omega)
  have hmul : p * f ≤ 100 * 100 := Int.mul_le_mul hp1 hf1 (by omega) (by omega)
  have hmul0 : 0 < p * f := Int.mul_pos hp hf0
  have mulW : CMulW p f := wide_mul bp bf (by decide) (by decide) (by decide)
  refine ⟨_, rfl, a, _, rfl, SqT.of o1, rfl, _, _, rfl, _, _, rfl, rfl, ?_⟩
  refine ⟨by decide, fun q hq => ?_⟩
  have s0 : Same H (upd H q (.lst [])) := same_new hq
  refine ⟨_, rfl, _, rfl, _, _, rfl, rfl, mulW, _, rfl, by omega, by omega, for_range (lo := 0) (n := (p * f).toNat) (fun i σ H2 => ∃ (us' : List V) (rs' : List Row) (x5 x6 x7 x8 x9 : Option V), σ = [some (.ref a), some (.int f), some (.int p), some (.ref l), some (.ref q), x5, x6, x7, x8, x9] ∧ Same H H2 ∧ H2 q = some (.lst us') ∧ RowsV H2 us' rs' ∧ rs'.length = i ∧ ∀ r ∈ rs', RowOk (kk + 17) r) ?_ ?_ ?_⟩
  · exact ⟨[], [], none, none, none, none, none, rfl, s0, upd_same, .nil, rfl, fun r hr => by cases hr⟩
  · rintro i σ H2 hi ⟨us', rs', x5, x6, x7, x8, x9, rfl, s2, h2, hv2, hl2, hok2⟩
    obtain ⟨u, atu, hu⟩ := rows_at (o3.mono (Tups.of s2)) (i := ((0 : Int) + (i : Int)) % p) (Int.emod_nonneg _ (by omega)) (by rw [o4]; exact Int.emod_lt_of_pos _ hp)
    refine ⟨_, rfl, _, rfl, .inl ⟨_, rfl, _, rfl, _, _, rfl, rfl, hp, l, _, _, _, rfl, rfl, SqL.of (s2 _ _ o2), atu, ?_⟩⟩
    refine ⟨_, rfl, _, rfl, _, _, rfl, rfl, bz_div hp bp, ?_⟩
    have ro := rowAt_ok hok (((0 : Int) + (i : Int)) % p)
    have hd0 : 0 ≤ ((0 : Int) + (i : Int)) / p := Int.ediv_nonneg (by omega) (by omega)
    have hd1 : ((0 : Int) + (i : Int)) / p ≤ 0 + (i : Int) := Int.ediv_le_self _ (by omega)
    have bs : Bz 16 (((0 : Int) + (i : Int)) / p) := bz16 hd0 (by omega)
    have st := stretch_ok ro hf0 bf bs hkk.1
    refine ⟨fun σ' H3 => ∃ (v : V) (x8 x9 : Option V), σ' = [some (.ref a), some (.int f), some (.int p), some (.ref l), some (.ref q), some (.int (0 + i)), some v, some (.int ((0 + i) / p)), x8, x9] ∧ Same H2 H3 ∧ RowV H3 v (stretchM (rowAt rs ((0 + (i : Int)) % p)) ((0 + i) / p) f), ?_, ?_⟩
    · refine ⟨_, rfl, rfl, _, rfl, ?_⟩
      generalize rowAt rs (((0 : Int) + (i : Int)) % p) = r at hu ro
      cases r with
      | none =>
        cases (show u = .non from hu)
        exact iteN (fun e => absurd rfl e) (fun _ => ⟨.non, _, _, rfl, Same.refl _, rfl⟩)
      | some z =>
        obtain ⟨s, t, lo, hi⟩ := z
        obtain ⟨b, rfl, hb⟩ := hu
        obtain ⟨g1, g2, g3, g4, g5⟩ := ro
        have e : stretchM (some (s, t, lo, hi)) ((0 + (i : Int)) / p) f = if (hi - (0 + (i : Int)) / p) / f < -(((0 + (i : Int)) / p - lo) / f) then none else some (s * f, s * ((0 + (i : Int)) / p) + t, -(((0 + (i : Int)) / p - lo) / f), (hi - (0 + (i : Int)) / p) / f) := rfl
        refine iteN (fun _ => ?_) (fun e => by cases e)
        refine ⟨_, rfl, _, rfl, b, _, _, _, rfl, rfl, SqT.of hb, rfl, _, _, rfl, rfl, _, rfl, _, _, rfl, rfl, bz_div hf0 bf, _, rfl, ?_⟩
        refine ⟨_, rfl, b, _, _, _, rfl, rfl, SqT.of hb, rfl, _, rfl, _, _, rfl, rfl, _, rfl, _, _, rfl, rfl, bz_div hf0 bf, ?_⟩
        refine ⟨_, rfl, _, rfl, _, _, rfl, rfl, _, rfl, ?_⟩
        refine iteD (fun hc => ?_) (fun hc => ?_)
        · rw [if_neg (by omega)] at e
          refine ⟨_, rfl, b, _, _, _, rfl, rfl, SqT.of hb, rfl, _, rfl, _, _, rfl, rfl, wide_mul g1 bf (by omega) (by decide) (by omega), _, rfl, b, _, _, _, rfl, rfl, SqT.of hb, rfl, _, rfl, _, _, rfl, rfl, wide_mul g1 bs (by omega) (by decide) (by omega),
            _, rfl, b, _, _, _, rfl, rfl, SqT.of hb, rfl, _, _, rfl, rfl, _, rfl, _, rfl, (by show 4 ≤ sizeLine; decide), fun c hc => ?_⟩
          refine ⟨.ref c, _, _, rfl, same_new hc, ?_⟩
          rw [e]
          exact ⟨c, rfl, upd_same⟩
        · rw [if_pos (by omega)] at e
          exact ⟨.non, _, _, rfl, Same.refl _, by rw [e]; rfl⟩
    · rintro σ' H3 ⟨v, x8, x9, rfl, s3, hv3⟩
      have el := pr_len hv2
      have h3 := s3 _ _ h2
      refine ⟨_, rfl, .inl ⟨rfl, _, .inl (.inl h3)⟩, _, rfl, q, _, _, rfl, rfl, h3, Nat.lt_of_le_of_lt (show us'.length ≤ 10000 by omega) (by decide), ?_⟩
      have tp : Tups H3 (upd H3 q (.lst (us' ++ [v]))) := fun b xs hb => by
        rw [upd_ne (ne_of hb h3 (by intro z; cases z))]
        exact hb
      refine ⟨us' ++ [v], rs' ++ [_], _, _, _, _, _, rfl, fun b o hb => ?_, upd_same, pr_app ((hv2.mono (Tups.of s3)).mono tp) (.cons (hv3.mono tp) .nil), by rw [List.length_append, hl2]; rfl, fun r hr => ?_⟩
      · rw [upd_ne (ne_of_none hb hq)]
        exact s3 _ _ (s2 _ _ hb)
      · rcases List.mem_append.mp hr with hr | hr
        · exact hok2 r hr
        · cases (List.mem_singleton.mp hr)
          exact st
  · rintro σ H2 ⟨us', rs', x5, x6, x7, x8, x9, rfl, s2, h2, hv2, hl2, hok2⟩
    refine ⟨_, rfl, _, rfl, _, _, rfl, rfl, mulW, _, rfl, (by show 2 ≤ sizeLine; decide), fun t ht => ?_⟩
    have s3 : Same H2 (upd H2 t (.tup [.int (p * f), .ref q])) := same_new ht
    exact k (.ref t) q rs' _ (s2.trans s3) ⟨⟨t, us', rfl, upd_same, s3 _ _ h2, hv2.mono (Tups.of s3)⟩, by omega, hmul0⟩ hok2

theorem optV_inj {a b : Option Int} (h : optV a = optV b) : a = b := by
  cases a <;> cases b <;> first | rfl | (cases h; rfl) | cases h
theorem optV_scal (a b : Option Int) : scal (optV a) (optV b) = true := by
  cases a <;> cases b <;> rfl
theorem lcm_facts {p1 p2 : Int} (h1 : 0 < p1) (h2 : 0 < p2) : 0 < ((Nat.lcm p1.natAbs p2.natAbs : Nat) : Int) ∧ p1 ∣ ((Nat.lcm p1.natAbs p2.natAbs : Nat) : Int) ∧ p2 ∣ ((Nat.lcm p1.natAbs p2.natAbs : Nat) : Int) := by
  have hpos := Nat.lcm_pos (m := p1.natAbs) (n := p2.natAbs) (by omega) (by omega)
  exact ⟨by omega, Int.natAbs_dvd_natAbs.mp (Nat.dvd_lcm_left p1.natAbs p2.natAbs), Int.natAbs_dvd_natAbs.mp (Nat.dvd_lcm_right p1.natAbs p2.natAbs)⟩
/-- two rising lists with the same members are one -/
theorem rise_one : ∀ {xs ys : List Int}, xs.Pairwise (· < ·) → ys.Pairwise (· < ·) → (∀ z, z ∈ xs ↔ z ∈ ys) → xs = ys
  | [], [], _, _, _ => rfl
  | [], y :: _, _, _, h => by have := (h y).mpr List.mem_cons_self; cases this
  | x :: _, [], _, _, h => by have := (h x).mp List.mem_cons_self; cases this
  | x :: xs, y :: ys, h1, h2, h => by
    obtain ⟨a1, a2⟩ := List.pairwise_cons.mp h1
    obtain ⟨b1, b2⟩ := List.pairwise_cons.mp h2
    have e : x = y := by
      have q1 := (h x).mp List.mem_cons_self
      have q2 := (h y).mpr List.mem_cons_self
      rcases List.mem_cons.mp q1 with q1 | q1
      · exact q1
      · rcases List.mem_cons.mp q2 with q2 | q2
        · exact q2.symm
        · have := a1 _ q2
          have := b1 _ q1
          omega
    subst e
    refine congrArg (x :: ·) (rise_one a2 b2 fun z => ?_)
    constructor
    · intro hz
      rcases List.mem_cons.mp ((h z).mp (List.mem_cons_of_mem _ hz)) with q | q
      · have := a1 _ hz
        omega
      · exact q
    · intro hz
      rcases List.mem_cons.mp ((h z).mpr (List.mem_cons_of_mem _ hz)) with q | q
      · have := b1 _ hz
        omega
      · exact q
/-- what stands in the list -/
def DecS (p1 p2 P : Int) (rs1 rs2 : List Row) (x : Int) : Prop := ∃ r : Int, 0 ≤ r ∧ r < P ∧ x ∈ endsM p1 rs1 P r ++ endsM p2 rs2 P r
def lcmI (p1 p2 : Int) : Int := ((Nat.lcm p1.natAbs p2.natAbs : Nat) : Int)
def sp_decisive_numbers (K : PySem.W.Frag) : Sp := fun vs H Q _ => ∃ (a b : Addr) (p1 p2 : Int) (rs1 rs2 : List Row) (k : Nat), vs = [.ref a, .ref b] ∧ NM K H a p1 rs1 ∧ NM K H b p2 rs2 ∧ (∀ r ∈ rs1, RowOk k r) ∧ (∀ r ∈ rs2, RowOk k r) ∧ (16 ≤ k ∧ k ≤ 4000) ∧ lcmI p1 p2 ≤ 15 ∧ p1 ≤ 100 ∧ p2 ≤ 100 ∧
  ∀ (q : Addr) (ns : List Int) (H' : Hp), H q = none → Same H H' → H' q = some (.lst (ns.map V.int)) → ns.Pairwise (· < ·) → (ns.length : Int) ≤ 4 * lcmI p1 p2 → (∀ x, x ∈ ns ↔ DecS p1 p2 (lcmI p1 p2) rs1 rs2 x) → Q (.ref q) H'
theorem c_decisive_numbers (T : Tx K mg) : C8.Cal P w K mg base 3 "decisive_numbers" (sp_decisive_numbers K) [] := by
  have C_row_at := c_row_at (P := P) (w := w) (base := base) T
  refine c_mk T.d_decisive_numbers sc_decisive_numbers (fun vs H Q E h => ?_) (fun f cdv A outer s H vs Q E hr h => ?_)
  · first | (obtain ⟨rfl, _⟩ := h; rfl) | (obtain ⟨_, rfl, _⟩ := h; rfl) | (obtain ⟨_, _, rfl, _⟩ := h; rfl) | (obtain ⟨_, _, _, rfl, _⟩ := h; rfl) | (obtain ⟨_, _, _, _, rfl, _⟩ := h; rfl) | (obtain ⟨_, _, _, _, _, rfl, _⟩ := h; rfl) | (obtain ⟨_, _, _, _, _, _, rfl, _⟩ := h; rfl) | (obtain ⟨_, _, _, _, _, _, _, rfl, _⟩ := h; rfl) | (obtain ⟨_, _, _, _, _, _, _, _, rfl, _⟩ := h; rfl) | (obtain ⟨_, _, _, _, _, _, _, _, _, rfl, _⟩ := h; rfl) | (obtain ⟨_, _, _, _, _, _, _, _, _, _, rfl, _⟩ := h; rfl) | (obtain ⟨_, _, _, _, _, _, _, _, _, _, _, rfl, _⟩ := h; rfl) | (obtain ⟨_, _, _, _, _, _, _, _, _, _, _, _, rfl, _⟩ := h; rfl) | (obtain ⟨_, _, _, _, _, _, _, _, _, _, _, _, _, rfl, _⟩ := h; rfl)
  have hu := hu_of hr
  refine ⟨_, (pss_cons (ps_set (i := 2) sc_decisive_numbers.nd rfl (by first | exact Or.inl rfl | exact Or.inr rfl) (pe_callBfun cr_lcm rfl T.i_lcm (pa_cons (pe_fld (pv 0) rfl) (pa_cons (pe_fld (pv 1) rfl) pa_nil))))
    (pss_cons (ps_set (i := 3) sc_decisive_numbers.nd rfl (by first | exact Or.inl rfl | exact Or.inr rfl) (pe_lst pa_nil))
    (pss_cons (ps_for PassesOwn.never rfl (pi_range1 rfl T.b_range (pa_cons (pv 2) pa_nil)) (pg_name (i := 4) sc_decisive_numbers.nd rfl (by first | exact Or.inl rfl | exact Or.inr rfl)) (pss_one (ps_for PassesOwn.never rfl (pi_tup (pe_tup (pa_cons (C8.pe_c (C_row_at) hr (by decide) rfl (pa_cons (pv 0) (pa_cons (pv 4) (pa_cons (pv 2) pa_nil)))) (pa_cons (C8.pe_c (C_row_at) hr (by decide) rfl (pa_cons (pv 1) (pa_cons (pv 4) (pa_cons (pv 2) pa_nil)))) pa_nil)))) (pg_name (i := 5) sc_decisive_numbers.nd rfl (by first | exact Or.inl rfl | exact Or.inr rfl)) (pss_one (ps_if (pt_cmpR op_notN (pv 5) pe_non (nomark _)) (pss_cons (ps_expr (pe_bm PySem.F.plainAttrs_list PySem.F.slot_list_append PySem.F.type_list_append mt_append (pv 3) (pa_cons (pe_op op_add (pe_op op_mulW (pv 2) (pe_ix ix_tup (pv 5) pe_int (fun _ _ => rfl))) (pv 4)) pa_nil)))
    (pss_one (ps_expr (pe_bm PySem.F.plainAttrs_list PySem.F.slot_list_append PySem.F.type_list_append mt_append (pv 3) (pa_cons (pe_op op_add (pe_op op_mulW (pv 2) (pe_ix ix_tup (pv 5) pe_int (fun _ _ => rfl))) (pv 4)) pa_nil))))) pss_nil)))))
    (pss_one (ps_ret (pe_callB (cr_sortedSet rfl) rfl T.b_sorted (by decide +kernel) (pa_cons (pe_callTy (cr_setL rfl) rfl T.b_set (by decide +kernel) (pa_cons (pv 3) pa_nil)) pa_nil))))))), ?_⟩
  obtain ⟨a, b, p1, p2, rs1, rs2, kk, rfl, hN1, hN2, ok1, ok2, hkk, hP15, hp1, hp2, k⟩ := h
  have hq1 := hN1.pos
  have hq2 := hN2.pos
  obtain ⟨⟨dx, l, vs, o1, o2, o3⟩, _, _⟩ := id hN1
  obtain ⟨⟨dy, m, ws, u1, u2, u3⟩, _, _⟩ := id hN2
  obtain ⟨hP, d1, d2⟩ := lcm_facts hq1 hq2
  refine ⟨_, rfl, _, _, _, _, _, rfl, o1, T.cl_NumberMap, T.n_NumberMap_period, nmF_period _ _, _, rfl, _, _, _, _, _, rfl, u1, T.cl_NumberMap, T.n_NumberMap_period, nmF_period _ _, _, _, rfl, by omega, by omega, ?_⟩
  change lcmI p1 p2 ≤ 15 at hP15
  change 0 < lcmI p1 p2 at hP
  change p1 ∣ lcmI p1 p2 at d1
  change p2 ∣ lcmI p1 p2 at d2
  have eP : ((Nat.lcm p1.natAbs p2.natAbs : Nat) : Int) = lcmI p1 p2 := rfl
  rw [eP]
  generalize lcmI p1 p2 = P at *
  have bP : Bz 16 P := bz16 (by omega) (by omega)
  refine ⟨by decide, fun q hq => ?_⟩
  have s0 : Same H (upd H q (.lst [])) := same_new hq
  refine ⟨_, rfl, P, rfl, by omega, by omega, for_range (lo := 0) (n := P.toNat) (fun i σ H2 => ∃ (ns : List Int) (x4 x5 : Option V), σ = [some (.ref a), some (.ref b), some (.int P), some (.ref q), x4, x5] ∧ Same H H2 ∧ H2 q = some (.lst (ns.map V.int)) ∧ ns.length ≤ 4 * i ∧ ∀ x, x ∈ ns ↔ ∃ r : Int, 0 ≤ r ∧ r < (i : Int) ∧ x ∈ endsM p1 rs1 P r ++ endsM p2 rs2 P r) ?_ ?_ ?_⟩
  · exact ⟨[], none, none, rfl, s0, upd_same, Nat.le_refl _, fun x => ⟨(fun z => by cases z), fun ⟨r, h0, h1, _⟩ => by omega⟩⟩
  · rintro i σ H2 hi ⟨ns, x4, x5, rfl, s2, h2, hlen, hmem⟩
    have ei : (0 : Int) + (i : Int) = (i : Int) := by omega
    refine ⟨_, rfl, _, rfl, _, rfl, a, p1, rs1, 0 + (i : Int), P, kk, rfl, hN1.mono s2, ok1, by omega, d1, hP, by omega, by omega, by omega, fun v1 H3 s3 hv1 => ?_⟩
    refine ⟨_, rfl, _, rfl, _, rfl, b, p2, rs2, 0 + (i : Int), P, kk, rfl, (hN2.mono s2).mono s3, ok2, by omega, d2, hP, by omega, by omega, by omega, fun v2 H4 s4 hv2 => ?_⟩
    rw [ei] at hv1 hv2
    refine ⟨(by show 2 ≤ sizeLine; decide), fun t ht => ?_⟩
    have s5 : Same H4 (upd H4 t (.tup [v1, v2])) := same_new ht
    have hv1' := (hv1.mono (Tups.of s4)).mono (Tups.of s5)
    have hv2' := hv2.mono (Tups.of s5)
    have sA := ((s2.trans s3).trans s4).trans s5
    have ht5 : upd H4 t (.tup [v1, v2]) t = some (.tup [v1, v2]) := upd_same
    have h5 : upd H4 t (.tup [v1, v2]) q = some (.lst (ns.map V.int)) := s5 _ _ (s4 _ _ (s3 _ _ h2))
    have hr1 : RowOk (kk + 17) (rowAtM p1 rs1 i P) := by
      have hf := div_fac hq1 hP d1
      have h0 : 0 ≤ (i : Int) / p1 := Int.ediv_nonneg (by omega) (by omega)
      have h1 : (i : Int) / p1 ≤ i := Int.ediv_le_self _ (by omega)
      exact stretch_ok (rowAt_ok ok1 _) hf.1 (bz16 (by omega) (by omega)) (bz16 h0 (by omega)) hkk.1
    have hr2 : RowOk (kk + 17) (rowAtM p2 rs2 i P) := by
      have hf := div_fac hq2 hP d2
      have h0 : 0 ≤ (i : Int) / p2 := Int.ediv_nonneg (by omega) (by omega)
      have h1 : (i : Int) / p2 ≤ i := Int.ediv_le_self _ (by omega)
      exact stretch_ok (rowAt_ok ok2 _) hf.1 (bz16 (by omega) (by omega)) (bz16 h0 (by omega)) hkk.1
    have er : ∀ x, x ∈ endsM p1 rs1 P i ++ endsM p2 rs2 P i ↔ x ∈ (([rowAtM p1 rs1 i P, rowAtM p2 rs2 i P].map endsR).flatten).map fun z => P * z + i := fun x => by
      rw [ends_row hq1 hP d1, ends_row hq2 hP d2, ← List.map_append]
      simp
    clear hv1 hv2 s2 s3 s4 s5 ht h2
    generalize upd H4 t (.tup [v1, v2]) = H5 at *
    refine ⟨t, rfl, ⟨_, SqT.of ht5⟩, for_tup (xs := [v1, v2]) (fun j σ H6 => ∃ (ns' : List Int) (x5 : Option V), σ = [some (.ref a), some (.ref b), some (.int P), some (.ref q), some (.int (0 + i)), x5] ∧ (∀ b o, H5 b = some o → b ≠ q → H6 b = some o) ∧ H6 q = some (.lst (ns'.map V.int)) ∧
      ns' = ns ++ ((([rowAtM p1 rs1 i P, rowAtM p2 rs2 i P].take j).map endsR).flatten).map fun z => P * z + i) ?_ ?_ ?_ ?_⟩
    · exact ⟨ns, _, rfl, fun b o hb _ => hb, h5, by simp⟩
    · rintro j σ H6 _ ⟨_, _, _, k6, _⟩
      exact SqT.of (k6 _ _ ht5 (ne_of ht5 h5 (by intro z; cases z)))
    · rintro j y σ H6 hj ⟨ns', x5, rfl, k6, h6, hns'⟩
      have hjl : j < 2 := (List.getElem?_eq_some_iff.mp hj).1
      obtain ⟨r, hr, hv, hok⟩ : ∃ r, [rowAtM p1 rs1 i P, rowAtM p2 rs2 i P][j]? = some r ∧ RowV H5 y r ∧ RowOk (kk + 17) r := by
        have : j = 0 ∨ j = 1 := by omega
        rcases this with rfl | rfl
        · cases hj; exact ⟨_, rfl, hv1', hr1⟩
        · cases hj; exact ⟨_, rfl, hv2', hr2⟩
      have hl4 : ns'.length + 2 ≤ 4 * i + 4 := by
        rw [hns', List.length_append, List.length_map]
        have : j = 0 ∨ j = 1 := by omega
        have e1 : (endsR (rowAtM p1 rs1 i P)).length ≤ 2 := by unfold endsR; split <;> simp
        rcases this with rfl | rfl
        · simp; omega
        · simp; omega
      have fin : ns' ++ (endsR r).map (fun z => P * z + (i : Int)) = ns ++ ((([rowAtM p1 rs1 i P, rowAtM p2 rs2 i P].take (j + 1)).map endsR).flatten).map fun z => P * z + (i : Int) := by
        rw [take_snoc hr, List.map_append, List.flatten_append, List.map_append, ← List.append_assoc, ← hns']
        simp
      refine ⟨_, rfl, rfl, _, rfl, ?_⟩
      cases r with
      | none =>
        cases (show y = .non from hv)
        refine iteN (fun e => absurd rfl e) (fun _ => ?_)
        exact ⟨ns', _, rfl, k6, h6, by rw [← fin]; simp [endsR]⟩
      | some z =>
        obtain ⟨s, u, lo, up⟩ := z
        obtain ⟨c, rfl, hc⟩ := hv
        obtain ⟨_, _, g3, g4, _⟩ := hok
        have nc : c ≠ q := ne_of hc h5 (by intro z; cases z)
        have hc6 := k6 _ _ hc nc
        have mW : ∀ {z : Int}, Bz (kk + 17) z → CMulW P z := fun bz => wide_mul bP bz (by decide) (by omega) (by omega)
        refine iteN (fun _ => ?_) (fun e => by cases e)
        refine ⟨_, rfl, .inl ⟨rfl, _, .inl (.inl h6)⟩, _, rfl, _, rfl, c, _, _, _, rfl, rfl, SqT.of hc6, rfl, _, _, rfl, rfl, mW g3, _, rfl, _, _, rfl, rfl, q, _, _, rfl, rfl, h6, by rw [List.length_map]; exact Nat.lt_of_lt_of_le (show ns'.length < 400 by omega) (by decide), ?_⟩
        have h7 : upd H6 q (.lst (ns'.map V.int ++ [.int (P * lo + (0 + (i : Int)))])) q = some (.lst (ns'.map V.int ++ [.int (P * lo + (0 + (i : Int)))])) := upd_same
        have hc7 : upd H6 q (.lst (ns'.map V.int ++ [.int (P * lo + (0 + (i : Int)))])) c = some (.tup [.int s, .int u, .int lo, .int up]) := by rw [upd_ne nc]; exact hc6
        refine ⟨_, rfl, .inl ⟨rfl, _, .inl (.inl h7)⟩, _, rfl, _, rfl, c, _, _, _, rfl, rfl, SqT.of hc7, rfl, _, _, rfl, rfl, mW g4, _, rfl, _, _, rfl, rfl, q, _, _, rfl, rfl, h7, by rw [List.length_append, List.length_map]; exact Nat.lt_of_lt_of_le (show ns'.length + 1 < 400 by omega) (by decide), ?_⟩
        refine ⟨ns' ++ [P * lo + i, P * up + i], _, rfl, fun b o hb hn => ?_, ?_, ?_⟩
        · rw [upd_ne hn, upd_ne hn]
          exact k6 _ _ hb hn
        · rw [upd_same, List.map_append, ei, List.append_assoc]
          rfl
        · rw [← fin]
          rfl
    · rintro σ H6 ⟨ns', x5, rfl, k6, h6, hns'⟩
      refine ⟨ns', _, _, rfl, fun b o hb => ?_, h6, ?_, fun x => ?_⟩
      · exact k6 _ _ (sA _ _ hb) (ne_of_none hb hq)
      · rw [hns', List.length_append, List.length_map]
        have e1 : ∀ r, (endsR r).length ≤ 2 := fun r => by unfold endsR; split <;> simp
        have e2 := e1 (rowAtM p1 rs1 i P)
        have e3 := e1 (rowAtM p2 rs2 i P)
        simp
        omega
      · rw [hns', List.mem_append]
        have e : ([rowAtM p1 rs1 i P, rowAtM p2 rs2 i P].take [v1, v2].length) = [rowAtM p1 rs1 i P, rowAtM p2 rs2 i P] := rfl
        rw [e, ← er]
        constructor
        · rintro (hx | hx)
          · obtain ⟨r, h0, h1, h2⟩ := (hmem x).mp hx
            exact ⟨r, h0, by omega, h2⟩
          · exact ⟨i, by omega, by omega, hx⟩
        · rintro ⟨r, h0, h1, h2⟩
          by_cases c : r = i
          · subst c; exact .inr h2
          · exact .inl ((hmem x).mpr ⟨r, h0, by omega, h2⟩)
  · rintro σ H2 ⟨ns, x4, x5, rfl, s2, h2, hlen, hmem⟩
    refine ⟨_, rfl, q, ns, rfl, SqL.of h2, Nat.lt_of_le_of_lt (show ns.length + 1 ≤ 61 by omega) (by decide), fun p c hp hc => ?_⟩
    refine ⟨p, _, c, rfl, upd_same, by omega, fun out u hs hm hlo hu => ?_⟩
    refine k u out _ ?_ ?_ upd_same hs (by omega) (fun x => ?_)
    · exact (s2.trans (same_new hp)).free hu
    · exact (s2.trans (same_new hp)).trans (same_new hu)
    · rw [hm, decide_eq_true_eq, hmem]
      have e : ((P.toNat : Nat) : Int) = P := by omega
      rw [e] <;> rfl

def sp__law_touched (K : PySem.W.Frag) : Sp := fun vs H Q _ => ∃ (d : Addr) (ds : List Int) (v : V) (r : Row) (k : Nat), vs = [.ref d, v] ∧ H d = some (.lst (ds.map V.int)) ∧ RowV H v r ∧ RowOk k r ∧ (132 ≤ k ∧ k ≤ 4000) ∧
  ∀ (v' : V) (r' : Row) (ds' : List Int) (H' : Hp), But d H H' → H' d = some (.lst (ds'.map V.int)) → RowV H' v' r' → RowOk (k + 8) r' → Q v' H'
theorem c__law_touched (T : Tx K mg) : C8.Cal P w K mg base 3 "_law_touched" (sp__law_touched K) [] := by
  have C__law_take := c__law_take (P := P) (w := w) (base := base) T
  have C__law_whole := c__law_whole (P := P) (w := w) (base := base) T
  refine c_mk T.d__law_touched sc__law_touched (fun vs H Q E h => ?_) (fun f cdv A outer s H vs Q E hr h => ?_)
  · first | (obtain ⟨rfl, _⟩ := h; rfl) | (obtain ⟨_, rfl, _⟩ := h; rfl) | (obtain ⟨_, _, rfl, _⟩ := h; rfl) | (obtain ⟨_, _, _, rfl, _⟩ := h; rfl) | (obtain ⟨_, _, _, _, rfl, _⟩ := h; rfl) | (obtain ⟨_, _, _, _, _, rfl, _⟩ := h; rfl) | (obtain ⟨_, _, _, _, _, _, rfl, _⟩ := h; rfl) | (obtain ⟨_, _, _, _, _, _, _, rfl, _⟩ := h; rfl) | (obtain ⟨_, _, _, _, _, _, _, _, rfl, _⟩ := h; rfl) | (obtain ⟨_, _, _, _, _, _, _, _, _, rfl, _⟩ := h; rfl) | (obtain ⟨_, _, _, _, _, _, _, _, _, _, rfl, _⟩ := h; rfl) | (obtain ⟨_, _, _, _, _, _, _, _, _, _, _, rfl, _⟩ := h; rfl) | (obtain ⟨_, _, _, _, _, _, _, _, _, _, _, _, rfl, _⟩ := h; rfl) | (obtain ⟨_, _, _, _, _, _, _, _, _, _, _, _, _, rfl, _⟩ := h; rfl)
  have hu := hu_of hr
  refine ⟨_, (pss_cons (ps_if (pt_cmpR op_isN (pv 1) pe_non (nomark _)) (pss_one (ps_ret (pe_tup (pa_cons (C8.pe_c (C__law_whole) hr (by decide) rfl (pa_cons (pv 0) pa_nil)) (pa_cons (C8.pe_c (C__law_whole) hr (by decide) rfl (pa_cons (pv 0) pa_nil)) (pa_cons (pe_un un_neg pe_int) (pa_cons pe_int pa_nil))))))) pss_nil)
    (pss_cons (ps_set (i := 2) sc__law_touched.nd rfl (by first | exact Or.inl rfl | exact Or.inr rfl) (C8.pe_c (C__law_take) hr (by decide) rfl (pa_cons (pv 0) (pa_cons pe_int pa_nil))))
    (pss_cons (ps_asg (pv 1) (pg_tup rfl (pgs_cons (pg_name (i := 3) sc__law_touched.nd rfl (by first | exact Or.inl rfl | exact Or.inr rfl)) (pgs_cons (pg_name (i := 4) sc__law_touched.nd rfl (by first | exact Or.inl rfl | exact Or.inr rfl)) (pgs_cons (pg_name (i := 5) sc__law_touched.nd rfl (by first | exact Or.inl rfl | exact Or.inr rfl)) (pgs_cons (pg_name (i := 6) sc__law_touched.nd rfl (by first | exact Or.inl rfl | exact Or.inr rfl)) pgs_nil))))))
    (pss_cons (ps_if (pt_cmpR op_eq (pv 2) pe_int (nomark _)) (pss_one (ps_ret pe_non)) pss_nil)
    (C8.pss_cut (ps_if (PW.pt (pw_and (pt_cmpR op_eq (pv 2) pe_int (nomark _)) (pw_and1 (pt_cmpR op_lt (pv 5) (pv 6) (nomark _))))) (pss_one (ps_ret (pe_tup (pa_cons (pv 3) (pa_cons (pv 4) (pa_cons (pe_op op_add (pv 5) pe_int) (pa_cons (pv 6) pa_nil))))))) pss_nil)
    (C8.pss_cut (ps_if (PW.pt (pw_and (pt_cmpR op_eq (pv 2) pe_int (nomark _)) (pw_and1 (pt_cmpR op_lt (pv 5) (pv 6) (nomark _))))) (pss_one (ps_ret (pe_tup (pa_cons (pv 3) (pa_cons (pv 4) (pa_cons (pv 5) (pa_cons (pe_op op_sub (pv 6) pe_int) pa_nil))))))) pss_nil)
    (pss_cons (ps_if (pt_cmpR op_eq (pv 2) pe_int (nomark _)) (pss_one (ps_ret (pe_tup (pa_cons (pv 3) (pa_cons (pv 4) (pa_cons (pe_op op_sub (pv 5) pe_int) (pa_cons (pv 6) pa_nil))))))) pss_nil)
    (pss_cons (ps_if (pt_cmpR op_eq (pv 2) pe_int (nomark _)) (pss_one (ps_ret (pe_tup (pa_cons (pv 3) (pa_cons (pv 4) (pa_cons (pv 5) (pa_cons (pe_op op_add (pe_op op_add (pv 6) pe_int) (C8.pe_c (C__law_take) hr (by decide) rfl (pa_cons (pv 0) (pa_cons pe_int pa_nil)))) pa_nil))))))) pss_nil)
    (pss_cons (ps_if (pt_cmpR op_eq (pv 2) pe_int (nomark _)) (pss_one (ps_ret (pe_tup (pa_cons (pv 3) (pa_cons (pe_op op_add (pv 4) pe_int) (pa_cons (pv 5) (pa_cons (pv 6) pa_nil))))))) pss_nil)
    (pss_cons (ps_set (i := 7) sc__law_touched.nd rfl (by first | exact Or.inl rfl | exact Or.inr rfl) (pe_op op_add pe_int (C8.pe_c (C__law_take) hr (by decide) rfl (pa_cons (pv 0) (pa_cons pe_int pa_nil)))))
    (pss_cons (ps_set (i := 8) sc__law_touched.nd rfl (by first | exact Or.inl rfl | exact Or.inr rfl) (pe_ix ix_list (pe_lst (pa_cons (pv 5) (pa_cons (pv 6) (pa_cons pe_int (pa_cons (pe_op op_add (pv 5) pe_int) (pa_cons (pe_op op_sub (pv 6) pe_int) (pa_cons pe_int (pa_cons (pe_un un_neg pe_int) pa_nil)))))))) (C8.pe_c (C__law_take) hr (by decide) rfl (pa_cons (pv 0) (pa_cons pe_int pa_nil))) (fun _ _ => rfl)))
    (pss_one (ps_ret (pe_tup (pa_cons (pe_op op_add (pv 3) (pv 7)) (pa_cons (pe_op op_sub (pv 4) (pe_op op_mulW (pv 7) (pv 8))) (pa_cons (pv 5) (pa_cons (pv 6) pa_nil)))))))))))))))))), ?_⟩
  obtain ⟨d, ds, v, r, kk, rfl, hd, hv, hr0, hkk, k⟩ := h
  refine ⟨_, rfl, rfl, _, rfl, ?_⟩
  -- the end: a new tuple
  have fin : ∀ (e : List Int) (G : Hp) (s t lo hi : Int) (p : Addr), (∀ b o, H b = some o → b ≠ d → G b = some o) → G d = some (.lst (e.map V.int)) → G p = none → RowOk (kk + 8) (some (s, t, lo, hi)) → Q (.ref p) (upd G p (.tup [.int s, .int t, .int lo, .int hi])) := fun e G s t lo hi p hG hGd hp ho =>
    k (.ref p) (some (s, t, lo, hi)) e _ (fun b o hb hn => same_new hp _ _ (hG b o hb hn)) (same_new hp _ _ hGd) ⟨p, rfl, upd_same⟩ ho
  cases r with
  | none =>
    cases (show v = .non from hv)
    refine iteD (fun _ => ?_) (fun e => absurd rfl e)
    refine ⟨_, rfl, d, ds, rfl, hd, fun s e1 bs => ?_⟩
    refine ⟨_, rfl, d, e1, rfl, upd_same, fun t e2 bt => ?_⟩
    rw [upd_upd]
    refine ⟨_, rfl, (by show 4 ≤ sizeLine; decide), fun p hp => ?_⟩
    exact fin e2 _ s t (-1) 1 p (fun b o hb hn => by rw [upd_ne hn]; exact hb) upd_same hp ⟨bs.mono (by omega), bt.mono (by omega), Bz.mono (k := 1) (by decide) (by omega), Bz.mono (k := 1) (by decide) (by omega), by decide⟩
  | some q =>
    obtain ⟨s, t, lo, hi⟩ := q
    obtain ⟨a, rfl, ha⟩ := hv
    obtain ⟨g1, g2, g3, g4, g5⟩ := hr0
    have nad : a ≠ d := ne_of ha hd (by intro z; cases z)
    refine iteD (fun e => by cases e) (fun _ => ?_)
    refine ⟨_, rfl, d, ds, 8, rfl, hd, by decide, fun r0 e1 c0 c1 => ?_⟩
    have b1 : ∀ b o, H b = some o → b ≠ d → upd H d (.lst (e1.map V.int)) b = some o := fun b o hb hn => by rw [upd_ne hn]; exact hb
    have hd1 : upd H d (.lst (e1.map V.int)) d = some (.lst (e1.map V.int)) := upd_same
    have ha1 := b1 _ _ ha nad
    generalize upd H d (.lst (e1.map V.int)) = G at *
    refine ⟨_, rfl, a, _, rfl, SqT.of ha1, rfl, _, _, rfl, _, _, rfl, _, _, rfl, _, _, rfl, rfl, ?_⟩
    have one : ∀ j, 1 ≤ j → Bz j 1 := fun j hj => Bz.mono (k := 1) (by decide) hj
    have m8 : ∀ {x : Int}, Bz kk x → Bz (kk + 8) x := fun h => h.mono (by omega)
    have keepG : Q .non G := k .non none e1 G (fun b o hb hn => b1 b o hb hn) hd1 rfl trivial
    refine ⟨_, rfl, rfl, _, rfl, iteD (fun _ => keepG) (fun _ => ?_)⟩
    -- digit == 5, then the crossing: what is left behind the tests of 1 to 4
    have tup : ∀ (e : List Int) (G' : Hp) (s' t' lo' hi' : Int) (p : Addr), (∀ b o, G b = some o → b ≠ d → G' b = some o) → G' d = some (.lst (e.map V.int)) → G' p = none → RowOk (kk + 8) (some (s', t', lo', hi')) → Q (.ref p) (upd G' p (.tup [.int s', .int t', .int lo', .int hi'])) := fun e G' s' t' lo' hi' p hG hGd hp ho =>
      fin e G' s' t' lo' hi' p (fun b o hb hn => hG _ _ (b1 b o hb hn) hn) hGd hp ho
    have idG : ∀ b o, G b = some o → b ≠ d → G b = some o := fun b o h _ => h
    have L4 : (4 : Nat) ≤ sizeLine := by decide
    have cross : ∀ r1 : Int, 0 ≤ r1 → r1 < 7 → ∃ c : Int, atI [V.int lo, .int hi, .int 0, .int (lo + 1), .int (hi - 1), .int 1, .int (-1)] r1 = some (.int c) ∧ Bz (kk + 1) c := fun r1 a0 a1 => by
      have : r1 = 0 ∨ r1 = 1 ∨ r1 = 2 ∨ r1 = 3 ∨ r1 = 4 ∨ r1 = 5 ∨ r1 = 6 := by omega
      rcases this with rfl | rfl | rfl | rfl | rfl | rfl | rfl
      · exact ⟨lo, rfl, g3.mono (by omega)⟩
      · exact ⟨hi, rfl, g4.mono (by omega)⟩
      · exact ⟨0, rfl, Bz.mono (k := 1) (by decide) (by omega)⟩
      · exact ⟨lo + 1, rfl, Bz.add g3 (one _ (by omega))⟩
      · exact ⟨hi - 1, rfl, Bz.sub g4 (one _ (by omega))⟩
      · exact ⟨1, rfl, one _ (by omega)⟩
      · exact ⟨-1, rfl, Bz.mono (k := 1) (by decide) (by omega)⟩
    refine ⟨fun σ' H' => σ' = [some (.ref d), some (.ref a), some (.int r0), some (.int s), some (.int t), some (.int lo), some (.int hi), none, none] ∧ H' = G, ?_, ?_⟩
    · refine ⟨_, rfl, rfl, _, rfl, iteD (fun _ => ?_) (fun _ => iteF ⟨rfl, rfl⟩)⟩
      refine ⟨_, rfl, _, rfl, _, _, rfl, rfl, _, rfl, iteD (fun hlt => ?_) (fun _ => ⟨rfl, rfl⟩)⟩
      exact ⟨_, rfl, _, rfl, _, rfl, _, _, rfl, rfl, _, rfl, L4, fun p hp => tup e1 G s t (lo + 1) hi p idG hd1 hp ⟨m8 g1, m8 g2, (Bz.add g3 (one _ (by omega))).mono (by omega), m8 g4, by omega⟩⟩
    rintro σ' H' ⟨rfl, rfl⟩
    refine ⟨fun σ' H'' => σ' = [some (.ref d), some (.ref a), some (.int r0), some (.int s), some (.int t), some (.int lo), some (.int hi), none, none] ∧ H'' = H', ?_, ?_⟩
    · refine ⟨_, rfl, rfl, _, rfl, iteD (fun _ => ?_) (fun _ => iteF ⟨rfl, rfl⟩)⟩
      refine ⟨_, rfl, _, rfl, _, _, rfl, rfl, _, rfl, iteD (fun hlt => ?_) (fun _ => ⟨rfl, rfl⟩)⟩
      exact ⟨_, rfl, _, rfl, _, rfl, _, rfl, _, _, rfl, rfl, L4, fun p hp => tup e1 _ s t lo (hi - 1) p idG hd1 hp ⟨m8 g1, m8 g2, m8 g3, (Bz.sub g4 (one _ (by omega))).mono (by omega), by omega⟩⟩
    rintro σ' H'' ⟨rfl, rfl⟩
    refine ⟨_, rfl, rfl, _, rfl, iteD (fun _ => ?_) (fun _ => ?_)⟩
    · exact ⟨_, rfl, _, rfl, _, rfl, _, _, rfl, rfl, _, rfl, L4, fun p hp => tup e1 _ s t (lo - 1) hi p idG hd1 hp ⟨m8 g1, m8 g2, (Bz.sub g3 (one _ (by omega))).mono (by omega), m8 g4, by omega⟩⟩
    refine ⟨_, rfl, rfl, _, rfl, iteD (fun _ => ?_) (fun _ => ?_)⟩
    · refine ⟨_, rfl, _, rfl, _, rfl, _, rfl, _, _, rfl, rfl, _, rfl, d, e1, 3, rfl, hd1, by decide, fun r1 e2 c2 c3 => ⟨_, _, rfl, rfl, L4, fun p hp => ?_⟩⟩
      exact tup e2 _ s t lo (hi + 1 + r1) p (fun b o hb hn => by rw [upd_ne hn]; exact hb) upd_same hp ⟨m8 g1, m8 g2, m8 g3, (Bz.add (Bz.add g4 (one _ (by omega))) ((bz16 c2 (by omega)).mono (by omega))).mono (by omega), by omega⟩
    refine ⟨_, rfl, rfl, _, rfl, iteD (fun _ => ?_) (fun _ => ?_)⟩
    · exact ⟨_, rfl, _, rfl, _, _, rfl, rfl, _, rfl, _, rfl, L4, fun p hp => tup e1 _ s (t + 1) lo hi p idG hd1 hp ⟨m8 g1, (Bz.add g2 (one _ (by omega))).mono (by omega), m8 g3, m8 g4, g5⟩⟩
    refine ⟨_, rfl, d, e1, 3, rfl, hd1, by decide, fun r1 e2 c2 c3 => ⟨_, _, rfl, rfl, ?_⟩⟩
    refine ⟨_, rfl, _, rfl, _, rfl, _, _, rfl, rfl, _, rfl, _, _, rfl, rfl, _, rfl, (by show 7 ≤ sizeLine; decide), fun u hu => ?_⟩
    have nud : d ≠ u := ne_of_none upd_same hu
    refine ⟨_, rfl, d, e2, 7, rfl, by rw [upd_ne nud, upd_same], by decide, fun r2 e3 c4 c5 => ?_⟩
    obtain ⟨c, hc, bc⟩ := cross r2 c4 c5
    refine ⟨u, _, _, _, rfl, rfl, SqL.of (by rw [upd_ne nud.symm, upd_same]), hc, ?_⟩
    have b3 : Bz 3 (1 + r1) := by
      show (1 + r1).natAbs < 2 ^ 3
      omega
    refine ⟨_, rfl, _, rfl, _, _, rfl, rfl, _, rfl, _, rfl, _, rfl, _, _, rfl, rfl, wide_mul b3 bc (by decide) (by omega) (by omega), _, _, rfl, rfl, _, rfl, _, rfl, L4, fun p hp => ?_⟩
    refine tup e3 _ (s + (1 + r1)) (t - (1 + r1) * c) lo hi p (fun b o hb hn => ?_) upd_same hp ⟨(Bz.add g1 (b3.mono (by omega))).mono (by omega), (Bz.sub (g2.mono (by omega)) ((Bz.mul b3 bc).mono (j := kk + 4) (by omega))).mono (by omega), m8 g3, m8 g4, g5⟩
    have nbu : b ≠ u := ne_of_none (show upd _ d _ b = some o by rw [upd_ne hn]; exact hb) hu
    rw [upd_ne hn, upd_ne nbu, upd_ne hn]
    exact hb
def sp__law_near (K : PySem.W.Frag) : Sp := fun vs H Q _ => ∃ (d : Addr) (ds : List Int) (v : V) (l : Addr) (p : Int) (rs : List Row), vs = [.ref d, v] ∧ H d = some (.lst (ds.map V.int)) ∧ Parts H v l p rs ∧ (∀ r ∈ rs, RowOk 140 r) ∧ p ≤ 4 ∧ l ≠ d ∧
  ∀ (v' : V) (l' : Addr) (p' : Int) (rs' : List Row) (ds' : List Int) (H' : Hp), H l' = none → But d H H' → H' d = some (.lst (ds'.map V.int)) → p' ≤ 12 → p ∣ p' → Parts H' v' l' p' rs' → (∀ r ∈ rs', RowOk 500 r) → Q v' H'
theorem c__law_near (T : Tx K mg) : C8.Cal P w K mg base 4 "_law_near" (sp__law_near K) [] := by
  have C__law_take := c__law_take (P := P) (w := w) (base := base) T
  have C__law_whole := c__law_whole (P := P) (w := w) (base := base) T
  have C__law_touched := c__law_touched (P := P) (w := w) (base := base) T
  have C__law_refined := c__law_refined (P := P) (w := w) (base := base) T
  refine c_mk T.d__law_near sc__law_near (fun vs H Q E h => ?_) (fun f cdv A outer s H vs Q E hr h => ?_)
  · first | (obtain ⟨rfl, _⟩ := h; rfl) | (obtain ⟨_, rfl, _⟩ := h; rfl) | (obtain ⟨_, _, rfl, _⟩ := h; rfl) | (obtain ⟨_, _, _, rfl, _⟩ := h; rfl) | (obtain ⟨_, _, _, _, rfl, _⟩ := h; rfl) | (obtain ⟨_, _, _, _, _, rfl, _⟩ := h; rfl) | (obtain ⟨_, _, _, _, _, _, rfl, _⟩ := h; rfl) | (obtain ⟨_, _, _, _, _, _, _, rfl, _⟩ := h; rfl) | (obtain ⟨_, _, _, _, _, _, _, _, rfl, _⟩ := h; rfl) | (obtain ⟨_, _, _, _, _, _, _, _, _, rfl, _⟩ := h; rfl) | (obtain ⟨_, _, _, _, _, _, _, _, _, _, rfl, _⟩ := h; rfl) | (obtain ⟨_, _, _, _, _, _, _, _, _, _, _, rfl, _⟩ := h; rfl) | (obtain ⟨_, _, _, _, _, _, _, _, _, _, _, _, rfl, _⟩ := h; rfl) | (obtain ⟨_, _, _, _, _, _, _, _, _, _, _, _, _, rfl, _⟩ := h; rfl)
  have hu := hu_of hr
  refine ⟨_, (pss_cons (ps_asg (C8.pe_c (C__law_refined) hr (by decide) rfl (pa_cons (pv 1) (pa_cons (pe_op op_add pe_int (C8.pe_c (C__law_take) hr (by decide) rfl (pa_cons (pv 0) (pa_cons pe_int pa_nil)))) pa_nil))) (pg_tup rfl (pgs_cons (pg_name (i := 2) sc__law_near.nd rfl (by first | exact Or.inl rfl | exact Or.inr rfl)) (pgs_cons (pg_name (i := 3) sc__law_near.nd rfl (by first | exact Or.inl rfl | exact Or.inr rfl)) pgs_nil))))
    (pss_cons (ps_set (i := 3) sc__law_near.nd rfl (by first | exact Or.inl rfl | exact Or.inr rfl) (pe_callTy call_list_of rfl T.b_list (by decide +kernel) (pa_cons (pv 3) pa_nil)))
    (pss_cons (ps_for PassesOwn.never rfl (pi_range1 rfl T.b_range (pa_cons (C8.pe_c (C__law_take) hr (by decide) rfl (pa_cons (pv 0) (pa_cons pe_int pa_nil))) pa_nil)) (pg_name (i := 4) sc__law_near.nd rfl (by first | exact Or.inl rfl | exact Or.inr rfl)) (pss_cons (ps_set (i := 5) sc__law_near.nd rfl (by first | exact Or.inl rfl | exact Or.inr rfl) (C8.pe_c (C__law_take) hr (by decide) rfl (pa_cons (pv 0) (pa_cons (pv 2) pa_nil))))
    (pss_one (ps_asg (C8.pe_c (C__law_touched) hr (by decide) rfl (pa_cons (pv 0) (pa_cons (pe_ix ix_list (pv 3) (pv 5) (fun _ _ => rfl)) pa_nil))) (pg_sub (pv 3) (pv 5) set_list)))))
    (pss_cons (ps_for PassesOwn.never rfl (pi_range1 rfl T.b_range (pa_cons (pv 2) pa_nil)) (pg_name (i := 5) sc__law_near.nd rfl (by first | exact Or.inl rfl | exact Or.inr rfl)) (pss_cons (ps_set (i := 6) sc__law_near.nd rfl (by first | exact Or.inl rfl | exact Or.inr rfl) (pe_ix ix_list (pv 3) (pv 5) (fun _ _ => rfl)))
    (pss_one (ps_if (PW.pt (pw_and (pt_cmpR op_notN (pv 6) pe_non (nomark _)) (pw_and (pt_cmpR op_eq (pe_ix ix_tup (pv 6) pe_int (fun _ _ => rfl)) (pe_ix ix_tup (pv 6) pe_int (fun _ _ => rfl)) (nomark _)) (pw_and1 (pt_cmpR op_eq (C8.pe_c (C__law_take) hr (by decide) rfl (pa_cons (pv 0) (pa_cons pe_int pa_nil))) pe_int (nomark _)))))) (pss_cons (ps_set (i := 7) sc__law_near.nd rfl (by first | exact Or.inl rfl | exact Or.inr rfl) (C8.pe_c (C__law_whole) hr (by decide) rfl (pa_cons (pv 0) pa_nil)))
    (pss_one (ps_asg (pe_tup (pa_cons (pv 7) (pa_cons (pe_op op_sub (pe_op op_add (pe_op op_mulW (pe_ix ix_tup (pv 6) pe_int (fun _ _ => rfl)) (pe_ix ix_tup (pv 6) pe_int (fun _ _ => rfl))) (pe_ix ix_tup (pv 6) pe_int (fun _ _ => rfl))) (pe_op op_mulW (pv 7) (pe_ix ix_tup (pv 6) pe_int (fun _ _ => rfl)))) (pa_cons (pe_ix ix_tup (pv 6) pe_int (fun _ _ => rfl)) (pa_cons (pe_ix ix_tup (pv 6) pe_int (fun _ _ => rfl)) pa_nil))))) (pg_sub (pv 3) (pv 5) set_list)))) pss_nil))))
    (pss_one (ps_ret (pe_tup (pa_cons (pv 2) (pa_cons (pv 3) pa_nil))))))))), ?_⟩
  obtain ⟨d, ds, v, l, p, rs, rfl, hd, hPa, hok, hp4, nld, k⟩ := h
  have hp := hPa.pos
  refine ⟨_, rfl, _, rfl, d, ds, 3, rfl, hd, by decide, fun r0 e1 c0 c1 => ⟨_, _, rfl, rfl, ?_⟩⟩
  have but1 : But d H (upd H d (.lst (e1.map V.int))) := But.upd
  have hPa1 : Parts (upd H d (.lst (e1.map V.int))) v l p rs := hPa.mono (Tups.but but1 hd) fun xs hx => but1 _ _ hx nld
  refine ⟨v, l, p, rs, 1 + r0, 140, rfl, hPa1, hok, by omega, by omega, by omega, by decide, fun v2 l2 rs2 H2 s2 hP2 ok2 => ?_⟩
  have hd2 : H2 d = some (.lst (e1.map V.int)) := s2 _ _ upd_same
  have but2 : But d H H2 := fun b o hb hn => s2 _ _ (but1 b o hb hn)
  obtain ⟨⟨a, us, rfl, o1, o2, o3⟩, o4, hpf⟩ := hP2
  have hsz : p * (1 + r0) ≤ 4 * 3 := Int.mul_le_mul hp4 (by omega) (by omega) (by omega)
  have hdv : p ∣ p * (1 + r0) := ⟨_, rfl⟩
  generalize p * (1 + r0) = p2 at *
  refine ⟨a, _, rfl, SqT.of o1, rfl, _, _, rfl, _, _, rfl, rfl, ?_⟩
  refine ⟨_, rfl, l2, us, rfl, .inl (SqL.of o2), fun L hL => ?_⟩
  have s3 : Same H2 (upd H2 L (.lst us)) := same_new hL
  have hL0 : H L = none := by
    cases e : H L with
    | none => rfl
    | some o =>
      by_cases c : L = d
      · rw [c, hd2] at hL; cases hL
      · rw [but2 _ _ e c] at hL; cases hL
  have ndL : d ≠ L := ne_of_none hd2 hL
  have b3 : But d H (upd H2 L (.lst us)) := fun b o hb hn => s3 _ _ (but2 b o hb hn)
  have hd3 := s3 _ _ hd2
  have hl3 : upd H2 L (.lst us) L = some (.lst us) := upd_same
  have hv3 := o3.mono (Tups.of s3)
  clear o1 o2 o3 s3 hL
  generalize upd H2 L (.lst us) = H3 at *
  -- for k in range(take)
  refine ⟨_, rfl, d, e1, 3, rfl, hd3, by decide, fun r1 e2 c2 c3 => ⟨r1, rfl, by omega, by omega, for_range (lo := 0) (n := r1.toNat) (fun i σ H4 => ∃ (ds : List Int) (us' : List V) (rs' : List Row) (x4 x5 x6 x7 : Option V),
    σ = [some (.ref d), some v, some (.int p2), some (.ref L), x4, x5, x6, x7] ∧ But d H H4 ∧ H4 d = some (.lst (ds.map V.int)) ∧ H4 L = some (.lst us') ∧ RowsV H4 us' rs' ∧ (rs'.length : Int) = p2 ∧ ∀ r ∈ rs', RowOk (157 + 8 * i) r) ?_ ?_ ?_⟩⟩
  · refine ⟨e2, us, rs2, none, none, none, none, rfl, fun b o hb hn => by rw [upd_ne hn]; exact b3 b o hb hn, upd_same, by rw [upd_ne ndL.symm]; exact hl3, hv3.mono fun b xs hb => by rw [upd_ne (ne_of hb hd3 (by intro z; cases z))]; exact hb, o4, fun r hr => (ok2 r hr).mono (by omega)⟩
  · rintro i σ H4 hi ⟨ds4, us4, rs4, x4, x5, x6, x7, rfl, b4, hd4, hl4, hv4, hlen4, ok4⟩
    refine ⟨_, rfl, _, rfl, d, ds4, p2, rfl, hd4, hpf, fun r2 e3 c4 c5 => ?_⟩
    have tp5 : Tups H4 (upd H4 d (.lst (e3.map V.int))) := fun b xs hb => by rw [upd_ne (ne_of hb hd4 (by intro z; cases z))]; exact hb
    have hl5 : upd H4 d (.lst (e3.map V.int)) L = some (.lst us4) := by rw [upd_ne ndL.symm]; exact hl4
    have b5 : But d H (upd H4 d (.lst (e3.map V.int))) := fun b o hb hn => by rw [upd_ne hn]; exact b4 b o hb hn
    have hd5 : upd H4 d (.lst (e3.map V.int)) d = some (.lst (e3.map V.int)) := upd_same
    have hv5 := hv4.mono tp5
    generalize upd H4 d (.lst (e3.map V.int)) = H5 at *
    obtain ⟨u, atu, hu⟩ := rows_at hv5 (i := r2) c4 (by omega)
    refine ⟨_, rfl, _, rfl, _, rfl, L, _, _, _, rfl, rfl, SqL.of hl5, atu, d, e3, u, rowAt rs4 r2, 157 + 8 * i, rfl, hd5, hu, rowAt_ok ok4 _, by omega, fun v6 r6 e4 H6 b6 hd6 hv6 ok6 => ?_⟩
    have hl6 := b6 _ _ hl5 ndL.symm
    have el := pr_len hv5
    refine ⟨_, rfl, _, rfl, L, _, _, _, rfl, rfl, hl6, ixN_in (by omega) (by omega), ?_⟩
    have tp : Tups H6 (upd H6 L (.lst (us4.set r2.toNat v6))) := fun b xs hb => by
      rw [upd_ne (ne_of hb hl6 (by intro z; cases z))]
      exact hb
    refine ⟨e4, us4.set r2.toNat v6, rs4.set r2.toNat r6, _, _, _, _, rfl, fun b o hb hn => ?_, ?_, upd_same, ?_, by rw [List.length_set]; exact hlen4, fun r hr => ?_⟩
    · rw [upd_ne (ne_of_none hb hL0)]
      exact b6 _ _ (b5 b o hb hn) hn
    · rw [upd_ne ndL]; exact hd6
    · exact pr_set (hv6.mono tp) _ ((hv5.mono (Tups.but b6 hd5)).mono tp)
    · rcases List.mem_or_eq_of_mem_set hr with hr | rfl
      · exact (ok4 r hr).mono (by omega)
      · exact ok6.mono (by omega)
  · rintro σ H4 ⟨ds4, us4, rs4, x4, x5, x6, x7, rfl, b4, hd4, hl4, hv4, hlen4, ok4⟩
    have r1le : 8 * r1.toNat ≤ 16 := by omega
    refine ⟨_, rfl, p2, rfl, by omega, by omega, for_range (lo := 0) (n := p2.toNat) (fun i σ H5 => ∃ (ds : List Int) (us' : List V) (rs' : List Row) (x4 x5 x6 x7 : Option V),
      σ = [some (.ref d), some v, some (.int p2), some (.ref L), x4, x5, x6, x7] ∧ But d H H5 ∧ H5 d = some (.lst (ds.map V.int)) ∧ H5 L = some (.lst us') ∧ RowsV H5 us' rs' ∧ (rs'.length : Int) = p2 ∧ (∀ r ∈ rs', RowOk 500 r) ∧ ∀ (j : Nat) r, i ≤ j → rs'[j]? = some r → RowOk 180 r) ?_ ?_ ?_⟩
    · exact ⟨ds4, us4, rs4, _, _, _, _, rfl, b4, hd4, hl4, hv4, hlen4, fun r hr => (ok4 r hr).mono (by omega), fun j r _ hj => (ok4 r (List.mem_of_getElem? hj)).mono (by omega)⟩
    · rintro i σ H5 hi ⟨ds5, us5, rs5, x4, x5, x6, x7, rfl, b5, hd5, hl5, hv5, hlen5, ok5, ok5'⟩
      obtain ⟨u, atu, hu⟩ := rows_at hv5 (i := 0 + (i : Int)) (by omega) (by omega)
      refine ⟨_, rfl, _, rfl, L, _, _, _, rfl, rfl, SqL.of hl5, atu, ?_⟩
      have ro : RowOk 180 (rowAt rs5 (0 + (i : Int))) := by
        unfold rowAt
        cases e : rs5[((0 : Int) + (i : Int)).toNat]? with
        | none => trivial
        | some r => exact ok5' _ r (by omega) e
      have same : ∀ (G : Hp) (e : List Int) (x6 x7 : Option V), (∀ b o, H5 b = some o → b ≠ d → G b = some o) → G d = some (.lst (e.map V.int)) → ∃ (ds : List Int) (us' : List V) (rs' : List Row) (y4 y5 y6 y7 : Option V),
          ([some (.ref d), some v, some (.int p2), some (.ref L), x4, some (.int (0 + i)), x6, x7] : List (Option V)) = [some (.ref d), some v, some (.int p2), some (.ref L), y4, y5, y6, y7] ∧ But d H G ∧ G d = some (.lst (ds.map V.int)) ∧ G L = some (.lst us') ∧ RowsV G us' rs' ∧ (rs'.length : Int) = p2 ∧ (∀ r ∈ rs', RowOk 500 r) ∧ ∀ (j : Nat) r, i + 1 ≤ j → rs'[j]? = some r → RowOk 180 r :=
        fun G e x6 x7 hG hGd => ⟨e, us5, rs5, _, _, _, _, rfl, fun b o hb hn => hG _ _ (b5 b o hb hn) hn, hGd, hG _ _ hl5 ndL.symm, hv5.mono (fun b xs hb => hG _ _ hb (ne_of hb hd5 (by intro z; cases z))), hlen5, ok5, fun j r hj => ok5' j r (by omega)⟩
      refine ⟨_, rfl, rfl, _, rfl, ?_⟩
      generalize rowAt rs5 (0 + (i : Int)) = r at hu ro
      cases r with
      | none =>
        cases (show u = .non from hu)
        refine iteN (fun e => absurd rfl e) (fun _ => ?_)
        exact iteF (same H5 ds5 _ _ (fun b o h _ => h) hd5)
      | some q =>
        obtain ⟨s, t, lo, hi⟩ := q
        obtain ⟨b, rfl, hb⟩ := hu
        obtain ⟨g1, g2, g3, g4, g5⟩ := ro
        refine iteN (fun _ => ?_) (fun e => by cases e)
        refine ⟨_, rfl, b, _, _, _, rfl, rfl, SqT.of hb, rfl, _, rfl, b, _, _, _, rfl, rfl, SqT.of hb, rfl, rfl, _, rfl, ?_⟩
        refine iteD (fun _ => ?_) (fun _ => ?_)
        · refine ⟨_, rfl, d, ds5, 2, rfl, hd5, by decide, fun r2 e3 c4 c5 => ?_⟩
          have nbd : b ≠ d := ne_of hb hd5 (by intro z; cases z)
          refine ⟨rfl, _, rfl, iteD (fun _ => ?_) (fun _ => ?_)⟩
          · refine ⟨_, rfl, d, e3, rfl, upd_same, fun sl e4 bsl => ?_⟩
            rw [upd_upd]
            have hb6 : upd H5 d (.lst (e4.map V.int)) b = some (.tup [.int s, .int t, .int lo, .int hi]) := by rw [upd_ne nbd]; exact hb
            refine ⟨_, rfl, _, rfl, b, _, _, _, rfl, rfl, SqT.of hb6, rfl, _, rfl, b, _, _, _, rfl, rfl, SqT.of hb6, rfl, _, _, rfl, rfl, wide_mul g1 g3 (by decide) (by decide) (by decide), _, rfl, b, _, _, _, rfl, rfl, SqT.of hb6, rfl, _, _, rfl, rfl, _, rfl, _, rfl, b, _, _, _, rfl, rfl, SqT.of hb6, rfl, _, _, rfl, rfl, wide_mul bsl g3 (by decide) (by decide) (by decide), _, _, rfl, rfl,
              _, rfl, b, _, _, _, rfl, rfl, SqT.of hb6, rfl, _, rfl, b, _, _, _, rfl, rfl, SqT.of hb6, rfl, (by show 4 ≤ sizeLine; decide), fun c hc => ?_⟩
            have ncd : c ≠ d := fun e => by rw [e, upd_same] at hc; cases hc
            have hc5 : H5 c = none := by rw [upd_ne ncd] at hc; exact hc
            have nLc : L ≠ c := ne_of_none hl5 hc5
            have el := pr_len hv5
            refine ⟨_, rfl, _, rfl, L, _, _, _, rfl, rfl, by rw [upd_ne nLc, upd_ne ndL.symm]; exact hl5, ixN_in (by omega) (by omega), ?_⟩
            have tp : Tups H5 (upd (upd (upd H5 d (.lst (e4.map V.int))) c (.tup [.int sl, .int (s * lo + t - sl * lo), .int lo, .int hi])) L (.lst (us5.set ((0 : Int) + (i : Int)).toNat (.ref c)))) := fun b xs hb => by
              rw [upd_ne (ne_of hb hl5 (by intro z; cases z)), upd_ne (ne_of_none hb hc5), upd_ne (ne_of hb hd5 (by intro z; cases z))]
              exact hb
            refine ⟨e4, us5.set ((0 : Int) + (i : Int)).toNat (.ref c), rs5.set ((0 : Int) + (i : Int)).toNat (some (sl, s * lo + t - sl * lo, lo, hi)), _, _, _, _, rfl, fun x o hx hn => ?_, ?_, upd_same, pr_set ⟨c, rfl, by rw [upd_ne nLc.symm, upd_same]⟩ _ (hv5.mono tp), by rw [List.length_set]; exact hlen5, fun r hr => ?_, fun j r hj hr => ?_⟩
            · have h5 := b5 _ _ hx hn
              rw [upd_ne (ne_of_none hx hL0), upd_ne (ne_of_none h5 hc5), upd_ne hn]
              exact h5
            · rw [upd_ne ndL, upd_ne ncd.symm, upd_same]
            · rcases List.mem_or_eq_of_mem_set hr with hr | rfl
              · exact ok5 r hr
              · exact ⟨bsl.mono (by decide), (Bz.sub (Bz.add ((Bz.mul g1 g3).mono (j := 360) (by decide)) (g2.mono (by decide))) ((Bz.mul bsl g3).mono (j := 361) (by decide))).mono (by decide), g3.mono (by decide), g4.mono (by decide), g5⟩
            · rw [List.getElem?_set_ne (by omega)] at hr
              exact ok5' j r (by omega) hr
          · exact same _ e3 _ _ (fun x o hx hn => by rw [upd_ne hn]; exact hx) upd_same
        · exact iteF (same H5 ds5 _ _ (fun b o h _ => h) hd5)
    · rintro σ H5 ⟨ds5, us5, rs5, x4, x5, x6, x7, rfl, b5, hd5, hl5, hv5, hlen5, ok5, _⟩
      refine ⟨_, rfl, _, rfl, (by show 2 ≤ sizeLine; decide), fun q hq => ?_⟩
      have s6 : Same H5 (upd H5 q (.tup [.int p2, .ref L])) := same_new hq
      exact k (.ref q) L p2 rs5 ds5 _ hL0 (fun b o hb hn => s6 _ _ (b5 b o hb hn)) (s6 _ _ hd5) (by omega) hdv ⟨⟨q, us5, rfl, upd_same, s6 _ _ hl5, hv5.mono (Tups.of s6)⟩, hlen5, hpf⟩ ok5

def sp__law_is_integer (K : PySem.W.Frag) : Sp := fun vs H Q _ => ∃ z : Int, vs = [.int z] ∧ Q (.bl true) H
theorem c__law_is_integer (T : Tx K mg) : C8.Cal P w K mg base 1 "_law_is_integer" (sp__law_is_integer K) [] := by
  refine c_mk T.d__law_is_integer sc__law_is_integer (fun vs H Q E h => ?_) (fun f cdv A outer s H vs Q E hr h => ?_)
  · first | (obtain ⟨rfl, _⟩ := h; rfl) | (obtain ⟨_, rfl, _⟩ := h; rfl) | (obtain ⟨_, _, rfl, _⟩ := h; rfl) | (obtain ⟨_, _, _, rfl, _⟩ := h; rfl) | (obtain ⟨_, _, _, _, rfl, _⟩ := h; rfl) | (obtain ⟨_, _, _, _, _, rfl, _⟩ := h; rfl) | (obtain ⟨_, _, _, _, _, _, rfl, _⟩ := h; rfl) | (obtain ⟨_, _, _, _, _, _, _, rfl, _⟩ := h; rfl) | (obtain ⟨_, _, _, _, _, _, _, _, rfl, _⟩ := h; rfl) | (obtain ⟨_, _, _, _, _, _, _, _, _, rfl, _⟩ := h; rfl) | (obtain ⟨_, _, _, _, _, _, _, _, _, _, rfl, _⟩ := h; rfl) | (obtain ⟨_, _, _, _, _, _, _, _, _, _, _, rfl, _⟩ := h; rfl) | (obtain ⟨_, _, _, _, _, _, _, _, _, _, _, _, rfl, _⟩ := h; rfl) | (obtain ⟨_, _, _, _, _, _, _, _, _, _, _, _, _, rfl, _⟩ := h; rfl)
  have hu := hu_of hr
  refine ⟨_, (pss_one (ps_ret (pe_and (pe_callB call_isi rfl T.b_isinstance (by decide +kernel) (pa_cons (pv 0) (pa_cons (pe_bltn (v := .ty "int") rfl T.b_int (by decide +kernel) rfl) pa_nil))) (pe_one (pe_not (pe_callB call_isi rfl T.b_isinstance (by decide +kernel) (pa_cons (pv 0) (pa_cons (pe_bltn (v := .ty "bool") rfl T.b_bool (by decide +kernel) rfl) pa_nil)))))))), ?_⟩
  obtain ⟨z, rfl, k⟩ := h
  refine ⟨_, rfl, .int z, .ty "int", _, _, true, rfl, .ty "int", .base (.int z), kit_ty (by decide +kernel), ?_⟩
  refine ⟨_, rfl, iteT ⟨_, rfl, .int z, .ty "bool", _, _, false, rfl, .ty "bool", .base (.int z), kit_ty (by decide +kernel), ?_⟩⟩
  exact ⟨_, rfl, k⟩
def sp__law_listed (K : PySem.W.Frag) : Sp := fun vs H Q _ => ∃ (a : Addr) (ns : List Int) (P : Int), vs = [.ref a, .int P] ∧ H a = some (.lst (ns.map V.int)) ∧ ns.Pairwise (· < ·) ∧ (ns.length : Int) ≤ 4 * P ∧ Bz 16 P ∧ ns.length ≤ 65536 ∧ Q (.bl true) H
theorem c__law_listed (T : Tx K mg) : C8.Cal P w K mg base 2 "_law_listed" (sp__law_listed K) [] := by
  have C__law_is_integer := c__law_is_integer (P := P) (w := w) (base := base) T
  refine c_mk T.d__law_listed sc__law_listed (fun vs H Q E h => ?_) (fun f cdv A outer s H vs Q E hr h => ?_)
  · first | (obtain ⟨rfl, _⟩ := h; rfl) | (obtain ⟨_, rfl, _⟩ := h; rfl) | (obtain ⟨_, _, rfl, _⟩ := h; rfl) | (obtain ⟨_, _, _, rfl, _⟩ := h; rfl) | (obtain ⟨_, _, _, _, rfl, _⟩ := h; rfl) | (obtain ⟨_, _, _, _, _, rfl, _⟩ := h; rfl) | (obtain ⟨_, _, _, _, _, _, rfl, _⟩ := h; rfl) | (obtain ⟨_, _, _, _, _, _, _, rfl, _⟩ := h; rfl) | (obtain ⟨_, _, _, _, _, _, _, _, rfl, _⟩ := h; rfl) | (obtain ⟨_, _, _, _, _, _, _, _, _, rfl, _⟩ := h; rfl) | (obtain ⟨_, _, _, _, _, _, _, _, _, _, rfl, _⟩ := h; rfl) | (obtain ⟨_, _, _, _, _, _, _, _, _, _, _, rfl, _⟩ := h; rfl) | (obtain ⟨_, _, _, _, _, _, _, _, _, _, _, _, rfl, _⟩ := h; rfl) | (obtain ⟨_, _, _, _, _, _, _, _, _, _, _, _, _, rfl, _⟩ := h; rfl)
  have hu := hu_of hr
  refine ⟨_, (pss_cons (ps_if (PW.pt (pw_or (pt_not (pt_val (pe_callB call_isi rfl T.b_isinstance (by decide +kernel) (pa_cons (pv 0) (pa_cons (pe_bltn (v := .ty "list") rfl T.b_list (by decide +kernel) rfl) pa_nil))))) (pw_or1 (pt_cmpR op_gt (pe_callB call_len_seq rfl T.b_len (by decide +kernel) (pa_cons (pv 0) pa_nil)) (pe_op op_mulW pe_int (pv 1)) (nomark _))))) (pss_one (ps_ret pe_bl)) pss_nil)
    (pss_cons (ps_for PassesOwn.never rfl (pi_range1 rfl T.b_range (pa_cons (pe_callB call_len_seq rfl T.b_len (by decide +kernel) (pa_cons (pv 0) pa_nil)) pa_nil)) (pg_name (i := 2) sc__law_listed.nd rfl (by first | exact Or.inl rfl | exact Or.inr rfl)) (pss_one (ps_if (PW.pt (pw_or (pt_not (pt_val (C8.pe_c (C__law_is_integer) hr (by decide) rfl (pa_cons (pe_ix ix_list (pv 0) (pv 2) (fun _ _ => rfl)) pa_nil)))) (pw_or1 (PW.pt (pw_and (pt_cmpR op_gt (pv 2) pe_int (nomark _)) (pw_and1 (pt_cmpR op_ge (pe_ix ix_list (pv 0) (pe_op op_sub (pv 2) pe_int) (fun _ _ => rfl)) (pe_ix ix_list (pv 0) (pv 2) (fun _ _ => rfl)) (nomark _)))))))) (pss_one (ps_ret pe_bl)) pss_nil)))
    (pss_one (ps_ret pe_bl)))), ?_⟩
  obtain ⟨a, ns, P, rfl, ha, hs, hl, bP, hl2, k⟩ := h
  have hlen : (ns.map V.int).length = ns.length := List.length_map ..
  refine ⟨_, rfl, .ref a, .ty "list", _, _, true, rfl, .ty "list", .base (.lst ha), kit_ty (by decide +kernel), ?_⟩
  refine ⟨_, rfl, iteF ⟨_, rfl, a, _, rfl, .inl (SqL.of ha), _, rfl, _, _, rfl, rfl, wide_mul (Bz.mono (k := 3) (by decide) (Nat.le_refl _)) bP (by decide) (by decide) (by decide), _, _, rfl, rfl, _, rfl, ?_⟩⟩
  refine iteD (fun e => by rw [hlen] at e; omega) (fun _ => ?_)
  have idx : ∀ (m : Int) (i : Nat) (h : i < ns.length), m = (i : Int) → atI (ns.map V.int) m = some (.int ns[i]) := fun m i h e => by
    subst e
    unfold atI
    rw [ixN_in (by omega) (by rw [hlen]; omega)]
    show (ns.map V.int)[(i : Int).toNat]? = _
    rw [Int.toNat_natCast, List.getElem?_map, List.getElem?_eq_getElem h] <;> rfl
  refine ⟨_, rfl, a, _, rfl, .inl (SqL.of ha), _, rfl, by rw [hlen]; omega, by rw [hlen]; omega, for_range (lo := 0) (fun i σ H' => ∃ x2 : Option V, σ = [some (.ref a), some (.int P), x2] ∧ H' = H) ⟨_, rfl, rfl⟩ ?_ ?_⟩
  · rintro i σ H' hi ⟨x2, rfl, rfl⟩
    rw [hlen] at hi
    have hix : i < ns.length := by omega
    refine ⟨_, rfl, _, rfl, a, _, _, _, rfl, rfl, SqL.of ha, idx _ i hix (by omega), ns[i], rfl, ?_⟩
    refine ⟨_, rfl, iteF ⟨_, rfl, _, _, rfl, rfl, _, rfl, iteD (fun hp => ?_) (fun _ => ⟨_, rfl, rfl⟩)⟩⟩
    refine ⟨_, rfl, _, rfl, _, _, rfl, rfl, a, _, _, _, rfl, rfl, SqL.of ha, idx _ (i - 1) (by omega) (by omega), _, rfl, _, rfl, a, _, _, _, rfl, rfl, SqL.of ha, idx _ i hix (by omega), _, _, rfl, rfl, _, rfl, ?_⟩
    have lt : ns[i - 1] < ns[i] := List.pairwise_iff_getElem.mp hs (i - 1) i (by omega) hix (by omega)
    exact iteD (fun e => by omega) (fun _ => ⟨_, rfl, rfl⟩)
  · rintro σ H' ⟨x2, rfl, rfl⟩
    exact k
def sp__law_shown (K : PySem.W.Frag) : Sp := fun vs H Q _ => ∃ (v1 v2 : V) (l1 l2 a : Addr) (p1 p2 : Int) (rs1 rs2 : List Row) (ns : List Int) (k : Nat), vs = [v1, v2, .ref a] ∧ Parts H v1 l1 p1 rs1 ∧ Parts H v2 l2 p2 rs2 ∧ (∀ r ∈ rs1, RowOk k r) ∧ (∀ r ∈ rs2, RowOk k r) ∧ p1 ≤ 100 ∧ p2 ≤ 100 ∧ (1 ≤ k ∧ k ≤ 4000) ∧ H a = some (.lst (ns.map V.int)) ∧ (∀ x ∈ ns, Bz k x) ∧
  ∀ (b : Bool), (b = true ↔ ∃ x ∈ ns, imM p1 rs1 x ≠ imM p2 rs2 x) → Q (.bl b) H
theorem c__law_shown (T : Tx K mg) : C8.Cal P w K mg base 2 "_law_shown" (sp__law_shown K) [] := by
  have C__law_number_image := c__law_number_image (P := P) (w := w) (base := base) T
  refine c_mk T.d__law_shown sc__law_shown (fun vs H Q E h => ?_) (fun f cdv A outer s H vs Q E hr h => ?_)
  · first | (obtain ⟨rfl, _⟩ := h; rfl) | (obtain ⟨_, rfl, _⟩ := h; rfl) | (obtain ⟨_, _, rfl, _⟩ := h; rfl) | (obtain ⟨_, _, _, rfl, _⟩ := h; rfl) | (obtain ⟨_, _, _, _, rfl, _⟩ := h; rfl) | (obtain ⟨_, _, _, _, _, rfl, _⟩ := h; rfl) | (obtain ⟨_, _, _, _, _, _, rfl, _⟩ := h; rfl) | (obtain ⟨_, _, _, _, _, _, _, rfl, _⟩ := h; rfl) | (obtain ⟨_, _, _, _, _, _, _, _, rfl, _⟩ := h; rfl) | (obtain ⟨_, _, _, _, _, _, _, _, _, rfl, _⟩ := h; rfl) | (obtain ⟨_, _, _, _, _, _, _, _, _, _, rfl, _⟩ := h; rfl) | (obtain ⟨_, _, _, _, _, _, _, _, _, _, _, rfl, _⟩ := h; rfl) | (obtain ⟨_, _, _, _, _, _, _, _, _, _, _, _, rfl, _⟩ := h; rfl) | (obtain ⟨_, _, _, _, _, _, _, _, _, _, _, _, _, rfl, _⟩ := h; rfl)
  have hu := hu_of hr
  refine ⟨_, (pss_cons (ps_for PassesOwn.never rfl (pi_list (pv 2)) (pg_name (i := 3) sc__law_shown.nd rfl (by first | exact Or.inl rfl | exact Or.inr rfl)) (pss_one (ps_if (pt_cmpR op_ne (C8.pe_c (C__law_number_image) hr (by decide) rfl (pa_cons (pv 0) (pa_cons (pv 3) pa_nil))) (C8.pe_c (C__law_number_image) hr (by decide) rfl (pa_cons (pv 1) (pa_cons (pv 3) pa_nil))) (nomark _)) (pss_one (ps_ret pe_bl)) pss_nil)))
    (pss_one (ps_ret pe_bl))), ?_⟩
  obtain ⟨v1, v2, l1, l2, a, p1, p2, rs1, rs2, ns, kk, rfl, hP1, hP2, ok1, ok2, hp1, hp2, hkk, ha, hb, k⟩ := h
  have hq1 := hP1.pos
  have hq2 := hP2.pos
  refine ⟨_, rfl, a, rfl, ⟨_, SqL.of ha⟩, for_list (xs := ns.map V.int) (fun i σ H' => ∃ x3 : Option V, σ = [some v1, some v2, some (.ref a), x3] ∧ H' = H ∧ ∀ x ∈ ns.take i, imM p1 rs1 x = imM p2 rs2 x) ⟨_, rfl, rfl, fun x hx => by cases hx⟩ (fun i σ H' _ ⟨_, _, e, _⟩ => by rw [e]; exact SqL.of ha) ?_ ?_⟩
  · rintro i v σ H' hi ⟨x3, rfl, rfl, ht⟩
    rw [List.getElem?_map] at hi
    obtain ⟨z, hz, rfl⟩ := Option.map_eq_some_iff.mp hi
    have hm := List.mem_of_getElem? hz
    have bz := hb z hm
    refine ⟨_, rfl, _, rfl, v1, l1, p1, rs1, z, kk, rfl, hP1, ok1, int_pos hq1 (by omega), bz, by omega, ?_⟩
    refine ⟨_, rfl, _, rfl, v2, l2, p2, rs2, z, kk, rfl, hP2, ok2, int_pos hq2 (by omega), bz, by omega, ?_⟩
    refine ⟨optV_scal _ _, _, rfl, iteN (fun hd => ?_) (fun he => ?_)⟩
    · exact k true ⟨fun _ => ⟨z, hm, fun e => hd (congrArg optV e)⟩, fun _ => rfl⟩
    · refine ⟨_, rfl, rfl, fun x hx => ?_⟩
      rw [take_snoc hz] at hx
      rcases List.mem_append.mp hx with hx | hx
      · exact ht x hx
      · cases (List.mem_singleton.mp hx)
        exact optV_inj he
  · rintro σ H' ⟨x3, rfl, rfl, ht⟩
    rw [List.length_map, List.take_of_length_le (Nat.le_refl _)] at ht
    exact k false ⟨(fun e => by cases e), fun ⟨x, hx, hd⟩ => (hd (ht x hx)).elim⟩

def sp_law (K : PySem.W.Frag) : Sp := fun vs H Q _ => ∃ (a : Addr) (ns : List Int), vs = [.ref a] ∧ SqL K H a (ns.map V.int) ∧ ns.length ≤ 63 ∧ ∀ H', Q (.bl true) H'
theorem made {H : Hp} {x dx C : Addr} (hx : H x = none) (hdx : H dx = none) : Same H (upd (upd H dx (.own x)) x (.ins C dx [])) := fun b o e => by
  rw [upd_ne (ne_of_none e hx), upd_ne (ne_of_none e hdx)]
  exact e
theorem rows_ne {H : Hp} {vs : List V} {rs : List Row} (h : RowsV H vs rs) (hp : 0 < rs.length) (ds : List Int) : vs ≠ ds.map V.int := fun e => by
  cases h with
  | nil => exact Nat.lt_irrefl _ hp
  | @cons v r _ _ hv _ =>
    cases ds with
    | nil => cases e
    | cons d ds =>
      injection e with e1 _
      subst e1
      cases r with
      | none => cases (show V.int d = V.non from hv)
      | some z =>
        obtain ⟨_, _, _, _⟩ := z
        obtain ⟨b, hb, _⟩ := hv
        cases hb
theorem Parts.but {H H' : Hp} {d l : Addr} {ds : List Int} {v : V} {p : Int} {rs : List Row} (s : But d H H') (hd : H d = some (.lst (ds.map V.int))) (h : Parts H v l p rs) : Parts H' v l p rs := by
  obtain ⟨⟨a, vs, e1, e2, e3, e4⟩, e5, e6⟩ := id h
  refine h.mono (Tups.but s hd) fun xs hx => s _ _ hx fun e => ?_
  rw [e, hd] at e3
  injection e3 with e3
  injection e3 with e3
  exact rows_ne e4 (by omega) ds e3.symm
theorem NM.but {K : PySem.W.Frag} {H H' : Hp} {d : Addr} {ds : List Int} {a : Addr} {p : Int} {rs : List Row} (s : But d H H') (hd : H d = some (.lst (ds.map V.int))) (h : NM K H a p rs) : NM K H' a p rs := by
  obtain ⟨⟨dx, l, vs, h1, h2, h3⟩, h4, h5⟩ := h
  refine ⟨⟨dx, l, vs, s _ _ h1 (ne_of h1 hd (by intro z; cases z)), s _ _ h2 fun e => ?_, h3.mono (Tups.but s hd)⟩, h4, h5⟩
  rw [e, hd] at h2
  injection h2 with h2
  injection h2 with h2
  exact rows_ne h3 (by omega) ds h2.symm
theorem lcm_dvd {p q : Int} (hp : 0 < p) (hq : 0 < q) (h : p ∣ q) : lcmI p q ≤ q := by
  have a := Nat.le_of_dvd (show 0 < q.natAbs by omega) (Nat.lcm_dvd (Int.natAbs_dvd_natAbs.mpr h) (Nat.dvd_refl q.natAbs))
  unfold lcmI
  omega
theorem lcm_into {p q P : Int} (hP : 0 < P) (h1 : p ∣ P) (h2 : q ∣ P) : lcmI p q ≤ P := by
  have a := Nat.le_of_dvd (show 0 < P.natAbs by omega) (Nat.lcm_dvd (Int.natAbs_dvd_natAbs.mpr h1) (Int.natAbs_dvd_natAbs.mpr h2))
  unfold lcmI
  omega
theorem lcm_four {p q : Int} (hp : 0 < p) (hq : 0 < q) (hp4 : p ≤ 4) (hq4 : q ≤ 4) : lcmI p q ≤ 12 := by
  have a : p = 1 ∨ p = 2 ∨ p = 3 ∨ p = 4 := by omega
  have b : q = 1 ∨ q = 2 ∨ q = 3 ∨ q = 4 := by omega
  rcases a with rfl | rfl | rfl | rfl <;> rcases b with rfl | rfl | rfl | rfl <;> decide
theorem lcm_le_mul {p q : Int} (hp : 0 < p) (hq : 0 < q) : lcmI p q ≤ p * q := lcm_into (Int.mul_pos hp hq) ⟨q, rfl⟩ ⟨p, Int.mul_comm p q⟩
theorem dec_eq {p1 p2 : Int} {rs1 rs2 : List Row} (h1 : 0 < p1) (h2 : 0 < p2) {ns : List Int} (hm : ∀ x, x ∈ ns ↔ DecS p1 p2 (lcmI p1 p2) rs1 rs2 x) (h : ∀ x ∈ ns, imM p1 rs1 x = imM p2 rs2 x) : ∀ x, imM p1 rs1 x = imM p2 rs2 x :=
  ends_dec h1 h2 (lcm_facts h1 h2).1 (lcm_facts h1 h2).2.1 (lcm_facts h1 h2).2.2 fun r h0 h1 x hx => h x ((hm x).mpr ⟨r, h0, h1, hx⟩)
theorem dec_bz {k : Nat} {p1 p2 : Int} {rs1 rs2 : List Row} (ok1 : ∀ r ∈ rs1, RowOk k r) (ok2 : ∀ r ∈ rs2, RowOk k r) (h1 : 0 < p1) (h2 : 0 < p2) (l1 : p1 ≤ 100) (l2 : p2 ≤ 100) (hP : lcmI p1 p2 ≤ 15) {ns : List Int} (hm : ∀ x, x ∈ ns ↔ DecS p1 p2 (lcmI p1 p2) rs1 rs2 x) : ∀ x ∈ ns, Bz (k + 40) x := fun x hx => by
  obtain ⟨r, h0, _, hx⟩ := (hm x).mp hx
  have hp := (lcm_facts h1 h2).1
  rcases List.mem_append.mp hx with h | h
  · exact ends_bz ok1 h1 (int_pos h1 (by omega)) hp (int_pos hp (Int.lt_of_le_of_lt hP (by decide))) x h
  · exact ends_bz ok2 h2 (int_pos h2 (by omega)) hp (int_pos hp (Int.lt_of_le_of_lt hP (by decide))) x h
theorem cut_last (xs : List V) (v : V) : cutV (xs ++ [v]) none (some (-1)) = xs := by
  have e : HT.sIx (xs ++ [v]).length (xs ++ [v]).length (some (-1)) = xs.length := by
    show (if (-1 : Int) < 0 then ((-1 : Int) + ((xs ++ [v]).length : Int)).toNat else min (-1 : Int).toNat (xs ++ [v]).length) = _
    rw [if_pos (by decide), List.length_append, List.length_singleton]
    omega
  unfold cutV
  rw [e, HT.sIx_none, List.drop_zero, Nat.sub_zero, List.take_left']
  rfl
theorem ints_dps {K : PySem.W.Frag} {H : Hp} : ∀ ns : List Int, DpAll K H (ns.map V.int) (ns.map toD)
  | [] => .nil
  | n :: ns => .cons (.int n) (ints_dps ns)
theorem rg_ints (a b : Int) : rgV a b = ((List.range (b - a).toNat).map fun i => a + (i : Nat)).map V.int := by
  unfold rgV
  rw [List.map_map] <;> rfl
theorem ok_law {f : Addr} {fd : FuncData} (F : FnP K "law" "law" s_law f fd) (T : Tx K mg) : FnOk P w K mg base C8.CX0 5 f fd ["script"] (sp_law K) := by
  have C_decisive_numbers := c_decisive_numbers (P := P) (w := w) (base := base) T
  have M_NumberMap_image := c_NumberMap_image (P := P) (w := w) (base := base) T
  have C__law_number_image := c__law_number_image (P := P) (w := w) (base := base) T
  have C__law_shown := c__law_shown (P := P) (w := w) (base := base) T
  have C__law_whole := c__law_whole (P := P) (w := w) (base := base) T
  have C__law_points := c__law_points (P := P) (w := w) (base := base) T
  have C__law_listed := c__law_listed (P := P) (w := w) (base := base) T
  have C__law_common := c__law_common (P := P) (w := w) (base := base) T
  have K_NumberMap := c_NumberMap___init__ (P := P) (w := w) (base := base) T
  have C__law_take := c__law_take (P := P) (w := w) (base := base) T
  have C__law_parts := c__law_parts (P := P) (w := w) (base := base) T
  have C__law_near := c__law_near (P := P) (w := w) (base := base) T
  have C__law_deck := c__law_deck (P := P) (w := w) (base := base) T
  refine law_mk F sc_law (fun vs H Q E h => ?_) (fun f cdv A outer s H vs Q E hr h => ?_)
  · first | (obtain ⟨rfl, _⟩ := h; rfl) | (obtain ⟨_, rfl, _⟩ := h; rfl) | (obtain ⟨_, _, rfl, _⟩ := h; rfl) | (obtain ⟨_, _, _, rfl, _⟩ := h; rfl) | (obtain ⟨_, _, _, _, rfl, _⟩ := h; rfl) | (obtain ⟨_, _, _, _, _, rfl, _⟩ := h; rfl) | (obtain ⟨_, _, _, _, _, _, rfl, _⟩ := h; rfl) | (obtain ⟨_, _, _, _, _, _, _, rfl, _⟩ := h; rfl) | (obtain ⟨_, _, _, _, _, _, _, _, rfl, _⟩ := h; rfl) | (obtain ⟨_, _, _, _, _, _, _, _, _, rfl, _⟩ := h; rfl) | (obtain ⟨_, _, _, _, _, _, _, _, _, _, rfl, _⟩ := h; rfl) | (obtain ⟨_, _, _, _, _, _, _, _, _, _, _, rfl, _⟩ := h; rfl) | (obtain ⟨_, _, _, _, _, _, _, _, _, _, _, _, rfl, _⟩ := h; rfl) | (obtain ⟨_, _, _, _, _, _, _, _, _, _, _, _, _, rfl, _⟩ := h; rfl)
  have hu := hu_of hr
  refine ⟨_, (pss_cons (ps_set (i := 1) sc_law.nd rfl (by first | exact Or.inl rfl | exact Or.inr rfl) (C8.pe_c (C__law_deck) hr (by decide) rfl (pa_cons (pv 0) (pa_cons pe_int (pa_cons pe_int pa_nil)))))
    (pss_cons (ps_set (i := 2) sc_law.nd rfl (by first | exact Or.inl rfl | exact Or.inr rfl) (C8.pe_c (C__law_parts) hr (by decide) rfl (pa_cons (pv 1) (pa_cons pe_int pa_nil))))
    (pss_cons (ps_set (i := 3) sc_law.nd rfl (by first | exact Or.inl rfl | exact Or.inr rfl) (C8.pe_c (C__law_near) hr (by decide) rfl (pa_cons (pv 1) (pa_cons (pv 2) pa_nil))))
    (C8.pss_cut (ps_if (pt_cmpR op_eq (C8.pe_c (C__law_take) hr (by decide) rfl (pa_cons (pv 1) (pa_cons pe_int pa_nil))) pe_int (nomark _)) (pss_one (ps_set (i := 3) sc_law.nd rfl (by first | exact Or.inl rfl | exact Or.inr rfl) (C8.pe_c (C__law_parts) hr (by decide) rfl (pa_cons (pv 1) (pa_cons pe_int pa_nil))))) pss_nil)
    (pss_cons (ps_set (i := 4) sc_law.nd rfl (by first | exact Or.inl rfl | exact Or.inr rfl) (C8.pe_mk (K_NumberMap) hr (by decide) rfl (pa_cons (pe_ix ix_tup (pv 2) pe_int (fun _ _ => rfl)) (pa_cons (pe_callTy call_list_of rfl T.b_list (by decide +kernel) (pa_cons (pe_ix ix_tup (pv 2) pe_int (fun _ _ => rfl)) pa_nil)) pa_nil))))
    (pss_cons (ps_set (i := 5) sc_law.nd rfl (by first | exact Or.inl rfl | exact Or.inr rfl) (C8.pe_mk (K_NumberMap) hr (by decide) rfl (pa_cons (pe_ix ix_tup (pv 3) pe_int (fun _ _ => rfl)) (pa_cons (pe_callTy call_list_of rfl T.b_list (by decide +kernel) (pa_cons (pe_ix ix_tup (pv 3) pe_int (fun _ _ => rfl)) pa_nil)) pa_nil))))
    (pss_cons (ps_set (i := 6) sc_law.nd rfl (by first | exact Or.inl rfl | exact Or.inr rfl) (C8.pe_c (C_decisive_numbers) hr (by decide) rfl (pa_cons (pv 4) (pa_cons (pv 5) pa_nil))))
    (pss_cons (ps_set (i := 7) sc_law.nd rfl (by first | exact Or.inl rfl | exact Or.inr rfl) (C8.pe_c (C_decisive_numbers) hr (by decide) rfl (pa_cons (pv 5) (pa_cons (pv 5) pa_nil))))
    (pss_cons (ps_if (PW.pt (pw_or (pt_not (pt_val (C8.pe_c (C__law_listed) hr (by decide) rfl (pa_cons (pv 6) (pa_cons (C8.pe_c (C__law_common) hr (by decide) rfl (pa_cons (pv 2) (pa_cons (pv 3) pa_nil))) pa_nil))))) (pw_or1 (pt_not (pt_val (C8.pe_c (C__law_listed) hr (by decide) rfl (pa_cons (pv 7) (pa_cons (pe_ix ix_tup (pv 3) pe_int (fun _ _ => rfl)) pa_nil)))))))) (pss_one (ps_ret pe_bl)) pss_nil)
    (pss_cons (ps_set (i := 8) sc_law.nd rfl (by first | exact Or.inl rfl | exact Or.inr rfl) (pe_op op_cat (pe_op op_cat (pe_listRg rfl rfl T.b_list (prg_2 rfl T.b_range (pe_un un_neg pe_int) pe_int)) (pe_lc (own := [("k", 11)]) (g := gName 11) rfl sc_law.nd (pi_range1 rfl T.b_range (pa_cons pe_int pa_nil)) (blkOk_by (own := [("k", 11)]) (N := N_law) (sc := defScope s_law) (by decide +kernel)) (fun _ _ _ _ _ => (pg_name (i := 11) sc_law.nd rfl (by first | exact Or.inl rfl | exact Or.inr rfl))) (fun _ _ _ _ _ => pts_nil) (fun _ _ _ _ _ => (C8.pe_c (C__law_whole) hr (by decide) rfl (pa_cons (pv 1) pa_nil))))) (C8.pe_c (C__law_points) hr (by decide) rfl (pa_cons (pv 2) (pa_cons (pv 3) pa_nil)))))
    (pss_cons (ps_if (pt_cmpR op_ne (C8.pe_c (C__law_shown) hr (by decide) rfl (pa_cons (pv 2) (pa_cons (pv 3) (pa_cons (pv 6) pa_nil)))) (C8.pe_c (C__law_shown) hr (by decide) rfl (pa_cons (pv 2) (pa_cons (pv 3) (pa_cons (pv 8) pa_nil)))) (nomark _)) (pss_one (ps_ret pe_bl)) pss_nil)
    (pss_cons (ps_for PassesOwn.never rfl (pi_list (pv 6)) (pg_name (i := 9) sc_law.nd rfl (by first | exact Or.inl rfl | exact Or.inr rfl)) (pss_one (ps_if (PW.pt (pw_or (pt_cmpR op_ne (C8.pe_mt (M_NumberMap_image) hr (by decide) (pv 4) (pa_cons (pv 9) pa_nil)) (C8.pe_c (C__law_number_image) hr (by decide) rfl (pa_cons (pv 2) (pa_cons (pv 9) pa_nil))) (nomark _)) (pw_or1 (pt_cmpR op_ne (C8.pe_mt (M_NumberMap_image) hr (by decide) (pv 5) (pa_cons (pv 9) pa_nil)) (C8.pe_c (C__law_number_image) hr (by decide) rfl (pa_cons (pv 3) (pa_cons (pv 9) pa_nil))) (nomark _))))) (pss_one (ps_ret pe_bl)) pss_nil)))
    (pss_cons (ps_expr (pe_bm PySem.F.plainAttrs_list PySem.F.slot_list_append PySem.F.type_list_append mt_append (pv 6) (pa_cons pe_int pa_nil)))
    (pss_cons (ps_set (i := 10) sc_law.nd rfl (by first | exact Or.inl rfl | exact Or.inr rfl) (C8.pe_c (C_decisive_numbers) hr (by decide) rfl (pa_cons (pv 4) (pa_cons (pv 5) pa_nil))))
    (pss_one (ps_ret (pe_and (pe_cmpR (op_eqP hr.units) (pe_slice sl_list (pv 6) po_none (po_some (pe_un un_neg pe_int))) (pv 10) (nomark _)) (pe_and (pe_cmpR (op_eqP hr.units) (pe_fld (pv 4) rfl) (pe_ix ix_tup (pv 2) pe_int (fun _ _ => rfl)) (nomark _)) (pe_one (pe_cmpR (op_eqP hr.units) (pe_fld (pv 5) rfl) (pe_ix ix_tup (pv 3) pe_int (fun _ _ => rfl)) (nomark _))))))))))))))))))))), ?_⟩
  obtain ⟨a, ns, rfl, hS, hl, k⟩ := h
  refine ⟨_, rfl, a, ns, 20, 24, rfl, hS, hl, by decide, by decide, by decide, by decide, fun d H1 ds hdn s1 hd1 => ?_⟩
  -- first
  refine ⟨_, rfl, d, ds, 4, rfl, hd1, by decide, by decide, fun v1 l1 p1 rs1 e1 H2 hp1 hl1 b2 hd2 hP1 ok1 => ?_⟩
  have n1d : l1 ≠ d := fun e => by rw [e, hd1] at hl1; cases hl1
  -- second
  refine ⟨_, rfl, _, rfl, d, e1, v1, l1, p1, rs1, rfl, hd2, hP1, ok1, hp1, n1d, fun v2 l2 p2 rs2 e2 H3 hl2 b3 hd3 hp2 hdv hP2 ok2 => ?_⟩
  have hP1 : Parts H3 v1 l1 p1 rs1 := hP1.but b3 hd2
  have ok1 : ∀ r ∈ rs1, RowOk 500 r := fun r hr => (ok1 r hr).mono (by decide)
  clear hl1 hl2 b2 b3 hd2 hd1 hS s1
  -- if _law_take(deck, 6) == 0
  refine ⟨fun σ' H' => ∃ (v2 : V) (l2 : Addr) (p2 : Int) (rs2 : List Row) (e2 : List Int), σ' = [some (.ref a), some (.ref d), some v1, some v2, none, none, none, none, none, none, none, none] ∧ Parts H' v1 l1 p1 rs1 ∧ Parts H' v2 l2 p2 rs2 ∧ (∀ r ∈ rs2, RowOk 500 r) ∧ p2 ≤ 12 ∧ lcmI p1 p2 ≤ 12 ∧ H' d = some (.lst (e2.map V.int)), ?_, ?_⟩
  · refine ⟨_, rfl, d, e2, 6, rfl, hd3, by decide, fun r2 e5 c4 c5 => ?_⟩
    have b4 : But d H3 (upd H3 d (.lst (e5.map V.int))) := But.upd
    have hP1' : Parts (upd H3 d (.lst (e5.map V.int))) v1 l1 p1 rs1 := hP1.but b4 hd3
    have hP2'' : Parts (upd H3 d (.lst (e5.map V.int))) v2 l2 p2 rs2 := hP2.but b4 hd3
    refine ⟨rfl, _, rfl, iteD (fun _ => ?_) (fun _ => ?_)⟩
    · refine ⟨_, rfl, d, e5, 4, rfl, upd_same, by decide, by decide, fun v3 l3 p3 rs3 e6 H4 hp3 hl3 b5 hd4 hP3 ok3 => ?_⟩
      exact ⟨v3, l3, p3, rs3, e6, rfl, hP1'.but b5 upd_same, hP3, fun r hr => (ok3 r hr).mono (by decide), by omega, lcm_four hP1.pos hP3.pos hp1 hp3, hd4⟩
    · exact ⟨v2, l2, p2, rs2, e5, rfl, hP1', hP2'', ok2, hp2, Int.le_trans (lcm_dvd hP1.pos hP2.pos hdv) hp2, upd_same⟩
  · clear hP1 hP2 ok2 hdv rs2 v2 hd3 hp2 p2 l2 H3 e2
    rintro σ' H4 ⟨v2, l2, p2, rs2, e2, rfl, hP1, hP2, ok2, hp2, hlc, hd⟩
    obtain ⟨⟨a1, us1, rfl, o1, o2, o3⟩, o4, hpp1⟩ := id hP1
    -- one
    refine ⟨_, rfl, a1, _, _, _, rfl, rfl, SqT.of o1, rfl, _, rfl, a1, _, _, _, rfl, rfl, SqT.of o1, rfl, l1, us1, rfl, .inl (SqL.of o2), fun c hc => ?_⟩
    have s5 : Same H4 (upd H4 c (.lst us1)) := same_new hc
    intro x dx hx hdx hne
    have s6 := made (C := He.ga K "NumberMap") hx hdx
    refine ⟨x, dx, c, p1, us1, rs1, 500, rfl, upd_same, s6 _ _ upd_same, (o3.mono (Tups.of s5)).mono (Tups.of s6), ok1, o4, hpp1, by omega, fun H5 k5 hN1 => ⟨rfl, ?_⟩⟩
    have s7 : Same H4 H5 := fun b o hb => k5 _ _ (s6 _ _ (s5 _ _ hb)) (ne_of_none (s5 _ _ hb) hx)
    have hP1 := hP1.same s7
    have hP2 := hP2.same s7
    have hd := s7 _ _ hd
    clear k5 s7 s6 s5 hx hdx hne hc o1 o2 o3
    obtain ⟨⟨a2, us2, rfl, w1, w2, w3⟩, w4, hpp2⟩ := id hP2
    -- other
    refine ⟨_, rfl, a2, _, _, _, rfl, rfl, SqT.of w1, rfl, _, rfl, a2, _, _, _, rfl, rfl, SqT.of w1, rfl, l2, us2, rfl, .inl (SqL.of w2), fun c' hc => ?_⟩
    have s5 : Same H5 (upd H5 c' (.lst us2)) := same_new hc
    intro y dy hy hdy hne
    have s6 := made (C := He.ga K "NumberMap") hy hdy
    refine ⟨y, dy, c', p2, us2, rs2, 500, rfl, upd_same, s6 _ _ upd_same, (w3.mono (Tups.of s5)).mono (Tups.of s6), ok2, w4, hpp2, by omega, fun H6 k6 hN2 => ⟨rfl, ?_⟩⟩
    have s7 : Same H5 H6 := fun b o hb => k6 _ _ (s6 _ _ (s5 _ _ hb)) (ne_of_none (s5 _ _ hb) hy)
    have hP1 := hP1.same s7
    have hP2 := hP2.same s7
    have hN1 := hN1.mono s7
    have hd := s7 _ _ hd
    clear k6 s7 s6 s5 hy hdy hne hc w1 w2 w3
    -- found
    refine ⟨_, rfl, _, rfl, x, y, p1, p2, rs1, rs2, 500, rfl, hN1, hN2, ok1, ok2, by decide, by omega, by omega, by omega, fun q fs H7 hq s8 h7 hrise hflen hfm => ?_⟩
    have hP1 := hP1.same s8
    have hP2 := hP2.same s8
    have hN1 := hN1.mono s8
    have hN2 := hN2.mono s8
    have nqd : d ≠ q := ne_of_none hd hq
    have hd := s8 _ _ hd
    clear s8 hq
    -- same
    refine ⟨_, rfl, _, rfl, y, y, p2, p2, rs2, rs2, 500, rfl, hN2, hN2, ok2, ok2, by decide, Int.le_trans (lcm_dvd hpp2 hpp2 (Int.dvd_refl _)) (by omega), by omega, by omega, fun q2 gs H8 hq2 s8 h8 hrise2 hglen hgm => ?_⟩
    have hP1 := hP1.same s8
    have hP2 := hP2.same s8
    have hN1 := hN1.mono s8
    have hN2 := hN2.mono s8
    have hd := s8 _ _ hd
    have h7 := s8 _ _ h7
    clear s8 hq2
    have hm48 : p1 * p2 ≤ 4 * 12 := Int.mul_le_mul hp1 hp2 (by omega) (by omega)
    refine ⟨_, rfl, _, rfl, _, rfl, .ref a1, .ref a2, l1, l2, p1, p2, rs1, rs2, rfl, hP1, hP2, fun P hPos dv1 dv2 hPle => ?_⟩
    have hlP := lcm_into hPos dv1 dv2
    refine ⟨q, fs, P, rfl, h7, hrise, by omega, int_pos hPos (by omega), by omega, ?_⟩
    refine ⟨_, rfl, iteF ?_⟩
    obtain ⟨⟨a2', us2, ea, w1, w2, w3⟩, _, _⟩ := id hP2
    cases ea
    have hl22 := lcm_dvd hpp2 hpp2 (Int.dvd_refl p2)
    refine ⟨_, rfl, _, rfl, a2, _, _, _, rfl, rfl, SqT.of w1, rfl, q2, gs, p2, rfl, h8, hrise2, by omega, int_pos hpp2 (by omega), by omega, ?_⟩
    refine ⟨_, rfl, iteF ?_⟩
    clear w1 w2 w3 hrise2 hglen hgm h8
    -- asked
    refine ⟨_, rfl, -12, 13, rfl, rfl, ⟨by omega, by omega, by omega, by omega, by decide⟩, fun q3 hq3 => ?_⟩
    have nq3d : q3 ≠ d := (ne_of_none hd hq3).symm
    have s8 : Same H8 (upd H8 q3 (.lst (rgV (-12) 13))) := same_new hq3
    have h3 : upd H8 q3 (.lst (rgV (-12) 13)) q3 = some (.lst (rgV (-12) 13)) := upd_same
    have hP1 := hP1.same s8
    have hP2 := hP2.same s8
    have hN1 := hN1.mono s8
    have hN2 := hN2.mono s8
    have hd := s8 _ _ hd
    have h7 := s8 _ _ h7
    clear s8 hq3
    generalize upd H8 q3 (.lst (rgV (-12) 13)) = H9 at *
    refine ⟨12, rfl, by decide, by decide, fun D hD => lc_range (lo := 0) (n := 12) (fun i G => ∃ (wl : List Int) (e : List Int), (∀ b o, H9 b = some o → b ≠ d → G b = some o) ∧ G d = some (.lst (e.map V.int)) ∧ G D = some (.lst (wl.map V.int)) ∧ wl.length ≤ i ∧ ∀ z ∈ wl, Bz 130 z)
      ⟨[], e2, fun b o hb _ => same_new hD _ _ hb, same_new hD _ _ hd, upd_same, Nat.le_refl _, fun z hz => by cases hz⟩ ?_ ?_⟩
    · rintro i G hi ⟨wl, e, kG, hGd, hGD, hwl, hwb⟩
      have nDd : D ≠ d := (ne_of_none hd hD).symm
      refine ⟨rfl, ?_⟩
      unfold tYes
      refine iteT ?_
      refine ⟨_, rfl, d, e, rfl, hGd, fun z e' bz => ?_⟩
      refine ⟨_, by rw [upd_ne nDd]; exact hGD, by rw [List.length_map]; exact Nat.lt_of_le_of_lt (show wl.length ≤ 12 by omega) (by decide), wl ++ [z], e', fun b o hb hn => ?_, ?_, ?_, ?_, ?_⟩
      · rw [upd_ne (ne_of_none hb hD), upd_ne hn]
        exact kG _ _ hb hn
      · rw [upd_ne nDd.symm, upd_same]
      · rw [upd_same, List.map_append]
        rfl
      · rw [List.length_append]
        exact Nat.succ_le_succ hwl
      · intro y hy
        rcases List.mem_append.mp hy with hy | hy
        · exact hwb y hy
        · cases (List.mem_singleton.mp hy)
          exact bz
    · rintro G ⟨wl, e, kG, hGd, hGD, hwl, hwb⟩
      have bG : But d H9 G := kG
      have hP1 := hP1.but bG hd
      have hP2 := hP2.but bG hd
      have hN1 := hN1.but bG hd
      have hN2 := hN2.but bG hd
      have h7 := kG _ _ h7 nqd.symm
      have h3 := kG _ _ h3 nq3d
      have hd := hGd
      clear kG bG nq3d hGd hD
      generalize eR : ((List.range (13 - (-12 : Int)).toNat).map fun (i : Nat) => (-12 : Int) + (i : Nat)) = rl at *
      rw [rg_ints, eR] at h3
      have lrl : rl.length = 25 := by rw [← eR]; rfl
      have brl : ∀ z ∈ rl, Bz 130 z := fun z hz => by
        rw [← eR] at hz
        obtain ⟨j, hj, rfl⟩ := List.mem_map.mp hz
        have hj2 : j < 25 := List.mem_range.mp hj
        refine Bz.mono (k := 5) ?_ (by decide)
        show ((-12 : Int) + (j : Nat)).natAbs < 2 ^ 5
        omega
      refine ⟨q3, D, _, _, rfl, rfl, h3, hGD, by rw [List.length_map, List.length_map, lrl]; exact Nat.le_trans (show 25 + wl.length ≤ 37 by omega) (by decide), fun q4 hq4 => ?_⟩
      have s8 : Same G (upd G q4 (.lst (rl.map V.int ++ wl.map V.int))) := same_new hq4
      have h4 : upd G q4 (.lst (rl.map V.int ++ wl.map V.int)) q4 = some (.lst (rl.map V.int ++ wl.map V.int)) := upd_same
      have hP1 := hP1.same s8
      have hP2 := hP2.same s8
      have hN1 := hN1.mono s8
      have hN2 := hN2.mono s8
      have h7 := s8 _ _ h7
      clear s8 h3 hGD hd hq4
      generalize upd G q4 (.lst (rl.map V.int ++ wl.map V.int)) = G2 at *
      refine ⟨_, rfl, _, rfl, .ref a1, .ref a2, l1, l2, p1, p2, rs1, rs2, 500, rfl, hP1, hP2, ok1, ok2, by omega, by omega, by decide, fun q5 pts G3 hq5 s8 h5 pbz plen pdec => ?_⟩
      have hP1 := hP1.same s8
      have hP2 := hP2.same s8
      have hN1 := hN1.mono s8
      have hN2 := hN2.mono s8
      have h7 := s8 _ _ h7
      have h4 := s8 _ _ h4
      clear s8 hq5
      refine ⟨q4, q5, _, _, rfl, rfl, h4, h5, by rw [List.length_append, List.length_map, List.length_map, List.length_map, lrl]; exact Nat.le_trans (show 25 + wl.length + pts.length ≤ 130000 by omega) (by decide), fun q6 hq6 => ?_⟩
      have s8 : Same G3 (upd G3 q6 (.lst (rl.map V.int ++ wl.map V.int ++ pts.map V.int))) := same_new hq6
      have h6 : upd G3 q6 (.lst (rl.map V.int ++ wl.map V.int ++ pts.map V.int)) q6 = some (.lst ((rl ++ wl ++ pts).map V.int)) := by
        rw [upd_same, List.map_append, List.map_append]
      have hP1 := hP1.same s8
      have hP2 := hP2.same s8
      have hN1 := hN1.mono s8
      have hN2 := hN2.mono s8
      have h7 := s8 _ _ h7
      clear s8 hq6 h4 h5
      generalize upd G3 q6 (.lst (rl.map V.int ++ wl.map V.int ++ pts.map V.int)) = G4 at *
      -- shown
      have up : ∀ {rs : List Row}, (∀ r ∈ rs, RowOk 500 r) → ∀ r ∈ rs, RowOk 600 r := fun h r hr => (h r hr).mono (by decide)
      have fbz : ∀ z ∈ fs, Bz 540 z := dec_bz ok1 ok2 hpp1 hpp2 (by omega) (by omega) (by omega) hfm
      refine ⟨_, rfl, _, rfl, _, rfl, .ref a1, .ref a2, l1, l2, q, p1, p2, rs1, rs2, fs, 600, rfl, hP1, hP2, up ok1, up ok2, by omega, by omega, by decide, h7, fun z hz => (fbz z hz).mono (by decide), fun b1 hb1 => ?_⟩
      have abz : ∀ z ∈ rl ++ wl ++ pts, Bz 600 z := fun z hz => by
        rcases List.mem_append.mp hz with hz | hz
        · rcases List.mem_append.mp hz with hz | hz
          · exact (brl z hz).mono (by decide)
          · exact (hwb z hz).mono (by decide)
        · exact (pbz z hz).mono (by decide)
      refine ⟨_, rfl, _, rfl, _, rfl, .ref a1, .ref a2, l1, l2, q6, p1, p2, rs1, rs2, rl ++ wl ++ pts, 600, rfl, hP1, hP2, up ok1, up ok2, by omega, by omega, by decide, h6, abz, fun b2 hb2 => ?_⟩
      have same : b1 = b2 := by
        rw [Bool.eq_iff_iff, hb1, hb2]
        constructor
        · rintro ⟨z, hz, hdz⟩
          by_cases c : ∃ x ∈ pts, imM p1 rs1 x ≠ imM p2 rs2 x
          · obtain ⟨y, hy, hdy⟩ := c
            exact ⟨y, List.mem_append_right _ hy, hdy⟩
          · exact (hdz (pdec (fun x hx => by
              by_cases e : imM p1 rs1 x = imM p2 rs2 x
              · exact e
              · exact (c ⟨x, hx, e⟩).elim) z)).elim
        · rintro ⟨z, hz, hdz⟩
          by_cases c : ∃ x ∈ fs, imM p1 rs1 x ≠ imM p2 rs2 x
          · exact c
          · exact (hdz (dec_eq hpp1 hpp2 hfm (fun x hx => by
              by_cases e : imM p1 rs1 x = imM p2 rs2 x
              · exact e
              · exact (c ⟨x, hx, e⟩).elim) z)).elim
      subst same
      refine ⟨rfl, _, rfl, iteN (fun e => absurd rfl e) (fun _ => ?_)⟩
      clear hb1 hb2 pdec pbz h6 abz brl hwb
      -- for x in found
      have bp1 : Bz 16 p1 := int_pos hpp1 (by omega)
      have bp2 : Bz 16 p2 := int_pos hpp2 (by omega)
      obtain ⟨dx1, f1, g1, j1, j2, j3⟩ := hN1.ex
      obtain ⟨dx2, f2, g2, y1, y2, y3⟩ := hN2.ex
      refine ⟨_, rfl, q, rfl, ⟨_, SqL.of h7⟩, for_list (xs := fs.map V.int) (fun i σ H' => ∃ x9 x10 : Option V, σ = [some (.ref a), some (.ref d), some (.ref a1), some (.ref a2), some (.ref x), some (.ref y), some (.ref q), some (.ref q2), some (.ref q6), x9, none, x10] ∧ H' = G4) ⟨_, _, rfl, rfl⟩ (fun i σ H' _ ⟨_, _, _, e⟩ => by rw [e]; exact SqL.of h7) ?_ ?_⟩
      · rintro i v σ H' hi ⟨x9, x10, rfl, rfl⟩
        rw [List.getElem?_map] at hi
        obtain ⟨z, hz, rfl⟩ := Option.map_eq_some_iff.mp hi
        have bz : Bz 600 z := (fbz z (List.mem_of_getElem? hz)).mono (by decide)
        refine ⟨_, rfl, x, _, _, rfl, j1, nmF_no _ _ (by decide +kernel) (by decide +kernel), _, rfl, x, p1, rs1, z, 600, rfl, hN1, up ok1, bp1, bz, by decide, ?_⟩
        refine ⟨_, rfl, _, rfl, .ref a1, l1, p1, rs1, z, 600, rfl, hP1, up ok1, bp1, bz, by decide, ?_⟩
        refine ⟨optV_scal _ _, _, rfl, iteN (fun e => absurd rfl e) (fun _ => ?_)⟩
        refine ⟨_, rfl, y, _, _, rfl, y1, nmF_no _ _ (by decide +kernel) (by decide +kernel), _, rfl, y, p2, rs2, z, 600, rfl, hN2, up ok2, bp2, bz, by decide, ?_⟩
        refine ⟨_, rfl, _, rfl, .ref a2, l2, p2, rs2, z, 600, rfl, hP2, up ok2, bp2, bz, by decide, ?_⟩
        refine ⟨optV_scal _ _, _, rfl, iteN (fun e => absurd rfl e) (fun _ => ?_)⟩
        exact ⟨_, _, rfl, rfl⟩
      · rintro σ H' ⟨x9, x10, rfl, rfl⟩
        -- found.append(0)
        refine ⟨_, rfl, .inl ⟨rfl, _, .inl (.inl h7)⟩, q, _, _, rfl, rfl, h7, by rw [List.length_map]; exact Nat.lt_of_le_of_lt (show fs.length ≤ 60 by omega) (by decide), ?_⟩
        have bq : But q H' (upd H' q (.lst (fs.map V.int ++ [.int 0]))) := But.upd
        have hP1 := hP1.but bq h7
        have hP2 := hP2.but bq h7
        have hN1 := hN1.but bq h7
        have hN2 := hN2.but bq h7
        have hq : upd H' q (.lst (fs.map V.int ++ [.int 0])) q = some (.lst (fs.map V.int ++ [.int 0])) := upd_same
        clear bq h7 j1 j2 j3 y1 y2 y3
        generalize upd H' q (.lst (fs.map V.int ++ [.int 0])) = G5 at *
        -- again
        refine ⟨_, rfl, _, rfl, x, y, p1, p2, rs1, rs2, 500, rfl, hN1, hN2, ok1, ok2, by decide, by omega, by omega, by omega, fun q7 fs2 G6 hq7 s8 h8 hrise2 hflen2 hfm2 => ?_⟩
        have e := rise_one hrise2 hrise fun z => (hfm2 z).trans (hfm z).symm
        subst e
        have hP1 := hP1.same s8
        have hP2 := hP2.same s8
        have hN1 := hN1.mono s8
        have hN2 := hN2.mono s8
        have hq := s8 _ _ hq
        clear s8 hq7
        refine ⟨_, rfl, _, rfl, _, rfl, q, _, rfl, SqL.of hq, fun q8 hq8 => ?_⟩
        rw [cut_last]
        have s8 : Same G6 (upd G6 q8 (.lst (fs2.map V.int))) := same_new hq8
        have h9 : upd G6 q8 (.lst (fs2.map V.int)) q8 = some (.lst (fs2.map V.int)) := upd_same
        have hP1 := hP1.same s8
        have hP2 := hP2.same s8
        have hN1 := hN1.mono s8
        have hN2 := hN2.mono s8
        have h8 := s8 _ _ h8
        clear s8 hq8
        generalize upd G6 q8 (.lst (fs2.map V.int)) = G7 at *
        obtain ⟨dx1, f1, g1, u1, u2, u3⟩ := hN1.ex
        obtain ⟨dx2, f2, g2, t1, t2, t3⟩ := hN2.ex
        obtain ⟨⟨a1', us1', ea, o1, o2, o3⟩, _, _⟩ := id hP1
        cases ea
        obtain ⟨⟨a2', us2', ea, w1, w2, w3⟩, _, _⟩ := id hP2
        cases ea
        have tt : ∀ {A : Prop} [Decidable A], A → decide A = true := fun h => decide_eq_true h
        refine ⟨_, rfl, eq_at fs2 fs2 (.lst (SqL.of h9) (ints_dps fs2)) (.lst (SqL.of h8) (ints_dps fs2)) (by decide) ⟨_, rfl, ?_⟩⟩
        rw [tt rfl]
        refine iteT ⟨_, rfl, _, _, _, _, _, rfl, u1, T.cl_NumberMap, T.n_NumberMap_rows, nmF_rows _ _, _, rfl, a1, _, _, _, rfl, rfl, SqT.of o1, rfl, eq_at rs1 rs1 (u3.dp u2) (o3.dp o2) (by decide) ⟨_, rfl, ?_⟩⟩
        rw [tt rfl]
        refine iteT ⟨_, rfl, _, _, _, _, _, rfl, t1, T.cl_NumberMap, T.n_NumberMap_rows, nmF_rows _ _, _, rfl, a2, _, _, _, rfl, rfl, SqT.of w1, rfl, eq_at rs2 rs2 (t3.dp t2) (w3.dp w2) (by decide) ?_⟩
        rw [tt rfl]
        exact k G7

end
def fa : List He.Fa := [.glo "stretched", .glo "NumberMap", .mkr "NumberMap", .cls "NumberMap", .meth "NumberMap" "image", .glo "row_at", .glo "decisive_numbers", .glo "_law_deck", .glo "_law_take", .glo "_law_whole", .glo "_law_parts", .glo "_law_number_image", .glo "_law_ends", .glo "_law_common", .glo "_law_points", .glo "_law_refined", .glo "_law_touched", .glo "_law_near", .glo "_law_is_integer", .glo "_law_listed", .glo "_law_shown", .glo "law", .noat "NumberMap" "period", .noat "NumberMap" "rows", .free "list", .free "len", .free "sorted", .free "set", .free "range", .free "int", .free "abs", .free "isinstance", .free "bool"]
def fn0 : He.DefD := ⟨("stretched", none), "stretched", "stretched", defArgs s_stretched, defBody s_stretched, defScope s_stretched, [], []⟩
def fn1 : He.DefD := ⟨("NumberMap", some "__init__"), "__init__", "NumberMap.__init__", defArgs s_NumberMap___init__, defBody s_NumberMap___init__, defScope s_NumberMap___init__, [], []⟩
def fn2 : He.DefD := ⟨("NumberMap", some "image"), "image", "NumberMap.image", defArgs s_NumberMap_image, defBody s_NumberMap_image, defScope s_NumberMap_image, [], []⟩
def fn3 : He.DefD := ⟨("row_at", none), "row_at", "row_at", defArgs s_row_at, defBody s_row_at, defScope s_row_at, [], []⟩
def fn4 : He.DefD := ⟨("decisive_numbers", none), "decisive_numbers", "decisive_numbers", defArgs s_decisive_numbers, defBody s_decisive_numbers, defScope s_decisive_numbers, [], []⟩
def fn5 : He.DefD := ⟨("_law_deck", none), "_law_deck", "_law_deck", defArgs s__law_deck, defBody s__law_deck, defScope s__law_deck, [], []⟩
def fn6 : He.DefD := ⟨("_law_take", none), "_law_take", "_law_take", defArgs s__law_take, defBody s__law_take, defScope s__law_take, [], []⟩
def fn7 : He.DefD := ⟨("_law_whole", none), "_law_whole", "_law_whole", defArgs s__law_whole, defBody s__law_whole, defScope s__law_whole, [], []⟩
def fn8 : He.DefD := ⟨("_law_parts", none), "_law_parts", "_law_parts", defArgs s__law_parts, defBody s__law_parts, defScope s__law_parts, [], []⟩
def fn9 : He.DefD := ⟨("_law_number_image", none), "_law_number_image", "_law_number_image", defArgs s__law_number_image, defBody s__law_number_image, defScope s__law_number_image, [], []⟩
def fn10 : He.DefD := ⟨("_law_ends", none), "_law_ends", "_law_ends", defArgs s__law_ends, defBody s__law_ends, defScope s__law_ends, [], []⟩
def fn11 : He.DefD := ⟨("_law_common", none), "_law_common", "_law_common", defArgs s__law_common, defBody s__law_common, defScope s__law_common, [], []⟩
def fn12 : He.DefD := ⟨("_law_points", none), "_law_points", "_law_points", defArgs s__law_points, defBody s__law_points, defScope s__law_points, [], []⟩
def fn13 : He.DefD := ⟨("_law_refined", none), "_law_refined", "_law_refined", defArgs s__law_refined, defBody s__law_refined, defScope s__law_refined, [], []⟩
def fn14 : He.DefD := ⟨("_law_touched", none), "_law_touched", "_law_touched", defArgs s__law_touched, defBody s__law_touched, defScope s__law_touched, [], []⟩
def fn15 : He.DefD := ⟨("_law_near", none), "_law_near", "_law_near", defArgs s__law_near, defBody s__law_near, defScope s__law_near, [], []⟩
def fn16 : He.DefD := ⟨("_law_is_integer", none), "_law_is_integer", "_law_is_integer", defArgs s__law_is_integer, defBody s__law_is_integer, defScope s__law_is_integer, [], []⟩
def fn17 : He.DefD := ⟨("_law_listed", none), "_law_listed", "_law_listed", defArgs s__law_listed, defBody s__law_listed, defScope s__law_listed, [], []⟩
def fn18 : He.DefD := ⟨("_law_shown", none), "_law_shown", "_law_shown", defArgs s__law_shown, defBody s__law_shown, defScope s__law_shown, [], []⟩
def fn19 : He.DefD := ⟨("law", none), "law", "law", defArgs s_law, defBody s_law, defScope s_law, [], []⟩
def fn : List He.DefD := [fn0, fn1, fn2, fn3, fn4, fn5, fn6, fn7, fn8, fn9, fn10, fn11, fn12, fn13, fn14, fn15, fn16, fn17, fn18, fn19]
def ex (K : PySem.W.Frag) : Bool := bltB K "lcm" "math.lcm"
def loose : List Str := (["lcm", "_wall", "BridgeError", "InvalidMap", "stretched", "NumberMap", "row_at", "decisive_numbers", "_law_deck", "_law_take", "_law_whole", "_law_parts", "_law_number_image", "_law_ends", "_law_common", "_law_points", "_law_refined", "_law_touched", "_law_near", "_law_is_integer", "_law_listed", "_law_shown"] : List Str)
theorem tx_of {K : PySem.W.Frag} {h : Heap} {mg : Str → Option Value} (X : K.In h) (G : h.Ns mainGlobals mg) (c : SaysX fa fn ex K) : Tx K mg where
  d_stretched := defAt_of X G (c.d.fact 0 rfl) (c.d.def_ 0 rfl) (fun _ _ _ _ _ _ us hl => match us, hl with | [_, _, _], _ => rfl)
  d_NumberMap___init__ := makAt_of X G (c.d.fact 1 rfl) (c.d.fact 2 rfl) (c.d.def_ 1 rfl) (fun _ _ _ _ _ _ us hl => match us, hl with | [_, _, _], _ => rfl)
  d_NumberMap_image := metAt_of (c.d.fact 3 rfl) (c.d.fact 4 rfl) (c.d.def_ 2 rfl) (fun _ _ _ _ _ _ us hl => match us, hl with | [_, _], _ => rfl)
  d_row_at := defAt_of X G (c.d.fact 5 rfl) (c.d.def_ 3 rfl) (fun _ _ _ _ _ _ us hl => match us, hl with | [_, _, _], _ => rfl)
  d_decisive_numbers := defAt_of X G (c.d.fact 6 rfl) (c.d.def_ 4 rfl) (fun _ _ _ _ _ _ us hl => match us, hl with | [_, _], _ => rfl)
  d__law_deck := defAt_of X G (c.d.fact 7 rfl) (c.d.def_ 5 rfl) (fun _ _ _ _ _ _ us hl => match us, hl with | [_, _, _], _ => rfl)
  d__law_take := defAt_of X G (c.d.fact 8 rfl) (c.d.def_ 6 rfl) (fun _ _ _ _ _ _ us hl => match us, hl with | [_, _], _ => rfl)
  d__law_whole := defAt_of X G (c.d.fact 9 rfl) (c.d.def_ 7 rfl) (fun _ _ _ _ _ _ us hl => match us, hl with | [_], _ => rfl)
  d__law_parts := defAt_of X G (c.d.fact 10 rfl) (c.d.def_ 8 rfl) (fun _ _ _ _ _ _ us hl => match us, hl with | [_, _], _ => rfl)
  d__law_number_image := defAt_of X G (c.d.fact 11 rfl) (c.d.def_ 9 rfl) (fun _ _ _ _ _ _ us hl => match us, hl with | [_, _], _ => rfl)
  d__law_ends := defAt_of X G (c.d.fact 12 rfl) (c.d.def_ 10 rfl) (fun _ _ _ _ _ _ us hl => match us, hl with | [_, _, _], _ => rfl)
  d__law_common := defAt_of X G (c.d.fact 13 rfl) (c.d.def_ 11 rfl) (fun _ _ _ _ _ _ us hl => match us, hl with | [_, _], _ => rfl)
  d__law_points := defAt_of X G (c.d.fact 14 rfl) (c.d.def_ 12 rfl) (fun _ _ _ _ _ _ us hl => match us, hl with | [_, _], _ => rfl)
  d__law_refined := defAt_of X G (c.d.fact 15 rfl) (c.d.def_ 13 rfl) (fun _ _ _ _ _ _ us hl => match us, hl with | [_, _], _ => rfl)
  d__law_touched := defAt_of X G (c.d.fact 16 rfl) (c.d.def_ 14 rfl) (fun _ _ _ _ _ _ us hl => match us, hl with | [_, _], _ => rfl)
  d__law_near := defAt_of X G (c.d.fact 17 rfl) (c.d.def_ 15 rfl) (fun _ _ _ _ _ _ us hl => match us, hl with | [_, _], _ => rfl)
  d__law_is_integer := defAt_of X G (c.d.fact 18 rfl) (c.d.def_ 16 rfl) (fun _ _ _ _ _ _ us hl => match us, hl with | [_], _ => rfl)
  d__law_listed := defAt_of X G (c.d.fact 19 rfl) (c.d.def_ 17 rfl) (fun _ _ _ _ _ _ us hl => match us, hl with | [_, _], _ => rfl)
  d__law_shown := defAt_of X G (c.d.fact 20 rfl) (c.d.def_ 18 rfl) (fun _ _ _ _ _ _ us hl => match us, hl with | [_, _, _], _ => rfl)
  cl_NumberMap := He.cls_ok (c.d.fact 3 rfl)
  g_NumberMap := He.glo_ok X G (c.d.fact 1 rfl)
  n_NumberMap_period := He.noat_ok (c.d.fact 22 rfl)
  n_NumberMap_rows := He.noat_ok (c.d.fact 23 rfl)
  b_list := He.free_ok X G (c.d.fact 24 rfl)
  b_len := He.free_ok X G (c.d.fact 25 rfl)
  b_sorted := He.free_ok X G (c.d.fact 26 rfl)
  b_set := He.free_ok X G (c.d.fact 27 rfl)
  b_range := He.free_ok X G (c.d.fact 28 rfl)
  i_lcm := bltB_ok X G (c.e)
  b_int := He.free_ok X G (c.d.fact 29 rfl)
  b_abs := He.free_ok X G (c.d.fact 30 rfl)
  b_isinstance := He.free_ok X G (c.d.fact 31 rfl)
  b_bool := He.free_ok X G (c.d.fact 32 rfl)
theorem facts {P : Program} {w : World} {K : PySem.W.Frag} {h : Heap} {mg : Str → Option Value} {f : Addr} (X : K.In h) (G : h.Ns mainGlobals mg) (hfa : mg ("law" : Str) = some (.ref f)) (c : SaysX fa fn ex K) :
    ∃ fd : FuncData, (∀ (s : Shared) (v : Value), BindsTo s fd ⟨[v], []⟩ [("script", v)]) ∧ ∀ base : Heap, K.In base → base.Ns mainGlobals mg → FnOk P w K mg base C8.CX0 5 f fd ["script"] (sp_law K) := by
  obtain ⟨fd, F⟩ := c.d.def_ 19 rfl
  have e := hfa.symm.trans (He.glo_ok X G (c.d.fact 21 rfl))
  cases e
  have b := FunD.bindsA (ps := ["script"]) F fun _ _ _ _ _ _ us hl => match us, hl with | [_], _ => rfl
  exact ⟨fd, fun s v => b s [v] rfl, fun base _ _ => ok_law F (tx_of X G c)⟩

end K04
open PySem PySem.W PyProof.Rows
set_option maxRecDepth 100000 in
set_option maxHeartbeats 0 in
theorem PySem.Challenge.cw_surebridge_k04_decisive_numbers_holds : PySem.Challenge.rw_surebridge_k04_decisive_numbers.Holds := by
  w_on; o_law; k_head; (case hw => w_witness2)
  k_fill
  refine L2.walk_ofK (l := PySem.Challenge.rw_surebridge_k04_decisive_numbers) (n := 63) (k := 5) (x := "script") (CX := C8.CX0) (sp := K04.sp_law) rfl (by decide) rfl ⟨rfl, by decide, by decide⟩ (fun w h Y => PySem.W.kIn_of Y) ?F (fun _ _ a ns hl _ hS => ⟨a, ns, rfl, hS, hl, fun _ => rfl⟩) (fun _ _ _ _ z => z)
  case F =>
    intro w mg fa h KX G hmg
    exact K04.facts KX G hmg (by unfold Pr.SaysX; kernel_rfl)
#print axioms PySem.Challenge.cw_surebridge_k04_decisive_numbers_holds

