import PyProof.Rows.All
import Wide.All
import OpenK.AllK
import Wide.FinOn
import KE.KStateDown
import KE.KMathGC
import KE.Datum
import HandS.ForMost
import HandS.Defaults
import HandS.Wide
import HandS.Gcd
import HandS.IsInst
import HandS.Codes
import HandS.SortInts
import HandS.Style
import HandS.Conv
import HandS.Head0
import HandS.Head1
import HandS.Head2
import HandS.HeadEnd
import HandS.HeadHook1
import HandS.HeadHook2

import HandS.Walk
import HandS.Replace
import HandS.Strs
import KE.KDictDisplayH
import HandS.More
import HandS.ExcInit
import HandS.FStr
import HandS.ExcField
import HandS.ExcIs
import HandS.ExcOwn
import KE.KExcIs
import PySem.Challenge.RW_surebridge_k24_holdings
set_option Elab.async false
set_option linter.all false
set_option maxRecDepth 100000
set_option maxHeartbeats 4000000
namespace Pr
open PySem PySem.Spec PyProof.Rows L2
/-! ### defs, methods, classes as the top left them -/
abbrev FnP (K : PySem.W.Frag) (x q : Str) (st : Stmt) (f : Addr) (fd : FuncData) : Prop := FunD K x q (defArgs st) (defBody st) (defScope st) [] [] f fd
structure DefAt (K : PySem.W.Frag) (mg : Str → Option Value) (x : Str) (st : Stmt) (ps : List Str) : Prop where
  ex : ∃ (f : Addr) (fd : FuncData), FnP K x x st f fd ∧ mg x = some (.ref f) ∧ Binds K fd ps []
structure MetAt (K : PySem.W.Frag) (C : Addr) (m q : Str) (st : Stmt) (ps : List Str) : Prop where
  ex : ∃ (f : Addr) (fd : FuncData), FnP K m q st f fd ∧ Cls K C ∧ Meth K C m f ∧ Binds K fd ps []
structure MakAt (K : PySem.W.Frag) (mg : Str → Option Value) (x : Str) (C : Addr) (q : Str) (st : Stmt) (ps : List Str) : Prop where
  ex : ∃ (f : Addr) (fd : FuncData), FnP K "__init__" q st f fd ∧ Mk K C f ∧ mg x = some (.ref C) ∧ Binds K fd ps []
section
variable {P : Program} {w : World} {K : PySem.W.Frag} {mg : Str → Option Value} {base : Heap} {x q m : Str} {C : Addr} {st : Stmt} {N ps : List Str} {k : Nat} {sp : Sp}
theorem c_mk (D : DefAt K mg x st ps) (S : FnScope N ps (defScope st)) (len : ∀ vs H Q E, sp vs H Q E → vs.length = ps.length)
    (hbody : ∀ (f : Addr) (cdv : Value) (A : Around) (outer : List Env) (s : Shared) (H : Hp) (vs : List V) (Q : VK) (E : XK), Room k (A.deeper (envOfC x (defScope st) s.heap.objs.size f cdv)) → sp vs H Q E →
      ∃ t, PSs (cxOf C8.CX0 P w K mg base N x (defScope st) f cdv A outer s H E).nox (defBody st) t ∧ t { nx := fun _ H' => Q .non H', rt := Q } (start N vs) H) : C8.Cal P w K mg base (k + 1) x sp [] := by
  obtain ⟨f, fd, F, hm, hb⟩ := D.ex
  exact ⟨f, fd, ps, [], F.ok S len (fun cdv A outer s H vs Q E hr hs => let ⟨t, h1, h2⟩ := hbody f cdv A outer s H vs Q E hr hs; ⟨t, PSs.nox h1, h2⟩), hm, F.kp, hb, .nil⟩
theorem c_met (D : MetAt K C m q st ps) (S : FnScope N ps (defScope st)) (len : ∀ vs H Q E, sp vs H Q E → vs.length = ps.length)
    (hbody : ∀ (f : Addr) (cdv : Value) (A : Around) (outer : List Env) (s : Shared) (H : Hp) (vs : List V) (Q : VK) (E : XK), Room k (A.deeper (envOfC q (defScope st) s.heap.objs.size f cdv)) → sp vs H Q E →
      ∃ t, PSs (cxOf C8.CX0 P w K mg base N q (defScope st) f cdv A outer s H E).nox (defBody st) t ∧ t { nx := fun _ H' => Q .non H', rt := Q } (start N vs) H) : C8.Met P w K mg base (k + 1) C m sp [] := by
  obtain ⟨f, fd, F, hc, hm, hb⟩ := D.ex
  exact ⟨f, fd, ps, [], hc, hm, F.ok S len (fun cdv A outer s H vs Q E hr hs => let ⟨t, h1, h2⟩ := hbody f cdv A outer s H vs Q E hr hs; ⟨t, PSs.nox h1, h2⟩), hb, .nil⟩
theorem c_mak (D : MakAt K mg x C q st ps) (S : FnScope N ps (defScope st)) (len : ∀ vs H Q E, sp vs H Q E → vs.length = ps.length)
    (hbody : ∀ (f : Addr) (cdv : Value) (A : Around) (outer : List Env) (s : Shared) (H : Hp) (vs : List V) (Q : VK) (E : XK), Room k (A.deeper (envOfC q (defScope st) s.heap.objs.size f cdv)) → sp vs H Q E →
      ∃ t, PSs (cxOf C8.CX0 P w K mg base N q (defScope st) f cdv A outer s H E).nox (defBody st) t ∧ t { nx := fun _ H' => Q .non H', rt := Q } (start N vs) H) : C8.Mak P w K mg base (k + 1) x C sp [] := by
  obtain ⟨f, fd, F, hk, hm, hb⟩ := D.ex
  exact ⟨f, fd, ps, [], hk, F.ok S len (fun cdv A outer s H vs Q E hr hs => let ⟨t, h1, h2⟩ := hbody f cdv A outer s H vs Q E hr hs; ⟨t, PSs.nox h1, h2⟩), hm, hb, .nil⟩
end
section
variable {X : Cx} {k j : Nat} {C : Addr} {x : Str} {sp : Sp} {dvs : List V} {p pos : Pos} {cr : List V → Hp → VK → Prop}
theorem pe_c0x (c : C8.Cal X.prog X.w X.K X.mg X.base k x sp dvs) (hr : Room j X.A) (hk : k ≤ j) (hg : Gl X x) (hdb : (x == ("__debug__" : Str)) = false := by decide) : PE X (.Call (.Name x p) [] [] pos) (tCall sp dvs C8.E0 tNil) := by
  obtain ⟨f, fd, ps, ds, F, hm, kp, b, d⟩ := c.ex
  exact pe_call0 F (hr.mono hk) hg hm kp b d C8.pass0 hdb
theorem pe_mk0x (c : C8.Mak X.prog X.w X.K X.mg X.base k x C sp dvs) (hr : Room j X.A) (hk : k + 1 ≤ j) (hg : Gl X x) (hdb : (x == ("__debug__" : Str)) = false := by decide) : PE X (.Call (.Name x p) [] [] pos) (tMake C sp dvs C8.E0 tNil) := by
  obtain ⟨f, fd, ps, ds, M, F, hm, b, d⟩ := c.ex
  exact pe_make0 M F (hr.mono hk) hg hm b d C8.pass0 hdb
theorem pe_gcx {v : V} (hg : Gl X x) (h : ∃ u, X.mg x = some u ∧ RelV v u) (hd : (x == ("__debug__" : Str)) = false := by decide) : PE X (.Name x pos) (tC v) := C8.pe_gc hg h hd
end
/-! ### the head's facts: those of HeadHook2, and one Bool of one's own -/
abbrev AlX : Type := Bool × He.AlD
def obsX (fa : List He.Fa) (fn : List He.DefD) (ex : PySem.W.Frag → Bool) (K : PySem.W.Frag) : AlX := (ex K, He.obsD fa fn K)
def valX (fn : List He.DefD) : AlX := (true, He.valD fn)
def SaysX (fa : List He.Fa) (fn : List He.DefD) (ex : PySem.W.Frag → Bool) (K : PySem.W.Frag) : Prop := obsX fa fn ex K = valX fn
def obsXG (n : Nat) (fa : List He.Fa) (fn : List He.DefD) (ex : PySem.W.Frag → Bool) (g : Addr → Option Obj) : AlX := obsX fa fn ex (He.frG g (He.asD g n))
def hookX (n : Nat) (fa : List He.Fa) (fn : List He.DefD) (ex : PySem.W.Frag → Bool) : PySem.W.Hook where
  α := AlX
  obs := fun s => obsXG n fa fn ex s.heap.get?
  val := fun _ => valX fn
  says := fun _ h => ∃ K : PySem.W.Frag, K.In h ∧ SaysX fa fn ex K
  of := fun _ _ e => ⟨_, He.frG_in, e⟩
  keeps := fun _ _ _ ⟨K, hK, c⟩ k => ⟨K, PySem.W.Frag.In.keeps hK k, c⟩
theorem obsXG_eq {n : Nat} {fa : List He.Fa} {fn : List He.DefD} {ex : PySem.W.Frag → Bool} {g : Addr → Option Obj} {s : Shared} (h : ∀ a, g a = s.heap.get? a) : obsXG n fa fn ex g = (hookX n fa fn ex).obs s := by
  have e : g = s.heap.get? := funext h
  rw [e] <;> rfl
section
variable {fa : List He.Fa} {fn : List He.DefD} {ex : PySem.W.Frag → Bool} {K : PySem.W.Frag}
theorem SaysX.d (c : SaysX fa fn ex K) : He.SaysD fa fn K := congrArg (fun z : AlX => z.2) c
theorem SaysX.e (c : SaysX fa fn ex K) : ex K = true := congrArg (fun z : AlX => z.1) c
end
/-- a name of the module that stands for a built-in function -/
def bltB (K : PySem.W.Frag) (x : Str) (id : String) : Bool := match PySem.W.nsIn K mainGlobals x with
  | some (some (.builtin j)) => decide (j = id)
  | _ => false
theorem bltB_ok {K : PySem.W.Frag} {h : Heap} {mg : Str → Option Value} {x : Str} {id : String} (X : K.In h) (G : h.Ns mainGlobals mg) (c : bltB K x id = true) : mg x = some (.builtin id) := by
  unfold bltB at c
  cases e : PySem.W.nsIn K mainGlobals x with
  | none =>
    rw [e] at c
    cases c
  | some o =>
    rw [e] at c
    cases o with
    | none => cases c
    | some v =>
      cases v with
      | builtin j =>
        have ej : j = id := of_decide_eq_true c
        rw [ej] at e
        exact PySem.W.mg_of X G e
      | _ => cases c
def intB (K : PySem.W.Frag) (x : Str) (i : Int) : Bool := (He.Fa.int x i).ok K
theorem defAt_of {K : PySem.W.Frag} {h : Heap} {mg : Str → Option Value} {x : Str} {st : Stmt} {ps : List Str} (X : K.In h) (G : h.Ns mainGlobals mg) (c1 : (He.Fa.glo x).ok K = true)
    (F : ∃ fd, FnP K x x st (He.fAd K (x, none)) fd)
    (b : ∀ (kV doc pm : Value) (an : Option Addr) (cdv ct : Value) (us : List Value), us.length = ps.length → bindArgs (PySem.W.fnOf x x (defArgs st) (defBody st) (defScope st) .none kV doc pm an cdv ct) ⟨us, []⟩ = pure (ps.zip us)) : DefAt K mg x st ps := by
  obtain ⟨fd, F⟩ := F
  exact ⟨_, fd, F, He.glo_ok X G c1, F.bindsN b⟩
theorem metAt_of {K : PySem.W.Frag} {x m q : Str} {st : Stmt} {ps : List Str} (c1 : (He.Fa.cls x).ok K = true) (c2 : (He.Fa.meth x m).ok K = true)
    (F : ∃ fd, FnP K m q st (He.fAd K (x, some m)) fd)
    (b : ∀ (kV doc pm : Value) (an : Option Addr) (cdv ct : Value) (us : List Value), us.length = ps.length → bindArgs (PySem.W.fnOf m q (defArgs st) (defBody st) (defScope st) .none kV doc pm an cdv ct) ⟨us, []⟩ = pure (ps.zip us)) : MetAt K (He.ga K x) m q st ps := by
  obtain ⟨fd, F⟩ := F
  exact ⟨_, fd, F, He.cls_ok c1, He.meth_ok c2, F.bindsN b⟩
theorem makAt_of {K : PySem.W.Frag} {h : Heap} {mg : Str → Option Value} {x q : Str} {st : Stmt} {ps : List Str} (X : K.In h) (G : h.Ns mainGlobals mg) (c0 : (He.Fa.glo x).ok K = true) (c2 : (He.Fa.mkr x).ok K = true)
    (F : ∃ fd, FnP K "__init__" q st (He.fAd K (x, some "__init__")) fd)
    (b : ∀ (kV doc pm : Value) (an : Option Addr) (cdv ct : Value) (us : List Value), us.length = ps.length → bindArgs (PySem.W.fnOf "__init__" q (defArgs st) (defBody st) (defScope st) .none kV doc pm an cdv ct) ⟨us, []⟩ = pure (ps.zip us)) : MakAt K mg x (He.ga K x) q st ps := by
  obtain ⟨fd, F⟩ := F
  exact ⟨_, fd, F, He.mkr_ok c2, He.glo_ok X G c0, F.bindsN b⟩
/-- the law's own def, from its promise -/
theorem law_mk {P : Program} {w : World} {K : PySem.W.Frag} {mg : Str → Option Value} {base : Heap} {k : Nat} {sp : Sp} {f : Addr} {fd : FuncData} {st : Stmt} {N : List Str} (F : FnP K "law" "law" st f fd)
    (S : FnScope N ["script"] (defScope st)) (len : ∀ vs H Q E, sp vs H Q E → vs.length = ["script"].length)
    (hbody : ∀ (f : Addr) (cdv : Value) (A : Around) (outer : List Env) (s : Shared) (H : Hp) (vs : List V) (Q : VK) (E : XK), Room k (A.deeper (envOfC "law" (defScope st) s.heap.objs.size f cdv)) → sp vs H Q E →
      ∃ t, PSs (cxOf C8.CX0 P w K mg base N "law" (defScope st) f cdv A outer s H E).nox (defBody st) t ∧ t { nx := fun _ H' => Q .non H', rt := Q } (start N vs) H) : FnOk P w K mg base C8.CX0 (k + 1) f fd ["script"] sp :=
  F.ok S len fun cdv A outer s H vs Q E hr hs => let ⟨t, h1, h2⟩ := hbody f cdv A outer s H vs Q E hr hs; ⟨t, PSs.nox h1, h2⟩
/-! ### heaps -/
/-- all that was tracked is as it was, but for d -/
def But (d : Addr) (H H' : Hp) : Prop := ∀ b o, H b = some o → b ≠ d → H' b = some o
theorem But.refl (d : Addr) (H : Hp) : But d H H := fun _ _ h _ => h
theorem But.trans {d : Addr} {H H1 H2 : Hp} (a : But d H H1) (b : But d H1 H2) : But d H H2 := fun c o h n => b c o (a c o h n) n
theorem Same.but {d : Addr} {H H' : Hp} (a : Same H H') : But d H H' := fun c o h _ => a c o h
theorem But.upd {d : Addr} {H : Hp} {o : HO} : But d H (L2.upd H d o) := fun b u h n => by rw [upd_ne n]; exact h
theorem same_new {H : Hp} {p : Addr} {o : HO} (h : H p = none) : Same H (upd H p o) := fun a u e => by rw [upd_ne (ne_of_none e h)]; exact e
theorem but_new {d : Addr} {H : Hp} {p : Addr} {o : HO} (h : H p = none) : But d H (upd H p o) := Same.but (same_new h)
theorem But.free {d p : Addr} {H H' : Hp} (a : But d H H') (hd : p ≠ d) (h : H' p = none) : H p = none := by
  cases q : H p with
  | none => rfl
  | some o => rw [a p o q hd] at h; cases h
theorem upd_id {H : Hp} {a : Addr} {o : HO} (h : H a = some o) : upd H a o = H := by
  funext b
  unfold upd
  split
  · rename_i e; rw [e, h]
  · rfl
end Pr
namespace Pr
open PySem PySem.Spec PyProof.Rows L2
theorem of_int {mg : Str → Option Value} {x : Str} {i : Int} (h : ∃ t, mg x = some (.int i t)) : ∃ u, mg x = some u ∧ RelV (.int i) u := let ⟨t, e⟩ := h; ⟨_, e, t, rfl⟩
theorem of_str {mg : Str → Option Value} {x z : Str} (h : ∃ t, mg x = some (.str z t)) : ∃ u, mg x = some u ∧ RelV (.str z) u := let ⟨t, e⟩ := h; ⟨_, e, t, rfl⟩
/-- what isinstance asks of an own class -/
def insB (K : PySem.W.Frag) (x : Str) : Bool := He.eqO (PySem.W.findIn K (.ref (He.ga K x)) "__class__") (some (some (.builtin "object.__class__"))) && (He.eqO (PySem.W.specialIn K (.builtin "object.__class__") "__get__") (some (some (.builtin "getset_descriptor.__get__"))) &&
  (decide (PySem.W.takesIn K (.builtin "object.__class__") = some true) && (decide (PySem.W.mroIn K (He.ga K x) (.type "object") = some true) && (decide (PySem.W.kitOne K (.ref (He.ga K x)) (.ref (He.ga K x)) = some true) && (He.Fa.cls x).ok K))))
theorem insB_ok {K : PySem.W.Frag} {x : Str} (h : insB K x = true) : C8.InsC K (He.ga K x) := by
  obtain ⟨h1, h⟩ := He.ba h
  obtain ⟨h2, h⟩ := He.ba h
  obtain ⟨h3, h⟩ := He.ba h
  obtain ⟨h4, h⟩ := He.ba h
  obtain ⟨h5, h6⟩ := He.ba h
  exact ⟨He.cls_ok h6, He.eqO_ok h1, He.eqO_ok h2, of_decide_eq_true h3, of_decide_eq_true h4, of_decide_eq_true h5⟩
/-- isinstance of two own classes -/
def kitB2 (K : PySem.W.Frag) (x y : Str) (b : Bool) : Bool := decide (PySem.W.kitOne K (.ref (He.ga K x)) (.ref (He.ga K y)) = some b)
theorem kitB2_ok {K : PySem.W.Frag} {x y : Str} {b : Bool} (h : kitB2 K x y b = true) : PySem.W.kitOne K (.ref (He.ga K x)) (.ref (He.ga K y)) = some b := of_decide_eq_true h
section
variable {X : Cx}
/-- // of any size, the divisor of any sign -/
def CDivWN (_ j : Int) : Prop := j ≠ 0 ∧ j.natAbs.log2 < 9000
theorem op_fdivWN : OpR X (binaryOp .FloorDiv) (rI CDivWN fun i j => .int (i.fdiv j)) := opI fun i j _ _ _ _ _ hc q => floordiv_int hc.1 q (.inl (PyProof.noPylong_of_log2 hc.2))
def rLcm : List V → Hp → VK → Prop := fun vs H Q => ∃ a b : Int, vs = [.int a, .int b] ∧ a.natAbs < 2 ^ 64 ∧ b.natAbs < 2 ^ 64 ∧ Q (.int ((Nat.lcm a.natAbs b.natAbs : Nat) : Int)) H
theorem cr_lcm : CallR X (.builtin "math.lcm") rLcm := by
  intro pins s σ H vs us Q I r h
  obtain ⟨a, b, rfl, h1, h2, q⟩ := h
  obtain ⟨t, u, rfl⟩ := Vals.int2 r
  exact PySem.W.mc_lcm h1 h2 fun _ => ⟨.int _, H, I.tok _, ⟨_, rfl⟩, q⟩
end
end Pr
namespace Pr
open PySem PySem.Spec PyProof.Rows L2
/-! ### == and in over data of any depth (no dicts, no instances) -/
def rEqP (K : PySem.W.Frag) : R2 := fun x y H Q => ∃ (d e : PyData) (r : Bool), Dp K H x d ∧ Dp K H y e ∧ d.plain = true ∧ e.plain = true ∧ d.depth ≤ 60 ∧ PyData.eqv d e = r ∧ Q (.bl r) H
def rNeP (K : PySem.W.Frag) : R2 := fun x y H Q => ∃ (d e : PyData) (r : Bool), Dp K H x d ∧ Dp K H y e ∧ d.plain = true ∧ e.plain = true ∧ d.depth ≤ 60 ∧ PyData.eqv d e = r ∧ Q (.bl (!r)) H
def rInP (K : PySem.W.Frag) (neg : Bool) : R2 := fun x y H Q => ∃ (d : PyData) (es : List PyData) (r : Bool), Dp K H x d ∧ (Dp K H y (.list es) ∨ Dp K H y (.tuple es)) ∧ d.plain = true ∧ PyData.plainAll es = true ∧ d.depth ≤ 60 ∧ es.any (fun e => PyData.eqv e d) = r ∧ Q (.bl (if neg then !r else r)) H
section
variable {X : Cx}
theorem op_eqP (hu : X.A.units + 64 < cLine) : OpR X (compareOp .Eq) (rEqP X.K) := by
  intro pins s σ H x y v u Q I rx ry h
  obtain ⟨d, e, r, hd, he, sd, se, dd, hr, q⟩ := h
  obtain ⟨as, r1⟩ := Dp.reads I d x v hd rx
  obtain ⟨bs, r2⟩ := Dp.reads I e y u he ry
  refine PySem.SeqAt.eq_plain r1 r2 sd se (by omega) ⟨.bl _, H, I, rfl, ?_⟩
  rw [hr]
  exact q
theorem op_neP (hu : X.A.units + 64 < cLine) : OpR X (compareOp .NotEq) (rNeP X.K) := by
  intro pins s σ H x y v u Q I rx ry h
  obtain ⟨d, e, r, hd, he, sd, se, dd, hr, q⟩ := h
  obtain ⟨as, r1⟩ := Dp.reads I d x v hd rx
  obtain ⟨bs, r2⟩ := Dp.reads I e y u he ry
  refine PySem.SeqAt.ne_plain r1 r2 sd se (by omega) ⟨.bl _, H, I, rfl, ?_⟩
  rw [hr]
  exact q
theorem op_inP (hu : X.A.units + 64 < cLine) : OpR X (compareOp .In) (rInP X.K false) := by
  intro pins s σ H x y v u Q I rx ry h
  obtain ⟨d, es, r, hd, he, sd, se, dd, hr, q⟩ := h
  obtain ⟨as, r1⟩ := Dp.reads I d x v hd rx
  rcases he with he | he
  · obtain ⟨bs, r2⟩ := Dp.reads I _ y u he ry
    refine PySem.SeqAt.in_list_data r2 r1 se sd (by omega) ⟨.bl _, H, I, rfl, ?_⟩
    rw [hr]
    exact q
  · obtain ⟨bs, r2⟩ := Dp.reads I _ y u he ry
    refine PySem.SeqAt.in_tuple_data r2 r1 se sd (by omega) ⟨.bl _, H, I, rfl, ?_⟩
    rw [hr]
    exact q
theorem op_notInP (hu : X.A.units + 64 < cLine) : OpR X (compareOp .NotIn) (rInP X.K true) := by
  intro pins s σ H x y v u Q I rx ry h
  obtain ⟨d, es, r, hd, he, sd, se, dd, hr, q⟩ := h
  obtain ⟨as, r1⟩ := Dp.reads I d x v hd rx
  rcases he with he | he
  · obtain ⟨bs, r2⟩ := Dp.reads I _ y u he ry
    refine PySem.SeqAt.notIn_list_data r2 r1 se sd (by omega) ⟨.bl _, H, I, rfl, ?_⟩
    rw [hr]
    exact q
  · obtain ⟨bs, r2⟩ := Dp.reads I _ y u he ry
    refine PySem.SeqAt.notIn_tuple_data r2 r1 se sd (by omega) ⟨.bl _, H, I, rfl, ?_⟩
    rw [hr]
    exact q
end
/-- data with a Lean type: the two ends of == -/
abbrev toD {α : Type} [DecidableEq α] [PySem.W.Datum α] (a : α) : PyData := PySem.W.Datum.toD a
theorem eq_at {α : Type} [DecidableEq α] [PySem.W.Datum α] {K : PySem.W.Frag} {H : Hp} {x y : V} {Q : VK} (a b : α) (hx : Dp K H x (toD a)) (hy : Dp K H y (toD b)) (hd : PySem.W.Datum.depth α ≤ 60) (q : Q (.bl (decide (a = b))) H) : rEqP K x y H Q :=
  ⟨_, _, _, hx, hy, PySem.W.Datum.plain a, PySem.W.Datum.plain b, Nat.le_trans (PySem.W.Datum.depth_le a) hd, PySem.W.Datum.eqv a b, q⟩
theorem ne_at {α : Type} [DecidableEq α] [PySem.W.Datum α] {K : PySem.W.Frag} {H : Hp} {x y : V} {Q : VK} (a b : α) (hx : Dp K H x (toD a)) (hy : Dp K H y (toD b)) (hd : PySem.W.Datum.depth α ≤ 60) (q : Q (.bl (!decide (a = b))) H) : rNeP K x y H Q :=
  ⟨_, _, _, hx, hy, PySem.W.Datum.plain a, PySem.W.Datum.plain b, Nat.le_trans (PySem.W.Datum.depth_le a) hd, PySem.W.Datum.eqv a b, q⟩
end Pr

/-! ### dicts whose keys are tuples, nested; a key's tuple may be the module's own -/
namespace Pr
open PySem PySem.Spec PyProof.Rows L2
mutual
/-- the value v is the key k -/
inductive NkV (K : PySem.W.Frag) (H : Hp) : NestedKey → V → Prop
  | non : NkV K H .none .non
  | bl (b : Bool) : NkV K H (.num (if b = true then 1 else 0)) (.bl b)
  | int (i : Int) : NkV K H (.num i) (.int i)
  | str (x : Str) : NkV K H (.text x) (.str x)
  | tup {a : Addr} {xs : List V} {ks : List NestedKey} : SqT K H a xs → NkAll K H ks xs → NkV K H (.tup ks) (.ref a)
inductive NkAll (K : PySem.W.Frag) (H : Hp) : List NestedKey → List V → Prop
  | nil : NkAll K H [] []
  | cons {k : NestedKey} {v : V} {ks : List NestedKey} {vs : List V} : NkV K H k v → NkAll K H ks vs → NkAll K H (k :: ks) (v :: vs)
end
def KeepT (K : PySem.W.Frag) (H H' : Hp) : Prop := ∀ a xs, SqT K H a xs → SqT K H' a xs
mutual
theorem NkV.mono {K : PySem.W.Frag} {H H' : Hp} (t : KeepT K H H') : ∀ (k : NestedKey) (v : V), NkV K H k v → NkV K H' k v
  | .none, _, h => by cases h; exact .non
  | .num _, _, h => by
    cases h with
    | bl b => exact .bl b
    | int i => exact .int _
  | .text _, _, h => by cases h; exact .str _
  | .tup ks, _, h => by
    cases h with
    | tup h1 h2 => exact .tup (t _ _ h1) (NkAll.mono t ks _ h2)
theorem NkAll.mono {K : PySem.W.Frag} {H H' : Hp} (t : KeepT K H H') : ∀ (ks : List NestedKey) (vs : List V), NkAll K H ks vs → NkAll K H' ks vs
  | [], _, h => by cases h; exact .nil
  | k :: ks, _, h => by
    cases h with
    | cons h1 h2 => exact .cons (NkV.mono t k _ h1) (NkAll.mono t ks _ h2)
end
section
variable {X : Cx} {pins : List (Addr × Obj)} {σ : L2.St} {H : Hp} {s : Shared}
mutual
theorem NkV.nested (I : Inv X pins σ H s) : ∀ (k : NestedKey) (v : V) (u : Value), NkV X.K H k v → RelV v u → NestedIs s.heap k u
  | .none, _, _, h, r => by cases h; cases r; exact .none
  | .num _, _, _, h, r => by
    cases h with
    | bl b => cases r; exact .bool rfl
    | int i => obtain ⟨t, rfl⟩ := r; exact .int _ t
  | .text _, _, _, h, r => by cases h; obtain ⟨t, rfl⟩ := r; exact .text _ t
  | .tup ks, _, _, h, r => by
    cases h with
    | tup h1 h2 =>
      cases r
      obtain ⟨its, rv, ⟨o, ho, hc, n, hd⟩, _⟩ := I.tuple h1
      exact .tup ho hc hd (NkAll.nested I ks _ _ h2 rv)
theorem NkAll.nested (I : Inv X pins σ H s) : ∀ (ks : List NestedKey) (vs : List V) (us : List Value), NkAll X.K H ks vs → Vals vs us → NestedAll s.heap ks us
  | [], _, _, h, r => by cases h; cases r; exact .nil
  | k :: ks, _, _, h, r => by
    cases h with
    | cons h1 h2 =>
      cases r with
      | cons r1 r2 => exact .cons (NkV.nested I k _ _ h1 r1) (NkAll.nested I ks _ _ h2 r2)
end
end
abbrev NkY : Type := NestedKey × Addr × V
abbrev NkX : Type := NestedKey × Addr × Value
def RelY (y : NkY) (x : NkX) : Prop := y.1 = x.1 ∧ y.2.1 = x.2.1 ∧ RelV y.2.2 x.2.2
def OwnD (P : Program) (w : World) (h : Heap) (d : Addr) (xs : List NkX) : Prop := ∃ o es ep, h.get? d = some o ∧ o.ExactDict ∧ o.data = .dict es ep ∧ es.toList = xs.map (entryOfKey (nestedKind P w)) ∧ (xs.map (·.1)).Nodup
/-- what is true of the dict's own object -/
def DkO (P : Program) (w : World) (d : Addr) (ys : List NkY) : HO := .ext fun h => (d == sysModules) = false ∧ ys.length ≤ sizeLine ∧ ∃ xs : List NkX, Paired RelY ys xs ∧ OwnD P w h d xs
theorem dko_ok {P : Program} {w : World} {H : Hp} {h : Heap} {d : Addr} {ys : List NkY} {xs : List NkX} (hd : (d == sysModules) = false) (hl : ys.length ≤ sizeLine) (r : Paired RelY ys xs) (o : OwnD P w h d xs) : ObjOk P w H h d (DkO P w d ys) := by
  refine ⟨⟨hd, hl, xs, r, o⟩, ?_, ?_⟩
  · obtain ⟨o, es, ep, ho, _⟩ := o; exact ⟨o, ho⟩
  · rintro h1 h2 ⟨a, b, ys, c, o, es, ep, ho, z⟩ keep
    exact ⟨a, b, ys, c, o, es, ep, keep o ho, z⟩
/-- at d a dict with these keys and values, in order -/
def DkAt (P : Program) (w : World) (K : PySem.W.Frag) (H : Hp) (d : Addr) (kvs : List (NestedKey × V)) : Prop :=
  ∃ ys : List NkY, H d = some (DkO P w d ys) ∧ ys.map (fun y => (y.1, y.2.2)) = kvs ∧ ∀ y ∈ ys, NkV K H y.1 (.ref y.2.1) ∧ y.1.depth ≤ 8
theorem DkAt.mono {P : Program} {w : World} {K : PySem.W.Frag} {H H' : Hp} {d : Addr} {kvs : List (NestedKey × V)} (t : KeepT K H H') (e : H' d = H d) (h : DkAt P w K H d kvs) : DkAt P w K H' d kvs := by
  obtain ⟨ys, h1, h2, h3⟩ := h
  exact ⟨ys, e.trans h1, h2, fun y hy => ⟨(h3 y hy).1.mono t _ _, (h3 y hy).2⟩⟩
def valN (kvs : List (NestedKey × V)) (k : NestedKey) : Option V := (kvs.find? fun p => decide (p.1 = k)).map (·.2)
def putN (kvs : List (NestedKey × V)) (k : NestedKey) (v : V) : List (NestedKey × V) := if (valN kvs k).isSome then kvs.map fun p => if p.1 = k then (p.1, v) else p else kvs ++ [(k, v)]
theorem atKey_rel {k : NestedKey} : ∀ {ys : List NkY} {xs : List NkX}, Paired RelY ys xs → RelO (valN (ys.map fun y => (y.1, y.2.2)) k) ((atKey xs k).map (·.2))
  | [], _, r => by cases r; trivial
  | y :: ys, _, r => by
    cases r with
    | @cons _ x _ xs h t =>
      by_cases e : x.1 = k
      · have e' : y.1 = k := h.1.trans e
        simpa [valN, atKey, e, e', RelO] using h.2.2
      · have e' : ¬ y.1 = k := fun z => e (h.1.symm.trans z)
        simpa [valN, atKey, e, e'] using atKey_rel (k := k) t
theorem rel_mem {x : NkX} : ∀ {ys : List NkY} {xs : List NkX}, Paired RelY ys xs → x ∈ xs → ∃ y ∈ ys, RelY y x
  | [], _, r, hx => by cases r; cases hx
  | y :: ys, _, r, hx => by
    cases r with
    | cons h t =>
      rcases List.mem_cons.mp hx with e | hx
      · subst e; exact ⟨y, List.mem_cons_self, h⟩
      · obtain ⟨y', h1, h2⟩ := rel_mem t hx
        exact ⟨y', List.mem_cons_of_mem _ h1, h2⟩
def putY (ys : List NkY) (k : NestedKey) (a : Addr) (v : V) : List NkY := if (valN (ys.map fun y => (y.1, y.2.2)) k).isSome then ys.map fun y => if y.1 = k then (y.1, y.2.1, v) else y else ys ++ [(k, a, v)]
theorem putY_put (ys : List NkY) (k : NestedKey) (a : Addr) (v : V) : (putY ys k a v).map (fun y => (y.1, y.2.2)) = putN (ys.map fun y => (y.1, y.2.2)) k v := by
  unfold putY putN
  split
  · rw [List.map_map, List.map_map]
    refine List.map_congr_left fun y _ => ?_
    by_cases e : y.1 = k <;> simp [e]
  · simp
theorem putY_rel {ys : List NkY} {xs : List NkX} (r : Paired RelY ys xs) (k : NestedKey) (a : Addr) {v : V} {u : Value} (rv : RelV v u) : Paired RelY (putY ys k a v) (storedH xs k a u) := by
  have e : (valN (ys.map fun y => (y.1, y.2.2)) k).isSome = (atKey xs k).isSome := by
    have q := (atKey_rel (k := k) r).isSome_eq
    rw [Option.isSome_map] at q
    exact q
  unfold putY storedH
  rw [e]
  split
  · rename_i c
    clear e c
    induction r with
    | nil => exact .nil
    | @cons y x ys xs h t ih =>
      refine .cons ?_ ih
      by_cases c : x.1 = k
      · have c' : y.1 = k := h.1.trans c
        show RelY (if y.1 = k then (y.1, y.2.1, v) else y) (putAt k u x)
        rw [if_pos c', putAt, if_pos c]
        exact ⟨h.1, h.2.1, rv⟩
      · have c' : ¬ y.1 = k := fun z => c (h.1.symm.trans z)
        show RelY (if y.1 = k then (y.1, y.2.1, v) else y) (putAt k u x)
        rw [if_neg c', putAt, if_neg c]
        exact h
  · rename_i c
    clear e c
    induction r with
    | nil => exact .cons ⟨rfl, rfl, rv⟩ .nil
    | cons h t ih => exact .cons h ih
theorem putY_len (ys : List NkY) (k : NestedKey) (a : Addr) (v : V) : (putY ys k a v).length ≤ ys.length + 1 := by
  unfold putY
  split
  · rw [List.length_map]; omega
  · rw [List.length_append]; exact Nat.le_refl _
section
variable {X : Cx} {pins : List (Addr × Obj)} {σ : L2.St} {H : Hp} {s : Shared} {d a : Addr} {kvs : List (NestedKey × V)} {k : NestedKey}
abbrev knd (X : Cx) : HeapKind X.prog X.w NestedKey := nestedKind X.prog X.w
theorem DkAt.open (I : Inv X pins σ H s) (h : DkAt X.prog X.w X.K H d kvs) : ∃ (ys : List NkY) (xs : List NkX), H d = some (DkO X.prog X.w d ys) ∧ ys.map (fun y => (y.1, y.2.2)) = kvs ∧ (∀ y ∈ ys, NkV X.K H y.1 (.ref y.2.1) ∧ y.1.depth ≤ 8) ∧ (d == sysModules) = false ∧ ys.length ≤ sizeLine ∧ Paired RelY ys xs ∧ s.heap.DictOfH (knd X) d xs := by
  obtain ⟨ys, h1, h2, h3⟩ := h
  obtain ⟨⟨hd, hl, xs, r, o, es, ep, ho, e1, e2, e3, e4⟩, _, _⟩ := (show ObjOk X.prog X.w H s.heap d (DkO X.prog X.w d ys) from I.hok d _ h1)
  refine ⟨ys, xs, h1, h2, h3, hd, hl, r, o, es, ep, ho, e1, e2, e3, fun x hx => ?_, e4⟩
  obtain ⟨y, hy, r1, r2, _⟩ := rel_mem r hx
  obtain ⟨n1, n2⟩ := h3 y hy
  rw [r1, r2] at n1
  rw [r1] at n2
  exact ⟨n1.nested I _ _ _ rfl, n2⟩
/-- x in d, x not in d -/
def rInN (P : Program) (w : World) (K : PySem.W.Frag) (g : Bool → Bool) : R2 := fun x y H Q => ∃ (a d : Addr) (kvs : List (NestedKey × V)) (k : NestedKey), x = .ref a ∧ y = .ref d ∧ DkAt P w K H d kvs ∧ NkV K H k (.ref a) ∧ k.depth ≤ 8 ∧ Q (.bl (g (valN kvs k).isSome)) H
theorem room8 (hu : X.A.units + 64 < cLine) : (knd X).room X.A.in1 := by
  show X.A.units + 1 + 8 < cLine
  omega
theorem op_inN (hu : X.A.units + 64 < cLine) : OpR X (compareOp .In) (rInN X.prog X.w X.K id) := by
  intro pins s σ H x y v u Q I rx ry h
  obtain ⟨a, d, kvs, k, rfl, rfl, hD, hk, h8, q⟩ := h
  cases rx; cases ry
  obtain ⟨ys, xs, _, e2, _, hd, _, r, hx⟩ := hD.open I
  refine wpAny_in_heap (room8 hu) ⟨hk.nested I _ _ _ rfl, h8⟩ hd hx ⟨.bl (valN kvs k).isSome, H, I.tok _, ?_, q⟩
  have e := (atKey_rel (k := k) r).isSome_eq
  rw [e2, Option.isSome_map] at e
  show Value.bool _ = Value.bool _
  rw [e]
theorem op_notInN (hu : X.A.units + 64 < cLine) : OpR X (compareOp .NotIn) (rInN X.prog X.w X.K not) := by
  intro pins s σ H x y v u Q I rx ry h
  obtain ⟨a, d, kvs, k, rfl, rfl, hD, hk, h8, q⟩ := h
  cases rx; cases ry
  obtain ⟨ys, xs, _, e2, _, hd, _, r, hx⟩ := hD.open I
  have e := (atKey_rel (k := k) r).isSome_eq
  rw [e2, Option.isSome_map] at e
  refine notIn_keyed (knd := knd X) (kvs := pairsH xs) (room8 hu) ⟨hk.nested I _ _ _ rfl, h8⟩ hd ⟨xs, hx, rfl⟩ ⟨.bl (!(valN kvs k).isSome), H, I.tok _, ?_, q⟩
  rw [valueAt_pairsH, Option.isSome_map, ← e] <;> rfl
/-- d[x] -/
def rIxN (P : Program) (w : World) (K : PySem.W.Frag) : R2 := fun x y H Q => ∃ (d a : Addr) (kvs : List (NestedKey × V)) (k : NestedKey) (v : V), x = .ref d ∧ y = .ref a ∧ DkAt P w K H d kvs ∧ NkV K H k (.ref a) ∧ k.depth ≤ 8 ∧ valN kvs k = some v ∧ Q v H
theorem pe_dgetN {o i : Expr} {pos : Pos} {td ty : TE} (hu : X.A.units + 64 < cLine) (ho : PE X o td) (hi : PE X i ty) (hs : NoSl i) : PE X (.Subscript o i pos) (tOp (rIxN X.prog X.w X.K) td ty) := by
  refine ⟨fun pins s σ H Q I h => ?_⟩
  refine subD_of PySem.F.slot_dict_getitem.lookup hs (thn (ho.run pins s σ H _ I h) fun u s1 ⟨x, H1, I1, rx, q1⟩ => thn (hi.run pins s1 σ H1 _ I1 q1) fun iv s2 ⟨y, H2, I2, ry, q2⟩ => ?_)
  obtain ⟨d, a, kvs, k, v, rfl, rfl, hD, hk, h8, hv, q⟩ := q2
  cases rx; cases ry
  obtain ⟨ys, xs, _, e2, _, hd, _, r, hx⟩ := hD.open I2
  refine ⟨hx.typeIs, ?_⟩
  have e := atKey_rel (k := k) r
  rw [e2, hv] at e
  cases hp : atKey xs k with
  | none => rw [hp] at e; exact e.elim
  | some p =>
    rw [hp] at e
    exact wpAny_getItem_heap (room8 hu) ⟨hk.nested I2 _ _ _ rfl, h8⟩ hx hp ⟨v, H2, I2.tok _, e, q⟩
/-- d[x] = v -/
def setN (P : Program) (w : World) (K : PySem.W.Frag) : TSet := fun o i v H Q => ∃ (d a : Addr) (kvs : List (NestedKey × V)) (k : NestedKey), o = .ref d ∧ i = .ref a ∧ DkAt P w K H d kvs ∧ NkV K H k (.ref a) ∧ k.depth ≤ 8 ∧ kvs.length < sizeLine ∧
  ∀ H' : Hp, (∀ b, b ≠ d → H' b = H b) → KeepT K H H' → DkAt P w K H' d (putN kvs k v) → Q H'
theorem keep_dko {P : Program} {w : World} {K : PySem.W.Frag} {H : Hp} {d : Addr} {ys ys' : List NkY} (h : H d = some (DkO P w d ys)) : KeepT K H (upd H d (DkO P w d ys')) := fun a xs hs => by
  rcases hs with hs | hs
  · refine .inl ?_
    rcases hs with hs | ⟨o, hs⟩
    · exact .inl (by rw [upd_ne (ne_of hs h (by intro z; cases z))]; exact hs)
    · exact .inr ⟨o, by rw [upd_ne (ne_of hs h (by intro z; cases z))]; exact hs⟩
  · exact .inr hs
theorem ps_setN (hu : X.A.units + 64 < cLine) : PSet X (setN X.prog X.w X.K) := by
  intro pins s σ H o i v ov iv u Q I ro ri rv h
  obtain ⟨d, a, kvs, k, rfl, rfl, hD, hk, h8, hl, q⟩ := h
  cases ro; cases ri
  obtain ⟨ys, xs, e1, e2, e3, hd, hl2, r, hx⟩ := hD.open I
  have len : ys.length = kvs.length := by rw [← e2, List.length_map]
  refine wpAny_setItem_heap (hsz := by rw [← Paired.length r]; exact hl2) (room8 hu) ⟨hk.nested I _ _ _ rfl, h8⟩ hx fun h' hx' sb => ?_
  obtain ⟨o, es, ep, ho, z1, z2, z3, _, z5⟩ := hx'
  refine ⟨upd H d (DkO X.prog X.w d (putY ys k a v)), I.write (e := d) (t' := s.toks + (knd X).draws k) (by rw [e1]; trivial) (.inl rfl) (fun b o hb hu => (sb.2 b hb).trans hu) ⟨o, ho⟩ (dko_ok hd (by have := putY_len ys k a v; omega) (putY_rel r k a rv) ⟨o, es, ep, ho, z1, z2, z3, z5⟩), ?_⟩
  refine q _ (fun b hb => upd_ne hb) (keep_dko e1) ⟨_, upd_same, by rw [putY_put, e2], fun y hy => ?_⟩
  have mono := keep_dko (K := X.K) (ys' := putY ys k a v) e1
  unfold putY at hy
  split at hy
  · obtain ⟨y', hy', e⟩ := List.mem_map.mp hy
    obtain ⟨n1, n2⟩ := e3 y' hy'
    by_cases c : y'.1 = k
    · rw [if_pos c] at e; subst e; exact ⟨n1.mono mono _ _, n2⟩
    · rw [if_neg c] at e; subst e; exact ⟨n1.mono mono _ _, n2⟩
  · rcases List.mem_append.mp hy with hy | hy
    · exact ⟨(e3 y hy).1.mono mono _ _, (e3 y hy).2⟩
    · cases (List.mem_singleton.mp hy)
      exact ⟨hk.mono mono _ _, h8⟩
/-- {} -/
def tDNewN (P : Program) (w : World) : TE := fun _ H Q => ∀ p, H p = none → Q (.ref p) (upd H p (DkO P w p []))
theorem dko_new {H : Hp} (I : Inv X pins σ H s) : ObjOk X.prog X.w (upd H s.heap.objs.size (DkO X.prog X.w s.heap.objs.size [])) (s.heap.push { cls := .type "dict", data := .dict #[] }) s.heap.objs.size (DkO X.prog X.w s.heap.objs.size []) :=
  dko_ok (beq_eq_false_iff_ne.mpr (Ne.symm (Nat.ne_of_lt I.big))) (Nat.zero_le _) .nil ⟨_, #[], 0, Heap.get?_push_size _ rfl, ⟨rfl, rfl, rfl⟩, rfl, rfl, List.nodup_nil⟩
theorem pe_dnewN {pos : Pos} : PE X (.Dict [] [] pos) (tDNewN X.prog X.w) := ⟨fun pins s σ H Q I h =>
  wpAny_Dict_empty ⟨.ref s.heap.objs.size, _, I.laid (t' := s.toks) (fun _ _ q => Heap.get?_push_of_some _ q) (Nat.le_refl _) (dko_new I), rfl, h _ (I.hok.fresh (Nat.le_refl _))⟩⟩
theorem DkAt.new {P : Program} {w : World} {K : PySem.W.Frag} {H : Hp} {p : Addr} : DkAt P w K (upd H p (DkO P w p [])) p [] := ⟨[], upd_same, rfl, fun y hy => by cases hy⟩
/-- {x: v} -/
def tD1N (P : Program) (w : World) (K : PySem.W.Frag) (tk tv : TE) : TE := fun σ H Q => ∀ p, H p = none → tk σ (upd H p (DkO P w p [])) fun x H1 => tv σ H1 fun v H2 => H2 p = some (DkO P w p []) ∧ ∃ (a : Addr) (k : NestedKey), x = .ref a ∧ NkV K H2 k (.ref a) ∧ k.depth ≤ 8 ∧
  ∀ H' : Hp, (∀ b, b ≠ p → H' b = H2 b) → KeepT K H2 H' → DkAt P w K H' p [(k, v)] → Q (.ref p) H'
theorem pe_d1N {ek ev : Expr} {pos : Pos} {tk tv : TE} (hu : X.A.units + 64 < cLine) (hk : PE X ek tk) (hv : PE X ev tv) : PE X (.Dict [some ek] [ev] pos) (tD1N X.prog X.w X.K tk tv) := by
  refine ⟨fun pins s σ H Q I q => ?_⟩
  have hn := I.hok.fresh (Nat.le_refl s.heap.objs.size)
  have I1 := I.laid (a := s.heap.objs.size) (t' := s.toks) (fun _ _ q => Heap.get?_push_of_some _ q) (Nat.le_refl _) (dko_new I)
  have tr : PPs X pos [some ek] [ev] [(tk, tv)] := pps_cons hk hv pps_nil
  have hq := q _ hn
  let R : List (V × V) → Hp → Prop := fun ps H2 => match ps with
    | [(x, v)] => H2 s.heap.objs.size = some (DkO X.prog X.w s.heap.objs.size []) ∧ ∃ (a : Addr) (k : NestedKey), x = .ref a ∧ NkV X.K H2 k (.ref a) ∧ k.depth ≤ 8 ∧
      ∀ H' : Hp, (∀ b, b ≠ s.heap.objs.size → H' b = H2 b) → KeepT X.K H2 H' → DkAt X.prog X.w X.K H' s.heap.objs.size [(k, v)] → Q (.ref s.heap.objs.size) H'
    | _ => False
  have shape : (evalEachOpt [some ek] X.env).zip ((evalEach [ev] X.env).map fun v => do let x ← v; standAt pos; pure x) = (pairTrees [some ek] [ev] X.env pos).map fun p => (some p.1, p.2) := rfl
  have n0 : pairTrees [some ek] [ev] X.env pos ≠ [] := by intro z; cases z
  have n15 : (pairTrees [some ek] [ev] X.env pos).length ≤ 15 := by show 1 ≤ 15; decide
  rw [arm_eval_Dict, shape, dictDisplay_pairs _ n0 (Nat.lt_of_le_of_lt n15 (by decide))]
  refine wpAny_bind (wpAny_standAt (wpAny_bind (wpAny_subDictH (knd := knd X) (by show X.A.units + 8 < cLine; omega) n15 (thn (tr.run pins _ σ _ R I1 hq) ?_))))
  rintro ws s2 ⟨ps, H2, I2, rel, hR⟩
  match ps, rel, hR with
  | [(x, v)], rel, ⟨e1, a, k, ex, hk2, h8, q2⟩ =>
    subst ex
    cases rel with
    | @cons _ y _ ws r rs =>
    cases rs
    obtain ⟨y1, y2⟩ := y
    obtain ⟨r1, r2⟩ := r
    cases (show y1 = Value.ref a from r1)
    have hD : DkAt X.prog X.w X.K H2 s.heap.objs.size [] := ⟨[], e1, rfl, fun y hy => by cases hy⟩
    obtain ⟨ys, xs, z1, z2, _, hd, _, rr, hx⟩ := hD.open I2
    cases ys with
    | cons y ys => cases z2
    | nil =>
      cases rr
      refine ⟨[(k, a, y2)], ⟨rfl, rfl, ⟨hk2.nested I2 _ _ _ rfl, h8⟩, trivial⟩, hx, fun h' tk hx' sb => wpAny_pure ?_⟩
      obtain ⟨o, es, ep, ho, w1, w2, w3, _, w5⟩ := hx'
      have kt := keep_dko (K := X.K) (ys' := [(k, a, v)]) e1
      refine ⟨.ref s.heap.objs.size, upd H2 s.heap.objs.size (DkO X.prog X.w s.heap.objs.size [(k, a, v)]), I2.write (e := s.heap.objs.size) (t' := tk) (by rw [e1]; trivial) (.inl rfl) (fun b o hb hu => (sb.2 b hb).trans hu) ⟨o, ho⟩ (dko_ok (xs := [(k, a, y2)]) hd (by show 1 ≤ sizeLine; decide) (.cons ⟨rfl, rfl, r2⟩ .nil) ⟨o, es, ep, ho, w1, w2, w3, w5⟩), rfl, ?_⟩
      refine q2 _ (fun b hb => upd_ne hb) kt ⟨_, upd_same, rfl, fun y hy => ?_⟩
      cases (List.mem_singleton.mp hy)
      exact ⟨hk2.mono kt _ _, h8⟩
end
end Pr

/-! ### data that the module's top made, as it stands in the written part -/
namespace Pr
open PySem PySem.Spec PyProof.Rows L2
def allB {α β : Type} (f : α → β → Bool) : List α → List β → Bool
  | [], [] => true
  | a :: as, b :: bs => f a b && allB f as bs
  | _, _ => false
/-- the value v is the datum d, n levels deep -/
def datB (K : PySem.W.Frag) : Nat → PyData → Value → Bool
  | 0, _, _ => false
  | n + 1, d, v => match d, v with
    | .none, .none => true
    | .bool b, .bool c => b == c
    | .int i, .int j _ => decide (i = j)
    | .str x, .str y _ => decide (x = y)
    | .tuple ds, .ref a => match K.lookup a with
      | some ⟨.type "tuple", _, .seq its _, _⟩ => decide (its.size ≤ 100) && allB (datB K n) ds its.toList
      | _ => false
    | _, _ => false
theorem allB_dp {K : PySem.W.Frag} {H : Hp} {f : PyData → Value → Bool} (hf : ∀ d v, f d v = true → ∃ x, RelV x v ∧ Dp K H x d) : ∀ (ds : List PyData) (vs : List Value), allB f ds vs = true → ∃ xs, Vals xs vs ∧ DpAll K H xs ds
  | [], [], _ => ⟨[], .nil, .nil⟩
  | d :: ds, v :: vs, h => by
    obtain ⟨h1, h2⟩ := He.ba h
    obtain ⟨x, r, p⟩ := hf d v h1
    obtain ⟨xs, rs, ps⟩ := allB_dp hf ds vs h2
    exact ⟨x :: xs, .cons r rs, .cons p ps⟩
  | [], _ :: _, h => by cases h
  | _ :: _, [], h => by cases h
theorem datB_dp {K : PySem.W.Frag} {H : Hp} : ∀ (n : Nat) (d : PyData) (v : Value), datB K n d v = true → ∃ x, RelV x v ∧ Dp K H x d
  | 0, _, _, h => by cases h
  | n + 1, d, v, h => by
    unfold datB at h
    split at h
    · exact ⟨.non, rfl, .non⟩
    · rename_i b c
      have e : b = c := eq_of_beq h
      subst e
      exact ⟨.bl b, rfl, .bl b⟩
    · rename_i i j t
      have e := of_decide_eq_true h
      subst e
      exact ⟨.int i, ⟨_, rfl⟩, .int i⟩
    · rename_i x y t
      have e := of_decide_eq_true h
      subst e
      exact ⟨.str x, ⟨_, rfl⟩, .str x⟩
    · rename_i ds a
      split at h
      · rename_i dd its n2 sl ho
        obtain ⟨h1, h2⟩ := He.ba h
        obtain ⟨xs, r, p⟩ := allB_dp (datB_dp n) ds its.toList h2
        have h3 := of_decide_eq_true h1
        exact ⟨.ref a, rfl, .tup (.inr ⟨_, its, n2, ho, rfl, rfl, Nat.le_trans h3 (by decide), r⟩) p⟩
      · cases h
    · cases h
theorem datB_ok {K : PySem.W.Frag} {n : Nat} {d : PyData} {a : Addr} (h : datB K n d (.ref a) = true) : ∀ H : Hp, Dp K H (.ref a) d := fun H => by
  obtain ⟨x, r, p⟩ := datB_dp (H := H) n d _ h
  cases x with
  | ref b => cases r; exact p
  | non => cases r
  | bl _ => cases r
  | int _ => obtain ⟨_, e⟩ := r; cases e
  | str _ => obtain ⟨_, e⟩ := r; cases e
  | byt _ => obtain ⟨_, e⟩ := r; cases e
  | flt _ => obtain ⟨_, e⟩ := r; cases e
  | ty _ => cases r
theorem dp_strs {K : PySem.W.Frag} {H : Hp} : ∀ (xs : List Str) (vs : List V), DpAll K H vs (xs.map PyData.str) → vs = xs.map V.str
  | [], _, h => by cases h; rfl
  | x :: xs, _, h => by
    cases h with
    | cons h1 h2 =>
      cases h1
      rw [dp_strs xs _ h2] <;> rfl
theorem dp_strT {K : PySem.W.Frag} {H : Hp} {a : Addr} (xs : List Str) (h : Dp K H (.ref a) (.tuple (xs.map PyData.str))) : SqT K H a (xs.map V.str) := by
  cases h with
  | tup h1 h2 => rw [← dp_strs xs _ h2]; exact h1
end Pr

/-! ### rules within a comprehension: the written part told by its name -/
namespace Pr
open PySem PySem.Spec PyProof.Rows L2
section
variable {X : Cx} {K : PySem.W.Frag}
theorem ix_listK (h : X.K = K) : IxR X (rIxL K) := h ▸ ix_list
theorem ix_tupK (h : X.K = K) : IxR X (rIxT K) := h ▸ ix_tup
def rListOf (K : PySem.W.Frag) : List V → Hp → VK → Prop := fun xs H Q => ∃ p ys, xs = [.ref p] ∧ (SqL K H p ys ∨ SqT K H p ys) ∧ ∀ l, H l = none → Q (.ref l) (upd H l (.lst ys))
def rTupOf (K : PySem.W.Frag) : List V → Hp → VK → Prop := fun xs H Q => ∃ p ys, xs = [.ref p] ∧ ((SqL K H p ys ∧ ∀ l, H l = none → Q (.ref l) (upd H l (.tup ys))) ∨ (SqT K H p ys ∧ Q (.ref p) H))
theorem call_list_ofK (h : X.K = K) : CallR X (.type "list") (rListOf K) := by subst h; exact call_list_of
theorem call_tuple_ofK (h : X.K = K) : CallR X (.type "tuple") (rTupOf K) := by subst h; exact call_tuple_of
theorem op_eqPK (h : X.K = K) (hu : X.A.units + 64 < cLine) : OpR X (compareOp .Eq) (rEqP K) := by subst h; exact op_eqP hu
theorem op_nePK (h : X.K = K) (hu : X.A.units + 64 < cLine) : OpR X (compareOp .NotEq) (rNeP K) := by subst h; exact op_neP hu
theorem call_isiK (h : X.K = K) : CallR X (.builtin "isinstance") (rIsi K) := by subst h; exact call_isi
/-- what is walked is a list or a tuple -/
def iSeq (K : PySem.W.Frag) (tl : TE) : TI := fun σ H R => tl σ H fun x H1 => ∃ a, x = .ref a ∧ (((∃ xs, SqL K H1 a xs) ∧ R (Itl K a) H1) ∨ ((∃ xs, SqT K H1 a xs) ∧ R (Itt K a) H1))
theorem pi_seq {tg l : Expr} {tl : TE} (hl : PE X l tl) : PI X tg l (iSeq X.K tl) := ⟨fun pins s σ H R I h => thn (hl.run pins s σ H _ I h) fun v s1 ⟨x, H1, I1, r1, a, e, q⟩ => by
  subst e; cases r1
  have new : ∀ b ∈ [s1.heap.objs.size], FpOk X pins H1 b := fun b hb => by rw [List.mem_singleton.mp hb]; exact I1.fpOk (Nat.le_refl _) (I1.hok.fresh (Nat.le_refl _))
  rcases q with ⟨⟨xs, hq⟩, q⟩ | ⟨⟨xs, hq⟩, q⟩
  · obtain ⟨its, rv, p, hz⟩ := I1.list hq
    exact wpAny_pyIter_list p.isList ⟨_, _, _, _, H1, rfl, I1.kept (t' := s1.toks) fun b o e => Heap.get?_push_of_some _ e, turn_list a _, ⟨_, Heap.get?_push_size _ rfl, rfl, rfl⟩, new, q⟩
  · obtain ⟨its, rv, p, hz⟩ := I1.tuple hq
    exact wpAny_pyIter_tuple (show s1.heap.IsTuple a its.toArray from p) ⟨_, _, _, _, H1, rfl, I1.kept (t' := s1.toks) fun b o e => Heap.get?_push_of_some _ e, turn_tuple a _, ⟨_, Heap.get?_push_size _ rfl, rfl, rfl⟩, new, q⟩⟩
end
end Pr
namespace Pr
open PySem PySem.Spec PyProof.Rows L2
section
variable {X : Cx}
theorem ip_add_str : PIp X .Add (fun x y H Q => ∃ i j, x = .str i ∧ y = .str j ∧ i.length + j.length ≤ sizeLine ∧ Q (.str (i ++ j)) H) := fun pins s σ H x y v u Q I rx ry h => iop_add_str pins s σ H x y v u Q I rx ry h
end
end Pr

/-! ### own errors over an own error class -/
namespace Pr
open PySem PySem.Spec PyProof.Rows L2
section
variable {X : Cx} {e : Expr} {es : List Expr} {ta : TA} {p1 p2 pos : Pos} {x : Str} {B : Addr}
/-- what the class at B says of its own __init__: it has none, the built-in one is found -/
structure BInit (K : PySem.W.Frag) (B : Addr) : Prop where
  hs : PySem.W.specialIn K (.ref B) "__getattribute__" = some (some (.builtin "type.__getattribute__"))
  rd : PySem.W.readsIn K B (.type "type") = true
  fi : PySem.W.findCls K (.ref B) (.type "type") "__init__" = some (.val (.builtin "ValueError.__init__"))
def binitB (K : PySem.W.Frag) (x : Str) : Bool := He.eqO (PySem.W.specialIn K (.ref (He.ga K x)) "__getattribute__") (some (some (.builtin "type.__getattribute__"))) && (PySem.W.readsIn K (He.ga K x) (.type "type") &&
  (match PySem.W.findCls K (.ref (He.ga K x)) (.type "type") "__init__" with | some (.val (.builtin z)) => decide (z = "ValueError.__init__") | _ => false))
theorem binitB_ok {K : PySem.W.Frag} {x : Str} (h : binitB K x = true) : BInit K (He.ga K x) := by
  obtain ⟨h1, h⟩ := He.ba h
  obtain ⟨h2, h3⟩ := He.ba h
  refine ⟨He.eqO_ok h1, h2, ?_⟩
  split at h3
  · rename_i z hz
    rw [hz, of_decide_eq_true h3]
  · cases h3
theorem pe_binit {pl : Sem Bool} (hg : Gl X x) (hm : X.mg x = some (.ref B)) (T : BInit X.K B) (ha : PA X (e :: es) ta) (hdb : (x == ("__debug__" : Str)) = false := by decide)
    (hc : eval (.Call (.Attribute (.Name x p1) "__init__" p2) (e :: es) [] pos) X.env = (do
      let cv ← eval (.Name x p1) X.env
      standAt p2.atName
      let (g, fst) ← holding [cv] (getMethod cv "__init__" pl)
      callWith pos g fst (backTo pos (starEach (e :: es) X.env)) (backToKw pos (keywordEach [] X.env))) := by rfl)
    (hse : starEach (e :: es) X.env = (false, eval e X.env) :: starEach es X.env := by rfl) (hno : (backTo pos (starEach es X.env)).any (·.1) = false := by rfl) :
    PE X (.Call (.Attribute (.Name x p1) "__init__" p2) (e :: es) [] pos) (tVeI X.K ta) := ⟨fun pins s σ H Q I h => by
  refine PySem.W.methodCall_KW (ld_glob I hg hm ?m1 hdb) hc
  case m1 =>
    refine PySem.W.method_cls I.kIn T.hs (PySem.W.cls_value I.kIn T.rd T.fi (by decide +kernel) ?m2)
    case m2 =>
      show wpAny _ _ (callWith pos (Value.builtin "ValueError.__init__") [] (backTo pos (starEach (e :: es) X.env)) []) _ _ _
      refine PyProof.Rows.callWith_method1 (thn (ha.run pos pins _ σ H _ (I.tok _) h) fun us t ht => ?m3) hse hno
      case m3 =>
        obtain ⟨vs, H1, J, rel, a, C, ws, rfl, hl, TC, ea, q⟩ := ht
        cases rel with
        | @cons _ u0 _ ur r0 rr =>
          cases (show u0 = Value.ref a from r0)
          have el : ur.length ≤ sizeLine := by
            have := Paired.length rr
            rw [← this, sizeLine_eq]
            omega
          exact oinit_ok TC J ea el fun t' J' => ⟨.non, H1, J', rfl, q⟩⟩
end
/-- what the written part says of an own error class with fields -/
structure OwnE (K : PySem.W.Frag) (C : Addr) : Prop where
  o : OexC K C
  x : XfC K C
  c : (PySem.W.clsIn K C).isSome = true
  ha : PySem.W.findIn K (.ref C) "__class__" = some (some (.builtin "object.__class__"))
  hn : PySem.W.specialIn K (.builtin "object.__class__") "__get__" = some (some (.builtin "getset_descriptor.__get__"))
  ht : PySem.W.takesIn K (.builtin "object.__class__") = some true
  hm : PySem.W.mroIn K C (.type "object") = some true
def oexB (K : PySem.W.Frag) (C : Addr) : Bool := match K.lookup C with
  | some ⟨.type "type", _, .cls cd, sl⟩ => (match cd.mro, sl.toList with
    | .ref C' :: bm, [_, _, _, _, some (.builtin n), _] => decide (C' = C) && (decide (n = "ValueError.__new__") && (decide (cd.hasDel = false) && (decide (cd.hasDict = true) && PySem.HandSPX.refsVE bm)))
    | _, _ => false)
  | _ => false
theorem oexB_ok {K : PySem.W.Frag} {C : Addr} (h : oexB K C = true) : ∃ nm q N bs bm sn sub ab col dd k0 k1 k2 k3 k5, K.lookup C = some (excClassObj nm q C N bs bm true sn sub ab col dd k0 k1 k2 k3 k5 "ValueError.__new__") ∧ PySem.HandSPX.refsVE bm = true := by
  unfold oexB at h
  split at h
  · rename_i dd cd sl ho
    split at h
    · rename_i C' bm k0 k1 k2 k3 n k5 hm hs
      obtain ⟨z1, h⟩ := He.ba h
      obtain ⟨z2, h⟩ := He.ba h
      obtain ⟨z3, h⟩ := He.ba h
      obtain ⟨z4, z5⟩ := He.ba h
      have y1 := of_decide_eq_true z1
      have y2 := of_decide_eq_true z2
      have y3 := of_decide_eq_true z3
      have y4 := of_decide_eq_true z4
      obtain ⟨nm, bs, mro, N, q, hd, sn, sub, ab, col, del⟩ := cd
      dsimp only at hm y3 y4
      subst hm y1 y2 y3 y4
      have es : sl = #[k0, k1, k2, k3, some (.builtin "ValueError.__new__"), k5] := by
        rw [← hs]
      rw [es] at ho
      exact ⟨nm, q, N, bs, bm, sn, sub, ab, col, dd, k0, k1, k2, k3, k5, ho, z5⟩
    · cases h
  · cases h
def ownEB (K : PySem.W.Frag) (x : Str) : Bool := oexB K (He.ga K x) && (He.eqO (PySem.W.findIn K (.ref (He.ga K x)) "__setattr__") (some (some (.builtin "object.__setattr__"))) && (decide (PySem.W.subIn K (.ref (He.ga K x)) (.type "BaseException") = some true) &&
  (decide (PySem.W.typeIn K (.ref (He.ga K x)) = some (.type "type")) && (PySem.W.keepIn K (.ref (He.ga K x)) && (xfB K (He.ga K x) && ((PySem.W.clsIn K (He.ga K x)).isSome && (He.eqO (PySem.W.findIn K (.ref (He.ga K x)) "__class__") (some (some (.builtin "object.__class__"))) &&
  (He.eqO (PySem.W.specialIn K (.builtin "object.__class__") "__get__") (some (some (.builtin "getset_descriptor.__get__"))) && (decide (PySem.W.takesIn K (.builtin "object.__class__") = some true) && decide (PySem.W.mroIn K (He.ga K x) (.type "object") = some true))))))))))
theorem ownEB_ok {K : PySem.W.Frag} {x : Str} (h : ownEB K x = true) : OwnE K (He.ga K x) := by
  obtain ⟨h1, h⟩ := He.ba h
  obtain ⟨h2, h⟩ := He.ba h
  obtain ⟨h3, h⟩ := He.ba h
  obtain ⟨h4, h⟩ := He.ba h
  obtain ⟨h5, h⟩ := He.ba h
  obtain ⟨h6, h⟩ := He.ba h
  obtain ⟨h7, h⟩ := He.ba h
  obtain ⟨h8, h⟩ := He.ba h
  obtain ⟨h9, h⟩ := He.ba h
  obtain ⟨h10, h11⟩ := He.ba h
  exact ⟨⟨oexB_ok h1, He.eqO_ok h2, of_decide_eq_true h3, of_decide_eq_true h4, h5⟩, xfB_ok h6, h7, He.eqO_ok h8, He.eqO_ok h9, of_decide_eq_true h10, of_decide_eq_true h11⟩
/-- isinstance(e, c), e the exception that the suite holds, its class D, with its fields -/
def rIsX (D a : Addr) (K : PySem.W.Frag) (cls : Value) (d : Option Addr) : List V → Hp → VK → Prop := fun xs H Q => ∃ (c : V) (cv : Value) (b : Bool) (dd : Addr) (fs : List (Str × V)), xs = [.ref a, c] ∧ (∀ u, RelV c u → u = cv) ∧ cls = .ref D ∧ d = some dd ∧ H dd = some (.xd fs) ∧ PySem.W.kitOne K (.ref D) cv = some b ∧ Q (.bl b) H
theorem call_isX {X : Cx} {a D : Addr} {oe : Obj} {cls : Value} {d : Option Addr} {pn : List (Addr × Obj)} (C : OwnE X.K D) (hz : Zc cls d oe) (hf : ∃ vs, oe.data = .fields vs) : CallR (X.suite a ((a, oe) :: pn)) (.builtin "isinstance") (rIsX D a X.K cls d) := by
  intro pins s σ H xs us Q I r h
  obtain ⟨c, cv, b, dd, fs, rfl, hcv, rfl, rfl, hdd, e, q⟩ := h
  cases r with
  | cons rx rr =>
    cases rr with
    | cons rt rr =>
      cases rr
      cases rx
      have ec := hcv _ rt
      subst ec
      obtain ⟨hget, _⟩ := I.pin (a, oe) (List.mem_append.mpr (.inl List.mem_cons_self))
      obtain ⟨vs, hv⟩ := hf
      have hx : ObjOk X.prog X.w H s.heap dd (.xd fs) := I.hok dd _ hdd
      obtain ⟨mA, hns, _⟩ := hx
      obtain ⟨od, ho, _⟩ := lookIn_ns hns
      have J : PySem.W.InstAt s.heap a oe D (some od) := ⟨hget, hz.1, by unfold PySem.W.notCls; rw [hv] <;> rfl, by rw [hz.2]; exact ho⟩
      exact PySem.W.kia_one (PySem.W.kitx_exc C.c C.x.ga C.x.gg C.x.exC C.ha C.hn C.ht C.hm) I.kIn J e (fun z => nomatch z) fun tk => ⟨.bl b, H, I.kept (t' := tk) fun _ _ z => z, rfl, q⟩
/-- an own class of errors with its own __init__ -/
structure MakE (K : PySem.W.Frag) (mg : Str → Option Value) (x : Str) (C : Addr) (q : Str) (st : Stmt) (ps : List Str) : Prop where
  ex : ∃ (f : Addr) (fd : FuncData), FnP K "__init__" q st f fd ∧ PySem.W.findIn K (.ref C) "__init__" = some (some (.ref f)) ∧ PySem.W.typeIn K (.ref f) = some (.type "function") ∧ mg x = some (.ref C) ∧ Binds K fd ps []
def mkeB (K : PySem.W.Frag) (x : Str) : Bool := He.eqO (PySem.W.findIn K (.ref (He.ga K x)) "__init__") (some (some (.ref (He.fAd K (x, some "__init__"))))) && decide (PySem.W.typeIn K (.ref (He.fAd K (x, some "__init__"))) = some (.type "function"))
theorem makE_of {K : PySem.W.Frag} {h : Heap} {mg : Str → Option Value} {x q : Str} {st : Stmt} {ps : List Str} (X : K.In h) (G : h.Ns mainGlobals mg) (c0 : (He.Fa.glo x).ok K = true)
    (F : ∃ fd, FnP K "__init__" q st (He.fAd K (x, some "__init__")) fd)
    (b : ∀ (kV doc pm : Value) (an : Option Addr) (cdv ct : Value) (us : List Value), us.length = ps.length → bindArgs (PySem.W.fnOf "__init__" q (defArgs st) (defBody st) (defScope st) .none kV doc pm an cdv ct) ⟨us, []⟩ = pure (ps.zip us)) (c2 : mkeB K x = true) : MakE K mg x (He.ga K x) q st ps := by
  obtain ⟨fd, F⟩ := F
  obtain ⟨h1, h2⟩ := He.ba c2
  exact ⟨_, fd, F, He.eqO_ok h1, of_decide_eq_true h2, He.glo_ok X G c0, F.bindsN b⟩
section
variable {P : Program} {w : World} {K : PySem.W.Frag} {mg : Str → Option Value} {base : Heap} {x q : Str} {C : Addr} {st : Stmt} {N ps : List Str} {k : Nat} {sp : Sp}
/-- the promise of a def that may let errors out -/
structure CalE (P : Program) (w : World) (K : PySem.W.Frag) (mg : Str → Option Value) (base : Heap) (k : Nat) (x : Str) (sp : Sp) : Prop where
  ex : ∃ (f : Addr) (fd : FuncData) (ps : List Str), FnOk P w K mg base (L2.CX P w) k f fd ps sp ∧ mg x = some (.ref f) ∧ PySem.W.keepIn K (.ref f) = true ∧ Binds K fd ps []
/-- the promise of an error's own __init__ -/
structure MakC (P : Program) (w : World) (K : PySem.W.Frag) (mg : Str → Option Value) (base : Heap) (k : Nat) (x : Str) (C : Addr) (sp : Sp) : Prop where
  ex : ∃ (f : Addr) (fd : FuncData) (ps : List Str), FnOk P w K mg base (L2.CX P w) k f fd ps sp ∧ PySem.W.findIn K (.ref C) "__init__" = some (some (.ref f)) ∧ PySem.W.typeIn K (.ref f) = some (.type "function") ∧ mg x = some (.ref C) ∧ Binds K fd ps []
theorem e_mk (D : DefAt K mg x st ps) (S : FnScope N ps (defScope st)) (len : ∀ vs H Q E, sp vs H Q E → vs.length = ps.length)
    (hbody : ∀ (f : Addr) (cdv : Value) (A : Around) (outer : List Env) (s : Shared) (H : Hp) (vs : List V) (Q : VK) (E : XK), Room k (A.deeper (envOfC x (defScope st) s.heap.objs.size f cdv)) → sp vs H Q E →
      ∃ t, PSs (cxOf (L2.CX P w) P w K mg base N x (defScope st) f cdv A outer s H E) (defBody st) t ∧ t { nx := fun _ H' => Q .non H', rt := Q } (start N vs) H) : CalE P w K mg base (k + 1) x sp := by
  obtain ⟨f, fd, F, hm, hb⟩ := D.ex
  exact ⟨f, fd, ps, F.ok S len (fun cdv A outer s H vs Q E hr hs => hbody f cdv A outer s H vs Q E hr hs), hm, F.kp, hb⟩
theorem e_mak (D : MakE K mg x C q st ps) (S : FnScope N ps (defScope st)) (len : ∀ vs H Q E, sp vs H Q E → vs.length = ps.length)
    (hbody : ∀ (f : Addr) (cdv : Value) (A : Around) (outer : List Env) (s : Shared) (H : Hp) (vs : List V) (Q : VK) (E : XK), Room k (A.deeper (envOfC q (defScope st) s.heap.objs.size f cdv)) → sp vs H Q E →
      ∃ t, PSs (cxOf (L2.CX P w) P w K mg base N q (defScope st) f cdv A outer s H E) (defBody st) t ∧ t { nx := fun _ H' => Q .non H', rt := Q } (start N vs) H) : MakC P w K mg base (k + 1) x C sp := by
  obtain ⟨f, fd, F, h1, h2, hm, hb⟩ := D.ex
  exact ⟨f, fd, ps, F.ok S len (fun cdv A outer s H vs Q E hr hs => hbody f cdv A outer s H vs Q E hr hs), h1, h2, hm, hb⟩
end
section
variable {X : Cx} {k j : Nat} {C : Addr} {x : Str} {sp : Sp} {e : Expr} {es : List Expr} {ta : TA} {p pos : Pos} {W : WX}
/-- raise C(e, ..) -/
theorem pmk_E (c : MakC X.prog X.w X.K X.mg X.base k x C sp) (T : OwnE X.K C) (hr : Room j X.A) (hk : k + 1 ≤ j) (tk : Takes X W) (hg : Gl X x) (ha : PA X (e :: es) ta)
    (hdb : (x == ("__debug__" : Str)) = false := by decide) (he : starEach (e :: es) X.env = (false, eval e X.env) :: starEach es X.env := by rfl) (hpl : (backTo pos (starEach es X.env)).any (·.1) = false := by rfl) :
    PMk X (.Call (.Name x p) (e :: es) [] pos) (tMkO C sp [] ta) := by
  obtain ⟨f, fd, ps, F, h1, h2, hm, hb⟩ := c.ex
  exact pmk_oex T.o h1 h2 F (hr.mono hk) hb .nil (passes_call tk (fun _ _ _ _ z => z.elim)) hg hm ha hdb he hpl
/-- a call that may let errors out -/
theorem pe_cE (c : CalE X.prog X.w X.K X.mg X.base k x sp) (hr : Room j X.A) (hk : k ≤ j) (tk : Takes X W) (hg : Gl X x) (ha : PA X (e :: es) ta)
    (hdb : (x == ("__debug__" : Str)) = false := by decide) (he : starEach (e :: es) X.env = (false, eval e X.env) :: starEach es X.env := by rfl) (hpl : (backTo pos (starEach es X.env)).any (·.1) = false := by rfl) :
    PE X (.Call (.Name x p) (e :: es) [] pos) (tCallS sp (WE W) ta) := by
  obtain ⟨f, fd, ps, F, hm, kp, hb⟩ := c.ex
  exact pe_callS F (hr.mono hk) hg hm kp hb (passAt tk) ha hdb he hpl
/-- in a def that lets nothing out -/
theorem takes_nox : Takes X.nox (fun _ _ _ _ => False) := fun u s' x => by
  obtain ⟨a, B, sI, pins, σ, H, cls, d, _, _, _, _, _, _, _, _, z⟩ := x
  exact z.elim
end
end Pr

namespace K24
open PySem PySem.Spec PyProof.Rows L2 Pr
/-! ### lives of entries, plain -/
inductive Ev where
  | L | G | H | R | F | D
  deriving DecidableEq
def Ev.cp : Ev → Nat
  | .L => 76 | .G => 71 | .H => 72 | .R => 82 | .F => 70 | .D => 68
def Ev.str (e : Ev) : Str := ⟨#[e.cp]⟩
def Ev.ix : Ev → Nat
  | .L => 0 | .G => 1 | .H => 2 | .R => 3 | .F => 4 | .D => 5
def Ev.all : List Ev := [.L, .G, .H, .R, .F, .D]
inductive Sta where
  | shut | opn | free
  deriving DecidableEq
def Sta.str : Sta → Str
  | .shut => "shut" | .opn => "open" | .free => "free"
def Sta.code : Sta → Nat
  | .shut => 0 | .opn => 1 | .free => 2
structure Node where
  m : Int
  al : Bool
  st : Sta
  deriving DecidableEq
structure RowM where
  mode : Str
  sharing : Str
  lease : Str
  grip : Str
  rule : List (List (Int × Int))
def start : Node := ⟨0, false, .shut⟩
def RuleOk (rule : List (List (Int × Int))) : Prop := 1 ≤ rule.length ∧ rule.length ≤ 4 ∧ ∀ mk ∈ rule, mk.length = 6 ∧ ∀ p ∈ mk, 0 ≤ p.1 ∧ p.1 < (rule.length : Int) ∧ p.2.natAbs ≤ 3
def RowM.pair (R : RowM) (m : Int) (e : Ev) : Int × Int := (R.rule.getD m.toNat []).getD e.ix (0, 0)
def RowM.usable (R : RowM) (n : Node) : Bool := n.al && (decide (R.lease = "always") || decide (n.st ≠ .shut))
def Node.finished (n : Node) : Bool := !n.al && decide (n.st ≠ .opn)
def RowM.can (R : RowM) (n : Node) (e : Ev) (first : Bool) : Bool :=
  if R.mode = "held" then match e with
    | .L => !(decide (R.sharing = "each") && !first)
    | .G => !(decide (R.sharing = "each") && !first) && decide (n.st ≠ .opn)
    | .H => R.usable n
    | .D => n.al
    | _ => decide (n.st = .opn)
  else false
def RowM.evs (R : RowM) (n : Node) (first : Bool) : List Ev := Ev.all.filter fun e => R.can n e first
def evS (es : List Ev) : Str := ⟨(es.map Ev.cp).toArray⟩
def after (n : Node) (e : Ev) : Bool × Sta := match e with
  | .L => (true, if n.st = .shut then .opn else n.st)
  | .G => (true, .free)
  | .R => (n.al, .shut)
  | .F => (n.al, .shut)
  | .D => (false, n.st)
  | .H => (n.al, n.st)
def RowM.step (R : RowM) (n : Node) (e : Ev) : Node × Int := (⟨(R.pair n.m e).1, (after n e).1, (after n e).2⟩, (R.pair n.m e).2)
def RowM.fault (R : RowM) (home : Int) (n : Node) (hold : Int) : Option Str :=
  if hold < 0 then some "overdrawn"
  else if n.finished = true ∧ 0 < hold then some "stays"
  else if R.usable n = true then
    if hold = 0 then some "bare" else if R.grip = "place" ∧ home = 1 then some "moved" else none
  else none
structure QE where
  n : Node
  h : Int
  life : Str
def q0 : QE := ⟨start, 0, ""⟩
/-- the pair stands in the table -/
def seen (q : List QE) (n : Node) (h : Int) : Bool := (q.drop 1).any fun x => decide (x.n = n ∧ x.h = h)
inductive Res where
  | flaw (life what : Str)
  | ok (q : List QE)
def RowM.inner (R : RowM) (home : Int) (x : QE) : List Ev → List QE → Res
  | [], q => .ok q
  | e :: es, q => match R.fault home (R.step x.n e).1 (x.h + (R.step x.n e).2) with
    | some w => .flaw (x.life ++ e.str) w
    | none => if seen q (R.step x.n e).1 (x.h + (R.step x.n e).2) then R.inner home x es q else R.inner home x es (q ++ [⟨(R.step x.n e).1, x.h + (R.step x.n e).2, x.life ++ e.str⟩])
def RowM.outer (R : RowM) (home : Int) (x : QE) (q : List QE) : Res := R.inner home x (R.evs x.n (decide (x.life = ""))) q
inductive Reach (R : RowM) (home : Int) : Nat → List QE → Prop
  | zero : Reach R home 0 [q0]
  | succ {i : Nat} {q q' : List QE} {x : QE} : Reach R home i q → q[i]? = some x → R.outer home x q = .ok q' → Reach R home (i + 1) q'
def FlawR (R : RowM) (home : Int) : Option (Str × Str) → Prop
  | some (life, what) => ∃ i q x, Reach R home i q ∧ q[i]? = some x ∧ R.outer home x q = .flaw life what
  | none => ∃ i q, Reach R home i q ∧ q.length ≤ i
theorem Reach.one {R : RowM} {home : Int} {i : Nat} {q q' : List QE} (h : Reach R home i q) (h' : Reach R home i q') : q = q' := by
  induction h generalizing q' with
  | zero => cases h'; rfl
  | succ h1 h2 h3 ih =>
    cases h' with
    | succ k1 k2 k3 =>
      have e := ih k1
      subst e
      rw [h2] at k2
      cases k2
      rw [h3] at k3
      cases k3
      rfl
theorem Reach.less {R : RowM} {home : Int} {i : Nat} {q : List QE} (h : Reach R home i q) : ∀ j, j < i → ∃ p p' x, Reach R home j p ∧ p[j]? = some x ∧ R.outer home x p = .ok p' := by
  induction h with
  | zero => intro j hj; omega
  | @succ i q q' x h1 h2 h3 ih =>
    intro j hj
    by_cases c : j = i
    · subst c; exact ⟨_, _, _, h1, h2, h3⟩
    · exact ih j (by omega)
theorem FlawR.one {R : RowM} {home : Int} {a b : Option (Str × Str)} (ha : FlawR R home a) (hb : FlawR R home b) : a = b := by
  have no : ∀ {l w : Str}, FlawR R home (some (l, w)) → FlawR R home none → False := by
    rintro l w ⟨i, q, x, h1, h2, h3⟩ ⟨j, p, k1, k2⟩
    rcases Nat.lt_trichotomy i j with c | c | c
    · obtain ⟨q2, q3, y, z1, z2, z3⟩ := k1.less i c
      have e := z1.one h1
      subst e
      rw [h2] at z2; cases z2
      rw [h3] at z3; cases z3
    · subst c
      have e := k1.one h1
      subst e
      rw [List.getElem?_eq_none k2] at h2
      cases h2
    · obtain ⟨q2, q3, y, z1, z2, z3⟩ := h1.less j c
      have e := z1.one k1
      subst e
      rw [List.getElem?_eq_none k2] at z2
      cases z2
  cases a with
  | none =>
    cases b with
    | none => rfl
    | some z => obtain ⟨l, w⟩ := z; exact (no hb ha).elim
  | some z =>
    obtain ⟨l, w⟩ := z
    cases b with
    | none => exact (no ha hb).elim
    | some z' =>
      obtain ⟨l', w'⟩ := z'
      obtain ⟨i, q, x, h1, h2, h3⟩ := ha
      obtain ⟨j, p, y, k1, k2, k3⟩ := hb
      rcases Nat.lt_trichotomy i j with c | c | c
      · obtain ⟨q2, q3, y, z1, z2, z3⟩ := k1.less i c
        have e := z1.one h1
        subst e
        rw [h2] at z2; cases z2
        rw [h3] at z3; cases z3
      · subst c
        have e := k1.one h1
        subst e
        rw [h2] at k2; cases k2
        rw [h3] at k3; cases k3
        rfl
      · obtain ⟨q2, q3, y', z1, z2, z3⟩ := h1.less j c
        have e := z1.one k1
        subst e
        rw [k2] at z2; cases z2
        rw [k3] at z3; cases z3
/-! ### what stands in the queue -/
def Ok1 (R : RowM) (home : Int) (n : Node) (h : Int) : Prop := R.fault home n h = none ∧ 0 ≤ n.m ∧ n.m < (R.rule.length : Int)
/-- a queue: its first pair is the start, the others are unlike and without a fault -/
structure QOk (R : RowM) (home : Int) (q : List QE) : Prop where
  head : q[0]? = some q0
  nd : ((q.drop 1).map fun x => (x.n, x.h)).Nodup
  ok : ∀ x ∈ q.drop 1, Ok1 R home x.n x.h
  len : ∀ (i : Nat) (x : QE), q[i]? = some x → x.life.length ≤ i
theorem pair_ok {R : RowM} (hr : RuleOk R.rule) {m : Int} (h0 : 0 ≤ m) (h1 : m < (R.rule.length : Int)) (e : Ev) : 0 ≤ (R.pair m e).1 ∧ (R.pair m e).1 < (R.rule.length : Int) ∧ (R.pair m e).2.natAbs ≤ 3 := by
  obtain ⟨_, _, h2⟩ := hr
  have hm : m.toNat < R.rule.length := by omega
  have a := h2 _ (List.getElem_mem hm)
  have hx : e.ix < (R.rule[m.toNat]).length := by rw [a.1]; cases e <;> decide
  have b := a.2 _ (List.getElem_mem hx)
  unfold RowM.pair
  rw [List.getD_eq_getElem?_getD, List.getD_eq_getElem?_getD, List.getElem?_eq_getElem hm, Option.getD_some, List.getElem?_eq_getElem hx, Option.getD_some]
  exact b
theorem seen_iff {q : List QE} {n : Node} {h : Int} : seen q n h = true ↔ (n, h) ∈ (q.drop 1).map fun x => (x.n, x.h) := by
  unfold seen
  rw [List.any_eq_true, List.mem_map]
  constructor
  · rintro ⟨x, hx, e⟩
    obtain ⟨e1, e2⟩ := of_decide_eq_true e
    exact ⟨x, hx, by rw [e1, e2]⟩
  · rintro ⟨x, hx, e⟩
    injection e with e1 e2
    exact ⟨x, hx, decide_eq_true ⟨e1, e2⟩⟩
/-- the steps of one pair, done without a flaw -/
structure InnerOk (R : RowM) (home : Int) (x : QE) (es : List Ev) (q q' : List QE) : Prop where
  pre : ∃ r, q' = q ++ r ∧ r.length ≤ es.length ∧ ∀ y ∈ r, ∃ e ∈ es, y = ⟨(R.step x.n e).1, x.h + (R.step x.n e).2, x.life ++ e.str⟩
  qok : QOk R home q'
  all : ∀ e ∈ es, R.fault home (R.step x.n e).1 (x.h + (R.step x.n e).2) = none ∧ ((R.step x.n e).1, x.h + (R.step x.n e).2) ∈ (q'.drop 1).map fun y => (y.n, y.h)
theorem len_app (a : Str) (e : Ev) : (a ++ e.str).length = a.length + 1 := by
  show (a.cps ++ #[e.cp]).size = a.cps.size + 1
  rw [Array.size_append] <;> rfl
theorem inner_ok {R : RowM} {home : Int} (hr : RuleOk R.rule) {x : QE} {i : Nat} (hm0 : 0 ≤ x.n.m) (hm1 : x.n.m < (R.rule.length : Int)) (hx : x.life.length ≤ i) :
    ∀ (es : List Ev) (q q' : List QE), QOk R home q → i < q.length → R.inner home x es q = .ok q' → InnerOk R home x es q q'
  | [], q, q', hq, hi, h => by
    cases h
    exact ⟨⟨[], by simp, Nat.le_refl _, fun y hy => by cases hy⟩, hq, fun e he => by cases he⟩
  | e :: es, q, q', hq, hi, h => by
    unfold RowM.inner at h
    cases hf : R.fault home (R.step x.n e).1 (x.h + (R.step x.n e).2) with
    | some w => rw [hf] at h; cases h
    | none =>
      rw [hf] at h
      simp only at h
      have pk := pair_ok hr hm0 hm1 e
      cases hs : seen q (R.step x.n e).1 (x.h + (R.step x.n e).2) with
      | true =>
        rw [hs, if_pos rfl] at h
        obtain ⟨⟨r, e1, e2, e3⟩, z2, z3⟩ := inner_ok hr hm0 hm1 hx es q q' hq hi h
        refine ⟨⟨r, e1, by rw [List.length_cons]; omega, fun y hy => let ⟨e', a, b⟩ := e3 y hy; ⟨e', List.mem_cons_of_mem _ a, b⟩⟩, z2, fun e' he => ?_⟩
        rcases List.mem_cons.mp he with c | c
        · subst c
          refine ⟨hf, ?_⟩
          have m := seen_iff.mp hs
          rw [e1, List.drop_append_of_le_length (by omega), List.map_append]
          exact List.mem_append_left _ m
        · exact z3 e' c
      | false =>
        rw [hs, if_neg (by decide)] at h
        have hq2 : QOk R home (q ++ [⟨(R.step x.n e).1, x.h + (R.step x.n e).2, x.life ++ e.str⟩]) := by
          obtain ⟨a1, a2, a3, a4⟩ := hq
          have dr : (q ++ [(⟨(R.step x.n e).1, x.h + (R.step x.n e).2, x.life ++ e.str⟩ : QE)]).drop 1 = q.drop 1 ++ [⟨(R.step x.n e).1, x.h + (R.step x.n e).2, x.life ++ e.str⟩] := List.drop_append_of_le_length (by omega)
          refine ⟨by rw [List.getElem?_append_left (by omega)]; exact a1, ?_, ?_, ?_⟩
          · rw [dr, List.map_append, List.nodup_append]
            refine ⟨a2, by simp, fun a ha b hb => ?_⟩
            cases (List.mem_singleton.mp hb)
            intro c
            subst c
            have := seen_iff.mpr ha
            rw [hs] at this
            cases this
          · rw [dr]
            intro y hy
            rcases List.mem_append.mp hy with hy | hy
            · exact a3 y hy
            · cases (List.mem_singleton.mp hy)
              exact ⟨hf, pk.1, pk.2.1⟩
          · intro j y hj
            by_cases c : j < q.length
            · rw [List.getElem?_append_left c] at hj
              exact a4 j y hj
            · have l := (List.getElem?_eq_some_iff.mp hj).1
              rw [List.length_append, List.length_singleton] at l
              have ej : j = q.length := by omega
              subst ej
              rw [List.getElem?_append_right (Nat.le_refl _), Nat.sub_self] at hj
              cases hj
              rw [len_app]
              omega
        obtain ⟨⟨r, e1, e2, e3⟩, z2, z3⟩ := inner_ok hr hm0 hm1 hx es _ q' hq2 (by rw [List.length_append]; omega) h
        refine ⟨⟨⟨(R.step x.n e).1, x.h + (R.step x.n e).2, x.life ++ e.str⟩ :: r, by rw [e1]; simp, by rw [List.length_cons, List.length_cons]; omega, fun y hy => ?_⟩, z2, fun e' he => ?_⟩
        · rcases List.mem_cons.mp hy with c | c
          · exact ⟨e, List.mem_cons_self, c⟩
          · obtain ⟨e', a, b⟩ := e3 y c
            exact ⟨e', List.mem_cons_of_mem _ a, b⟩
        · rcases List.mem_cons.mp he with c | c
          · subst c
            refine ⟨hf, ?_⟩
            rw [e1, List.append_assoc, List.drop_append_of_le_length (by omega), List.map_append]
            exact List.mem_append_right _ (List.mem_append_left _ (List.mem_singleton.mpr rfl))
          · exact z3 e' c
theorem evs_len (R : RowM) (n : Node) (f : Bool) : (R.evs n f).length ≤ 6 := by
  unfold RowM.evs
  exact Nat.le_trans (List.length_filter_le _ _) (Nat.le_refl 6)
theorem QOk.marks {R : RowM} {home : Int} (hr : RuleOk R.rule) {q : List QE} (h : QOk R home q) {i : Nat} {x : QE} (hx : q[i]? = some x) : 0 ≤ x.n.m ∧ x.n.m < (R.rule.length : Int) ∧ R.fault home x.n x.h = none ∨ x = q0 := by
  cases i with
  | zero =>
    rw [h.head] at hx
    cases hx
    exact .inr rfl
  | succ i =>
    have m : x ∈ q.drop 1 := List.mem_of_getElem? (i := i) (by rw [List.getElem?_drop, Nat.add_comm]; exact hx)
    obtain ⟨a, b, c⟩ := h.ok x m
    exact .inl ⟨b, c, a⟩
theorem QOk.mark {R : RowM} {home : Int} (hr : RuleOk R.rule) {q : List QE} (h : QOk R home q) {i : Nat} {x : QE} (hx : q[i]? = some x) : 0 ≤ x.n.m ∧ x.n.m < (R.rule.length : Int) := by
  rcases h.marks hr hx with c | c
  · exact ⟨c.1, c.2.1⟩
  · subst c
    obtain ⟨l, _⟩ := hr
    exact ⟨Int.le_refl 0, by show (0 : Int) < _; omega⟩
theorem Reach.qok {R : RowM} {home : Int} (hr : RuleOk R.rule) {i : Nat} {q : List QE} (h : Reach R home i q) : QOk R home q ∧ q.length ≤ 1 + 6 * i := by
  induction h with
  | zero => exact ⟨⟨rfl, List.nodup_nil, (fun x hx => by cases hx), fun i x hx => by
      cases i with
      | zero => cases hx; exact Nat.zero_le _
      | succ i => cases hx⟩, Nat.le_refl _⟩
  | @succ i q q' x h1 h2 h3 ih =>
    obtain ⟨a, b⟩ := ih
    obtain ⟨m0, m1⟩ := a.mark hr h2
    obtain ⟨⟨r, e1, e2, _⟩, z2, _⟩ := inner_ok hr m0 m1 (a.len i x h2) _ _ _ a (List.getElem?_eq_some_iff.mp h2).1 h3
    have := evs_len R x.n (decide (x.life = ""))
    refine ⟨z2, ?_⟩
    rw [e1, List.length_append]
    omega

/-! ### the queue is short -/
theorem nodup_le : ∀ (n : Nat) (l : List Nat), l.Nodup → (∀ x ∈ l, x < n) → l.length ≤ n
  | 0, l, _, h => by
    cases l with
    | nil => exact Nat.le_refl _
    | cons x l => exact absurd (h x List.mem_cons_self) (Nat.not_lt_zero _)
  | n + 1, l, hd, h => by
    by_cases c : n ∈ l
    · have a := nodup_le n (l.erase n) (hd.erase n) fun x hx => by
        obtain ⟨e1, e2⟩ := (hd.mem_erase_iff).mp hx
        have := h x e2
        omega
      rw [List.length_erase_of_mem c] at a
      omega
    · have a := nodup_le n l hd fun x hx => by
        have := h x hx
        have : x ≠ n := fun e => c (e ▸ hx)
        omega
      omega
theorem Reach.prefix {R : RowM} {home : Int} (hr : RuleOk R.rule) {j : Nat} {p : List QE} (h : Reach R home j p) : ∀ {i : Nat} {q : List QE}, Reach R home i q → i ≤ j → ∃ r, p = q ++ r := by
  induction h with
  | zero =>
    intro i q hq hi
    have : i = 0 := by omega
    subst this
    exact ⟨[], by rw [hq.one .zero]; simp⟩
  | @succ j p p' x h1 h2 h3 ih =>
    intro i q hq hi
    by_cases c : i = j + 1
    · subst c
      exact ⟨[], by rw [hq.one (.succ h1 h2 h3)]; simp⟩
    · obtain ⟨r, e⟩ := ih hq (by omega)
      obtain ⟨a, _⟩ := h1.qok hr
      obtain ⟨m0, m1⟩ := a.mark hr h2
      obtain ⟨⟨r', e1, _, _⟩, _, _⟩ := inner_ok hr m0 m1 (a.len j x h2) _ _ _ a (List.getElem?_eq_some_iff.mp h2).1 h3
      exact ⟨r ++ r', by rw [e1, e]; simp⟩
/-- a pair that was walked: its steps are without a fault and stand in the queue -/
theorem Reach.done {R : RowM} {home : Int} (hr : RuleOk R.rule) {i : Nat} {q : List QE} (h : Reach R home i q) {j : Nat} (hj : j < i) : ∃ (x : QE) (p : List QE), q[j]? = some x ∧ Reach R home (j + 1) p ∧
    ∀ e ∈ R.evs x.n (decide (x.life = "")), R.fault home (R.step x.n e).1 (x.h + (R.step x.n e).2) = none ∧ ∃ (k : Nat) (y : QE), k < p.length ∧ q[k]? = some y ∧ y.n = (R.step x.n e).1 ∧ y.h = x.h + (R.step x.n e).2 := by
  obtain ⟨p, p', x, h1, h2, h3⟩ := h.less j hj
  have h4 : Reach R home (j + 1) p' := .succ h1 h2 h3
  obtain ⟨r, er⟩ := h.prefix hr h4 (by omega)
  obtain ⟨a, _⟩ := h1.qok hr
  obtain ⟨m0, m1⟩ := a.mark hr h2
  obtain ⟨⟨r', e1, _, _⟩, _, al⟩ := inner_ok hr m0 m1 (a.len j x h2) _ _ _ a (List.getElem?_eq_some_iff.mp h2).1 h3
  have hjp : j < p.length := (List.getElem?_eq_some_iff.mp h2).1
  refine ⟨x, p', ?_, h4, fun e he => ?_⟩
  · rw [er, e1, List.append_assoc, List.getElem?_append_left hjp]
    exact h2
  · obtain ⟨f1, f2⟩ := al e he
    refine ⟨f1, ?_⟩
    obtain ⟨y, hy, ey⟩ := List.mem_map.mp f2
    injection ey with ey1 ey2
    obtain ⟨k, hk⟩ := List.mem_iff_getElem?.mp hy
    rw [List.getElem?_drop] at hk
    have hk2 := (List.getElem?_eq_some_iff.mp hk).1
    exact ⟨1 + k, y, hk2, by rw [er, List.getElem?_append_left hk2]; exact hk, ey1, ey2⟩
theorem can_D {R : RowM} (hh : R.mode = "held") {n : Node} {f : Bool} (h : n.al = true) : Ev.D ∈ R.evs n f := by
  unfold RowM.evs
  refine List.mem_filter.mpr ⟨by decide, ?_⟩
  unfold RowM.can
  rw [if_pos hh]
  exact h
theorem can_R {R : RowM} (hh : R.mode = "held") {n : Node} {f : Bool} (h : n.st = .opn) : Ev.R ∈ R.evs n f := by
  unfold RowM.evs
  refine List.mem_filter.mpr ⟨by decide, ?_⟩
  unfold RowM.can
  rw [if_pos hh]
  exact decide_eq_true h
theorem fin_zero {R : RowM} {home : Int} {n : Node} {h : Int} (hf : R.fault home n h = none) (ha : n.al = false) (hs : n.st ≠ .opn) : h = 0 := by
  have fin : n.finished = true := by
    unfold Node.finished
    rw [ha, decide_eq_true hs]
    rfl
  unfold RowM.fault at hf
  by_cases c1 : h < 0
  · rw [if_pos c1] at hf; cases hf
  · rw [if_neg c1] at hf
    by_cases c2 : 0 < h
    · rw [if_pos ⟨fin, c2⟩] at hf; cases hf
    · omega
/-- the hold that a walked pair must have -/
def mustH (R : RowM) (n : Node) : Int :=
  if n.al = true then
    if n.st = .opn then -(R.step n .D).2 - (R.step (R.step n .D).1 .R).2 else -(R.step n .D).2
  else if n.st = .opn then -(R.step n .R).2 else 0
theorem must_at {R : RowM} {home : Int} (hr : RuleOk R.rule) (hh : R.mode = "held") {i : Nat} {q : List QE} (h : Reach R home i q) {j : Nat} {x : QE} (hj : j < i) (hx : q[j]? = some x) (hk : ∀ p, Reach R home (j + 1) p → p.length ≤ i) : x.h = mustH R x.n := by
  obtain ⟨x', p, e1, e2, e3⟩ := h.done hr hj
  rw [hx] at e1
  cases e1
  have hp := hk p e2
  unfold mustH
  by_cases ca : x.n.al = true
  · rw [if_pos ca]
    obtain ⟨f1, k, y, k1, k2, k3, k4⟩ := e3 .D (can_D hh ca)
    by_cases cs : x.n.st = .opn
    · rw [if_pos cs]
      obtain ⟨y', p2, z1, z2, z3⟩ := h.done hr (j := k) (by omega)
      rw [k2] at z1
      cases z1
      have ys : y.n.st = .opn := by rw [k3]; exact cs
      obtain ⟨w1, _⟩ := z3 .R (can_R hh ys)
      have := fin_zero w1 (by rw [k3]; rfl) (by intro z; cases z)
      rw [k3] at this
      omega
    · rw [if_neg cs]
      have := fin_zero f1 rfl cs
      omega
  · rw [if_neg ca]
    have ca' : x.n.al = false := by simpa using ca
    by_cases cs : x.n.st = .opn
    · rw [if_pos cs]
      obtain ⟨f1, _⟩ := e3 .R (can_R hh cs)
      have := fin_zero f1 ca' (by intro z; cases z)
      omega
    · rw [if_neg cs]
      rcases (h.qok hr).1.marks hr hx with c | c
      · exact fin_zero c.2.2 ca' cs
      · subst c
        rfl
def Node.code (n : Node) : Nat := n.m.toNat * 6 + (if n.al = true then 3 else 0) + n.st.code
theorem code_inj {a b : Node} (ha : 0 ≤ a.m) (hb : 0 ≤ b.m) (h : a.code = b.code) : a = b := by
  obtain ⟨m, al, st⟩ := a
  obtain ⟨m', al', st'⟩ := b
  simp only [Node.code] at h ha hb
  have s1 : st.code < 3 := by cases st <;> decide
  have s2 : st'.code < 3 := by cases st' <;> decide
  have e1 : m = m' := by
    split at h <;> split at h <;> omega
  subst e1
  have e2 : al = al' := by
    cases al <;> cases al' <;> first | rfl | (simp at h; omega)
  subst e2
  have e3 : st.code = st'.code := by omega
  have e4 : st = st' := by cases st <;> cases st' <;> first | rfl | cases e3
  rw [e4]
theorem Reach.bound {R : RowM} {home : Int} (hr : RuleOk R.rule) {i : Nat} {q : List QE} (h : Reach R home i q) : i ≤ 156 := by
  by_cases hh : R.mode = "held"
  · rcases Nat.lt_or_ge 156 i with c | c
    · exfalso
      obtain ⟨_, p25, k1, k2, _⟩ := h.done hr (j := 25) (by omega)
      obtain ⟨_, lb⟩ := k2.qok hr
      have small : ∀ j, j ≤ 25 → ∀ p, Reach R home (j + 1) p → p.length ≤ i := fun j hj p hp => by
        obtain ⟨r, er⟩ := k2.prefix hr hp (by omega)
        rw [er, List.length_append] at lb
        omega
      obtain ⟨a, _⟩ := h.qok hr
      have len : 26 ≤ q.length := by
        have := (List.getElem?_eq_some_iff.mp k1).1
        omega
      let l := (q.drop 1).take 25
      have ll : l.length = 25 := by
        show ((q.drop 1).take 25).length = 25
        rw [List.length_take, List.length_drop]
        omega
      have at_l : ∀ x ∈ l, (0 ≤ x.n.m ∧ x.n.m < (R.rule.length : Int)) ∧ x.h = mustH R x.n := fun x hx => by
        obtain ⟨j, hj⟩ := List.mem_iff_getElem?.mp hx
        have jl := (List.getElem?_eq_some_iff.mp hj).1
        rw [ll] at jl
        have e : q[1 + j]? = some x := by
          rw [← List.getElem?_drop]
          rw [List.getElem?_take_of_lt jl] at hj
          exact hj
        exact ⟨a.mark hr e, must_at hr hh h (by omega) e (small (1 + j) (by omega))⟩
      have nd : (l.map fun x => (x.n, x.h)).Nodup := by
        have e : (l.map fun x => (x.n, x.h)) = ((q.drop 1).map fun x => (x.n, x.h)).take 25 := List.map_take ..
        rw [e]
        exact a.nd.sublist (List.take_sublist _ _)
      have nd2 : (l.map fun x => x.n.code).Nodup := by
        rw [List.nodup_iff_pairwise_ne, List.pairwise_map] at nd ⊢
        refine nd.imp_of_mem fun {x y} hx hy ne e => ne ?_
        have e' := code_inj (at_l x hx).1.1 (at_l y hy).1.1 e
        rw [(at_l x hx).2, (at_l y hy).2, e']
      have := nodup_le 24 _ nd2 fun z hz => by
        obtain ⟨x, hx, rfl⟩ := List.mem_map.mp hz
        obtain ⟨⟨m0, m1⟩, _⟩ := at_l x hx
        obtain ⟨_, l4, _⟩ := hr
        have s1 : x.n.st.code < 3 := by cases x.n.st <;> decide
        unfold Node.code
        split <;> omega
      rw [List.length_map, ll] at this
      omega
    · exact c
  · cases h with
    | zero => exact Nat.zero_le _
    | @succ i q _ x h1 h2 h3 =>
      have none : ∀ n f, R.evs n f = [] := fun n f => by
        unfold RowM.evs
        refine List.filter_eq_nil_iff.mpr fun e _ => ?_
        unfold RowM.can
        rw [if_neg hh]
        decide
      have stay : ∀ {j p}, Reach R home j p → p = [q0] := fun {j p} hp => by
        induction hp with
        | zero => rfl
        | succ a b c ih =>
          unfold RowM.outer at c
          rw [none] at c
          cases c
          exact ih
      have e := stay h1
      subst e
      have := (List.getElem?_eq_some_iff.mp h2).1
      rw [List.length_singleton] at this
      omega

/-! ### the first flaw is the least life with a flaw -/
/-- a life's number: shorter lives first, those of one length by the order of events -/
def num : List Ev → Nat → Nat
  | [], a => a
  | e :: es, a => num es (6 * a + (e.ix + 1))
def cpN (c : Nat) : Nat := if c = 76 then 1 else if c = 71 then 2 else if c = 72 then 3 else if c = 82 then 4 else if c = 70 then 5 else 6
def numL : List Nat → Nat → Nat
  | [], a => a
  | c :: cs, a => numL cs (6 * a + cpN c)
def numS (s : Str) : Nat := numL s.cps.toList 0
theorem num_app : ∀ (es fs : List Ev) (a : Nat), num (es ++ fs) a = num fs (num es a)
  | [], _, _ => rfl
  | _ :: es, fs, a => num_app es fs _
theorem numL_app : ∀ (es fs : List Nat) (a : Nat), numL (es ++ fs) a = numL fs (numL es a)
  | [], _, _ => rfl
  | _ :: es, fs, a => numL_app es fs _
theorem cpN_cp (e : Ev) : cpN e.cp = e.ix + 1 := by cases e <;> rfl
theorem ix_lt (e : Ev) : e.ix < 6 := by cases e <;> decide
theorem ix_inj {a b : Ev} (h : a.ix = b.ix) : a = b := by cases a <;> cases b <;> first | rfl | cases h
theorem numL_cp : ∀ (es : List Ev) (a : Nat), numL (es.map Ev.cp) a = num es a
  | [], _ => rfl
  | e :: es, a => by
    show numL (es.map Ev.cp) (6 * a + cpN e.cp) = num es (6 * a + (e.ix + 1))
    rw [cpN_cp]
    exact numL_cp es _
theorem numS_ev (es : List Ev) : numS (evS es) = num es 0 := numL_cp es 0
theorem evS_snoc (es : List Ev) (e : Ev) : evS (es ++ [e]) = evS es ++ e.str := by
  show (⟨((es ++ [e]).map Ev.cp).toArray⟩ : Str) = ⟨(es.map Ev.cp).toArray ++ #[e.cp]⟩
  rw [List.map_append]
  simp
theorem evS_nil_iff {es : List Ev} : evS es = "" ↔ es = [] := by
  constructor
  · intro h
    have h2 : (evS es).cps.size = ("" : Str).cps.size := by rw [h]
    have h3 : ("" : Str).cps.size = 0 := by decide +kernel
    rw [h3] at h2
    have h4 : (es.map Ev.cp).toArray.size = 0 := h2
    rw [List.size_toArray, List.length_map] at h4
    exact List.length_eq_zero_iff.mp h4
  · rintro rfl
    decide +kernel
theorem evS_inj {a b : List Ev} (h : evS a = evS b) : a = b := by
  have h2 : (a.map Ev.cp).toArray = (b.map Ev.cp).toArray := congrArg Str.cps h
  have h3 : a.map Ev.cp = b.map Ev.cp := by simpa using h2
  exact (List.map_inj_right fun x y e => by cases x <;> cases y <;> first | rfl | (exact absurd e (by decide))).mp h3
/-- lives of the plain kind -/
inductive Life (R : RowM) : List Ev → Node → Int → Prop
  | nil : Life R [] start 0
  | snoc {p : List Ev} {n : Node} {h : Int} {e : Ev} : Life R p n h → e ∈ R.evs n (decide (p = [])) → Life R (p ++ [e]) (R.step n e).1 (h + (R.step n e).2)
theorem Life.one {R : RowM} {p : List Ev} {n : Node} {h : Int} (a : Life R p n h) : ∀ {n' : Node} {h' : Int}, Life R p n' h' → n = n' ∧ h = h' := by
  induction a with
  | nil =>
    intro n' h' b
    generalize e : ([] : List Ev) = q at b
    cases b with
    | nil => exact ⟨rfl, rfl⟩
    | snoc => simp at e
  | @snoc p n h e _ _ ih =>
    intro n' h' b
    generalize ee : p ++ [e] = q at b
    cases b with
    | nil => simp at ee
    | @snoc p' n2 h2 e' b1 b2 =>
      obtain ⟨e1, e2⟩ := List.append_inj' ee rfl
      subst e1
      cases e2
      obtain ⟨z1, z2⟩ := ih b1
      subst z1 z2
      exact ⟨rfl, rfl⟩
theorem Life.cut {R : RowM} {p : List Ev} {n : Node} {h : Int} (a : Life R p n h) (hp : p ≠ []) : ∃ p' n' h' e, p = p' ++ [e] ∧ Life R p' n' h' ∧ e ∈ R.evs n' (decide (p' = [])) ∧ n = (R.step n' e).1 ∧ h = h' + (R.step n' e).2 := by
  cases a with
  | nil => exact absurd rfl hp
  | snoc b c => exact ⟨_, _, _, _, rfl, b, c, rfl, rfl⟩
theorem num_snoc (p : List Ev) (e : Ev) : num (p ++ [e]) 0 = 6 * num p 0 + (e.ix + 1) := by rw [num_app]; rfl
/-- the queue with its lives: each entry is a life, in ascending order; of the entries' steps those walked so far stand in it -/
structure Srt (R : RowM) (q : List QE) (top : Nat) : Prop where
  life : ∀ (i : Nat) (x : QE), q[i]? = some x → ∃ p, x.life = evS p ∧ Life R p x.n x.h ∧ num p 0 ≤ top ∧ (p = [] ↔ i = 0)
  asc : ∀ (i j : Nat) (x y : QE), i < j → q[i]? = some x → q[j]? = some y → numS x.life < numS y.life
theorem Srt.up {R : RowM} {q : List QE} {t t' : Nat} (h : Srt R q t) (ht : t ≤ t') : Srt R q t' := ⟨fun i x hx => let ⟨p, a, b, c, d⟩ := h.life i x hx; ⟨p, a, b, Nat.le_trans c ht, d⟩, h.asc⟩
theorem Srt.add {R : RowM} {q : List QE} {t : Nat} (h : Srt R q t) (hq : 1 ≤ q.length) {p : List Ev} {n : Node} {k : Int} (hl : Life R p n k) (hp : p ≠ []) (ht : t < num p 0) : Srt R (q ++ [⟨n, k, evS p⟩]) (num p 0) := by
  have len : ∀ {i : Nat} {x : QE}, (q ++ [(⟨n, k, evS p⟩ : QE)])[i]? = some x → (q[i]? = some x) ∨ (i = q.length ∧ x = ⟨n, k, evS p⟩) := fun {i x} hx => by
    by_cases c : i < q.length
    · rw [List.getElem?_append_left c] at hx
      exact .inl hx
    · have l := (List.getElem?_eq_some_iff.mp hx).1
      rw [List.length_append, List.length_singleton] at l
      have ei : i = q.length := by omega
      subst ei
      rw [List.getElem?_append_right (Nat.le_refl _), Nat.sub_self] at hx
      cases hx
      exact .inr ⟨rfl, rfl⟩
  refine ⟨fun i x hx => ?_, fun i j x y hij hx hy => ?_⟩
  · rcases len hx with hx | ⟨hi, rfl⟩
    · obtain ⟨p', a, b, c, d⟩ := h.life i x hx
      exact ⟨p', a, b, by omega, d⟩
    · exact ⟨p, rfl, hl, Nat.le_refl _, ⟨fun e => absurd e hp, fun e => by omega⟩⟩
  · rcases len hy with hy | ⟨hj, rfl⟩
    · have := (List.getElem?_eq_some_iff.mp hy).1
      rcases len hx with hx | ⟨hi, _⟩
      · exact h.asc i j x y hij hx hy
      · omega
    · rcases len hx with hx | ⟨hi, _⟩
      · obtain ⟨p', a, b, c, d⟩ := h.life i x hx
        show numS x.life < numS (evS p)
        rw [a, numS_ev, numS_ev]
        omega
      · omega
/-- ascending events, as the row lists them -/
theorem evs_pair (R : RowM) (n : Node) (f : Bool) : (R.evs n f).Pairwise fun a b => a.ix < b.ix := by
  unfold RowM.evs
  exact List.Pairwise.filter _ (by decide)
/-- the steps of one pair keep the order -/
theorem inner_srt {R : RowM} {home : Int} {x : QE} {p : List Ev} (hx : x.life = evS p) (hl : Life R p x.n x.h) :
    ∀ (es : List Ev) (t : Nat) (q q' : List QE), 1 ≤ q.length → Srt R q t → (∀ e ∈ es, e ∈ R.evs x.n (decide (p = [])) ∧ t < 6 * num p 0 + (e.ix + 1)) → (es.Pairwise fun a b => a.ix < b.ix) → R.inner home x es q = .ok q' →
      ∃ t', t ≤ t' ∧ t' ≤ max t (6 * num p 0 + 6) ∧ Srt R q' t'
  | [], t, q, q', hq, hs, _, _, h => by
    cases h
    exact ⟨t, Nat.le_refl _, by omega, hs⟩
  | e :: es, t, q, q', hq, hs, he, hp, h => by
    unfold RowM.inner at h
    cases hf : R.fault home (R.step x.n e).1 (x.h + (R.step x.n e).2) with
    | some w => rw [hf] at h; cases h
    | none =>
      rw [hf] at h
      simp only at h
      obtain ⟨h1, h2⟩ := List.pairwise_cons.mp hp
      obtain ⟨e1, e2⟩ := he e List.mem_cons_self
      have le := ix_lt e
      cases hsn : seen q (R.step x.n e).1 (x.h + (R.step x.n e).2) with
      | true =>
        rw [hsn, if_pos rfl] at h
        exact inner_srt hx hl es t q q' hq hs (fun e' he' => he e' (List.mem_cons_of_mem _ he')) h2 h
      | false =>
        rw [hsn, if_neg (by decide)] at h
        have ln : x.life ++ e.str = evS (p ++ [e]) := by rw [hx, evS_snoc]
        rw [ln] at h
        have nn := num_snoc p e
        have z := hs.add hq (.snoc hl e1) (by simp) (by omega)
        obtain ⟨t', a, b, c⟩ := inner_srt hx hl es _ _ q' (by rw [List.length_append]; omega) z (fun e' he' => ⟨(he e' (List.mem_cons_of_mem _ he')).1, by have := h1 e' he'; omega⟩) h2 h
        exact ⟨t', by omega, by omega, c⟩
theorem Reach.srt {R : RowM} {home : Int} (hr : RuleOk R.rule) {i : Nat} {q : List QE} (h : Reach R home i q) : ∃ t, Srt R q t ∧ ∀ x, q[i]? = some x → t < 6 * numS x.life + 1 := by
  induction h with
  | zero =>
    refine ⟨0, ⟨fun i x hx => ?_, fun i j x y hij hx hy => ?_⟩, fun x hx => by omega⟩
    · cases i with
      | zero => cases hx; exact ⟨[], (evS_nil_iff.mpr rfl).symm, .nil, Nat.le_refl _, by simp⟩
      | succ i => cases hx
    · have := (List.getElem?_eq_some_iff.mp hy).1
      simp at this
      omega
  | @succ i q q' x h1 h2 h3 ih =>
    obtain ⟨t, hs, ht⟩ := ih
    obtain ⟨p, a, b, c, d⟩ := hs.life i x h2
    have hq := (List.getElem?_eq_some_iff.mp h2).1
    have t0 := ht x h2
    rw [a, numS_ev] at t0
    have ef : decide (x.life = "") = decide (p = []) := by rw [a]; exact decide_eq_decide.mpr evS_nil_iff
    unfold RowM.outer at h3
    rw [ef] at h3
    obtain ⟨t', u1, u2, u3⟩ := inner_srt a b _ t q q' (by omega) hs (fun e he => ⟨he, by omega⟩) (evs_pair R _ _) h3
    refine ⟨t', u3, fun y hy => ?_⟩
    have hx' : q'[i]? = some x := by
      obtain ⟨a', _⟩ := h1.qok hr
      obtain ⟨m0, m1⟩ := a'.mark hr h2
      have h3' : R.inner home x (R.evs x.n (decide (x.life = ""))) q = .ok q' := by rw [ef]; exact h3
      obtain ⟨⟨r, e1, _, _⟩, _, _⟩ := inner_ok hr m0 m1 (a'.len i x h2) _ _ _ a' hq h3'
      rw [e1, List.getElem?_append_left hq]
      exact h2
    have lt := u3.asc i (i + 1) x y (by omega) hx' hy
    rw [a, numS_ev] at lt
    omega
/-- the steps of one pair up to a flaw -/
theorem inner_flaw_at {R : RowM} {home : Int} {x : QE} {l w : Str} : ∀ (es : List Ev) (q : List QE), R.inner home x es q = .flaw l w →
    ∃ fs e gs q', es = fs ++ e :: gs ∧ R.inner home x fs q = .ok q' ∧ R.fault home (R.step x.n e).1 (x.h + (R.step x.n e).2) = some w ∧ l = x.life ++ e.str
  | [], q, h => by cases h
  | e :: es, q, h => by
    unfold RowM.inner at h
    cases hf : R.fault home (R.step x.n e).1 (x.h + (R.step x.n e).2) with
    | some w' =>
      rw [hf] at h
      cases h
      exact ⟨[], e, es, q, rfl, rfl, hf, rfl⟩
    | none =>
      rw [hf] at h
      simp only at h
      cases hs : seen q (R.step x.n e).1 (x.h + (R.step x.n e).2) with
      | true =>
        rw [hs, if_pos rfl] at h
        obtain ⟨fs, e', gs, q', e1, e2, e3, e4⟩ := inner_flaw_at es _ h
        refine ⟨e :: fs, e', gs, q', by rw [e1]; rfl, ?_, e3, e4⟩
        unfold RowM.inner
        rw [hf]
        simp only
        rw [hs, if_pos rfl]
        exact e2
      | false =>
        rw [hs, if_neg (by decide)] at h
        obtain ⟨fs, e', gs, q', e1, e2, e3, e4⟩ := inner_flaw_at es _ h
        refine ⟨e :: fs, e', gs, q', by rw [e1]; rfl, ?_, e3, e4⟩
        unfold RowM.inner
        rw [hf]
        simp only
        rw [hs, if_neg (by decide)]
        exact e2
/-- all lives below a number: no fault, and the pair stands in the queue under a life not later -/
def Below (R : RowM) (home : Int) (q : List QE) (top : Nat) : Prop := ∀ p n h, Life R p n h → p ≠ [] → num p 0 < top → R.fault home n h = none ∧ ∃ k y, q[k]? = some y ∧ 1 ≤ k ∧ y.n = n ∧ y.h = h ∧ numS y.life ≤ num p 0
theorem below_of {R : RowM} {home : Int} {q : List QE} {top : Nat} (h0 : q[0]? = some q0)
    (hs : ∀ (j : Nat) (x : QE) (p : List Ev) (e : Ev), q[j]? = some x → x.life = evS p → (p = [] ↔ j = 0) → e ∈ R.evs x.n (decide (p = [])) → 6 * num p 0 + (e.ix + 1) < top →
      R.fault home (R.step x.n e).1 (x.h + (R.step x.n e).2) = none ∧ ∃ k y, q[k]? = some y ∧ 1 ≤ k ∧ y.n = (R.step x.n e).1 ∧ y.h = x.h + (R.step x.n e).2 ∧ numS y.life ≤ 6 * num p 0 + (e.ix + 1))
    (hl : ∀ (j : Nat) (x : QE), q[j]? = some x → ∃ p, x.life = evS p ∧ (p = [] ↔ j = 0)) : Below R home q top := by
  intro p n h hp
  induction hp with
  | nil => intro z; exact absurd rfl z
  | @snoc p n h e hp he ih =>
    intro _ hlt
    rw [num_snoc] at hlt ⊢
    by_cases c : p = []
    · subst c
      obtain ⟨rfl, rfl⟩ := hp.one .nil
      obtain ⟨p', a, b⟩ := hl 0 q0 h0
      have hp' := b.mpr rfl
      subst hp'
      exact hs 0 q0 [] e h0 a b he hlt
    · obtain ⟨_, k, y, hy, k1, rfl, rfl, hn⟩ := ih c (by omega)
      obtain ⟨p', a, b⟩ := hl k y hy
      have np' : p' ≠ [] := fun z => by have := b.mp z; omega
      have ed : decide (p = []) = decide (p' = []) := by rw [decide_eq_false c, decide_eq_false np']
      rw [a, numS_ev] at hn
      rw [ed] at he
      obtain ⟨z1, k', y', u1, u2, u3, u4, u5⟩ := hs k y p' e hy a b he (by omega)
      exact ⟨z1, k', y', u1, u2, u3, u4, by omega⟩
/-- what the search found is the least -/
def Least (R : RowM) (home : Int) : Option (Str × Str) → Prop
  | some (l, w) => ∃ p n h, l = evS p ∧ p ≠ [] ∧ p.length ≤ 157 ∧ Life R p n h ∧ R.fault home n h = some w ∧ ∀ p' n' h', Life R p' n' h' → p' ≠ [] → num p' 0 < num p 0 → R.fault home n' h' = none
  | none => ∀ p n h, Life R p n h → p ≠ [] → R.fault home n h = none
theorem inner_cons {R : RowM} {home : Int} {x : QE} {e : Ev} {es : List Ev} {q : List QE} : R.inner home x (e :: es) q = (match R.fault home (R.step x.n e).1 (x.h + (R.step x.n e).2) with
    | some w => .flaw (x.life ++ e.str) w
    | none => if seen q (R.step x.n e).1 (x.h + (R.step x.n e).2) then R.inner home x es q else R.inner home x es (q ++ [⟨(R.step x.n e).1, x.h + (R.step x.n e).2, x.life ++ e.str⟩])) := rfl
theorem inner_split {R : RowM} {home : Int} {x : QE} : ∀ (fs gs : List Ev) (q q' : List QE), R.inner home x (fs ++ gs) q = .ok q' → ∃ q1, R.inner home x fs q = .ok q1 ∧ R.inner home x gs q1 = .ok q'
  | [], gs, q, q', h => ⟨q, rfl, h⟩
  | f :: fs, gs, q, q', h => by
    rw [List.cons_append, inner_cons] at h
    rw [inner_cons]
    cases hf : R.fault home (R.step x.n f).1 (x.h + (R.step x.n f).2) with
    | some w => rw [hf] at h; cases h
    | none =>
      rw [hf] at h
      simp only at h ⊢
      split at h
      · rename_i c; rw [if_pos c]; exact inner_split fs gs _ _ h
      · rename_i c; rw [if_neg c]; exact inner_split fs gs _ _ h
theorem inner_ord {R : RowM} {home : Int} {x : QE} {p : List Ev} (hp : x.life = evS p) (a2 : Life R p x.n x.h) : ∀ (es : List Ev) (t : Nat) (q q' : List QE) (m : Nat), 1 ≤ q.length → Srt R q t → t ≤ m →
    (∀ e ∈ es, e ∈ R.evs x.n (decide (p = [])) ∧ t < 6 * num p 0 + (e.ix + 1) ∧ 6 * num p 0 + (e.ix + 1) ≤ m) → (es.Pairwise fun a b => a.ix < b.ix) → R.inner home x es q = .ok q' → Srt R q' m
  | [], t, q, q', m, _, hs, hm, _, _, h => by cases h; exact hs.up hm
  | e :: es, t, q, q', m, hq, hs, hm, he, hp2, h => by
    rw [inner_cons] at h
    cases hf : R.fault home (R.step x.n e).1 (x.h + (R.step x.n e).2) with
    | some w => rw [hf] at h; cases h
    | none =>
      rw [hf] at h
      simp only at h
      obtain ⟨w1, w2⟩ := List.pairwise_cons.mp hp2
      obtain ⟨v1, v2, v3⟩ := he e List.mem_cons_self
      split at h
      · exact inner_ord hp a2 es t q q' m hq hs hm (fun e2 he2 => he e2 (List.mem_cons_of_mem _ he2)) w2 h
      · have ln : x.life ++ e.str = evS (p ++ [e]) := by rw [hp, evS_snoc]
        rw [ln] at h
        have nn := num_snoc p e
        have z := hs.add hq (.snoc a2 v1) (by simp) (by omega)
        exact inner_ord hp a2 es _ _ q' m (by rw [List.length_append]; omega) z (by omega) (fun e2 he2 => ⟨(he e2 (List.mem_cons_of_mem _ he2)).1, by have := w1 e2 he2; omega, (he e2 (List.mem_cons_of_mem _ he2)).2.2⟩) w2 h
/-- the steps of an entry that were walked have no fault and stand in the queue under a life not later -/
theorem walked {R : RowM} {home : Int} (hr : RuleOk R.rule) {i t : Nat} {q q' : List QE} {x : QE} {p : List Ev} (a : QOk R home q) (hs : Srt R q t) (hx : q[i]? = some x) (hp : x.life = evS p) (t0 : t < 6 * num p 0 + 1) {fs : List Ev}
    (hf : ∀ f ∈ fs, f ∈ R.evs x.n (decide (p = []))) (pw : fs.Pairwise fun a b => a.ix < b.ix) (h : R.inner home x fs q = .ok q') {e : Ev} (he : e ∈ fs) :
    R.fault home (R.step x.n e).1 (x.h + (R.step x.n e).2) = none ∧ ∃ k y, q'[k]? = some y ∧ 1 ≤ k ∧ y.n = (R.step x.n e).1 ∧ y.h = x.h + (R.step x.n e).2 ∧ numS y.life ≤ 6 * num p 0 + (e.ix + 1) := by
  have hl := (List.getElem?_eq_some_iff.mp hx).1
  obtain ⟨m0, m1⟩ := a.mark hr hx
  obtain ⟨p', a1, a2, a3, a4⟩ := hs.life i x hx
  have epp : p' = p := evS_inj (by rw [← a1, hp])
  subst epp
  obtain ⟨as, bs, ee⟩ := List.append_of_mem he
  subst ee
  have e2 : as ++ e :: bs = (as ++ [e]) ++ bs := by simp
  rw [e2] at h pw
  obtain ⟨q3, h5, h6⟩ := inner_split _ _ _ _ h
  obtain ⟨pw1, _, _⟩ := List.pairwise_append.mp pw
  have S3 := inner_ord hp a2 (as ++ [e]) t q q3 (6 * num p' 0 + (e.ix + 1)) (by omega) hs (by omega) (fun f hf2 => ⟨hf f (by rw [e2]; exact List.mem_append_left _ hf2), by omega, by
    rcases List.mem_append.mp hf2 with m | m
    · have := (List.pairwise_append.mp pw1).2.2 f m e (List.mem_singleton.mpr rfl); omega
    · cases (List.mem_singleton.mp m); exact Nat.le_refl _⟩) pw1 h5
  obtain ⟨⟨r4, e4, _, _⟩, qk3, al⟩ := inner_ok hr m0 m1 (a.len i x hx) _ _ _ a hl h5
  obtain ⟨f1, f2⟩ := al e (by simp)
  refine ⟨f1, ?_⟩
  obtain ⟨y, hy, ey⟩ := List.mem_map.mp f2
  injection ey with ey1 ey2
  obtain ⟨k, hk⟩ := List.mem_iff_getElem?.mp hy
  rw [List.getElem?_drop] at hk
  have hk2 := (List.getElem?_eq_some_iff.mp hk).1
  obtain ⟨py, c1, c2, c3, _⟩ := S3.life _ y hk
  have hx3 : q3[i]? = some x := by rw [e4, List.getElem?_append_left hl]; exact hx
  obtain ⟨⟨r3, e3, _, _⟩, _, _⟩ := inner_ok hr m0 m1 (qk3.len i x hx3) _ _ _ qk3 (List.getElem?_eq_some_iff.mp hx3).1 h6
  exact ⟨1 + k, y, by rw [e3, List.getElem?_append_left hk2]; exact hk, by omega, ey1, ey2, by rw [c1, numS_ev]; exact c3⟩
theorem done_le {R : RowM} {home : Int} (hr : RuleOk R.rule) {i : Nat} {q : List QE} (h : Reach R home i q) {j : Nat} (hj : j < i) {x : QE} {p : List Ev} (hx : q[j]? = some x) (hp : x.life = evS p) {e : Ev} (he : e ∈ R.evs x.n (decide (p = []))) :
    R.fault home (R.step x.n e).1 (x.h + (R.step x.n e).2) = none ∧ ∃ k y, q[k]? = some y ∧ 1 ≤ k ∧ y.n = (R.step x.n e).1 ∧ y.h = x.h + (R.step x.n e).2 ∧ numS y.life ≤ 6 * num p 0 + (e.ix + 1) := by
  obtain ⟨q1, q2, x', h1, h2, h3⟩ := h.less j hj
  obtain ⟨r, er⟩ := h.prefix hr (.succ h1 h2 h3) (by omega)
  obtain ⟨a, _⟩ := h1.qok hr
  have hl := (List.getElem?_eq_some_iff.mp h2).1
  obtain ⟨m0, m1⟩ := a.mark hr h2
  obtain ⟨⟨r', e1, _, _⟩, _, _⟩ := inner_ok hr m0 m1 (a.len j x' h2) _ _ _ a hl h3
  have ex : x = x' := by
    rw [er, e1, List.append_assoc, List.getElem?_append_left hl, h2] at hx
    cases hx
    rfl
  subst ex
  have ef : decide (x.life = "") = decide (p = []) := by rw [hp]; exact decide_eq_decide.mpr evS_nil_iff
  unfold RowM.outer at h3
  rw [ef] at h3
  obtain ⟨t, hs, ht⟩ := h1.srt hr
  have t0 := ht x h2
  rw [hp, numS_ev] at t0
  obtain ⟨z1, k, y, z2, z3⟩ := walked hr a hs h2 hp t0 (fun f hf => hf) (evs_pair R _ _) h3 he
  exact ⟨z1, k, y, by rw [er, List.getElem?_append_left (List.getElem?_eq_some_iff.mp z2).1]; exact z2, z3⟩
theorem FlawR.least {R : RowM} {home : Int} (hr : RuleOk R.rule) {res : Option (Str × Str)} (h : FlawR R home res) : Least R home res := by
  cases res with
  | none =>
    obtain ⟨i, q, h1, h2⟩ := h
    intro p n k hp hne
    obtain ⟨t, hs, _⟩ := h1.srt hr
    refine (below_of (top := num p 0 + 1) (h1.qok hr).1.head (fun j x p' e hx hp' _ he _ => ?_) (fun j x hx => let ⟨p', a, _, _, d⟩ := hs.life j x hx; ⟨p', a, d⟩) p n k hp hne (by omega)).1
    have := (List.getElem?_eq_some_iff.mp hx).1
    exact done_le hr h1 (by omega) hx hp' he
  | some z =>
    obtain ⟨l, w⟩ := z
    obtain ⟨i, q, x, h1, h2, h3⟩ := h
    obtain ⟨t, hs, ht⟩ := h1.srt hr
    obtain ⟨p, a1, a2, a3, a4⟩ := hs.life i x h2
    have ef : decide (x.life = "") = decide (p = []) := by rw [a1]; exact decide_eq_decide.mpr evS_nil_iff
    unfold RowM.outer at h3
    obtain ⟨fs, e, gs, q', e1, e2, e3, e4⟩ := inner_flaw_at _ _ h3
    have hm : e ∈ R.evs x.n (decide (p = [])) := by rw [← ef, e1]; simp
    have hq := (List.getElem?_eq_some_iff.mp h2).1
    obtain ⟨a, _⟩ := h1.qok hr
    obtain ⟨m0, m1⟩ := a.mark hr h2
    have bd := h1.bound hr
    have hlen : p.length ≤ 156 := by
      have := a.len i x h2
      rw [a1] at this
      have e5 : (evS p).length = p.length := by
        show (p.map Ev.cp).toArray.size = _
        rw [List.size_toArray, List.length_map]
      omega
    refine ⟨p ++ [e], _, _, by rw [e4, a1, evS_snoc], by simp, by rw [List.length_append]; show p.length + 1 ≤ 157; omega, .snoc a2 hm, e3, fun p' n' k' hp' hne hlt => ?_⟩
    rw [num_snoc] at hlt
    obtain ⟨⟨r, er, _, _⟩, qk, al⟩ := inner_ok hr m0 m1 (a.len i x h2) _ _ _ a hq e2
    have t0 := ht x h2
    rw [a1, numS_ev] at t0
    -- the queue q', walked up to e
    have pw := evs_pair R x.n (decide (x.life = ""))
    rw [e1, List.pairwise_append] at pw
    obtain ⟨pw1, pw2, pw3⟩ := pw
    obtain ⟨t', u1, u2, u3⟩ := inner_srt a1 a2 fs t q q' (by omega) hs (fun e' he' => ⟨by rw [← ef, e1]; exact List.mem_append_left _ he', by omega⟩) pw1 e2
    have hx' : q'[i]? = some x := by rw [er, List.getElem?_append_left hq]; exact h2
    have key : ∀ (j : Nat) (y : QE) (py : List Ev) (f : Ev), q'[j]? = some y → y.life = evS py → f ∈ R.evs y.n (decide (py = [])) → 6 * num py 0 + (f.ix + 1) < 6 * num p 0 + (e.ix + 1) → j < i ∨ (j = i ∧ f ∈ fs) := fun j y py f hy hpy hf hlt => by
      have l1 := ix_lt e
      have l2 := ix_lt f
      rcases Nat.lt_trichotomy j i with c | c | c
      · exact .inl c
      · subst c
        rw [hx'] at hy
        cases hy
        have ep : py = p := evS_inj (by rw [← hpy, a1])
        subst ep
        refine .inr ⟨rfl, ?_⟩
        rw [← ef, e1] at hf
        rcases List.mem_append.mp hf with m | m
        · exact m
        · exfalso
          rcases List.mem_cons.mp m with m | m
          · subst m; omega
          · have := (List.pairwise_cons.mp pw2).1 f m; omega
      · exfalso
        have := u3.asc i j x y c hx' hy
        rw [a1, hpy, numS_ev, numS_ev] at this
        omega
    refine (below_of (q := q') (top := 6 * num p 0 + (e.ix + 1)) qk.head (fun j y py f hy hpy _ hf hlt2 => ?_) (fun j y hy => let ⟨p', a, _, _, d⟩ := u3.life j y hy; ⟨p', a, d⟩) p' n' k' hp' hne hlt).1
    rcases key j y py f hy hpy hf hlt2 with c | ⟨c, hfs⟩
    · have hy2 : q[j]? = some y := by
        rw [er, List.getElem?_append_left (by omega)] at hy
        exact hy
      obtain ⟨z1, k, y', z2, z3, z4, z5, z6⟩ := done_le hr h1 c hy2 hpy hf
      have kl := (List.getElem?_eq_some_iff.mp z2).1
      exact ⟨z1, k, y', by rw [er, List.getElem?_append_left kl]; exact z2, z3, z4, z5, z6⟩
    · subst c
      rw [hx'] at hy
      cases hy
      have ep : py = p := evS_inj (by rw [← hpy, a1])
      subst ep
      exact walked hr a hs h2 a1 t0 (fun f hf => by rw [← ef, e1]; exact List.mem_append_left _ hf) pw1 e2 hfs
theorem num_grow : ∀ (es : List Ev) (a : Nat), a ≤ num es a
  | [], a => Nat.le_refl _
  | e :: es, a => by
    have := num_grow es (6 * a + (e.ix + 1))
    show a ≤ num es (6 * a + (e.ix + 1))
    omega
theorem num_lt : ∀ (es fs : List Ev) (a b : Nat), es.length = fs.length → a < b → num es a < num fs b
  | [], [], a, b, _, h => h
  | e :: es, f :: fs, a, b, hl, h => by
    have := ix_lt e
    refine num_lt es fs _ _ (by simpa using hl) ?_
    omega
  | [], _ :: _, _, _, hl, _ => by cases hl
  | _ :: _, [], _, _, hl, _ => by cases hl
theorem num_short {a b : List Ev} (h : a.length < b.length) : num a 0 < num b 0 := by
  have e : b = b.take (b.length - a.length) ++ b.drop (b.length - a.length) := (List.take_append_drop _ _).symm
  rw [e, num_app]
  refine num_lt _ _ _ _ (by rw [List.length_drop]; omega) ?_
  cases hb : b.take (b.length - a.length) with
  | nil =>
    have := congrArg List.length hb
    rw [List.length_take] at this
    simp at this
    omega
  | cons e es =>
    have := num_grow es (e.ix + 1)
    show 0 < num es (6 * 0 + (e.ix + 1))
    rw [Nat.mul_zero, Nat.zero_add]
    omega
theorem num_len {a b : List Ev} (h : num a 0 ≤ num b 0) : a.length ≤ b.length := Nat.le_of_not_lt fun c => by
  have := num_short c
  omega

/-! ### the chart of a row -/
structure CE where
  n : Node
  life : Str
def c0 : CE := ⟨start, ""⟩
def inC (q : List CE) (n : Node) : Bool := q.any fun x => decide (x.n = n)
def RowM.cstep (R : RowM) (x : CE) (q : List CE) (e : Ev) : List CE := if inC q (R.step x.n e).1 then q else q ++ [⟨(R.step x.n e).1, x.life ++ e.str⟩]
def RowM.couter (R : RowM) (x : CE) (q : List CE) : List CE := (R.evs x.n (decide (x.life = ""))).foldl (R.cstep x) q
def RowM.cq (R : RowM) : Nat → List CE
  | 0 => [c0]
  | i + 1 => match (R.cq i)[i]? with
    | some x => R.couter x (R.cq i)
    | none => R.cq i
def RowM.chart (R : RowM) : List CE := R.cq 24
theorem inC_iff {q : List CE} {n : Node} : inC q n = true ↔ n ∈ q.map fun x => x.n := by
  unfold inC
  rw [List.any_eq_true, List.mem_map]
  constructor
  · rintro ⟨x, hx, e⟩; exact ⟨x, hx, of_decide_eq_true e⟩
  · rintro ⟨x, hx, e⟩; exact ⟨x, hx, decide_eq_true e⟩
structure COk (R : RowM) (q : List CE) : Prop where
  head : q[0]? = some c0
  nd : (q.map fun x => x.n).Nodup
  mks : ∀ x ∈ q, 0 ≤ x.n.m ∧ x.n.m < (R.rule.length : Int)
  life : ∀ (i : Nat) (x : CE), q[i]? = some x → ∃ p h, x.life = evS p ∧ Life R p x.n h ∧ p.length ≤ i ∧ (p = [] ↔ i = 0)
theorem evS_length (p : List Ev) : (evS p).length = p.length := by
  show (p.map Ev.cp).toArray.size = _
  rw [List.size_toArray, List.length_map]
theorem COk.step {R : RowM} (hr : RuleOk R.rule) {q : List CE} (h : COk R q) {i : Nat} {x : CE} {p : List Ev} {k : Int} (hx : x.life = evS p) (hl : Life R p x.n k) (hi : p.length ≤ i) (iq : i < q.length) (m0 : 0 ≤ x.n.m) (m1 : x.n.m < (R.rule.length : Int)) {e : Ev} (he : e ∈ R.evs x.n (decide (p = []))) : COk R (R.cstep x q e) := by
  unfold RowM.cstep
  by_cases c : inC q (R.step x.n e).1 = true
  · rw [if_pos c]; exact h
  · rw [if_neg c]
    have pk := pair_ok hr m0 m1 e
    refine ⟨by rw [List.getElem?_append_left (by omega)]; exact h.head, ?_, ?_, ?_⟩
    · rw [List.map_append, List.nodup_append]
      refine ⟨h.nd, by simp, fun a ha b hb => ?_⟩
      cases (List.mem_singleton.mp hb)
      intro z
      subst z
      exact c (inC_iff.mpr ha)
    · intro y hy
      rcases List.mem_append.mp hy with hy | hy
      · exact h.mks y hy
      · cases (List.mem_singleton.mp hy)
        exact ⟨pk.1, pk.2.1⟩
    · intro j y hj
      by_cases c2 : j < q.length
      · rw [List.getElem?_append_left c2] at hj
        exact h.life j y hj
      · have l := (List.getElem?_eq_some_iff.mp hj).1
        rw [List.length_append, List.length_singleton] at l
        have ej : j = q.length := by omega
        subst ej
        rw [List.getElem?_append_right (Nat.le_refl _), Nat.sub_self] at hj
        cases hj
        refine ⟨p ++ [e], _, by rw [hx, evS_snoc], .snoc hl he, by rw [List.length_append]; show p.length + 1 ≤ _; omega, ⟨fun z => by simp at z, fun z => by omega⟩⟩
theorem cstep_pre (R : RowM) (x : CE) (q : List CE) (e : Ev) : ∃ r, R.cstep x q e = q ++ r ∧ (R.step x.n e).1 ∈ (q ++ r).map fun y => y.n := by
  unfold RowM.cstep
  by_cases c : inC q (R.step x.n e).1 = true
  · rw [if_pos c]; exact ⟨[], by simp, by rw [List.append_nil]; exact inC_iff.mp c⟩
  · rw [if_neg c]; exact ⟨_, rfl, by simp⟩
theorem cfold_pre (R : RowM) (x : CE) : ∀ (es : List Ev) (q : List CE), ∃ r, es.foldl (R.cstep x) q = q ++ r ∧ ∀ e ∈ es, (R.step x.n e).1 ∈ (q ++ r).map fun y => y.n
  | [], q => ⟨[], by simp, fun e he => by cases he⟩
  | e :: es, q => by
    obtain ⟨r1, h1, h2⟩ := cstep_pre R x q e
    obtain ⟨r2, h3, h4⟩ := cfold_pre R x es (q ++ r1)
    refine ⟨r1 ++ r2, ?_, fun e' he' => ?_⟩
    · rw [List.foldl_cons, h1, h3, List.append_assoc]
    · rw [← List.append_assoc]
      rcases List.mem_cons.mp he' with c | c
      · subst c
        rw [List.map_append]
        exact List.mem_append_left _ h2
      · exact h4 e' c
theorem COk.fold {R : RowM} (hr : RuleOk R.rule) {i : Nat} {x : CE} {p : List Ev} {k : Int} (hx : x.life = evS p) (hl : Life R p x.n k) (hi : p.length ≤ i) (m0 : 0 ≤ x.n.m) (m1 : x.n.m < (R.rule.length : Int)) : ∀ (es : List Ev) (q : List CE), COk R q → i < q.length → (∀ e ∈ es, e ∈ R.evs x.n (decide (p = []))) → COk R (es.foldl (R.cstep x) q)
  | [], q, h, _, _ => h
  | e :: es, q, h, iq, he => by
    rw [List.foldl_cons]
    refine COk.fold hr hx hl hi m0 m1 es _ (h.step hr hx hl hi iq m0 m1 (he e List.mem_cons_self)) ?_ fun e' he' => he e' (List.mem_cons_of_mem _ he')
    obtain ⟨r, h1, _⟩ := cstep_pre R x q e
    rw [h1, List.length_append]
    omega
theorem cq_ok {R : RowM} (hr : RuleOk R.rule) : ∀ i, COk R (R.cq i)
  | 0 => by
    obtain ⟨l, _⟩ := hr
    refine ⟨rfl, by simp [RowM.cq], fun x hx => ?_, fun i x hx => ?_⟩
    · cases (List.mem_singleton.mp hx)
      exact ⟨Int.le_refl 0, by show (0 : Int) < _; omega⟩
    · cases i with
      | zero => cases hx; exact ⟨[], 0, (evS_nil_iff.mpr rfl).symm, .nil, Nat.le_refl _, by simp⟩
      | succ i => cases hx
  | i + 1 => by
    have h := cq_ok hr i
    unfold RowM.cq
    cases hx : (R.cq i)[i]? with
    | none => exact h
    | some x =>
      obtain ⟨p, k, a, b, c, d⟩ := h.life i x hx
      obtain ⟨m0, m1⟩ := h.mks x (List.mem_of_getElem? hx)
      have ef : decide (x.life = "") = decide (p = []) := by rw [a]; exact decide_eq_decide.mpr evS_nil_iff
      show COk R (R.couter x (R.cq i))
      unfold RowM.couter
      rw [ef]
      exact COk.fold hr a b c m0 m1 _ _ h (List.getElem?_eq_some_iff.mp hx).1 fun e he => he
theorem COk.len {R : RowM} (hr : RuleOk R.rule) {q : List CE} (h : COk R q) : q.length ≤ 24 := by
  have nd2 : ((q.map fun x => x.n).map Node.code).Nodup := by
    have nd := h.nd
    rw [List.nodup_iff_pairwise_ne] at nd ⊢
    rw [List.pairwise_map]
    refine nd.imp_of_mem fun {x y} hx hy ne e => ne ?_
    obtain ⟨a, ha, rfl⟩ := List.mem_map.mp hx
    obtain ⟨b, hb, rfl⟩ := List.mem_map.mp hy
    exact code_inj (h.mks a ha).1 (h.mks b hb).1 e
  have := nodup_le 24 _ nd2 fun z hz => by
    obtain ⟨n, hn, rfl⟩ := List.mem_map.mp hz
    obtain ⟨x, hx, rfl⟩ := List.mem_map.mp hn
    obtain ⟨m0, m1⟩ := h.mks x hx
    obtain ⟨_, l4, _⟩ := hr
    have s1 : x.n.st.code < 3 := by cases x.n.st <;> decide
    unfold Node.code
    split <;> omega
  rw [List.length_map, List.length_map] at this
  exact this
theorem cq_succ {R : RowM} {i : Nat} {x : CE} (h : (R.cq i)[i]? = some x) : R.cq (i + 1) = R.couter x (R.cq i) := by
  show (match (R.cq i)[i]? with
    | some x => R.couter x (R.cq i)
    | none => R.cq i) = _
  rw [h]
theorem cq_stay {R : RowM} {i : Nat} (h : (R.cq i).length ≤ i) : R.cq (i + 1) = R.cq i := by
  show (match (R.cq i)[i]? with
    | some x => R.couter x (R.cq i)
    | none => R.cq i) = _
  rw [List.getElem?_eq_none h]
theorem cq_end {R : RowM} {i : Nat} (h : (R.cq i).length ≤ i) : ∀ j, R.cq (i + j) = R.cq i
  | 0 => rfl
  | j + 1 => by
    have e := cq_end h j
    rw [← Nat.add_assoc, cq_stay (by rw [e]; omega), e]
theorem cq_chart {R : RowM} {i : Nat} (hi : i ≤ 24) (h : (R.cq i).length ≤ i) : R.chart = R.cq i := by
  have := cq_end h (24 - i)
  rw [show i + (24 - i) = 24 by omega] at this
  exact this
theorem cq_pre {R : RowM} (i : Nat) : ∃ r, R.cq (i + 1) = R.cq i ++ r := by
  cases hx : (R.cq i)[i]? with
  | none =>
    have : (R.cq i).length ≤ i := List.getElem?_eq_none_iff.mp hx
    exact ⟨[], by rw [cq_stay this]; simp⟩
  | some x =>
    obtain ⟨r, h1, _⟩ := cfold_pre R x (R.evs x.n (decide (x.life = ""))) (R.cq i)
    exact ⟨r, by rw [cq_succ hx]; exact h1⟩
theorem cq_prefix {R : RowM} (i : Nat) : ∀ j, ∃ r, R.cq (i + j) = R.cq i ++ r
  | 0 => ⟨[], by simp⟩
  | j + 1 => by
    obtain ⟨r, h⟩ := cq_prefix (R := R) i j
    obtain ⟨r', h'⟩ := cq_pre (R := R) (i + j)
    exact ⟨r ++ r', by rw [← Nat.add_assoc, h', h, List.append_assoc]⟩
/-- the chart has all nodes -/
theorem chart_closed {R : RowM} (hr : RuleOk R.rule) {x : CE} (hx : x ∈ R.chart) {e : Ev} (he : e ∈ R.evs x.n (decide (x.life = ""))) : ∃ y ∈ R.chart, y.n = (R.step x.n e).1 := by
  obtain ⟨j, hj⟩ := List.mem_iff_getElem?.mp hx
  have jl := (List.getElem?_eq_some_iff.mp hj).1
  have l24 := (cq_ok hr 24).len hr
  have j24 : j < 24 := Nat.lt_of_lt_of_le jl l24
  have hx2 : (R.cq j)[j]? = some x := by
    obtain ⟨r, h⟩ := cq_prefix (R := R) j (24 - j)
    rw [show j + (24 - j) = 24 by omega] at h
    by_cases c : j < (R.cq j).length
    · have hj' := hj
      unfold RowM.chart at hj'
      rw [h, List.getElem?_append_left c] at hj'
      exact hj'
    · have e1 := cq_chart (R := R) (i := j) (by omega) (by omega)
      rw [e1] at hj
      have := (List.getElem?_eq_some_iff.mp hj).1
      omega
  obtain ⟨r, h1, h2⟩ := cfold_pre R x (R.evs x.n (decide (x.life = ""))) (R.cq j)
  have m := h2 e he
  rw [← h1] at m
  obtain ⟨y, hy, ey⟩ := List.mem_map.mp m
  have hy2 : y ∈ R.cq (j + 1) := by rw [cq_succ hx2]; exact hy
  obtain ⟨r', h'⟩ := cq_prefix (R := R) (j + 1) (24 - (j + 1))
  rw [show j + 1 + (24 - (j + 1)) = 24 by omega] at h'
  exact ⟨y, by unfold RowM.chart; rw [h']; exact List.mem_append_left _ hy2, ey⟩
theorem chart_c0 (R : RowM) : c0 ∈ R.chart := by
  obtain ⟨r, h⟩ := cq_prefix (R := R) 0 24
  unfold RowM.chart
  rw [Nat.zero_add] at h
  rw [h]
  exact List.mem_append_left _ (List.mem_singleton.mpr rfl)
theorem evs_first {R : RowM} {n : Node} {e : Ev} (h : e ∈ R.evs n false) : e ∈ R.evs n true := by
  obtain ⟨h1, h2⟩ := List.mem_filter.mp h
  refine List.mem_filter.mpr ⟨h1, ?_⟩
  unfold RowM.can at h2 ⊢
  split at h2
  · rename_i hm
    rw [if_pos hm]
    cases e with
    | L =>
      show (!(decide (R.sharing = "each") && !true)) = true
      rw [Bool.not_true, Bool.and_false] <;> rfl
    | G =>
      have h3 : ((!(decide (R.sharing = "each") && !false)) && decide (n.st ≠ .opn)) = true := h2
      have := (Bool.and_eq_true_iff.mp h3).2
      show ((!(decide (R.sharing = "each") && !true)) && decide (n.st ≠ .opn)) = true
      rw [this, Bool.not_true, Bool.and_false] <;> rfl
    | H => exact h2
    | R => exact h2
    | F => exact h2
    | D => exact h2
  · cases h2
theorem nodup_at {α : Type} : ∀ {l : List α} {i j : Nat} {x : α}, l.Nodup → l[i]? = some x → l[j]? = some x → i = j
  | [], i, j, x, _, h, _ => by cases h
  | a :: l, 0, 0, x, _, _, _ => rfl
  | a :: l, 0, j + 1, x, nd, h, h' => by
    cases h
    exact absurd (List.mem_of_getElem? (i := j) h') (List.nodup_cons.mp nd).1
  | a :: l, i + 1, 0, x, nd, h, h' => by
    cases h'
    exact absurd (List.mem_of_getElem? (i := i) h) (List.nodup_cons.mp nd).1
  | a :: l, i + 1, j + 1, x, nd, h, h' => by
    rw [nodup_at (i := i) (j := j) (List.nodup_cons.mp nd).2 h h']
theorem chart_all {R : RowM} (hr : RuleOk R.rule) {p : List Ev} {n : Node} {h : Int} (hl : Life R p n h) : ∃ x ∈ R.chart, x.n = n := by
  induction hl with
  | nil => exact ⟨c0, chart_c0 R, rfl⟩
  | @snoc p n h e hp he ih =>
    obtain ⟨x, hx, rfl⟩ := ih
    obtain ⟨j, hj⟩ := List.mem_iff_getElem?.mp hx
    obtain ⟨p', k, a, b, c, d⟩ := (cq_ok hr 24).life j x hj
    refine chart_closed hr hx ?_
    have ef : decide (x.life = "") = decide (p' = []) := by rw [a]; exact decide_eq_decide.mpr evS_nil_iff
    rw [ef]
    cases hf : decide (p' = []) with
    | true =>
      cases hg : decide (p = []) with
      | true => rw [hg] at he; exact he
      | false => rw [hg] at he; exact evs_first he
    | false =>
      cases hg : decide (p = []) with
      | false => rw [hg] at he; exact he
      | true =>
        -- the start's node has the empty life
        have ep := of_decide_eq_true hg
        subst ep
        obtain ⟨en, _⟩ := hp.one .nil
        have h0 := (cq_ok hr 24).head
        have nd := (cq_ok hr 24).nd
        have j0 : j = 0 := by
          have e1 : (R.chart.map fun x => x.n)[j]? = some start := by rw [List.getElem?_map, hj]; exact congrArg some en
          have e2 : (R.chart.map fun x => x.n)[0]? = some start := by rw [List.getElem?_map]; unfold RowM.chart; rw [h0]; rfl
          have jl := (List.getElem?_eq_some_iff.mp e1).1
          exact nodup_at nd e1 e2
        have := d.mpr j0
        rw [decide_eq_true this] at hf
        cases hf
/-! ### closings, decisive lives -/
def Node.closing (n : Node) : List Ev := (if n.al = true then [Ev.D] else []) ++ (if n.st = .opn then [Ev.R] else [])
def RowM.closed (R : RowM) (x : CE) : List Str := (x.life ++ evS x.n.closing) :: (R.evs x.n (decide (x.life = ""))).map fun e => x.life ++ e.str ++ evS (R.step x.n e).1.closing
def addS (acc : List Str) (s : Str) : List Str := if s ∈ acc then acc else acc ++ [s]
def RowM.dec (R : RowM) : List Str := (R.chart.flatMap R.closed).foldl addS []

/-! ### the decisive lives, plain -/
def kdS (acc : List Str) : List (Key × V) := acc.map fun s => (Sum.inr s, V.bl true)
theorem kdS_val (s : Str) : ∀ acc : List Str, (valV (kdS acc) (Sum.inr s)).isSome = decide (s ∈ acc)
  | [] => by simp [kdS, valV]
  | a :: acc => by
    by_cases e : a = s
    · subst e
      have : decide (a ∈ a :: acc) = true := decide_eq_true List.mem_cons_self
      rw [this]
      show (valV ((Sum.inr a, V.bl true) :: kdS acc) (Sum.inr a)).isSome = true
      rw [valV_pos rfl] <;> rfl
    · have ih := kdS_val s acc
      show (valV ((Sum.inr a, V.bl true) :: kdS acc) (Sum.inr s)).isSome = _
      rw [valV_neg (fun z => e (by injection z)), ih]
      have : (s ∈ a :: acc) ↔ s ∈ acc := ⟨fun h => (List.mem_cons.mp h).resolve_left fun z => e z.symm, List.mem_cons_of_mem _⟩
      exact decide_eq_decide.mpr this.symm
theorem kdS_put {s : Str} {acc : List Str} (h : s ∉ acc) : putK (kdS acc) (Sum.inr s) (.bl true) = kdS (acc ++ [s]) := by
  unfold putK
  rw [valV_any, kdS_val, if_neg (by rw [decide_eq_false h]; decide)]
  unfold kdS
  rw [List.map_append]
  rfl
theorem addS_len (acc : List Str) (s : Str) : (addS acc s).length ≤ acc.length + 1 := by
  unfold addS
  split
  · omega
  · rw [List.length_append]; exact Nat.le_refl _
theorem addSs_len : ∀ (xs : List Str) (acc : List Str), (xs.foldl addS acc).length ≤ acc.length + xs.length
  | [], acc => Nat.le_refl _
  | x :: xs, acc => by
    have := addSs_len xs (addS acc x)
    have := addS_len acc x
    rw [List.foldl_cons, List.length_cons]
    omega
theorem addS_sub {acc : List Str} {s x : Str} (h : x ∈ addS acc s) : x ∈ acc ∨ x = s := by
  unfold addS at h
  split at h
  · exact .inl h
  · rcases List.mem_append.mp h with h | h
    · exact .inl h
    · exact .inr (List.mem_singleton.mp h)
theorem addSs_sub : ∀ (xs : List Str) (acc : List Str) {x : Str}, x ∈ xs.foldl addS acc → x ∈ acc ∨ x ∈ xs
  | [], acc, x, h => .inl h
  | y :: xs, acc, x, h => by
    rw [List.foldl_cons] at h
    rcases addSs_sub xs _ h with h | h
    · rcases addS_sub h with h | h
      · exact .inl h
      · exact .inr (h ▸ List.mem_cons_self)
    · exact .inr (List.mem_cons_of_mem _ h)
theorem closing_le (n : Node) : n.closing.length ≤ 2 := by
  unfold Node.closing
  rw [List.length_append]
  split <;> split <;> decide
theorem closed_len (R : RowM) (x : CE) : (R.closed x).length ≤ 7 := by
  unfold RowM.closed
  rw [List.length_cons, List.length_map]
  have := evs_len R x.n (decide (x.life = ""))
  omega
theorem flat_len {α β : Type} {f : α → List β} {k : Nat} (hf : ∀ x, (f x).length ≤ k) : ∀ xs : List α, (xs.flatMap f).length ≤ k * xs.length
  | [] => Nat.zero_le _
  | x :: xs => by
    have := flat_len hf xs
    have := hf x
    rw [List.flatMap_cons, List.length_append, List.length_cons, Nat.mul_succ]
    omega
theorem dec_len {R : RowM} (hr : RuleOk R.rule) : R.dec.length ≤ 168 := by
  have h1 := addSs_len (R.chart.flatMap R.closed) []
  have h2 := flat_len (closed_len R) R.chart
  have h3 := (cq_ok hr 24).len hr
  unfold RowM.dec
  unfold RowM.chart at *
  have : ([] : List Str).length = 0 := rfl
  omega
/-- a closed life: possible, and finished at its end -/
def Fin (R : RowM) (s : Str) : Prop := ∃ p n h, s = evS p ∧ p.length ≤ 27 ∧ Life R p n h ∧ n.finished = true
theorem close_life {R : RowM} (hm : R.mode = "held") {p : List Ev} {n : Node} {h : Int} (hl : Life R p n h) : ∃ n' h', Life R (p ++ n.closing) n' h' ∧ n'.finished = true := by
  have cd : ∀ {p : List Ev} {n : Node} {h : Int}, Life R p n h → n.al = true → Life R (p ++ [Ev.D]) (R.step n .D).1 (h + (R.step n .D).2) := fun hl ha => .snoc hl (List.mem_filter.mpr ⟨by decide, by unfold RowM.can; rw [if_pos hm]; exact ha⟩)
  have cr : ∀ {p : List Ev} {n : Node} {h : Int}, Life R p n h → n.st = .opn → Life R (p ++ [Ev.R]) (R.step n .R).1 (h + (R.step n .R).2) := fun hl ha => .snoc hl (List.mem_filter.mpr ⟨by decide, by unfold RowM.can; rw [if_pos hm]; exact decide_eq_true ha⟩)
  unfold Node.closing
  by_cases ha : n.al = true
  · rw [if_pos ha]
    have l1 := cd hl ha
    by_cases hs : n.st = .opn
    · rw [if_pos hs]
      have l2 := cr l1 (show (after n .D).2 = .opn from hs)
      refine ⟨_, _, by rw [← List.append_assoc]; exact l2, ?_⟩
      show (!(after n .D).1 && decide ((after (R.step n .D).1 .R).2 ≠ .opn)) = true
      rfl
    · rw [if_neg hs, List.append_nil]
      refine ⟨_, _, l1, ?_⟩
      show (!false && decide (n.st ≠ .opn)) = true
      rw [decide_eq_true hs] <;> rfl
  · rw [if_neg ha, List.nil_append]
    by_cases hs : n.st = .opn
    · rw [if_pos hs]
      refine ⟨_, _, cr hl hs, ?_⟩
      show (!n.al && decide (Sta.shut ≠ .opn)) = true
      have : n.al = false := by simpa using ha
      rw [this] <;> rfl
    · rw [if_neg hs, List.append_nil]
      refine ⟨_, _, hl, ?_⟩
      have : n.al = false := by simpa using ha
      unfold Node.finished
      rw [this, decide_eq_true hs] <;> rfl
theorem evS_cat (a b : List Ev) : evS a ++ evS b = evS (a ++ b) := by
  show SX.S (a.map Ev.cp) ++ SX.S (b.map Ev.cp) = SX.S ((a ++ b).map Ev.cp)
  rw [SX.S_cat, List.map_append]
theorem closed_fin {R : RowM} (hr : RuleOk R.rule) (hm : R.mode = "held") {x : CE} (hx : x ∈ R.chart) {s : Str} (hs : s ∈ R.closed x) : Fin R s := by
  obtain ⟨j, hj⟩ := List.mem_iff_getElem?.mp hx
  have jl := (List.getElem?_eq_some_iff.mp hj).1
  have l24 := (cq_ok hr 24).len hr
  have jl' : j < 24 := Nat.lt_of_lt_of_le jl l24
  obtain ⟨p, h, a, b, c, d⟩ := (cq_ok hr 24).life j x hj
  have ef : decide (x.life = "") = decide (p = []) := by rw [a]; exact decide_eq_decide.mpr evS_nil_iff
  unfold RowM.closed at hs
  rcases List.mem_cons.mp hs with hs | hs
  · obtain ⟨n', h', e1, e2⟩ := close_life hm b
    have := closing_le x.n
    exact ⟨_, n', h', by rw [hs, a, evS_cat], by rw [List.length_append]; omega, e1, e2⟩
  · obtain ⟨e, he, rfl⟩ := List.mem_map.mp hs
    rw [ef] at he
    obtain ⟨n', h', e1, e2⟩ := close_life hm (.snoc b he)
    have := closing_le (R.step x.n e).1
    refine ⟨_, n', h', ?_, ?_, e1, e2⟩
    · rw [a, ← evS_snoc, evS_cat]
    · rw [List.length_append, List.length_append, List.length_singleton]; omega
theorem dec_fin {R : RowM} (hr : RuleOk R.rule) (hm : R.mode = "held") {s : Str} (hs : s ∈ R.dec) : Fin R s := by
  rcases addSs_sub _ _ hs with h | h
  · cases h
  · obtain ⟨x, hx, h⟩ := List.mem_flatMap.mp h
    exact closed_fin hr hm hx h
theorem dec_pos (R : RowM) : ∃ s ss, R.dec = s :: ss := by
  have keep : ∀ (xs acc : List Str), acc ≠ [] → xs.foldl addS acc ≠ [] := fun xs => by
    induction xs with
    | nil => intro acc h; exact h
    | cons x xs ih =>
      intro acc h
      rw [List.foldl_cons]
      refine ih _ ?_
      unfold addS
      split
      · exact h
      · simp
  have h : R.dec ≠ [] := by
    unfold RowM.dec
    obtain ⟨r, e⟩ := cq_prefix (R := R) 0 24
    unfold RowM.chart
    rw [Nat.zero_add] at e
    rw [e]
    show (List.flatMap R.closed ([c0] ++ r)).foldl addS [] ≠ []
    rw [List.singleton_append, List.flatMap_cons]
    unfold RowM.closed
    rw [List.cons_append, List.foldl_cons]
    refine keep _ _ ?_
    unfold addS
    rw [if_neg (by simp)]
    simp
  cases e : R.dec with
  | nil => exact absurd e h
  | cons s ss => exact ⟨s, ss, rfl⟩
theorem chart_life_len {R : RowM} (hr : RuleOk R.rule) {x : CE} (hx : x ∈ R.chart) : x.life.length ≤ 24 ∧ 0 ≤ x.n.m ∧ x.n.m < (R.rule.length : Int) := by
  obtain ⟨j, hj⟩ := List.mem_iff_getElem?.mp hx
  have jl := (List.getElem?_eq_some_iff.mp hj).1
  have l24 := (cq_ok hr 24).len hr
  have jl' : j < 24 := Nat.lt_of_lt_of_le jl l24
  obtain ⟨p, h, a, b, c, d⟩ := (cq_ok hr 24).life j x hj
  refine ⟨by rw [a, evS_length]; omega, (cq_ok hr 24).mks x hx⟩
theorem plain_dec {mode : Str} (hm : ¬ mode = "held") (sh le g : Str) (rule : List (List (Int × Int))) : RowM.dec ⟨mode, sh, le, g, rule⟩ = [("" : Str)] := by
  have e : ∀ n f, RowM.evs ⟨mode, sh, le, g, rule⟩ n f = [] := fun n f => by
    unfold RowM.evs
    refine List.filter_eq_nil_iff.mpr fun e _ => ?_
    unfold RowM.can
    rw [if_neg hm]
    decide
  have c : ∀ i, RowM.cq ⟨mode, sh, le, g, rule⟩ i = [c0] := fun i => by
    induction i with
    | zero => rfl
    | succ i ih =>
      show (match (RowM.cq ⟨mode, sh, le, g, rule⟩ i)[i]? with
        | some x => RowM.couter ⟨mode, sh, le, g, rule⟩ x (RowM.cq ⟨mode, sh, le, g, rule⟩ i)
        | none => RowM.cq ⟨mode, sh, le, g, rule⟩ i) = _
      cases h : (RowM.cq ⟨mode, sh, le, g, rule⟩ i)[i]? with
      | none => exact ih
      | some x =>
        show RowM.couter _ x _ = _
        unfold RowM.couter
        rw [e]
        exact ih
  unfold RowM.dec RowM.chart
  rw [c]
  show (List.flatMap (RowM.closed _) [c0]).foldl addS [] = [("" : Str)]
  rw [List.flatMap_cons, List.flatMap_nil, List.append_nil]
  unfold RowM.closed
  rw [e]
  show ([c0.life ++ evS c0.n.closing] : List Str).foldl addS [] = [("" : Str)]
  decide +kernel

/-! ### nodes, rules, rows on the heap -/
def NodeV (K : PySem.W.Frag) (H : Hp) (v : V) (n : Node) : Prop := ∃ a, v = .ref a ∧ SqT K H a [.int n.m, .bl n.al, .str n.st.str]
def PairT (K : PySem.W.Frag) (H : Hp) (v : V) (p : Int × Int) : Prop := ∃ a, v = .ref a ∧ SqT K H a [.int p.1, .int p.2]
def MarkT (K : PySem.W.Frag) (H : Hp) (v : V) (mk : List (Int × Int)) : Prop := ∃ a vs, v = .ref a ∧ SqT K H a vs ∧ Paired (PairT K H) vs mk
def RuleT (K : PySem.W.Frag) (H : Hp) (a : Addr) (rule : List (List (Int × Int))) : Prop := ∃ vs, SqT K H a vs ∧ Paired (MarkT K H) vs rule
def rowF (R : RowM) (r : Addr) : List (Str × V) := putF "rule" (.ref r) (putF "grip" (.str R.grip) (putF "lease" (.str R.lease) (putF "sharing" (.str R.sharing) (putF "mode" (.str R.mode) []))))
def RowV (K : PySem.W.Frag) (H : Hp) (a : Addr) (R : RowM) : Prop := ∃ dx r, H a = some (.ins (He.ga K "Row") dx (rowF R r)) ∧ RuleT K H r R.rule
theorem NodeV.mono {K : PySem.W.Frag} {H H' : Hp} (t : KeepT K H H') {v : V} {n : Node} (h : NodeV K H v n) : NodeV K H' v n := let ⟨a, e, s⟩ := h; ⟨a, e, t _ _ s⟩
theorem PairT.mono {K : PySem.W.Frag} {H H' : Hp} (t : KeepT K H H') {v : V} {p : Int × Int} (h : PairT K H v p) : PairT K H' v p := let ⟨a, e, s⟩ := h; ⟨a, e, t _ _ s⟩
theorem MarkT.mono {K : PySem.W.Frag} {H H' : Hp} (t : KeepT K H H') {v : V} {mk : List (Int × Int)} (h : MarkT K H v mk) : MarkT K H' v mk := let ⟨a, vs, e, s, r⟩ := h; ⟨a, vs, e, t _ _ s, Paired.mapP r fun _ _ z => z.mono t⟩
theorem RuleT.mono {K : PySem.W.Frag} {H H' : Hp} (t : KeepT K H H') {a : Addr} {rule : List (List (Int × Int))} (h : RuleT K H a rule) : RuleT K H' a rule := let ⟨vs, s, r⟩ := h; ⟨vs, t _ _ s, Paired.mapP r fun _ _ z => z.mono t⟩
theorem keep_same {K : PySem.W.Frag} {H H' : Hp} (s : Same H H') : KeepT K H H' := fun a xs h => by
  rcases h with (h | ⟨o, h⟩) | h
  · exact .inl (.inl (s _ _ h))
  · exact .inl (.inr ⟨o, s _ _ h⟩)
  · exact .inr h
theorem keep_but {K : PySem.W.Frag} {H H' : Hp} {d : Addr} {o : HO} (s : But d H H') (hd : H d = some o) (h1 : ∀ xs, o ≠ .tup xs) (h2 : ∀ z xs, o ≠ .frz z (.tup xs)) : KeepT K H H' := fun a xs h => by
  rcases h with (h | ⟨z, h⟩) | h
  · exact .inl (.inl (s _ _ h (ne_of h hd (h1 _).symm)))
  · exact .inl (.inr ⟨z, s _ _ h (ne_of h hd (h2 _ _).symm)⟩)
  · exact .inr h
theorem keep_lst {K : PySem.W.Frag} {H H' : Hp} {d : Addr} {xs : List V} (s : But d H H') (hd : H d = some (.lst xs)) : KeepT K H H' := keep_but s hd (fun _ z => by cases z) fun _ _ z => by cases z
theorem KeepT.trans {K : PySem.W.Frag} {H H1 H2 : Hp} (a : KeepT K H H1) (b : KeepT K H1 H2) : KeepT K H H2 := fun _ _ h => b _ _ (a _ _ h)
theorem RowV.same {K : PySem.W.Frag} {H H' : Hp} (s : Same H H') {a : Addr} {R : RowM} (h : RowV K H a R) : RowV K H' a R := let ⟨dx, r, e, t⟩ := h; ⟨dx, r, s _ _ e, t.mono (keep_same s)⟩
theorem pr_get {α β : Type} {F : α → β → Prop} : ∀ {l₁ : List α} {l₂ : List β}, Paired F l₁ l₂ → ∀ (i : Nat), i < l₂.length → ∃ x y, l₁[i]? = some x ∧ l₂[i]? = some y ∧ F x y
  | _, _, .nil, i, h => by cases h
  | _, _, .cons r t, 0, h => ⟨_, _, rfl, rfl, r⟩
  | _, _, .cons r t, i + 1, h => by
    obtain ⟨x, y, h1, h2, h3⟩ := pr_get t i (by rw [List.length_cons] at h; omega)
    exact ⟨x, y, h1, h2, h3⟩
theorem pr_app {α β : Type} {F : α → β → Prop} : ∀ {l₁ m₁ : List α} {l₂ m₂ : List β}, Paired F l₁ l₂ → Paired F m₁ m₂ → Paired F (l₁ ++ m₁) (l₂ ++ m₂)
  | _, _, _, _, .nil, h => h
  | _, _, _, _, .cons r t, h => .cons r (pr_app t h)
theorem pr_set {α β : Type} {F : α → β → Prop} {x : α} {y : β} (r : F x y) : ∀ {l₁ : List α} {l₂ : List β} (i : Nat), Paired F l₁ l₂ → Paired F (l₁.set i x) (l₂.set i y)
  | _, _, _, .nil => .nil
  | _, _, 0, .cons _ t => .cons r t
  | _, _, i + 1, .cons q t => .cons q (pr_set r i t)
theorem iteD {c A B : Prop} [Decidable c] (h1 : c → A) (h2 : ¬ c → B) : if decide c = true then A else B := ite2 (fun e => h1 (of_decide_eq_true e)) (fun e => h2 fun z => e (decide_eq_true z))
theorem iteN {c A B : Prop} [Decidable c] (h1 : ¬ c → A) (h2 : c → B) : if (!decide c) = true then A else B := by
  by_cases e : c
  · rw [decide_eq_true e]; exact h2 e
  · rw [decide_eq_false e]; exact h1 e
theorem take_snoc {α : Type} {l : List α} {i : Nat} {x : α} (h : l[i]? = some x) : l.take (i + 1) = l.take i ++ [x] := by
  rw [List.take_succ, h]
  rfl
/-- the row's fields -/
theorem row_no : (("mode" : Str) ≠ "sharing" ∧ ("mode" : Str) ≠ "lease" ∧ ("mode" : Str) ≠ "grip" ∧ ("mode" : Str) ≠ "rule") ∧ (("sharing" : Str) ≠ "lease" ∧ ("sharing" : Str) ≠ "grip" ∧ ("sharing" : Str) ≠ "rule") ∧ (("lease" : Str) ≠ "grip" ∧ ("lease" : Str) ≠ "rule") ∧ ("grip" : Str) ≠ "rule" := by decide +kernel
theorem row_mode (R : RowM) (r : Addr) : (rowF R r).lookup ("mode" : Str) = some (.str R.mode) := by
  obtain ⟨⟨a, b, c, d⟩, _⟩ := row_no
  unfold rowF
  rw [lookup_putF, if_neg d, lookup_putF, if_neg c, lookup_putF, if_neg b, lookup_putF, if_neg a, lookup_putF, if_pos rfl]
theorem row_sharing (R : RowM) (r : Addr) : (rowF R r).lookup ("sharing" : Str) = some (.str R.sharing) := by
  obtain ⟨_, ⟨b, c, d⟩, _⟩ := row_no
  unfold rowF
  rw [lookup_putF, if_neg d, lookup_putF, if_neg c, lookup_putF, if_neg b, lookup_putF, if_pos rfl]
theorem row_lease (R : RowM) (r : Addr) : (rowF R r).lookup ("lease" : Str) = some (.str R.lease) := by
  obtain ⟨_, _, ⟨c, d⟩, _⟩ := row_no
  unfold rowF
  rw [lookup_putF, if_neg d, lookup_putF, if_neg c, lookup_putF, if_pos rfl]
theorem row_grip (R : RowM) (r : Addr) : (rowF R r).lookup ("grip" : Str) = some (.str R.grip) := by
  obtain ⟨_, _, _, d⟩ := row_no
  unfold rowF
  rw [lookup_putF, if_neg d, lookup_putF, if_pos rfl]
theorem row_rule (R : RowM) (r : Addr) : (rowF R r).lookup ("rule" : Str) = some (.ref r) := by
  unfold rowF
  rw [lookup_putF, if_pos rfl]
/-! ### keys -/
def keyN (n : Node) : NestedKey := .tup [.num n.m, .num (if n.al = true then 1 else 0), .text n.st.str]
def keyP (n : Node) (h : Int) : NestedKey := .tup [keyN n, .num h]
theorem sta_inj {a b : Sta} (h : a.str = b.str) : a = b := by
  cases a <;> cases b <;> first | rfl | (exact absurd h (by decide +kernel))
theorem keyN_inj {a b : Node} (h : keyN a = keyN b) : a = b := by
  obtain ⟨m, al, st⟩ := a
  obtain ⟨m', al', st'⟩ := b
  injection h with h
  injection h with h1 h
  injection h with h2 h
  injection h with h3 _
  injection h1 with h1
  injection h2 with h2
  injection h3 with h3
  have e2 : al = al' := by cases al <;> cases al' <;> first | rfl | cases h2
  simp only at h1 h3
  rw [h1, e2, sta_inj h3]
theorem keyP_inj {a b : Node} {h k : Int} (e : keyP a h = keyP b k) : a = b ∧ h = k := by
  injection e with e
  injection e with e1 e
  injection e with e2 _
  injection e2 with e2
  exact ⟨keyN_inj e1, e2⟩
theorem NodeV.key {K : PySem.W.Frag} {H : Hp} {v : V} {n : Node} (h : NodeV K H v n) : NkV K H (keyN n) v := by
  obtain ⟨a, rfl, s⟩ := h
  exact .tup s (.cons (.int _) (.cons (.bl _) (.cons (.str _) .nil)))
theorem keyN_depth (n : Node) : (keyN n).depth ≤ 8 := by
  show max 0 (max 0 (max 0 0)) + 1 ≤ 8
  decide
theorem keyP_depth (n : Node) (h : Int) : (keyP n h).depth ≤ 8 := by
  show max (max 0 (max 0 (max 0 0)) + 1) (max 0 0) + 1 ≤ 8
  decide
theorem NodeV.keyP {K : PySem.W.Frag} {H : Hp} {v : V} {n : Node} {a : Addr} {h : Int} (hv : NodeV K H v n) (s : SqT K H a [v, .int h]) : NkV K H (keyP n h) (.ref a) := .tup s (.cons hv.key (.cons (.int _) .nil))
/-- a pair of the queue -/
def QEV (K : PySem.W.Frag) (H : Hp) (v : V) (x : QE) : Prop := ∃ a u, v = .ref a ∧ SqT K H a [u, .int x.h, .str x.life] ∧ NodeV K H u x.n
theorem QEV.mono {K : PySem.W.Frag} {H H' : Hp} (t : KeepT K H H') {v : V} {x : QE} (h : QEV K H v x) : QEV K H' v x := let ⟨a, u, e, s, n⟩ := h; ⟨a, u, e, t _ _ s, n.mono t⟩
/-- the table of a queue -/
def knownK (q : List QE) : List (NestedKey × V) := (q.drop 1).map fun x => (keyP x.n x.h, V.bl true)
theorem known_seen (q : List QE) (n : Node) (h : Int) : (valN (knownK q) (keyP n h)).isSome = seen q n h := by
  unfold knownK seen valN
  generalize q.drop 1 = l
  rw [Option.isSome_map]
  induction l with
  | nil => rfl
  | cons x l ih =>
    rw [List.map_cons, List.find?_cons, List.any_cons]
    by_cases e : x.n = n ∧ x.h = h
    · have e1 : decide (keyP x.n x.h = keyP n h) = true := decide_eq_true (by rw [e.1, e.2])
      simp only [e1, decide_eq_true e]
      rfl
    · have e1 : decide (keyP x.n x.h = keyP n h) = false := decide_eq_false fun z => e (keyP_inj z)
      simp only [e1, decide_eq_false e, Bool.false_or]
      exact ih
theorem known_put {q : List QE} {x : QE} (hs : seen q x.n x.h = false) (hq : 1 ≤ q.length) : putN (knownK q) (keyP x.n x.h) (.bl true) = knownK (q ++ [x]) := by
  unfold putN
  rw [known_seen, hs, if_neg (by decide)]
  unfold knownK
  rw [List.drop_append_of_le_length hq, List.map_append]
  rfl
/-! ### an event's letter -/
theorem cp_inj {a b : Ev} (h : a.cp = b.cp) : a = b := by
  cases a <;> cases b <;> first | rfl | (exact absurd h (by decide))
theorem evS_size (es : List Ev) : (evS es).cps.size = es.length := by
  show (es.map Ev.cp).toArray.size = _
  rw [List.size_toArray, List.length_map]
theorem evS_at {es : List Ev} {i : Nat} {c : Nat} (h : (evS es).cps[i]? = some c) : ∃ e, es[i]? = some e ∧ (⟨#[c]⟩ : Str) = e.str := by
  have h2 : (es.map Ev.cp).toArray[i]? = some c := h
  rw [List.getElem?_toArray, List.getElem?_map] at h2
  obtain ⟨e, he, rfl⟩ := Option.map_eq_some_iff.mp h2
  exact ⟨e, he, rfl⟩
/-- for e in the letters of es -/
theorem for_ev {es : List Ev} {g : TG} {tb : TS} {D : Ends} {σ : L2.St} {H : Hp} (Pv : Nat → L2.St → Hp → Prop) (h0 : Pv 0 σ H)
    (hs : ∀ i e σ H, es[i]? = some e → Pv i σ H → g (.str e.str) σ H fun σ2 H2 => tb { D with nx := Pv (i + 1), ct := Pv (i + 1), bk := D.nx } σ2 H2) (hd : ∀ σ H, Pv es.length σ H → D.nx σ H) :
    ∃ W : Nat → Nat → L2.St → Hp → Prop, (∃ m, W 0 m σ H) ∧ ∀ i m σ H, W i m σ H →
      ((Its (evS es)).stop i H ∧ D.nx σ H) ∨ ((Its (evS es)).go i H ∧ ∃ N : L2.St → Hp → Prop, (∀ σ' H', N σ' H' → ∃ m', m' < m ∧ W (i + 1) m' σ' H') ∧ ∀ x H', (Its (evS es)).yld i H x H' → g x σ H' fun σ2 H2 => tb { D with nx := N, ct := N, bk := D.nx } σ2 H2) := by
  refine for_it (walk_str (z := evS es)) Pv h0 (fun _ _ _ _ _ => trivial) ?_ (by rw [evS_size]; exact hd)
  rintro i x σ H H' hi p ⟨rfl, c, hc, rfl⟩
  obtain ⟨e, he, ee⟩ := evS_at hc
  rw [ee]
  exact hs i e σ H' he p
/-- [.. for e in the letters of es if ..] -/
theorem lc_ev {es : List Ev} {g : TG} {tt : TT} {te : TE} {vs : List Nat} {σ : L2.St} {H1 : Hp} {D : Addr} {Qd : Hp → Prop} (Pv : Nat → Hp → Prop) (h0 : Pv 0 (upd H1 D (.lst [])))
    (hs : ∀ i e H, es[i]? = some e → Pv i H → g (.str e.str) (wipe σ vs) H fun σ2 H2 => wipe σ2 vs = wipe σ vs ∧ tt σ2 H2 fun b H3 =>
      if b = true then te σ2 H3 fun y H4 => ∃ acc, H4 D = some (.lst acc) ∧ acc.length < sizeLine ∧ Pv (i + 1) (upd H4 D (.lst (acc ++ [y]))) else Pv (i + 1) H3) (hd : ∀ H, Pv es.length H → Qd H) :
    ∃ W : Nat → Nat → Hp → Prop, (∃ m, W 0 m (upd H1 D (.lst []))) ∧ ∀ i m H, W i m H →
      ((Its (evS es)).stop i H ∧ Qd H) ∨ ((Its (evS es)).go i H ∧ ∃ Nx : Hp → Prop, (∀ H', Nx H' → ∃ m', m' < m ∧ W (i + 1) m' H') ∧ ∀ x H', (Its (evS es)).yld i H x H' → g x (wipe σ vs) H' fun σ2 H2 => wipe σ2 vs = wipe σ vs ∧ tt σ2 H2 fun b H3 =>
        if b = true then te σ2 H3 fun y H4 => ∃ acc, H4 D = some (.lst acc) ∧ acc.length < sizeLine ∧ Nx (upd H4 D (.lst (acc ++ [y]))) else Nx H3) := by
  refine lc_it (walk_str (z := evS es)) Pv h0 (fun _ _ _ _ => trivial) ?_ (by rw [evS_size]; exact hd)
  rintro i x H H' hi p ⟨rfl, c, hc, rfl⟩
  obtain ⟨e, he, ee⟩ := evS_at hc
  rw [ee]
  exact hs i e H' he p
theorem join_ev (es : List Ev) : Txt.join "" (es.map Ev.str) = evS es := by
  have e1 : es.map Ev.str = (es.map fun e => [e.cp]).map SX.S := by rw [List.map_map] <;> rfl
  have e2 : ∀ es : List Ev, TL.joinL [] (es.map fun e => [e.cp]) = es.map Ev.cp := fun es => by
    induction es with
    | nil => rfl
    | cons a es ih =>
      cases es with
      | nil => rfl
      | cons b es =>
        show [a.cp] ++ ([] ++ TL.joinL [] ((b :: es).map fun e => [e.cp])) = _
        rw [ih] <;> rfl
  have e3 : Txt.join (SX.S []) ((es.map fun e => [e.cp]).map SX.S) = SX.S (es.map Ev.cp) := by rw [SX.join_S, e2]
  rw [e1]
  exact e3
theorem all_S : evS Ev.all = "LGHRFD" := by decide +kernel
theorem occ (e : Ev) : Builtin.Str.occurrences "LGHRFD" e.str 0 ("LGHRFD" : Str).length 1 = [e.ix] := by cases e <;> decide +kernel

/-! ### the path of a life -/
def RowM.at (R : RowM) (p : List Ev) : Node × Int := p.foldl (fun x e => ((R.step x.1 e).1, x.2 + (R.step x.1 e).2)) (start, 0)
theorem at_snoc (R : RowM) (p : List Ev) (e : Ev) : R.at (p ++ [e]) = ((R.step (R.at p).1 e).1, (R.at p).2 + (R.step (R.at p).1 e).2) := by
  unfold RowM.at
  rw [List.foldl_append] <;> rfl
theorem Life.at {R : RowM} {p : List Ev} {n : Node} {h : Int} (l : Life R p n h) : R.at p = (n, h) := by
  induction l with
  | nil => rfl
  | snoc a b ih => rw [at_snoc, ih]
theorem Life.pre {R : RowM} {p : List Ev} {n : Node} {h : Int} (l : Life R p n h) : ∀ (a b : List Ev), p = a ++ b → Life R a (R.at a).1 (R.at a).2 := by
  induction l with
  | nil =>
    intro a b e
    have := List.append_eq_nil_iff.mp e.symm
    rw [this.1]
    exact .nil
  | @snoc p n h e hl he ih =>
    intro a b eq
    rcases List.eq_nil_or_concat b with z | ⟨b', x, z⟩
    · subst z
      rw [List.append_nil] at eq
      rw [← eq]
      have l2 : Life R (p ++ [e]) _ _ := .snoc hl he
      have := l2.at
      rw [this]
      exact l2
    · rw [List.concat_eq_append] at z
      subst z
      rw [← List.append_assoc] at eq
      obtain ⟨e1, _⟩ := List.append_inj' eq rfl
      exact ih a b' e1
theorem Life.take {R : RowM} {p : List Ev} {n : Node} {h : Int} (l : Life R p n h) (i : Nat) : Life R (p.take i) (R.at (p.take i)).1 (R.at (p.take i)).2 := l.pre _ (p.drop i) (List.take_append_drop i p).symm
theorem Life.evs {R : RowM} {p : List Ev} {n : Node} {h : Int} (l : Life R p n h) {i : Nat} {e : Ev} (he : p[i]? = some e) : e ∈ R.evs (R.at (p.take i)).1 (decide ((0 : Int) + (i : Int) = 0)) := by
  have h1 := l.take (i + 1)
  rw [take_snoc he] at h1
  obtain ⟨p', n', h', e', eq, l', hm, _, _⟩ := h1.cut (by simp)
  obtain ⟨e1, e2⟩ := List.append_inj' eq rfl
  cases e2
  subst e1
  have ea := l'.at
  rw [ea]
  have len := (List.getElem?_eq_some_iff.mp he).1
  have : decide (p.take i = []) = decide ((0 : Int) + (i : Int) = 0) := by
    refine decide_eq_decide.mpr ⟨fun z => ?_, fun z => ?_⟩
    · have := congrArg List.length z
      rw [List.length_take, List.length_nil] at this
      omega
    · have : i = 0 := by omega
      rw [this]
      rfl
  rw [← this]
  exact hm
theorem Life.marks {R : RowM} (hr : RuleOk R.rule) {p : List Ev} {n : Node} {h : Int} (l : Life R p n h) : 0 ≤ n.m ∧ n.m < (R.rule.length : Int) := by
  induction l with
  | nil => obtain ⟨l, _⟩ := hr; exact ⟨Int.le_refl 0, by show (0 : Int) < _; omega⟩
  | @snoc p n h e hl he ih =>
    have := pair_ok hr ih.1 ih.2 e
    exact ⟨this.1, this.2.1⟩
def RowM.runs (R : RowM) (p : List Ev) : List (Node × Int) := (List.range (p.length + 1)).map fun j => R.at (p.take j)
def RowM.runsTo (R : RowM) (p : List Ev) (i : Nat) : List (Node × Int) := (List.range (i + 1)).map fun j => R.at (p.take j)
theorem runsTo_succ (R : RowM) (p : List Ev) (i : Nat) : R.runsTo p (i + 1) = R.runsTo p i ++ [R.at (p.take (i + 1))] := by
  unfold RowM.runsTo
  rw [List.range_succ, List.map_append] <;> rfl
theorem runs_last (R : RowM) (p : List Ev) : ∃ xs, R.runs p = xs ++ [R.at p] := by
  refine ⟨(List.range p.length).map fun j => R.at (p.take j), ?_⟩
  unfold RowM.runs
  rw [List.range_succ, List.map_append, List.map_singleton, List.take_of_length_le (Nat.le_refl _)]

/-! ### the decisive lives decide -/
/-- the first fault of a life among some -/
def IsFlaw (R : RowM) (home : Int) (p : List Ev) (W : List Str) : Option (Nat × Str) → Prop
  | none => ∀ j, 1 ≤ j → j ≤ p.length → ∀ w, R.fault home (R.at (p.take j)).1 (R.at (p.take j)).2 = some w → w ∉ W
  | some (j, w) => 1 ≤ j ∧ j ≤ p.length ∧ R.fault home (R.at (p.take j)).1 (R.at (p.take j)).2 = some w ∧ w ∈ W ∧ ∀ i, 1 ≤ i → i < j → ∀ w', R.fault home (R.at (p.take i)).1 (R.at (p.take i)).2 = some w' → w' ∉ W
def whats4 : List Str := ["overdrawn", "stays", "bare", "moved"]
def whats2 : List Str := ["overdrawn", "stays"]
theorem fault_in {R : RowM} {home : Int} {n : Node} {h : Int} {w : Str} (e : R.fault home n h = some w) : w ∈ whats4 := by
  have a1 : ("overdrawn" : Str) ∈ whats4 := List.mem_cons_self
  have a2 : ("stays" : Str) ∈ whats4 := List.mem_cons_of_mem _ List.mem_cons_self
  have a3 : ("bare" : Str) ∈ whats4 := List.mem_cons_of_mem _ (List.mem_cons_of_mem _ List.mem_cons_self)
  have a4 : ("moved" : Str) ∈ whats4 := List.mem_cons_of_mem _ (List.mem_cons_of_mem _ (List.mem_cons_of_mem _ List.mem_cons_self))
  unfold RowM.fault at e
  split at e
  · cases e; exact a1
  · split at e
    · cases e; exact a2
    · split at e
      · split at e
        · cases e; exact a3
        · split at e
          · cases e; exact a4
          · cases e
      · cases e
theorem not_imp {w : Str} (h : w ∈ whats4) : w ≠ "impossible" := by
  simp only [whats4, List.mem_cons, List.not_mem_nil, or_false] at h
  rcases h with rfl | rfl | rfl | rfl <;> decide +kernel
def Decided (R : RowM) (home : Int) : Option Str → Prop
  | none => (∀ p, evS p ∈ R.dec → ∀ n h, Life R p n h → IsFlaw R home p whats2 none) ∧ (∀ x ∈ R.chart, ∀ p n h, x.life = evS p → Life R p n h → p ≠ [] → R.fault home n h = none)
  | some w => w ≠ "impossible" ∧ ∃ p n h, Life R p n h ∧ p ≠ [] ∧ R.fault home n h ≠ none
theorem end_zero {R : RowM} {home : Int} {p : List Ev} {n : Node} {h : Int} (hl : Life R p n h) (hf : n.finished = true) (z : IsFlaw R home p whats2 none) : h = 0 := by
  by_cases c : p = []
  · subst c
    exact (hl.one .nil).2
  · have hp : 1 ≤ p.length := by
      cases p with
      | nil => exact absurd rfl c
      | cons a p => rw [List.length_cons]; omega
    have z2 := z p.length hp (Nat.le_refl _)
    rw [List.take_of_length_le (Nat.le_refl _), hl.at] at z2
    have b1 : ("overdrawn" : Str) ∈ whats2 := List.mem_cons_self
    have b2 : ("stays" : Str) ∈ whats2 := List.mem_cons_of_mem _ List.mem_cons_self
    unfold RowM.fault at z2
    by_cases c1 : h < 0
    · rw [if_pos c1] at z2
      exact absurd b1 (z2 _ rfl)
    · rw [if_neg c1] at z2
      by_cases c2 : 0 < h
      · rw [if_pos ⟨hf, c2⟩] at z2
        exact absurd b2 (z2 _ rfl)
      · omega
/-- what a node's closing adds -/
def RowM.closeD (R : RowM) (n : Node) : Int :=
  if n.al = true then
    if n.st = .opn then (R.step n .D).2 + (R.step (R.step n .D).1 .R).2 else (R.step n .D).2
  else if n.st = .opn then (R.step n .R).2 else 0
theorem close_hold {R : RowM} (hm : R.mode = "held") {p : List Ev} {n : Node} {h : Int} (hl : Life R p n h) : ∃ n', Life R (p ++ n.closing) n' (h + R.closeD n) ∧ n'.finished = true := by
  have cd : ∀ {p : List Ev} {n : Node} {h : Int}, Life R p n h → n.al = true → Life R (p ++ [Ev.D]) (R.step n .D).1 (h + (R.step n .D).2) := fun hl ha => .snoc hl (List.mem_filter.mpr ⟨by decide, by unfold RowM.can; rw [if_pos hm]; exact ha⟩)
  have cr : ∀ {p : List Ev} {n : Node} {h : Int}, Life R p n h → n.st = .opn → Life R (p ++ [Ev.R]) (R.step n .R).1 (h + (R.step n .R).2) := fun hl ha => .snoc hl (List.mem_filter.mpr ⟨by decide, by unfold RowM.can; rw [if_pos hm]; exact decide_eq_true ha⟩)
  unfold Node.closing RowM.closeD
  by_cases ha : n.al = true
  · rw [if_pos ha, if_pos ha]
    have l1 := cd hl ha
    by_cases hs : n.st = .opn
    · rw [if_pos hs, if_pos hs]
      have l2 := cr l1 (show (after n .D).2 = .opn from hs)
      rw [Int.add_assoc] at l2
      refine ⟨_, by rw [← List.append_assoc]; exact l2, ?_⟩
      show (!(after n .D).1 && decide ((after (R.step n .D).1 .R).2 ≠ .opn)) = true
      rfl
    · rw [if_neg hs, List.append_nil, if_neg hs]
      refine ⟨_, l1, ?_⟩
      show (!false && decide (n.st ≠ .opn)) = true
      rw [decide_eq_true hs] <;> rfl
  · rw [if_neg ha, List.nil_append, if_neg ha]
    have af : n.al = false := by simpa using ha
    by_cases hs : n.st = .opn
    · rw [if_pos hs, if_pos hs]
      refine ⟨_, cr hl hs, ?_⟩
      show (!n.al && decide (Sta.shut ≠ .opn)) = true
      rw [af] <;> rfl
    · rw [if_neg hs, List.append_nil, if_neg hs, Int.add_zero]
      refine ⟨_, hl, ?_⟩
      unfold Node.finished
      rw [af, decide_eq_true hs] <;> rfl
theorem addS_mem {acc : List Str} {s : Str} : s ∈ addS acc s := by
  unfold addS
  split
  · assumption
  · exact List.mem_append_right _ (List.mem_singleton.mpr rfl)
theorem addS_keep {acc : List Str} {s x : Str} (h : x ∈ acc) : x ∈ addS acc s := by
  unfold addS
  split
  · exact h
  · exact List.mem_append_left _ h
theorem addSs_all : ∀ (xs acc : List Str) {x : Str}, x ∈ acc ∨ x ∈ xs → x ∈ xs.foldl addS acc
  | [], acc, x, h => h.resolve_right (fun z => by cases z)
  | y :: xs, acc, x, h => by
    rw [List.foldl_cons]
    refine addSs_all xs _ ?_
    rcases h with h | h
    · exact .inl (addS_keep h)
    · rcases List.mem_cons.mp h with h | h
      · subst h; exact .inl addS_mem
      · exact .inr h
theorem dec_of {R : RowM} {x : CE} (hx : x ∈ R.chart) {s : Str} (hs : s ∈ R.closed x) : s ∈ R.dec := addSs_all _ _ (.inr (List.mem_flatMap.mpr ⟨x, hx, hs⟩))
theorem chart_life {R : RowM} (hr : RuleOk R.rule) {x : CE} (hx : x ∈ R.chart) : ∃ p h, x.life = evS p ∧ Life R p x.n h ∧ p.length ≤ 24 := by
  obtain ⟨j, hj⟩ := List.mem_iff_getElem?.mp hx
  have jl := (List.getElem?_eq_some_iff.mp hj).1
  have l24 := (cq_ok hr 24).len hr
  have jl' : j < 24 := Nat.lt_of_lt_of_le jl l24
  obtain ⟨p, h, a, b, c, d⟩ := (cq_ok hr 24).life j x hj
  exact ⟨p, h, a, b, by omega⟩
theorem chart_one {R : RowM} (hr : RuleOk R.rule) {x y : CE} (hx : x ∈ R.chart) (hy : y ∈ R.chart) (e : x.n = y.n) : x = y := by
  obtain ⟨i, hi⟩ := List.mem_iff_getElem?.mp hx
  obtain ⟨j, hj⟩ := List.mem_iff_getElem?.mp hy
  have nd := (cq_ok hr 24).nd
  have e1 : (R.chart.map fun x => x.n)[i]? = some x.n := by rw [List.getElem?_map, hi] <;> rfl
  have e2 : (R.chart.map fun x => x.n)[j]? = some x.n := by rw [List.getElem?_map, hj, e] <;> rfl
  have := nodup_at nd e1 e2
  subst this
  rw [hi] at hj
  cases hj
  rfl
/-- an event that is possible at a life's end is possible at the end of the node's first life -/
theorem chart_ev {R : RowM} (hr : RuleOk R.rule) {x : CE} (hx : x ∈ R.chart) {px : List Ev} (ex : x.life = evS px) {p : List Ev} {h : Int} (hl : Life R p x.n h) {e : Ev} (he : e ∈ R.evs x.n (decide (p = []))) : e ∈ R.evs x.n (decide (px = [])) := by
  cases hf : decide (px = []) with
  | true =>
    cases hg : decide (p = []) with
    | true => rw [hg] at he; exact he
    | false => rw [hg] at he; exact evs_first he
  | false =>
    cases hg : decide (p = []) with
    | false => rw [hg] at he; exact he
    | true =>
      have ep := of_decide_eq_true hg
      subst ep
      obtain ⟨en, _⟩ := hl.one .nil
      have := chart_one hr hx (chart_c0 R) en
      subst this
      have e2 : evS px = "" := ex.symm
      rw [decide_eq_true (evS_nil_iff.mp e2)] at hf
      cases hf
theorem one_hold {R : RowM} (hr : RuleOk R.rule) (hm : R.mode = "held") {home : Int} (hd : ∀ p, evS p ∈ R.dec → ∀ n h, Life R p n h → IsFlaw R home p whats2 none) {p : List Ev} {n : Node} {h : Int} (hl : Life R p n h) :
    ∀ x ∈ R.chart, x.n = n → ∀ px hx, x.life = evS px → Life R px n hx → h = hx := by
  induction hl with
  | nil =>
    intro x hx en px h2 ex l2
    have := chart_one hr hx (chart_c0 R) en
    subst this
    have e2 : evS px = "" := ex.symm
    have := evS_nil_iff.mp e2
    subst this
    exact (l2.one .nil).2.symm
  | @snoc p n h e hp he ih =>
    intro x' hx' en' px' hx2 ex' l2
    obtain ⟨x, hx, rfl⟩ := chart_all hr hp
    obtain ⟨px, hh, ex, lx, _⟩ := chart_life hr hx
    have eh := ih x hx rfl px hh ex lx
    have he2 := chart_ev hr hx ex hp he
    have ef : decide (x.life = "") = decide (px = []) := by rw [ex]; exact decide_eq_decide.mpr evS_nil_iff
    have lx2 : Life R (px ++ [e]) _ _ := .snoc lx he2
    obtain ⟨m1, c1, f1⟩ := close_hold hm lx2
    obtain ⟨m2, c2, f2⟩ := close_hold hm l2
    have d1 : evS (px ++ [e] ++ (R.step x.n e).1.closing) ∈ R.dec := by
      refine dec_of hx ?_
      unfold RowM.closed
      refine List.mem_cons_of_mem _ (List.mem_map.mpr ⟨e, by rw [ef]; exact he2, ?_⟩)
      rw [ex, ← evS_snoc, evS_cat]
    have d2 : evS (px' ++ (R.step x.n e).1.closing) ∈ R.dec := by
      refine dec_of hx' ?_
      unfold RowM.closed
      rw [ex', en', evS_cat]
      exact List.mem_cons_self
    have z1 := end_zero c1 f1 (hd _ d1 _ _ c1)
    have z2 := end_zero c2 f2 (hd _ d2 _ _ c2)
    omega
theorem decided_sound {R : RowM} (hr : RuleOk R.rule) (hm : R.mode = "held") {home : Int} (h : Decided R home none) {p : List Ev} {n : Node} {k : Int} (hl : Life R p n k) : R.fault home n k = none := by
  obtain ⟨h1, h2⟩ := h
  obtain ⟨x, hx, rfl⟩ := chart_all hr hl
  obtain ⟨px, hh, ex, lx, _⟩ := chart_life hr hx
  have e := one_hold hr hm h1 hl x hx rfl px hh ex lx
  subst e
  by_cases c : px = []
  · subst c
    obtain ⟨e1, e2⟩ := lx.one .nil
    rw [e1, e2]
    rfl
  · exact h2 x hx px _ _ ex lx c
def rankL (p : List Ev) : List Int := (p.length : Int) :: p.map fun e => (e.ix : Int)
theorem lex_num : ∀ (a b : List Ev) (x : Nat), a.length = b.length → HT.lexLt (a.map fun e => (e.ix : Int)) (b.map fun e => (e.ix : Int)) = true → num a x < num b x
  | [], [], x, _, h => by cases h
  | [], _ :: _, _, hl, _ => by cases hl
  | _ :: _, [], _, hl, _ => by cases hl
  | a :: as, b :: bs, x, hl, h => by
    rw [List.map_cons, List.map_cons, HT.lexLt_cons] at h
    have hl2 : as.length = bs.length := by simpa using hl
    by_cases c : (a.ix : Int) = (b.ix : Int)
    · rw [if_pos c] at h
      have : a.ix = b.ix := by omega
      have e := ix_inj this
      subst e
      exact lex_num as bs _ hl2 h
    · rw [if_neg c] at h
      have := of_decide_eq_true h
      exact num_lt as bs _ _ hl2 (by omega)
theorem rank_num {a b : List Ev} (h : HT.lexLt (rankL a) (rankL b) = true) : num a 0 < num b 0 := by
  unfold rankL at h
  rw [HT.lexLt_cons] at h
  by_cases c : (a.length : Int) = (b.length : Int)
  · rw [if_pos c] at h
    exact lex_num a b 0 (by omega) h
  · rw [if_neg c] at h
    have := of_decide_eq_true h
    exact num_short (by omega)

/-! ### papers of rows, plain -/
def lookP (paper : List (Node × Int)) (n : Node) : Option Int := (paper.find? fun x => decide (x.1 = n)).map (·.2)
def AgreeAt (R : RowM) (paper : List (Node × Int)) (x : Node × Int) : Prop := ∀ e ∈ R.evs x.1 (decide (x.1 = start)), lookP paper (R.step x.1 e).1 = some (x.2 + (R.step x.1 e).2)
structure Judge (R : RowM) (home : Int) (paper : List (Node × Int)) : Prop where
  nd : (paper.map fun x => x.1).Nodup
  mks : ∀ x ∈ paper, 0 ≤ x.1.m ∧ x.1.m < (R.rule.length : Int)
  st : lookP paper start = some 0
  ok : ∀ x ∈ paper, R.fault home x.1 x.2 = none ∧ AgreeAt R paper x
theorem lookP_mem {paper : List (Node × Int)} {n : Node} {h : Int} (e : lookP paper n = some h) : (n, h) ∈ paper := by
  unfold lookP at e
  obtain ⟨x, hx, rfl⟩ := Option.map_eq_some_iff.mp e
  have h1 := List.mem_of_find?_eq_some hx
  have h2 := List.find?_some hx
  have h3 := of_decide_eq_true h2
  rw [← h3]
  exact h1
theorem lookP_of {n : Node} {h : Int} : ∀ {paper : List (Node × Int)}, (paper.map fun x => x.1).Nodup → (n, h) ∈ paper → lookP paper n = some h
  | [], _, m => by cases m
  | x :: paper, nd, m => by
    unfold lookP
    rw [List.map_cons] at nd
    obtain ⟨n1, n2⟩ := List.nodup_cons.mp nd
    rcases List.mem_cons.mp m with c | c
    · subst c
      rw [List.find?_cons, decide_eq_true rfl]
      rfl
    · have ne : ¬ x.1 = n := fun e => n1 (List.mem_map.mpr ⟨_, c, e.symm⟩)
      rw [List.find?_cons, decide_eq_false ne]
      exact lookP_of n2 c
theorem evs_start {R : RowM} {p : List Ev} {n : Node} {h : Int} (hl : Life R p n h) {e : Ev} (he : e ∈ R.evs n (decide (p = []))) : e ∈ R.evs n (decide (n = start)) := by
  cases hf : decide (n = start) with
  | true =>
    cases hg : decide (p = []) with
    | true => rw [hg] at he; exact he
    | false => rw [hg] at he; exact evs_first he
  | false =>
    cases hg : decide (p = []) with
    | false => rw [hg] at he; exact he
    | true =>
      have := of_decide_eq_true hg
      subst this
      have := (hl.one .nil).1
      rw [decide_eq_true this] at hf
      cases hf
theorem Judge.life {R : RowM} {home : Int} {paper : List (Node × Int)} (j : Judge R home paper) {p : List Ev} {n : Node} {h : Int} (hl : Life R p n h) : (n, h) ∈ paper := by
  induction hl with
  | nil => exact lookP_mem j.st
  | @snoc p n h e hp he ih => exact lookP_mem ((j.ok _ ih).2 e (evs_start hp he))
theorem Judge.sound {R : RowM} {home : Int} {paper : List (Node × Int)} (j : Judge R home paper) (hr : RuleOk R.rule) {res : Option (Str × Str)} (h : FlawR R home res) : res = none := by
  have l := h.least hr
  cases res with
  | none => rfl
  | some z =>
    obtain ⟨lf, w⟩ := z
    obtain ⟨p, n, k, _, _, _, hl, hf, _⟩ := l
    rw [(j.ok _ (j.life hl)).1] at hf
    cases hf
/-- a sound row -/
def Sound (R : RowM) (home : Int) : Prop := ∀ p n h, Life R p n h → p ≠ [] → R.fault home n h = none
theorem Sound.flaw {R : RowM} {home : Int} (s : Sound R home) (hr : RuleOk R.rule) {res : Option (Str × Str)} (h : FlawR R home res) : res = none := by
  have l := h.least hr
  cases res with
  | none => rfl
  | some z =>
    obtain ⟨lf, w⟩ := z
    obtain ⟨p, n, k, _, hp, _, hl, hf, _⟩ := l
    rw [s p n k hl hp] at hf
    cases hf
def lifeEv (s : Str) : List Ev := s.cps.toList.filterMap fun c => if c = 76 then some Ev.L else if c = 71 then some Ev.G else if c = 72 then some Ev.H else if c = 82 then some Ev.R else if c = 70 then some Ev.F else if c = 68 then some Ev.D else none
theorem lifeEv_ev (p : List Ev) : lifeEv (evS p) = p := by
  unfold lifeEv
  show (p.map Ev.cp).toArray.toList.filterMap _ = p
  induction p with
  | nil => rfl
  | cons e p ih =>
    have ih' : (p.map Ev.cp).filterMap (fun c => if c = 76 then some Ev.L else if c = 71 then some Ev.G else if c = 72 then some Ev.H else if c = 82 then some Ev.R else if c = 70 then some Ev.F else if c = 68 then some Ev.D else none) = p := ih
    show ((e :: p).map Ev.cp).filterMap _ = e :: p
    rw [List.map_cons, List.filterMap_cons]
    cases e <;> simp [Ev.cp, ih']
def RowM.paper (R : RowM) : List (Node × Int) := R.chart.map fun x => (x.n, (R.at (lifeEv x.life)).2)
theorem paper_at {R : RowM} {x : CE} {p : List Ev} {h : Int} (ex : x.life = evS p) (hl : Life R p x.n h) : (x.n, (R.at (lifeEv x.life)).2) = (x.n, h) := by
  rw [ex, lifeEv_ev, hl.at]
theorem Sound.paper {R : RowM} {home : Int} (s : Sound R home) (hr : RuleOk R.rule) (hm : R.mode = "held") : Judge R home R.paper := by
  have hd : ∀ p, evS p ∈ R.dec → ∀ n h, Life R p n h → IsFlaw R home p whats2 none := fun p _ n h hl j h1 h2 w hw => by
    have := s (p.take j) _ _ (hl.take j) (fun z => by
      have := congrArg List.length z
      rw [List.length_take, List.length_nil] at this
      omega)
    rw [hw] at this
    cases this
  have nd : (R.paper.map fun x => x.1).Nodup := by
    unfold RowM.paper
    rw [List.map_map]
    exact (cq_ok hr 24).nd
  have mem : ∀ {x : CE}, x ∈ R.chart → ∃ p h, x.life = evS p ∧ Life R p x.n h ∧ (x.n, h) ∈ R.paper := fun {x} hx => by
    obtain ⟨p, h, ex, hl, _⟩ := chart_life hr hx
    exact ⟨p, h, ex, hl, List.mem_map.mpr ⟨x, hx, paper_at ex hl⟩⟩
  refine ⟨nd, fun y hy => ?_, ?_, fun y hy => ?_⟩
  · obtain ⟨x, hx, rfl⟩ := List.mem_map.mp hy
    exact (cq_ok hr 24).mks x hx
  · refine lookP_of nd ?_
    refine List.mem_map.mpr ⟨c0, chart_c0 R, ?_⟩
    exact paper_at (x := c0) (p := []) (evS_nil_iff.mpr rfl).symm .nil
  · obtain ⟨x, hx, rfl⟩ := List.mem_map.mp hy
    obtain ⟨p, h, ex, hl, hlen⟩ := chart_life hr hx
    rw [paper_at ex hl]
    refine ⟨?_, fun e he => ?_⟩
    · by_cases c : p = []
      · subst c
        obtain ⟨e1, e2⟩ := hl.one .nil
        show R.fault home x.n h = none
        rw [e1, e2]
        rfl
      · exact s p _ _ hl c
    · -- the event is possible behind the node's first life
      have he2 : e ∈ R.evs x.n (decide (p = [])) := by
        by_cases c : x.n = start
        · have := chart_one hr hx (chart_c0 R) c
          subst this
          have ep : p = [] := evS_nil_iff.mp (show evS p = "" from ex.symm)
          have he' : e ∈ R.evs start (decide (start = start)) := he
          rw [decide_eq_true rfl] at he'
          rw [decide_eq_true ep]
          exact he'
        · have he' : e ∈ R.evs x.n (decide (x.n = start)) := he
          rw [decide_eq_false c] at he'
          cases decide (p = []) with
          | true => exact evs_first he'
          | false => exact he'
      have hl2 : Life R (p ++ [e]) _ _ := .snoc hl he2
      obtain ⟨y, hy2, ey⟩ := chart_all hr hl2
      obtain ⟨p', h', ex', hl', hm'⟩ := mem hy2
      have eh := one_hold hr hm hd hl2 y hy2 ey p' h' ex' (by rw [← ey]; exact hl')
      refine lookP_of nd ?_
      rw [ey, ← eh] at hm'
      exact hm'

/-! ### the chart on the heap -/
def CEV (K : PySem.W.Frag) (H : Hp) (v : V) (x : CE) : Prop := ∃ a u, v = .ref a ∧ SqT K H a [u, .str x.life] ∧ NodeV K H u x.n
theorem CEV.mono {K : PySem.W.Frag} {H H' : Hp} (t : KeepT K H H') {v : V} {x : CE} (h : CEV K H v x) : CEV K H' v x := let ⟨a, u, e, s, n⟩ := h; ⟨a, u, e, t _ _ s, n.mono t⟩
def knownC (q : List CE) : List (NestedKey × V) := q.map fun x => (keyN x.n, V.bl true)
theorem known_in (q : List CE) (n : Node) : (valN (knownC q) (keyN n)).isSome = inC q n := by
  unfold knownC inC valN
  rw [Option.isSome_map]
  induction q with
  | nil => rfl
  | cons x l ih =>
    rw [List.map_cons, List.find?_cons, List.any_cons]
    by_cases e : x.n = n
    · have e1 : decide (keyN x.n = keyN n) = true := decide_eq_true (by rw [e])
      simp only [e1, decide_eq_true e]
      rfl
    · have e1 : decide (keyN x.n = keyN n) = false := decide_eq_false fun z => e (keyN_inj z)
      simp only [e1, decide_eq_false e, Bool.false_or]
      exact ih
theorem knownC_put {q : List CE} {x : CE} (hs : inC q x.n = false) : putN (knownC q) (keyN x.n) (.bl true) = knownC (q ++ [x]) := by
  unfold putN
  rw [known_in, hs, if_neg (by decide)]
  unfold knownC
  rw [List.map_append]
  rfl
structure WC (P : Program) (w : World) (K : PySem.W.Frag) (H H' : Hp) (qa kd : Addr) (q : List CE) : Prop where
  same : Same H H'
  fq : H qa = none
  fk : H kd = none
  ne : qa ≠ kd
  at_ : ∃ us, H' qa = some (.lst us) ∧ Paired (CEV K H') us q
  kn : DkAt P w K H' kd (knownC q)
theorem WC.later {P : Program} {w : World} {K : PySem.W.Frag} {H H' H2 : Hp} {qa kd : Addr} {q : List CE} (h : WC P w K H H' qa kd q) (s : Same H' H2) : WC P w K H H2 qa kd q := by
  obtain ⟨us, e1, e2⟩ := h.at_
  obtain ⟨ys, d1, d2, d3⟩ := id h.kn
  exact ⟨h.same.trans s, h.fq, h.fk, h.ne, ⟨us, s _ _ e1, Paired.mapP e2 fun _ _ z => z.mono (keep_same s)⟩, h.kn.mono (keep_same s) (by rw [d1]; exact s _ _ d1)⟩
/-- a new entry: the key's object v, the pair at t3 -/
theorem WC.put {P : Program} {w : World} {K : PySem.W.Frag} {H H3 H7 : Hp} {qa kd t3 : Addr} {q : List CE} {n : Node} {v : V} {l : Str} (W : WC P w K H H3 qa kd q) (hs : inC q n = false) (hv : NodeV K H3 v n)
    (hne : ∀ b, b ≠ kd → H7 b = H3 b) (keep7 : KeepT K H3 H7) (hD7 : DkAt P w K H7 kd (putN (knownC q) (keyN n) (.bl true))) {us : List V} (hus : H7 qa = some (.lst us)) (ht : H7 t3 = none) :
    WC P w K H (upd (upd H7 t3 (.tup [v, .str l])) qa (.lst (us ++ [.ref t3]))) qa kd (q ++ [⟨n, l⟩]) ∧ KeepT K H3 (upd (upd H7 t3 (.tup [v, .str l])) qa (.lst (us ++ [.ref t3]))) := by
  obtain ⟨us3, e1, e2⟩ := W.at_
  have eus : us3 = us := by
    have := hne qa W.ne
    rw [hus, e1] at this
    injection this with this
    injection this with this
    exact this.symm
  subst eus
  have s8 := same_new (o := .tup [v, .str l]) ht
  have hq8 := s8 _ _ hus
  have b9 : But qa (upd H7 t3 (.tup [v, .str l])) (upd (upd H7 t3 (.tup [v, .str l])) qa (.lst (us3 ++ [.ref t3]))) := But.upd
  have k9 := keep_lst (K := K) b9 hq8
  have k79 : KeepT K H7 _ := fun a' xs' h' => k9 _ _ (keep_same s8 _ _ h')
  have k39 : KeepT K H3 _ := fun a' xs' h' => k79 _ _ (keep7 a' xs' h')
  refine ⟨⟨?_, W.fq, W.fk, W.ne, ⟨us3 ++ [.ref t3], upd_same, ?_⟩, ?_⟩, k39⟩
  · intro b' o hb'
    have n1 : b' ≠ qa := ne_of_none hb' W.fq
    have n2 : b' ≠ kd := ne_of_none hb' W.fk
    refine b9 _ _ (s8 _ _ ?_) n1
    rw [hne _ n2]
    exact W.same _ _ hb'
  · exact pr_app (Paired.mapP e2 fun _ _ z => z.mono k39) (.cons ⟨t3, v, rfl, k9 _ _ (SqT.of upd_same), hv.mono k39⟩ .nil)
  · have hD9 := hD7.mono k79 (by
      obtain ⟨ys, d1, _⟩ := id hD7
      rw [upd_ne W.ne.symm, d1]
      exact s8 _ _ d1)
    have kp := knownC_put (q := q) (x := ⟨n, l⟩) hs
    rw [← kp]
    exact hD9
theorem cstep_len (R : RowM) (x : CE) (q : List CE) (e : Ev) : (R.cstep x q e).length ≤ q.length + 1 := by
  unfold RowM.cstep
  split
  · omega
  · rw [List.length_append]; exact Nat.le_refl _
theorem cfold_len (R : RowM) (x : CE) : ∀ (es : List Ev) (q : List CE), (es.foldl (R.cstep x) q).length ≤ q.length + es.length
  | [], q => Nat.le_refl _
  | e :: es, q => by
    have := cfold_len R x es (R.cstep x q e)
    have := cstep_len R x q e
    rw [List.foldl_cons, List.length_cons]
    omega

def top (i : Nat) : Stmt := PySem.Challenge.pw_surebridge_k24_holdings.main.body.getD i (.Pass ⟨0, 0, 0, 0⟩)
abbrev s_UnsoundRow___init__ : Stmt := inClass (top 4) 0
abbrev s_is_mark : Stmt := top 14
abbrev s_is_rule : Stmt := top 15
abbrev s_Row___init__ : Stmt := inClass (top 16) 0
abbrev s_plain_row : Stmt := top 17
abbrev s_is_usable : Stmt := top 20
abbrev s_is_finished : Stmt := top 21
abbrev s_can_happen : Stmt := top 22
abbrev s_possible : Stmt := top 23
abbrev s_step : Stmt := top 24
abbrev s_walk : Stmt := top 25
abbrev s_chart : Stmt := top 26
abbrev s_fault : Stmt := top 28
abbrev s_first_flaw : Stmt := top 29
abbrev s_holdings : Stmt := top 31
abbrev s_steps_agree : Stmt := top 32
abbrev s_judge_holdings : Stmt := top 33
abbrev s__law_deck : Stmt := top 35
abbrev s__law_take : Stmt := top 36
abbrev s__law_living_rule : Stmt := top 37
abbrev s__law_call_rule : Stmt := top 38
abbrev s__law_wild_rule : Stmt := top 39
abbrev s__law_spoil : Stmt := top 40
abbrev s__law_spec : Stmt := top 41
abbrev s__law_usable : Stmt := top 42
abbrev s__law_events : Stmt := top 43
abbrev s__law_next : Stmt := top 44
abbrev s__law_fault : Stmt := top 45
abbrev s__law_row : Stmt := top 46
abbrev s__law_whole : Stmt := top 47
abbrev s__law_same_node : Stmt := top 48
abbrev s__law_life : Stmt := top 49
abbrev s__law_path : Stmt := top 50
abbrev s__law_chart : Stmt := top 51
abbrev s__law_first_flaw : Stmt := top 52
abbrev s__law_refused : Stmt := top 53
abbrev s__law_same_holds : Stmt := top 54
abbrev s__law_held : Stmt := top 55
abbrev s_law : Stmt := top 56
abbrev N_UnsoundRow___init__ : List Str := ["self", "life", "what"]
theorem sc_UnsoundRow___init__ : FnScope N_UnsoundRow___init__ ["self", "life", "what"] (defScope s_UnsoundRow___init__) := ⟨rfl, rfl, rfl, by decide +kernel, rfl, by decide +kernel, by decide +kernel⟩
abbrev N_is_mark : List Str := ["mark", "marks", "follow", "change"]
theorem sc_is_mark : FnScope N_is_mark ["mark", "marks"] (defScope s_is_mark) := ⟨rfl, rfl, rfl, by decide +kernel, rfl, by decide +kernel, by decide +kernel⟩
abbrev N_is_rule : List Str := ["rule", "mark"]
theorem sc_is_rule : FnScope N_is_rule ["rule"] (defScope s_is_rule) := ⟨rfl, rfl, rfl, by decide +kernel, rfl, by decide +kernel, by decide +kernel⟩
abbrev N_Row___init__ : List Str := ["self", "mode", "sharing", "lease", "grip", "rule", "held", "marks", "mark", "pair"]
theorem sc_Row___init__ : FnScope N_Row___init__ ["self", "mode", "sharing", "lease", "grip", "rule"] (defScope s_Row___init__) := ⟨rfl, rfl, rfl, by decide +kernel, rfl, by decide +kernel, by decide +kernel⟩
abbrev N_plain_row : List Str := ["mode"]
theorem sc_plain_row : FnScope N_plain_row ["mode"] (defScope s_plain_row) := ⟨rfl, rfl, rfl, by decide +kernel, rfl, by decide +kernel, by decide +kernel⟩
abbrev N_is_usable : List Str := ["row", "node"]
theorem sc_is_usable : FnScope N_is_usable ["row", "node"] (defScope s_is_usable) := ⟨rfl, rfl, rfl, by decide +kernel, rfl, by decide +kernel, by decide +kernel⟩
abbrev N_is_finished : List Str := ["node"]
theorem sc_is_finished : FnScope N_is_finished ["node"] (defScope s_is_finished) := ⟨rfl, rfl, rfl, by decide +kernel, rfl, by decide +kernel, by decide +kernel⟩
abbrev N_can_happen : List Str := ["row", "node", "event", "first"]
theorem sc_can_happen : FnScope N_can_happen ["row", "node", "event", "first"] (defScope s_can_happen) := ⟨rfl, rfl, rfl, by decide +kernel, rfl, by decide +kernel, by decide +kernel⟩
abbrev N_possible : List Str := ["row", "node", "first", "event"]
theorem sc_possible : FnScope N_possible ["row", "node", "first"] (defScope s_possible) := ⟨rfl, rfl, rfl, by decide +kernel, rfl, by decide +kernel, by decide +kernel⟩
abbrev N_step : List Str := ["row", "node", "event", "mark", "alive", "status", "follow", "change"]
theorem sc_step : FnScope N_step ["row", "node", "event"] (defScope s_step) := ⟨rfl, rfl, rfl, by decide +kernel, rfl, by decide +kernel, by decide +kernel⟩
abbrev N_walk : List Str := ["row", "life", "node", "hold", "path", "place", "change"]
theorem sc_walk : FnScope N_walk ["row", "life"] (defScope s_walk) := ⟨rfl, rfl, rfl, by decide +kernel, rfl, by decide +kernel, by decide +kernel⟩
abbrev N_chart : List Str := ["row", "found", "known", "at", "node", "life", "event", "follow"]
theorem sc_chart : FnScope N_chart ["row"] (defScope s_chart) := ⟨rfl, rfl, rfl, by decide +kernel, rfl, by decide +kernel, by decide +kernel⟩
abbrev N_fault : List Str := ["row", "home", "node", "hold"]
theorem sc_fault : FnScope N_fault ["row", "home", "node", "hold"] (defScope s_fault) := ⟨rfl, rfl, rfl, by decide +kernel, rfl, by decide +kernel, by decide +kernel⟩
abbrev N_first_flaw : List Str := ["row", "home", "queue", "known", "at", "node", "hold", "life", "event", "follow", "change", "what"]
theorem sc_first_flaw : FnScope N_first_flaw ["row", "home"] (defScope s_first_flaw) := ⟨rfl, rfl, rfl, by decide +kernel, rfl, by decide +kernel, by decide +kernel⟩
abbrev N_holdings : List Str := ["row", "home", "found", "node", "life"]
theorem sc_holdings : FnScope N_holdings ["row", "home"] (defScope s_holdings) := ⟨rfl, rfl, rfl, by decide +kernel, rfl, by decide +kernel, by decide +kernel⟩
abbrev N_steps_agree : List Str := ["row", "holds", "node", "event", "follow", "change"]
theorem sc_steps_agree : FnScope N_steps_agree ["row", "holds", "node"] (defScope s_steps_agree) := ⟨rfl, rfl, rfl, by decide +kernel, rfl, by decide +kernel, by decide +kernel⟩
abbrev N_judge_holdings : List Str := ["row", "home", "paper", "holds", "node", "hold"]
theorem sc_judge_holdings : FnScope N_judge_holdings ["row", "home", "paper"] (defScope s_judge_holdings) := ⟨rfl, rfl, rfl, by decide +kernel, rfl, by decide +kernel, by decide +kernel⟩
abbrev N__law_deck : List Str := ["script", "cells", "each", "deck", "seed", "k", "cell", "rest", "at"]
theorem sc__law_deck : FnScope N__law_deck ["script", "cells", "each"] (defScope s__law_deck) := ⟨rfl, rfl, rfl, by decide +kernel, rfl, by decide +kernel, by decide +kernel⟩
abbrev N__law_take : List Str := ["deck", "many"]
theorem sc__law_take : FnScope N__law_take ["deck", "many"] (defScope s__law_take) := ⟨rfl, rfl, rfl, by decide +kernel, rfl, by decide +kernel, by decide +kernel⟩
abbrev N__law_living_rule : List Str := ["deck", "size", "sure", "holds", "mark", "living", "dead", "rule", "pairs", "event", "pool", "goal"]
theorem sc__law_living_rule : FnScope N__law_living_rule ["deck"] (defScope s__law_living_rule) := ⟨rfl, rfl, rfl, by decide +kernel, rfl, by decide +kernel, by decide +kernel⟩
abbrev N__law_call_rule : List Str := ["deck", "lent", "given", "idle", "lending", "free", "gone"]
theorem sc__law_call_rule : FnScope N__law_call_rule ["deck"] (defScope s__law_call_rule) := ⟨rfl, rfl, rfl, by decide +kernel, rfl, by decide +kernel, by decide +kernel⟩
abbrev N__law_wild_rule : List Str := ["deck", "size", "rule", "mark", "pairs", "event", "change"]
theorem sc__law_wild_rule : FnScope N__law_wild_rule ["deck"] (defScope s__law_wild_rule) := ⟨rfl, rfl, rfl, by decide +kernel, rfl, by decide +kernel, by decide +kernel⟩
abbrev N__law_spoil : List Str := ["deck", "rule", "mark", "event", "pair", "kind"]
theorem sc__law_spoil : FnScope N__law_spoil ["deck", "rule"] (defScope s__law_spoil) := ⟨rfl, rfl, rfl, by decide +kernel, rfl, by decide +kernel, by decide +kernel⟩
abbrev N__law_spec : List Str := ["deck", "sharing", "lease", "grip", "kind", "rule", "hold", "turn"]
theorem sc__law_spec : FnScope N__law_spec ["deck"] (defScope s__law_spec) := ⟨rfl, rfl, rfl, by decide +kernel, rfl, by decide +kernel, by decide +kernel⟩
abbrev N__law_usable : List Str := ["spec", "node"]
theorem sc__law_usable : FnScope N__law_usable ["spec", "node"] (defScope s__law_usable) := ⟨rfl, rfl, rfl, by decide +kernel, rfl, by decide +kernel, by decide +kernel⟩
abbrev N__law_events : List Str := ["spec", "node", "first", "found"]
theorem sc__law_events : FnScope N__law_events ["spec", "node", "first"] (defScope s__law_events) := ⟨rfl, rfl, rfl, by decide +kernel, rfl, by decide +kernel, by decide +kernel⟩
abbrev N__law_next : List Str := ["spec", "node", "event", "pair", "alive", "status"]
theorem sc__law_next : FnScope N__law_next ["spec", "node", "event"] (defScope s__law_next) := ⟨rfl, rfl, rfl, by decide +kernel, rfl, by decide +kernel, by decide +kernel⟩
abbrev N__law_fault : List Str := ["spec", "home", "node", "hold"]
theorem sc__law_fault : FnScope N__law_fault ["spec", "home", "node", "hold"] (defScope s__law_fault) := ⟨rfl, rfl, rfl, by decide +kernel, rfl, by decide +kernel, by decide +kernel⟩
abbrev N__law_row : List Str := ["spec", "mark"]
theorem sc__law_row : FnScope N__law_row ["spec"] (defScope s__law_row) := ⟨rfl, rfl, rfl, by decide +kernel, rfl, by decide +kernel, by decide +kernel⟩
abbrev N__law_whole : List Str := ["value"]
theorem sc__law_whole : FnScope N__law_whole ["value"] (defScope s__law_whole) := ⟨rfl, rfl, rfl, by decide +kernel, rfl, by decide +kernel, by decide +kernel⟩
abbrev N__law_same_node : List Str := ["actual", "node"]
theorem sc__law_same_node : FnScope N__law_same_node ["actual", "node"] (defScope s__law_same_node) := ⟨rfl, rfl, rfl, by decide +kernel, rfl, by decide +kernel, by decide +kernel⟩
abbrev N__law_life : List Str := ["deck", "spec", "size", "node", "life", "turn", "events", "event"]
theorem sc__law_life : FnScope N__law_life ["deck", "spec", "size"] (defScope s__law_life) := ⟨rfl, rfl, rfl, by decide +kernel, rfl, by decide +kernel, by decide +kernel⟩
abbrev N__law_path : List Str := ["spec", "life", "node", "hold", "path", "at", "follow"]
theorem sc__law_path : FnScope N__law_path ["spec", "life"] (defScope s__law_path) := ⟨rfl, rfl, rfl, by decide +kernel, rfl, by decide +kernel, by decide +kernel⟩
abbrev N__law_chart : List Str := ["spec", "found", "known", "at", "node", "life", "event", "follow"]
theorem sc__law_chart : FnScope N__law_chart ["spec"] (defScope s__law_chart) := ⟨rfl, rfl, rfl, by decide +kernel, rfl, by decide +kernel, by decide +kernel⟩
abbrev N__law_first_flaw : List Str := ["spec", "home", "queue", "known", "at", "node", "hold", "life", "event", "follow", "total", "what"]
theorem sc__law_first_flaw : FnScope N__law_first_flaw ["spec", "home"] (defScope s__law_first_flaw) := ⟨rfl, rfl, rfl, by decide +kernel, rfl, by decide +kernel, by decide +kernel⟩
abbrev N__law_refused : List Str := ["row", "home", "flaw", "e"]
theorem sc__law_refused : FnScope N__law_refused ["row", "home", "flaw"] (defScope s__law_refused) := ⟨rfl, rfl, rfl, by decide +kernel, rfl, by decide +kernel, by decide +kernel⟩
abbrev N__law_same_holds : List Str := ["answer", "due", "at", "pair"]
theorem sc__law_same_holds : FnScope N__law_same_holds ["answer", "due"] (defScope s__law_same_holds) := ⟨rfl, rfl, rfl, by decide +kernel, rfl, by decide +kernel, by decide +kernel⟩
abbrev N__law_held : List Str := ["deck", "row", "spec", "home", "pair", "due", "paper", "turn", "life"]
theorem sc__law_held : FnScope N__law_held ["deck", "row", "spec", "home"] (defScope s__law_held) := ⟨rfl, rfl, rfl, by decide +kernel, rfl, by decide +kernel, by decide +kernel⟩
abbrev N_law : List Str := ["script", "deck", "turn", "spec", "row", "home", "flaw", "mode"]
theorem sc_law : FnScope N_law ["script"] (defScope s_law) := ⟨rfl, rfl, rfl, by decide +kernel, rfl, by decide +kernel, by decide +kernel⟩
structure Tx (K : PySem.W.Frag) (mg : Str → Option Value) : Prop where
  d_UnsoundRow___init__ : MakE K mg "UnsoundRow" (He.ga K "UnsoundRow") "UnsoundRow.__init__" s_UnsoundRow___init__ ["self", "life", "what"]
  d_is_mark : DefAt K mg "is_mark" s_is_mark ["mark", "marks"]
  d_is_rule : DefAt K mg "is_rule" s_is_rule ["rule"]
  d_Row___init__ : MakAt K mg "Row" (He.ga K "Row") "Row.__init__" s_Row___init__ ["self", "mode", "sharing", "lease", "grip", "rule"]
  d_plain_row : DefAt K mg "plain_row" s_plain_row ["mode"]
  d_is_usable : DefAt K mg "is_usable" s_is_usable ["row", "node"]
  d_is_finished : DefAt K mg "is_finished" s_is_finished ["node"]
  d_can_happen : DefAt K mg "can_happen" s_can_happen ["row", "node", "event", "first"]
  d_possible : DefAt K mg "possible" s_possible ["row", "node", "first"]
  d_step : DefAt K mg "step" s_step ["row", "node", "event"]
  d_walk : DefAt K mg "walk" s_walk ["row", "life"]
  d_chart : DefAt K mg "chart" s_chart ["row"]
  d_fault : DefAt K mg "fault" s_fault ["row", "home", "node", "hold"]
  d_first_flaw : DefAt K mg "first_flaw" s_first_flaw ["row", "home"]
  d_holdings : DefAt K mg "holdings" s_holdings ["row", "home"]
  d_steps_agree : DefAt K mg "steps_agree" s_steps_agree ["row", "holds", "node"]
  d_judge_holdings : DefAt K mg "judge_holdings" s_judge_holdings ["row", "home", "paper"]
  d__law_deck : DefAt K mg "_law_deck" s__law_deck ["script", "cells", "each"]
  d__law_take : DefAt K mg "_law_take" s__law_take ["deck", "many"]
  d__law_living_rule : DefAt K mg "_law_living_rule" s__law_living_rule ["deck"]
  d__law_call_rule : DefAt K mg "_law_call_rule" s__law_call_rule ["deck"]
  d__law_wild_rule : DefAt K mg "_law_wild_rule" s__law_wild_rule ["deck"]
  d__law_spoil : DefAt K mg "_law_spoil" s__law_spoil ["deck", "rule"]
  d__law_spec : DefAt K mg "_law_spec" s__law_spec ["deck"]
  d__law_usable : DefAt K mg "_law_usable" s__law_usable ["spec", "node"]
  d__law_events : DefAt K mg "_law_events" s__law_events ["spec", "node", "first"]
  d__law_next : DefAt K mg "_law_next" s__law_next ["spec", "node", "event"]
  d__law_fault : DefAt K mg "_law_fault" s__law_fault ["spec", "home", "node", "hold"]
  d__law_row : DefAt K mg "_law_row" s__law_row ["spec"]
  d__law_whole : DefAt K mg "_law_whole" s__law_whole ["value"]
  d__law_same_node : DefAt K mg "_law_same_node" s__law_same_node ["actual", "node"]
  d__law_life : DefAt K mg "_law_life" s__law_life ["deck", "spec", "size"]
  d__law_path : DefAt K mg "_law_path" s__law_path ["spec", "life"]
  d__law_chart : DefAt K mg "_law_chart" s__law_chart ["spec"]
  d__law_first_flaw : DefAt K mg "_law_first_flaw" s__law_first_flaw ["spec", "home"]
  d__law_refused : DefAt K mg "_law_refused" s__law_refused ["row", "home", "flaw"]
  d__law_same_holds : DefAt K mg "_law_same_holds" s__law_same_holds ["answer", "due"]
  d__law_held : DefAt K mg "_law_held" s__law_held ["deck", "row", "spec", "home"]
  cl_Row : Cls K (He.ga K "Row")
  g_Row : mg "Row" = some (.ref (He.ga K "Row"))
  n_Row_mode : NoAttr K (He.ga K "Row") "mode"
  n_Row_sharing : NoAttr K (He.ga K "Row") "sharing"
  n_Row_lease : NoAttr K (He.ga K "Row") "lease"
  n_Row_grip : NoAttr K (He.ga K "Row") "grip"
  n_Row_rule : NoAttr K (He.ga K "Row") "rule"
  g_BridgeError : mg "BridgeError" = some (.ref (He.ga K "BridgeError"))
  g_UnsoundRow : mg "UnsoundRow" = some (.ref (He.ga K "UnsoundRow"))
  g_ImpossibleLife : mg "ImpossibleLife" = some (.ref (He.ga K "ImpossibleLife"))
  u_own : OwnE K (He.ga K "UnsoundRow")
  u_bi : BInit K (He.ga K "BridgeError")
  u_life : PySem.W.findIn K (.ref (He.ga K "UnsoundRow")) "life" = some none
  u_what : PySem.W.findIn K (.ref (He.ga K "UnsoundRow")) "what" = some none
  u_un : PySem.W.kitOne K (.ref (He.ga K "UnsoundRow")) (.ref (He.ga K "UnsoundRow")) = some true
  u_im : PySem.W.kitOne K (.ref (He.ga K "UnsoundRow")) (.ref (He.ga K "ImpossibleLife")) = some false
  u_ve : PySem.W.kitOne K (.ref (He.ga K "UnsoundRow")) (.type "ValueError") = some true
  u_ex : PySem.W.exmOne K (.ref (He.ga K "UnsoundRow")) (.ref (He.ga K "BridgeError")) = some true
  b_abs : mg "abs" = none
  g_MOST_CHANGE : ∃ u, mg "MOST_CHANGE" = some u ∧ RelV (.int 3) u
  b_len : mg "len" = none
  g_EVENTS : ∃ u, mg "EVENTS" = some u ∧ RelV (.str "LGHRFD") u
  g_MOST_MARKS : ∃ u, mg "MOST_MARKS" = some u ∧ RelV (.int 4) u
  b_tuple : mg "tuple" = none
  g_STILL : mg "STILL" = some (.ref (He.ga K "STILL"))
  v_STILL : ∀ H : Hp, Dp K H (.ref (He.ga K "STILL")) (.tuple (List.replicate 6 (.tuple [.int 0, .int 0])))
  g_GRIPS : mg "GRIPS" = some (.ref (He.ga K "GRIPS"))
  v_GRIPS : ∀ H : Hp, Dp K H (.ref (He.ga K "GRIPS")) (.tuple (([("slot" : Str), "place", "pin"] : List Str).map PyData.str))
  g_LEASES : mg "LEASES" = some (.ref (He.ga K "LEASES"))
  v_LEASES : ∀ H : Hp, Dp K H (.ref (He.ga K "LEASES")) (.tuple (([("always" : Str), "call"] : List Str).map PyData.str))
  g_SHARINGS : mg "SHARINGS" = some (.ref (He.ga K "SHARINGS"))
  v_SHARINGS : ∀ H : Hp, Dp K H (.ref (He.ga K "SHARINGS")) (.tuple (([("one" : Str), "each"] : List Str).map PyData.str))
  g_MODES : mg "MODES" = some (.ref (He.ga K "MODES"))
  v_MODES : ∀ H : Hp, Dp K H (.ref (He.ga K "MODES")) (.tuple (([("held" : Str), "copied", "refused"] : List Str).map PyData.str))
  b_range : mg "range" = none
  g_START : mg "START" = some (.ref (He.ga K "START"))
  v_START : ∀ H : Hp, Dp K H (.ref (He.ga K "START")) (.tuple [.int 0, .bool false, .str "shut"])
  b_int : mg "int" = none
  b_min : mg "min" = none
  b_max : mg "max" = none
  b_list : mg "list" = none
  b_isinstance : mg "isinstance" = none
  b_bool : mg "bool" = none
  b_str : mg "str" = none
  b_ValueError : mg "ValueError" = none
section
variable {P : Program} {w : World} {K : PySem.W.Frag} {mg : Str → Option Value} {base : Heap}
/-! ### the deck -/
def Dk (H : Hp) (d : Addr) : Prop := ∃ ds : List Int, H d = some (.lst (ds.map V.int))
def sp__law_take (K : PySem.W.Frag) : Sp := fun vs H Q _ => ∃ (d : Addr) (ds : List Int) (m : Int), vs = [.ref d, .int m] ∧ H d = some (.lst (ds.map V.int)) ∧ 0 < m ∧
  ∀ (r : Int) (ds' : List Int), 0 ≤ r → r < m → Q (.int r) (upd H d (.lst (ds'.map V.int)))
theorem c__law_take (T : Tx K mg) : C8.Cal P w K mg base 1 "_law_take" (sp__law_take K) [] := by
  refine c_mk T.d__law_take sc__law_take (fun vs H Q E h => ?_) (fun f cdv A outer s H vs Q E hr h => ?_)
  · first | (obtain ⟨rfl, _⟩ := h; rfl) | (obtain ⟨_, rfl, _⟩ := h; rfl) | (obtain ⟨_, _, rfl, _⟩ := h; rfl) | (obtain ⟨_, _, _, rfl, _⟩ := h; rfl) | (obtain ⟨_, _, _, _, rfl, _⟩ := h; rfl) | (obtain ⟨_, _, _, _, _, rfl, _⟩ := h; rfl) | (obtain ⟨_, _, _, _, _, _, rfl, _⟩ := h; rfl) | (obtain ⟨_, _, _, _, _, _, _, rfl, _⟩ := h; rfl) | (obtain ⟨_, _, _, _, _, _, _, _, rfl, _⟩ := h; rfl) | (obtain ⟨_, _, _, _, _, _, _, _, _, rfl, _⟩ := h; rfl) | (obtain ⟨_, _, _, _, _, _, _, _, _, _, rfl, _⟩ := h; rfl) | (obtain ⟨_, _, _, _, _, _, _, _, _, _, _, rfl, _⟩ := h; rfl) | (obtain ⟨_, _, _, _, _, _, _, _, _, _, _, _, rfl, _⟩ := h; rfl) | (obtain ⟨_, _, _, _, _, _, _, _, _, _, _, _, _, rfl, _⟩ := h; rfl)
  have hu := hu_of hr
  refine ⟨_, (pss_cons (ps_if (pt_cmpR op_eq (pe_callB call_len_seq rfl T.b_len (by decide +kernel) (pa_cons (pv 0) pa_nil)) pe_int (nomark _)) (pss_one (ps_ret pe_int)) pss_nil)
    (pss_one (ps_ret (pe_op op_mod (pe_callTy call_int1 rfl T.b_int (by decide +kernel) (pa_cons (pe_bm0 PySem.F.plainAttrs_list PySem.F.slot_list_pop PySem.F.type_list_pop mt_pop (pv 0)) pa_nil)) (pv 1))))), ?_⟩
  obtain ⟨d, ds, m, rfl, hd, hm, k⟩ := h
  refine ⟨_, rfl, d, _, rfl, .inl (SqL.of hd), rfl, _, rfl, ?_⟩
  refine ite2 (fun e => ?_) (fun e => ?_)
  · have z := k 0 ds (Int.le_refl 0) hm
    rw [upd_id hd] at z
    exact z
  · have hne : ds ≠ [] := by rintro rfl; exact e rfl
    obtain ⟨ini, z, rfl⟩ : ∃ (ini : List Int) (z : Int), ds = ini ++ [z] := ⟨ds.dropLast, ds.getLast hne, (List.dropLast_concat_getLast hne).symm⟩
    refine ⟨_, rfl, .inl ⟨rfl, _, .inl (.inl hd)⟩, d, _, .int z, rfl, rfl, hd, by simp, .inl ⟨_, rfl, _, rfl, _, _, rfl, rfl, hm, ?_⟩⟩
    have y := k (z % m) ini (Int.emod_nonneg _ (by omega)) (Int.emod_lt_of_pos _ hm)
    have e2 : (List.map V.int (ini ++ [z])).dropLast = ini.map V.int := by simp
    rw [← e2] at y
    exact y
def sp__law_deck (K : PySem.W.Frag) : Sp := fun vs H Q _ => ∃ (a : Addr) (ns : List Int) (c e : Int), vs = [.ref a, .int c, .int e] ∧ SqL K H a (ns.map V.int) ∧ ns.length ≤ 63 ∧ 0 ≤ c ∧ c ≤ 100 ∧ 0 ≤ e ∧ e ≤ 100 ∧
  ∀ (p : Addr) (H' : Hp) (ds : List Int), H p = none → Same H H' → H' p = some (.lst (ds.map V.int)) → Q (.ref p) H'
theorem c__law_deck (T : Tx K mg) : C8.Cal P w K mg base 1 "_law_deck" (sp__law_deck K) [] := by
  refine c_mk T.d__law_deck sc__law_deck (fun vs H Q E h => ?_) (fun f cdv A outer s H vs Q E hr h => ?_)
  · first | (obtain ⟨rfl, _⟩ := h; rfl) | (obtain ⟨_, rfl, _⟩ := h; rfl) | (obtain ⟨_, _, rfl, _⟩ := h; rfl) | (obtain ⟨_, _, _, rfl, _⟩ := h; rfl) | (obtain ⟨_, _, _, _, rfl, _⟩ := h; rfl) | (obtain ⟨_, _, _, _, _, rfl, _⟩ := h; rfl) | (obtain ⟨_, _, _, _, _, _, rfl, _⟩ := h; rfl) | (obtain ⟨_, _, _, _, _, _, _, rfl, _⟩ := h; rfl) | (obtain ⟨_, _, _, _, _, _, _, _, rfl, _⟩ := h; rfl) | (obtain ⟨_, _, _, _, _, _, _, _, _, rfl, _⟩ := h; rfl) | (obtain ⟨_, _, _, _, _, _, _, _, _, _, rfl, _⟩ := h; rfl) | (obtain ⟨_, _, _, _, _, _, _, _, _, _, _, rfl, _⟩ := h; rfl) | (obtain ⟨_, _, _, _, _, _, _, _, _, _, _, _, rfl, _⟩ := h; rfl) | (obtain ⟨_, _, _, _, _, _, _, _, _, _, _, _, _, rfl, _⟩ := h; rfl)
  have hu := hu_of hr
  refine ⟨_, (pss_cons (ps_set (i := 3) sc__law_deck.nd rfl (by first | exact Or.inl rfl | exact Or.inr rfl) (pe_lst pa_nil))
    (pss_cons (ps_set (i := 4) sc__law_deck.nd rfl (by first | exact Or.inl rfl | exact Or.inr rfl) (pe_op op_add pe_int (pe_callB call_len_seq rfl T.b_len (by decide +kernel) (pa_cons (pv 0) pa_nil))))
    (pss_cons (ps_for PassesOwn.never rfl (pi_range1 rfl T.b_range (pa_cons (pv 1) pa_nil)) (pg_name (i := 5) sc__law_deck.nd rfl (by first | exact Or.inl rfl | exact Or.inr rfl)) (pss_cons (ps_set (i := 6) sc__law_deck.nd rfl (by first | exact Or.inl rfl | exact Or.inr rfl) pe_int)
    (C8.pss_cut (ps_if (pt_cmpR op_lt (pv 5) (pe_callB call_len_seq rfl T.b_len (by decide +kernel) (pa_cons (pv 0) pa_nil)) (nomark _)) (pss_one (ps_set (i := 6) sc__law_deck.nd rfl (by first | exact Or.inl rfl | exact Or.inr rfl) (pe_ix ix_list (pv 0) (pv 5) (fun _ _ => rfl)))) pss_nil)
    (pss_cons (ps_set (i := 7) sc__law_deck.nd rfl (by first | exact Or.inl rfl | exact Or.inr rfl) (pe_callB call_abs rfl T.b_abs (by decide +kernel) (pa_cons (pv 6) pa_nil)))
    (pss_one (ps_if (pt_cmpR op_ge (pv 7) (pe_op op_pow pe_int pe_int) (nomark _)) (pss_one (ps_for PassesOwn.never rfl (pi_range1 rfl T.b_range (pa_cons (pv 2) pa_nil)) (pg_name (i := 8) sc__law_deck.nd rfl (by first | exact Or.inl rfl | exact Or.inr rfl)) (pss_cons (ps_expr (pe_bm PySem.F.plainAttrs_list PySem.F.slot_list_append PySem.F.type_list_append mt_append (pv 3) (pa_cons (pe_op op_mod (pe_callTy call_int1 rfl T.b_int (by decide +kernel) (pa_cons (pv 7) pa_nil)) pe_int) pa_nil)))
    (pss_one (ps_set (i := 7) sc__law_deck.nd rfl (by first | exact Or.inl rfl | exact Or.inr rfl) (pe_op op_fdiv (pv 7) pe_int)))))) (pss_cons (ps_set (i := 4) sc__law_deck.nd rfl (by first | exact Or.inl rfl | exact Or.inr rfl) (pe_op op_mod (pe_callTy call_int1 rfl T.b_int (by decide +kernel) (pa_cons (pe_op op_add (pe_op op_add (pe_op op_add (pe_op op_mul (pv 4) pe_int) (pe_op op_mul pe_int (pv 7))) (pe_callTy call_int1 rfl T.b_int (by decide +kernel) (pa_cons (pe_cmpR op_lt (pv 6) pe_int (nomark _)) pa_nil))) (pv 5)) pa_nil)) pe_int))
    (pss_one (ps_for PassesOwn.never rfl (pi_range1 rfl T.b_range (pa_cons (pv 2) pa_nil)) (pg_name (i := 8) sc__law_deck.nd rfl (by first | exact Or.inl rfl | exact Or.inr rfl)) (pss_cons (ps_set (i := 4) sc__law_deck.nd rfl (by first | exact Or.inl rfl | exact Or.inr rfl) (pe_op op_mod (pe_callTy call_int1 rfl T.b_int (by decide +kernel) (pa_cons (pe_op op_add (pe_op op_add (pe_op op_mul (pv 4) pe_int) (pv 8)) pe_int) pa_nil)) pe_int))
    (pss_one (ps_expr (pe_bm PySem.F.plainAttrs_list PySem.F.slot_list_append PySem.F.type_list_append mt_append (pv 3) (pa_cons (pe_op op_mod (pe_callTy call_int1 rfl T.b_int (by decide +kernel) (pa_cons (pe_op op_fdiv (pv 4) pe_int) pa_nil)) pe_int) pa_nil))))))))))))))
    (pss_cons (ps_expr (pe_bm0 PySem.F.plainAttrs_list PySem.F.slot_list_reverse PySem.F.type_list_reverse mt_reverse (pv 3)))
    (pss_one (ps_ret (pv 3))))))), ?_⟩
  obtain ⟨a, ns, c, e, rfl, hS, hl, hc0, hc1, he0, he1, k⟩ := h
  refine ⟨by decide, fun p hp => ?_⟩
  have s0 : Same H (upd H p (.lst [])) := same_new hp
  refine ⟨_, rfl, _, _, rfl, .inl (s0.seq hS), _, _, rfl, rfl, ?_⟩
  refine ⟨_, rfl, c, rfl, by omega, by omega, for_range (lo := 0) (n := c.toNat) (fun i σ H2 => ∃ (ds : List Int) (seed : Int) (v5 v6 v7 v8 : Option V),
    σ = [some (.ref a), some (.int c), some (.int e), some (.ref p), some (.int seed), v5, v6, v7, v8] ∧ Same H H2 ∧ H2 p = some (.lst (ds.map V.int)) ∧ ds.length ≤ i * e.toNat ∧ 0 ≤ seed ∧ seed < 2147483647) ?_ ?_ ?_⟩
  · exact ⟨[], _, none, none, none, none, rfl, s0, upd_same, by simp, by omega, by rw [List.length_map]; omega⟩
  · rintro i σ H2 hi ⟨ds, seed, v5, v6, v7, v8, rfl, s2, h2, hz, hs0, hs1⟩
    refine ⟨fun σ' H' => ∃ cell : Int, σ' = [some (.ref a), some (.int c), some (.int e), some (.ref p), some (.int seed), some (.int (0 + i)), some (.int cell), v7, v8] ∧ H' = H2, ?_, ?_⟩
    · refine ⟨_, rfl, _, rfl, _, _, rfl, .inl (s2.seq hS), _, _, rfl, rfl, _, rfl, ?_⟩
      refine ite2 (fun q => ?_) (fun q => ?_)
      · have q1 := of_decide_eq_true q
        rw [List.length_map] at q1
        have q2 : i < ns.length := by omega
        refine ⟨_, rfl, _, rfl, a, ns.map V.int, _, .int (ns[i]'q2), rfl, rfl, s2.seq hS, ?_, _, rfl, rfl⟩
        rw [show (0 : Int) + (i : Int) = ((i : Nat) : Int) by omega]
        exact atI_nat (by simp [q2])
      · exact ⟨0, rfl, rfl⟩
    · rintro σ' H' ⟨cell, rfl, rfl⟩
      refine ⟨_, rfl, _, rfl, ?_⟩
      have hr0 : 0 ≤ (if cell < 0 then -cell else cell) := by split <;> omega
      generalize (if cell < 0 then -cell else cell) = rest at hr0
      refine ⟨_, rfl, _, _, rfl, rfl, ⟨by decide, by decide, by decide⟩, _, _, rfl, rfl, _, rfl, ?_⟩
      have em : ∀ (j : Nat), i * e.toNat + j ≤ 10000 + j := fun j => by
        have : i ≤ 100 := by omega
        have h1 : e.toNat ≤ 100 := by omega
        have := Nat.mul_le_mul this h1
        omega
      have ei : ∀ (l : Nat), l ≤ i * e.toNat + e.toNat → l ≤ (i + 1) * e.toNat := fun l hl => by rw [Nat.succ_mul]; exact hl
      refine ite2 (fun q => ?_) (fun q => ?_)
      · refine ⟨_, rfl, e, rfl, by omega, by omega, for_range (lo := 0) (n := e.toNat) (fun j σ H3 => ∃ (ds : List Int) (rest : Int) (v8 : Option V),
          σ = [some (.ref a), some (.int c), some (.int e), some (.ref p), some (.int seed), some (.int (0 + i)), some (.int cell), some (.int rest), v8] ∧ Same H H3 ∧ H3 p = some (.lst (ds.map V.int)) ∧ ds.length ≤ i * e.toNat + j ∧ 0 ≤ rest) ?_ ?_ ?_⟩
        · exact ⟨ds, rest, v8, rfl, s2, h2, hz, hr0⟩
        · rintro j σ H3 hj ⟨ds, rest, v8, rfl, s3, h3, hz3, hr⟩
          have := em j
          refine ⟨_, rfl, .inl ⟨rfl, _, .inl (.inl h3)⟩, _, rfl, .inl ⟨_, rfl, _, _, rfl, rfl, (by dsimp only; decide), p, _, _, rfl, rfl, h3, by rw [List.length_map]; exact Nat.lt_of_le_of_lt (show ds.length ≤ 10100 by omega) (by decide), ?_⟩⟩
          refine ⟨_, rfl, _, _, rfl, rfl, ⟨by decide, by decide⟩, ⟨ds ++ [rest % 1000003], _, _, rfl, fun b o z => by rw [upd_ne (ne_of_none z hp)]; exact s3 b o z, by rw [upd_same, List.map_append]; rfl, by rw [List.length_append]; show ds.length + 1 ≤ _; omega, by omega⟩⟩
        · rintro σ H3 ⟨ds, rest, v8, rfl, s3, h3, hz3, hr⟩
          exact ⟨ds, seed, _, _, _, _, rfl, s3, h3, ei _ hz3, hs0, hs1⟩
      · have q1 : ¬ (10 ^ (30 : Int).toNat ≤ rest) := fun z => q (decide_eq_true z)
        refine ⟨_, rfl, _, _, rfl, rfl, .inr ⟨by decide, by decide⟩, _, rfl, _, _, rfl, rfl, .inl ⟨by decide, by decide⟩, _, _, rfl, rfl, _, rfl, _, _, rfl, rfl, .inr ⟨_, rfl, _, _, rfl, rfl, _, rfl, _, _, rfl, rfl, .inl ⟨_, rfl, _, _, rfl, rfl, (by dsimp only; decide), ?_⟩⟩⟩
        refine ⟨_, rfl, e, rfl, by omega, by omega, for_range (lo := 0) (n := e.toNat) (fun j σ H3 => ∃ (ds : List Int) (seed : Int) (v8 : Option V),
          σ = [some (.ref a), some (.int c), some (.int e), some (.ref p), some (.int seed), some (.int (0 + i)), some (.int cell), some (.int rest), v8] ∧ Same H H3 ∧ H3 p = some (.lst (ds.map V.int)) ∧ ds.length ≤ i * e.toNat + j ∧ 0 ≤ seed ∧ seed < 2147483647) ?_ ?_ ?_⟩
        · exact ⟨ds, _, v8, rfl, s2, h2, hz, Int.emod_nonneg _ (by decide), Int.emod_lt_of_pos _ (by decide)⟩
        · rintro j σ H3 hj ⟨ds, seed, v8, rfl, s3, h3, hz3, hs2, hs3⟩
          have := em j
          refine ⟨_, rfl, _, _, rfl, rfl, .inr ⟨by decide, by decide⟩, _, rfl, _, _, rfl, rfl, _, _, rfl, rfl, .inl ⟨_, rfl, _, _, rfl, rfl, (by dsimp only; decide), ?_⟩⟩
          refine ⟨_, rfl, .inl ⟨rfl, _, .inl (.inl h3)⟩, _, rfl, _, _, rfl, rfl, ⟨by decide, by decide⟩, .inl ⟨_, rfl, _, _, rfl, rfl, (by dsimp only; decide), p, _, _, rfl, rfl, h3, by rw [List.length_map]; exact Nat.lt_of_le_of_lt (show ds.length ≤ 10100 by omega) (by decide), ?_⟩⟩
          exact ⟨ds ++ [(seed * 69621 + (0 + (j : Int)) + 1) % 2147483629 / 5 % 1000003], _, _, rfl, fun b o z => by rw [upd_ne (ne_of_none z hp)]; exact s3 b o z, by rw [upd_same, List.map_append]; rfl, by rw [List.length_append]; show ds.length + 1 ≤ _; omega, Int.emod_nonneg _ (by decide), Int.lt_trans (Int.emod_lt_of_pos _ (by decide)) (by decide)⟩
        · rintro σ H3 ⟨ds, seed, v8, rfl, s3, h3, hz3, hs2, hs3⟩
          exact ⟨ds, seed, _, _, _, _, rfl, s3, h3, ei _ hz3, hs2, hs3⟩
  · rintro σ H2 ⟨ds, seed, v5, v6, v7, v8, rfl, s2, h2, hz, hs0, hs1⟩
    refine ⟨_, rfl, .inl ⟨rfl, _, .inl (.inl h2)⟩, p, _, rfl, rfl, h2, _, rfl, ?_⟩
    exact k p _ ds.reverse hp (fun b o z => by rw [upd_ne (ne_of_none z hp)]; exact s2 b o z) (by rw [upd_same, List.map_reverse])

theorem strI {a b : Str} (h : V.str a = V.str b) : a = b := by injection h
theorem n_shut (a : Sta) : (!decide (V.str a.str = V.str "shut")) = decide (a ≠ .shut) := by cases a <;> decide +kernel
theorem n_opn (a : Sta) : (!decide (V.str a.str = V.str "open")) = decide (a ≠ .opn) := by cases a <;> decide +kernel
theorem e_shut (a : Sta) : decide (V.str a.str = V.str "shut") = decide (a = .shut) := by cases a <;> decide +kernel
theorem e_opn (a : Sta) : decide (V.str a.str = V.str "open") = decide (a = .opn) := by cases a <;> decide +kernel
theorem e_L (a : Ev) : decide (V.str a.str = V.str "L") = decide (a = .L) := by cases a <;> decide +kernel
theorem e_G (a : Ev) : decide (V.str a.str = V.str "G") = decide (a = .G) := by cases a <;> decide +kernel
theorem e_H (a : Ev) : decide (V.str a.str = V.str "H") = decide (a = .H) := by cases a <;> decide +kernel
theorem e_R (a : Ev) : decide (V.str a.str = V.str "R") = decide (a = .R) := by cases a <;> decide +kernel
theorem e_F (a : Ev) : decide (V.str a.str = V.str "F") = decide (a = .F) := by cases a <;> decide +kernel
theorem e_D (a : Ev) : decide (V.str a.str = V.str "D") = decide (a = .D) := by cases a <;> decide +kernel
theorem e_str (a b : Str) : decide (V.str a = V.str b) = decide (a = b) := by
  by_cases h : a = b
  · rw [decide_eq_true h, decide_eq_true (congrArg V.str h)]
  · rw [decide_eq_false h, decide_eq_false fun e => h (strI e)]
theorem at_get {xs : List V} {i : Int} {v : V} (h0 : 0 ≤ i) (h : xs[i.toNat]? = some v) : atI xs i = some v := by
  have e := atI_nat h
  rwa [Int.toNat_of_nonneg h0] at e
theorem datS {K : PySem.W.Frag} {H : Hp} {a : Addr} {xs : List Str} (h : ∀ H : Hp, Dp K H (.ref a) (.tuple (xs.map PyData.str))) : SqT K H a (xs.map V.str) := dp_strT xs (h H)
def sp_is_mark (K : PySem.W.Frag) : Sp := fun vs H Q _ => ∃ (a : Addr) (n : Int) (us : List V) (mk : List (Int × Int)), vs = [.ref a, .int n] ∧ SqT K H a us ∧ Paired (PairT K H) us mk ∧ mk.length = 6 ∧ (∀ p ∈ mk, 0 ≤ p.1 ∧ p.1 < n ∧ p.2.natAbs ≤ 3) ∧ Q (.bl true) H
theorem c_is_mark (T : Tx K mg) : C8.Cal P w K mg base 1 "is_mark" (sp_is_mark K) [] := by
  refine c_mk T.d_is_mark sc_is_mark (fun vs H Q E h => ?_) (fun f cdv A outer s H vs Q E hr h => ?_)
  · first | (obtain ⟨rfl, _⟩ := h; rfl) | (obtain ⟨_, rfl, _⟩ := h; rfl) | (obtain ⟨_, _, rfl, _⟩ := h; rfl) | (obtain ⟨_, _, _, rfl, _⟩ := h; rfl) | (obtain ⟨_, _, _, _, rfl, _⟩ := h; rfl) | (obtain ⟨_, _, _, _, _, rfl, _⟩ := h; rfl) | (obtain ⟨_, _, _, _, _, _, rfl, _⟩ := h; rfl) | (obtain ⟨_, _, _, _, _, _, _, rfl, _⟩ := h; rfl) | (obtain ⟨_, _, _, _, _, _, _, _, rfl, _⟩ := h; rfl) | (obtain ⟨_, _, _, _, _, _, _, _, _, rfl, _⟩ := h; rfl) | (obtain ⟨_, _, _, _, _, _, _, _, _, _, rfl, _⟩ := h; rfl) | (obtain ⟨_, _, _, _, _, _, _, _, _, _, _, rfl, _⟩ := h; rfl) | (obtain ⟨_, _, _, _, _, _, _, _, _, _, _, _, rfl, _⟩ := h; rfl) | (obtain ⟨_, _, _, _, _, _, _, _, _, _, _, _, _, rfl, _⟩ := h; rfl)
  have hu := hu_of hr
  refine ⟨_, (pss_cons (ps_if (pt_cmpR op_ne (pe_callB call_len_seq rfl T.b_len (by decide +kernel) (pa_cons (pv 0) pa_nil)) (pe_callB call_len_str rfl T.b_len (by decide +kernel) (pa_cons (pe_gcx rfl T.g_EVENTS) pa_nil)) (nomark _)) (pss_one (ps_ret pe_bl)) pss_nil)
    (pss_cons (ps_for PassesOwn.never rfl (pi_tup (pv 0)) (pg_tup rfl (pgs_cons (pg_name (i := 2) sc_is_mark.nd rfl (by first | exact Or.inl rfl | exact Or.inr rfl)) (pgs_cons (pg_name (i := 3) sc_is_mark.nd rfl (by first | exact Or.inl rfl | exact Or.inr rfl)) pgs_nil))) (pss_one (ps_if (PW.pt (pw_or (pt_not (pt_chain op_le op_lt pe_int (pv 2) (pv 1))) (pw_or1 (pt_cmpR op_gt (pe_callB call_abs rfl T.b_abs (by decide +kernel) (pa_cons (pv 3) pa_nil)) (pe_gcx rfl T.g_MOST_CHANGE) (nomark _))))) (pss_one (ps_ret pe_bl)) pss_nil)))
    (pss_one (ps_ret pe_bl)))), ?_⟩
  obtain ⟨a, n, us, mk, rfl, ha, hp, hl, hok, k⟩ := h
  have el : us.length = 6 := by rw [← hl]; exact Paired.length hp
  refine ⟨_, rfl, a, us, rfl, .inr ha, _, rfl, (by decide +kernel), rfl, _, rfl, iteN (fun e => absurd (by rw [el]; rfl) e) (fun _ => ?_)⟩
  refine ⟨_, rfl, a, rfl, ⟨_, ha⟩, for_tup (xs := us) (fun i σ H2 => ∃ (x2 x3 : Option V), σ = [some (.ref a), some (.int n), x2, x3] ∧ H2 = H) ⟨_, _, rfl, rfl⟩ (fun i σ H2 _ ⟨_, _, _, e⟩ => by rw [e]; exact ha) ?_ ?_⟩
  · rintro i y σ H2 hi ⟨x2, x3, rfl, rfl⟩
    have hil : i < us.length := (List.getElem?_eq_some_iff.mp hi).1
    obtain ⟨y', p, e1, e2, c, rfl, hc⟩ := pr_get hp i (by omega)
    rw [hi] at e1
    cases e1
    obtain ⟨h0, h1, h2⟩ := hok p (List.mem_of_getElem? e2)
    refine ⟨c, _, rfl, hc, rfl, _, _, rfl, _, _, rfl, rfl, ?_⟩
    refine ⟨_, rfl, _, _, rfl, rfl, _, rfl, iteD (fun _ => ?_) (fun e => absurd h0 e)⟩
    refine ⟨_, rfl, _, _, rfl, rfl, _, rfl, ?_⟩
    rw [decide_eq_true h1]
    refine iteF ⟨_, rfl, _, rfl, _, _, rfl, rfl, _, rfl, iteD (fun e => ?_) (fun _ => ⟨_, _, rfl, rfl⟩)⟩
    split at e <;> omega
  · rintro σ H2 ⟨x2, x3, rfl, rfl⟩
    exact k
def sp_is_rule (K : PySem.W.Frag) : Sp := fun vs H Q _ => ∃ (a : Addr) (us : List V) (rule : List (List (Int × Int))), vs = [.ref a] ∧ SqL K H a us ∧ Paired (MarkT K H) us rule ∧ RuleOk rule ∧ Q (.bl true) H
theorem c_is_rule (T : Tx K mg) : C8.Cal P w K mg base 2 "is_rule" (sp_is_rule K) [] := by
  have C_is_mark := c_is_mark (P := P) (w := w) (base := base) T
  refine c_mk T.d_is_rule sc_is_rule (fun vs H Q E h => ?_) (fun f cdv A outer s H vs Q E hr h => ?_)
  · first | (obtain ⟨rfl, _⟩ := h; rfl) | (obtain ⟨_, rfl, _⟩ := h; rfl) | (obtain ⟨_, _, rfl, _⟩ := h; rfl) | (obtain ⟨_, _, _, rfl, _⟩ := h; rfl) | (obtain ⟨_, _, _, _, rfl, _⟩ := h; rfl) | (obtain ⟨_, _, _, _, _, rfl, _⟩ := h; rfl) | (obtain ⟨_, _, _, _, _, _, rfl, _⟩ := h; rfl) | (obtain ⟨_, _, _, _, _, _, _, rfl, _⟩ := h; rfl) | (obtain ⟨_, _, _, _, _, _, _, _, rfl, _⟩ := h; rfl) | (obtain ⟨_, _, _, _, _, _, _, _, _, rfl, _⟩ := h; rfl) | (obtain ⟨_, _, _, _, _, _, _, _, _, _, rfl, _⟩ := h; rfl) | (obtain ⟨_, _, _, _, _, _, _, _, _, _, _, rfl, _⟩ := h; rfl) | (obtain ⟨_, _, _, _, _, _, _, _, _, _, _, _, rfl, _⟩ := h; rfl) | (obtain ⟨_, _, _, _, _, _, _, _, _, _, _, _, _, rfl, _⟩ := h; rfl)
  have hu := hu_of hr
  refine ⟨_, (pss_cons (ps_if (pt_not (pt_chain op_le op_le pe_int (pe_callB call_len_seq rfl T.b_len (by decide +kernel) (pa_cons (pv 0) pa_nil)) (pe_gcx rfl T.g_MOST_MARKS))) (pss_one (ps_ret pe_bl)) pss_nil)
    (pss_cons (ps_for PassesOwn.never rfl (pi_list (pv 0)) (pg_name (i := 1) sc_is_rule.nd rfl (by first | exact Or.inl rfl | exact Or.inr rfl)) (pss_one (ps_if (pt_not (pt_val (C8.pe_c (C_is_mark) hr (by decide) rfl (pa_cons (pv 1) (pa_cons (pe_callB call_len_seq rfl T.b_len (by decide +kernel) (pa_cons (pv 0) pa_nil)) pa_nil))))) (pss_one (ps_ret pe_bl)) pss_nil)))
    (pss_one (ps_ret pe_bl)))), ?_⟩
  obtain ⟨a, us, rule, rfl, ha, hp, hok, k⟩ := h
  obtain ⟨h1, h4, hm⟩ := hok
  have el : us.length = rule.length := Paired.length hp
  refine ⟨_, rfl, a, us, rfl, .inl ha, _, _, rfl, rfl, _, rfl, iteD (fun _ => ?_) (fun e => absurd (by omega) e)⟩
  refine ⟨_, _, rfl, rfl, _, rfl, ?_⟩
  rw [decide_eq_true (show (us.length : Int) ≤ 4 by omega)]
  refine iteF ?_
  refine ⟨_, rfl, a, rfl, ⟨_, ha⟩, for_list (xs := us) (fun i σ H2 => ∃ (x1 : Option V), σ = [some (.ref a), x1] ∧ H2 = H) ⟨_, rfl, rfl⟩ (fun i σ H2 _ ⟨_, _, e⟩ => by rw [e]; exact ha) ?_ ?_⟩
  · rintro i y σ H2 hi ⟨x1, rfl, rfl⟩
    have hil : i < us.length := (List.getElem?_eq_some_iff.mp hi).1
    obtain ⟨y', mk, e1, e2, c, ps, rfl, hc, hps⟩ := pr_get hp i (by omega)
    rw [hi] at e1
    cases e1
    obtain ⟨l6, hmk⟩ := hm mk (List.mem_of_getElem? e2)
    refine ⟨_, rfl, _, rfl, a, us, rfl, .inl ha, c, _, ps, mk, rfl, hc, hps, l6, fun p hp => ?_, ?_⟩
    · rw [el]; exact hmk p hp
    · exact ⟨_, rfl, iteF ⟨_, rfl, rfl⟩⟩
  · rintro σ H2 ⟨x1, rfl, rfl⟩
    exact k
def sp_is_usable (K : PySem.W.Frag) : Sp := fun vs H Q _ => ∃ (a : Addr) (R : RowM) (v : V) (n : Node), vs = [.ref a, v] ∧ RowV K H a R ∧ NodeV K H v n ∧ Q (.bl (R.usable n)) H
theorem c_is_usable (T : Tx K mg) : C8.Cal P w K mg base 1 "is_usable" (sp_is_usable K) [] := by
  refine c_mk T.d_is_usable sc_is_usable (fun vs H Q E h => ?_) (fun f cdv A outer s H vs Q E hr h => ?_)
  · first | (obtain ⟨rfl, _⟩ := h; rfl) | (obtain ⟨_, rfl, _⟩ := h; rfl) | (obtain ⟨_, _, rfl, _⟩ := h; rfl) | (obtain ⟨_, _, _, rfl, _⟩ := h; rfl) | (obtain ⟨_, _, _, _, rfl, _⟩ := h; rfl) | (obtain ⟨_, _, _, _, _, rfl, _⟩ := h; rfl) | (obtain ⟨_, _, _, _, _, _, rfl, _⟩ := h; rfl) | (obtain ⟨_, _, _, _, _, _, _, rfl, _⟩ := h; rfl) | (obtain ⟨_, _, _, _, _, _, _, _, rfl, _⟩ := h; rfl) | (obtain ⟨_, _, _, _, _, _, _, _, _, rfl, _⟩ := h; rfl) | (obtain ⟨_, _, _, _, _, _, _, _, _, _, rfl, _⟩ := h; rfl) | (obtain ⟨_, _, _, _, _, _, _, _, _, _, _, rfl, _⟩ := h; rfl) | (obtain ⟨_, _, _, _, _, _, _, _, _, _, _, _, rfl, _⟩ := h; rfl) | (obtain ⟨_, _, _, _, _, _, _, _, _, _, _, _, _, rfl, _⟩ := h; rfl)
  have hu := hu_of hr
  refine ⟨_, (pss_one (ps_ret (pe_and (pe_ix ix_tup (pv 1) pe_int (fun _ _ => rfl)) (pe_one (pe_or (pe_cmpR op_eq (pe_fld (pv 0) rfl) pe_str (nomark _)) (pe_one (pe_cmpR op_ne (pe_ix ix_tup (pv 1) pe_int (fun _ _ => rfl)) pe_str (nomark _)))))))), ?_⟩
  obtain ⟨a, R, v, n, rfl, ⟨dx, r, hr1, hr2⟩, ⟨c, rfl, hc⟩, k⟩ := h
  refine ⟨_, rfl, c, _, _, _, rfl, rfl, hc, rfl, ?_⟩
  unfold RowM.usable at k
  cases ha : n.al with
  | false => rw [ha] at k; exact ⟨_, rfl, iteF k⟩
  | true =>
    rw [ha] at k
    refine ⟨_, rfl, iteT ⟨_, rfl, _, _, _, _, _, rfl, hr1, T.cl_Row, T.n_Row_lease, row_lease _ _, rfl, _, rfl, ?_⟩⟩
    by_cases hl : R.lease = "always"
    · rw [decide_eq_true hl] at k
      rw [decide_eq_true (congrArg V.str hl)]
      exact iteT k
    · rw [decide_eq_false hl] at k
      rw [decide_eq_false fun e => hl (strI e)]
      refine iteF ⟨_, rfl, c, _, _, _, rfl, rfl, hc, rfl, rfl, ?_⟩
      show Q (.bl (!decide (V.str n.st.str = V.str "shut"))) H
      rw [n_shut]
      exact k
def sp_can_happen (K : PySem.W.Frag) : Sp := fun vs H Q _ => ∃ (a : Addr) (R : RowM) (v : V) (n : Node) (e : Ev) (f : Bool), vs = [.ref a, v, .str e.str, .bl f] ∧ RowV K H a R ∧ NodeV K H v n ∧ Q (.bl (R.can n e f)) H
theorem c_can_happen (T : Tx K mg) : C8.Cal P w K mg base 2 "can_happen" (sp_can_happen K) [] := by
  have C_is_usable := c_is_usable (P := P) (w := w) (base := base) T
  refine c_mk T.d_can_happen sc_can_happen (fun vs H Q E h => ?_) (fun f cdv A outer s H vs Q E hr h => ?_)
  · first | (obtain ⟨rfl, _⟩ := h; rfl) | (obtain ⟨_, rfl, _⟩ := h; rfl) | (obtain ⟨_, _, rfl, _⟩ := h; rfl) | (obtain ⟨_, _, _, rfl, _⟩ := h; rfl) | (obtain ⟨_, _, _, _, rfl, _⟩ := h; rfl) | (obtain ⟨_, _, _, _, _, rfl, _⟩ := h; rfl) | (obtain ⟨_, _, _, _, _, _, rfl, _⟩ := h; rfl) | (obtain ⟨_, _, _, _, _, _, _, rfl, _⟩ := h; rfl) | (obtain ⟨_, _, _, _, _, _, _, _, rfl, _⟩ := h; rfl) | (obtain ⟨_, _, _, _, _, _, _, _, _, rfl, _⟩ := h; rfl) | (obtain ⟨_, _, _, _, _, _, _, _, _, _, rfl, _⟩ := h; rfl) | (obtain ⟨_, _, _, _, _, _, _, _, _, _, _, rfl, _⟩ := h; rfl) | (obtain ⟨_, _, _, _, _, _, _, _, _, _, _, _, rfl, _⟩ := h; rfl) | (obtain ⟨_, _, _, _, _, _, _, _, _, _, _, _, _, rfl, _⟩ := h; rfl)
  have hu := hu_of hr
  refine ⟨_, (pss_cons (ps_if (pt_cmpR op_ne (pe_fld (pv 0) rfl) pe_str (nomark _)) (pss_one (ps_ret pe_bl)) pss_nil)
    (pss_cons (ps_if (PW.pt (pw_or (pt_cmpR op_eq (pv 2) pe_str (nomark _)) (pw_or1 (pt_cmpR op_eq (pv 2) pe_str (nomark _))))) (pss_cons (ps_if (PW.pt (pw_and (pt_cmpR op_eq (pe_fld (pv 0) rfl) pe_str (nomark _)) (pw_and1 (pt_not (pt_val (pv 3)))))) (pss_one (ps_ret pe_bl)) pss_nil)
    (pss_one (ps_ret (pe_or (pe_cmpR op_eq (pv 2) pe_str (nomark _)) (pe_one (pe_cmpR op_ne (pe_ix ix_tup (pv 1) pe_int (fun _ _ => rfl)) pe_str (nomark _))))))) pss_nil)
    (pss_cons (ps_if (pt_cmpR op_eq (pv 2) pe_str (nomark _)) (pss_one (ps_ret (C8.pe_c (C_is_usable) hr (by decide) rfl (pa_cons (pv 0) (pa_cons (pv 1) pa_nil))))) pss_nil)
    (pss_cons (ps_if (pt_cmpR op_eq (pv 2) pe_str (nomark _)) (pss_one (ps_ret (pe_ix ix_tup (pv 1) pe_int (fun _ _ => rfl)))) pss_nil)
    (pss_one (ps_ret (pe_cmpR op_eq (pe_ix ix_tup (pv 1) pe_int (fun _ _ => rfl)) pe_str (nomark _)))))))), ?_⟩
  obtain ⟨a, R, v, n, e, f, rfl, hR, hv, k⟩ := h
  obtain ⟨dx, r, hr1, hr2⟩ := id hR
  obtain ⟨c, rfl, hc⟩ := id hv
  unfold RowM.can at k
  refine ⟨_, rfl, _, _, _, _, _, rfl, hr1, T.cl_Row, T.n_Row_mode, row_mode _ _, rfl, _, rfl, ?_⟩
  by_cases hm : R.mode = "held"
  · rw [if_pos hm] at k
    rw [decide_eq_true (congrArg V.str hm)]
    refine iteF ?_
    cases e with
    | L =>
      refine ⟨_, rfl, rfl, _, rfl, ?_⟩
      rw [e_L]
      refine iteT ⟨_, rfl, _, _, _, _, _, rfl, hr1, T.cl_Row, T.n_Row_sharing, row_sharing _ _, rfl, _, rfl, ?_⟩
      rw [e_str]
      simp only at k
      cases hs : decide (R.sharing = "each") with
      | true =>
        rw [hs] at k
        refine iteT ⟨_, rfl, _, rfl, ?_⟩
        cases f with
        | false => exact iteT k
        | true =>
          refine iteF ⟨_, rfl, rfl, _, rfl, ?_⟩
          rw [e_L]
          exact iteT k
      | false =>
        rw [hs] at k
        refine iteF ⟨_, rfl, rfl, _, rfl, ?_⟩
        rw [e_L]
        exact iteT k
    | G =>
      refine ⟨_, rfl, rfl, _, rfl, ?_⟩
      rw [e_L]
      refine iteF ⟨_, rfl, rfl, _, rfl, ?_⟩
      rw [e_G]
      refine iteT ⟨_, rfl, _, _, _, _, _, rfl, hr1, T.cl_Row, T.n_Row_sharing, row_sharing _ _, rfl, _, rfl, ?_⟩
      rw [e_str]
      simp only at k
      have fin : Q (.bl (decide (n.st ≠ .opn))) H → tRet (tOrV (tOp rEq (tVar 2) (tC (V.str "L"))) (tOp rNe (tOp (rIxT K) (tVar 1) (tC (V.int 2))) (tC (V.str "open")))) { nx := fun _ H' => Q .non H', rt := Q } [some (.ref a), some (.ref c), some (.str Ev.G.str), some (.bl f)] H := fun k => by
        refine ⟨_, rfl, rfl, _, rfl, ?_⟩
        rw [e_L]
        refine iteF ⟨_, rfl, c, _, _, _, rfl, rfl, hc, rfl, rfl, ?_⟩
        show Q (.bl (!decide (V.str n.st.str = V.str "open"))) H
        rw [n_opn]
        exact k
      cases hs : decide (R.sharing = "each") with
      | true =>
        rw [hs] at k
        refine iteT ⟨_, rfl, _, rfl, ?_⟩
        cases f with
        | false => exact iteT k
        | true => exact iteF (fin k)
      | false =>
        rw [hs] at k
        exact iteF (fin k)
    | H =>
      refine ⟨_, rfl, rfl, _, rfl, ?_⟩
      rw [e_L]
      refine iteF ⟨_, rfl, rfl, _, rfl, ?_⟩
      rw [e_G]
      refine iteF ⟨_, rfl, rfl, _, rfl, ?_⟩
      rw [e_H]
      exact iteT ⟨_, rfl, _, rfl, a, R, _, n, rfl, hR, hv, k⟩
    | D =>
      refine ⟨_, rfl, rfl, _, rfl, ?_⟩
      rw [e_L]
      refine iteF ⟨_, rfl, rfl, _, rfl, ?_⟩
      rw [e_G]
      refine iteF ⟨_, rfl, rfl, _, rfl, ?_⟩
      rw [e_H]
      refine iteF ⟨_, rfl, rfl, _, rfl, ?_⟩
      rw [e_D]
      exact iteT ⟨_, rfl, c, _, _, _, rfl, rfl, hc, rfl, k⟩
    | R =>
      refine ⟨_, rfl, rfl, _, rfl, ?_⟩
      rw [e_L]
      refine iteF ⟨_, rfl, rfl, _, rfl, ?_⟩
      rw [e_G]
      refine iteF ⟨_, rfl, rfl, _, rfl, ?_⟩
      rw [e_H]
      refine iteF ⟨_, rfl, rfl, _, rfl, ?_⟩
      rw [e_D]
      refine iteF ⟨_, rfl, c, _, _, _, rfl, rfl, hc, rfl, rfl, ?_⟩
      show Q (.bl (decide (V.str n.st.str = V.str "open"))) H
      rw [e_opn]
      exact k
    | F =>
      refine ⟨_, rfl, rfl, _, rfl, ?_⟩
      rw [e_L]
      refine iteF ⟨_, rfl, rfl, _, rfl, ?_⟩
      rw [e_G]
      refine iteF ⟨_, rfl, rfl, _, rfl, ?_⟩
      rw [e_H]
      refine iteF ⟨_, rfl, rfl, _, rfl, ?_⟩
      rw [e_D]
      refine iteF ⟨_, rfl, c, _, _, _, rfl, rfl, hc, rfl, rfl, ?_⟩
      show Q (.bl (decide (V.str n.st.str = V.str "open"))) H
      rw [e_opn]
      exact k
  · rw [if_neg hm] at k
    rw [decide_eq_false fun e => hm (strI e)]
    exact iteT k
def sp_possible (K : PySem.W.Frag) : Sp := fun vs H Q _ => ∃ (a : Addr) (R : RowM) (v : V) (n : Node) (f : Bool), vs = [.ref a, v, .bl f] ∧ RowV K H a R ∧ NodeV K H v n ∧ ∀ H', Same H H' → Q (.str (evS (R.evs n f))) H'
theorem c_possible (T : Tx K mg) : C8.Cal P w K mg base 3 "possible" (sp_possible K) [] := by
  have C_can_happen := c_can_happen (P := P) (w := w) (base := base) T
  refine c_mk T.d_possible sc_possible (fun vs H Q E h => ?_) (fun f cdv A outer s H vs Q E hr h => ?_)
  · first | (obtain ⟨rfl, _⟩ := h; rfl) | (obtain ⟨_, rfl, _⟩ := h; rfl) | (obtain ⟨_, _, rfl, _⟩ := h; rfl) | (obtain ⟨_, _, _, rfl, _⟩ := h; rfl) | (obtain ⟨_, _, _, _, rfl, _⟩ := h; rfl) | (obtain ⟨_, _, _, _, _, rfl, _⟩ := h; rfl) | (obtain ⟨_, _, _, _, _, _, rfl, _⟩ := h; rfl) | (obtain ⟨_, _, _, _, _, _, _, rfl, _⟩ := h; rfl) | (obtain ⟨_, _, _, _, _, _, _, _, rfl, _⟩ := h; rfl) | (obtain ⟨_, _, _, _, _, _, _, _, _, rfl, _⟩ := h; rfl) | (obtain ⟨_, _, _, _, _, _, _, _, _, _, rfl, _⟩ := h; rfl) | (obtain ⟨_, _, _, _, _, _, _, _, _, _, _, rfl, _⟩ := h; rfl) | (obtain ⟨_, _, _, _, _, _, _, _, _, _, _, _, rfl, _⟩ := h; rfl) | (obtain ⟨_, _, _, _, _, _, _, _, _, _, _, _, _, rfl, _⟩ := h; rfl)
  have hu := hu_of hr
  refine ⟨_, (pss_one (ps_ret (pe_join pe_str (pe_lc (own := [("event", 3)]) (g := gName 3) rfl sc_possible.nd (pi_str (pe_gcx rfl T.g_EVENTS)) (blkOk_by (own := [("event", 3)]) (N := N_possible) (sc := defScope s_possible) (by decide +kernel)) (fun _ _ _ _ _ => (pg_name (i := 3) sc_possible.nd rfl (by first | exact Or.inl rfl | exact Or.inr rfl))) (fun _ _ _ _ _ => (pts_one (pt_val (C8.pe_c (C_can_happen) hr (by decide) rfl (pa_cons (pv 0) (pa_cons (pv 1) (pa_cons (pv 3) (pa_cons (pv 2) pa_nil)))))))) (fun _ _ _ _ _ => (pv 3)))))), ?_⟩
  obtain ⟨a, R, v, n, f, rfl, hR, hv, k⟩ := h
  refine ⟨⟨_, rfl⟩, _, rfl, fun D hD => ?_⟩
  rw [← all_S]
  refine lc_ev (es := Ev.all) (fun i H2 => Same H H2 ∧ H2 D = some (.lst (((Ev.all.take i).filter fun e => R.can n e f).map fun e => V.str e.str))) ⟨same_new hD, upd_same⟩ ?_ ?_
  · rintro i e H2 he ⟨s2, h2⟩
    refine ⟨rfl, ?_⟩
    refine ⟨_, rfl, _, rfl, _, rfl, _, rfl, a, R, v, n, e, f, rfl, hR.same s2, hv.mono (keep_same s2), ?_⟩
    refine ⟨_, rfl, ?_⟩
    have tk := take_snoc he
    cases hc : R.can n e f with
    | true =>
      refine iteT ⟨_, rfl, _, h2, ?_, fun b o hb => ?_, ?_⟩
      · rw [List.length_map]
        exact Nat.lt_of_le_of_lt (Nat.le_trans (List.length_filter_le _ _) (Nat.le_trans (List.length_take_le' _ _) (show 6 ≤ 6 from Nat.le_refl _))) (by decide)
      · rw [upd_ne (ne_of_none hb hD)]
        exact s2 _ _ hb
      · rw [upd_same, tk, List.filter_append, List.map_append]
        simp [hc]
    | false =>
      refine iteF ⟨s2, ?_⟩
      rw [h2, tk, List.filter_append]
      simp [hc]
  · rintro H2 ⟨s2, h2⟩
    have e : ((Ev.all.take Ev.all.length).filter fun e => R.can n e f) = R.evs n f := rfl
    rw [e] at h2
    refine ⟨"", D, (R.evs n f).map Ev.str, rfl, rfl, .inl (SqL.of (by rw [h2, List.map_map] <;> rfl)), ?_, ?_⟩
    · have l := evs_len R n f
      rw [List.map_map, List.length_map]
      have e2 : ((R.evs n f).map ((fun x : Str => x.length) ∘ Ev.str)).sum = (R.evs n f).length := by
        generalize R.evs n f = es
        induction es with
        | nil => rfl
        | cons a es ih => rw [List.map_cons, List.sum_cons, ih, List.length_cons]; show 1 + es.length = _; omega
      rw [e2]
      show _ + _ * 0 ≤ _
      omega
    · rw [join_ev]
      exact k H2 s2
def sp_step (K : PySem.W.Frag) : Sp := fun vs H Q _ => ∃ (a : Addr) (R : RowM) (v : V) (n : Node) (e : Ev), vs = [.ref a, v, .str e.str] ∧ RowV K H a R ∧ NodeV K H v n ∧ RuleOk R.rule ∧ 0 ≤ n.m ∧ n.m < (R.rule.length : Int) ∧
  ∀ (p : Addr) (u : V) (H' : Hp), Same H H' → H' p = some (.tup [u, .int (R.step n e).2]) → NodeV K H' u (R.step n e).1 → Q (.ref p) H'
theorem c_step (T : Tx K mg) : C8.Cal P w K mg base 1 "step" (sp_step K) [] := by
  refine c_mk T.d_step sc_step (fun vs H Q E h => ?_) (fun f cdv A outer s H vs Q E hr h => ?_)
  · first | (obtain ⟨rfl, _⟩ := h; rfl) | (obtain ⟨_, rfl, _⟩ := h; rfl) | (obtain ⟨_, _, rfl, _⟩ := h; rfl) | (obtain ⟨_, _, _, rfl, _⟩ := h; rfl) | (obtain ⟨_, _, _, _, rfl, _⟩ := h; rfl) | (obtain ⟨_, _, _, _, _, rfl, _⟩ := h; rfl) | (obtain ⟨_, _, _, _, _, _, rfl, _⟩ := h; rfl) | (obtain ⟨_, _, _, _, _, _, _, rfl, _⟩ := h; rfl) | (obtain ⟨_, _, _, _, _, _, _, _, rfl, _⟩ := h; rfl) | (obtain ⟨_, _, _, _, _, _, _, _, _, rfl, _⟩ := h; rfl) | (obtain ⟨_, _, _, _, _, _, _, _, _, _, rfl, _⟩ := h; rfl) | (obtain ⟨_, _, _, _, _, _, _, _, _, _, _, rfl, _⟩ := h; rfl) | (obtain ⟨_, _, _, _, _, _, _, _, _, _, _, _, rfl, _⟩ := h; rfl) | (obtain ⟨_, _, _, _, _, _, _, _, _, _, _, _, _, rfl, _⟩ := h; rfl)
  have hu := hu_of hr
  refine ⟨_, (pss_cons (ps_asg (pv 1) (pg_tup rfl (pgs_cons (pg_name (i := 3) sc_step.nd rfl (by first | exact Or.inl rfl | exact Or.inr rfl)) (pgs_cons (pg_name (i := 4) sc_step.nd rfl (by first | exact Or.inl rfl | exact Or.inr rfl)) (pgs_cons (pg_name (i := 5) sc_step.nd rfl (by first | exact Or.inl rfl | exact Or.inr rfl)) pgs_nil)))))
    (pss_cons (ps_asg (pe_ix ix_tup (pe_ix ix_tup (pe_fld (pv 0) rfl) (pv 3) (fun _ _ => rfl)) (pe_m1 (PySem.F.slot_str_index) (PySem.F.type_str_index) mt_sindex (pe_gcx rfl T.g_EVENTS) (pv 2)) (fun _ _ => rfl)) (pg_tup rfl (pgs_cons (pg_name (i := 6) sc_step.nd rfl (by first | exact Or.inl rfl | exact Or.inr rfl)) (pgs_cons (pg_name (i := 7) sc_step.nd rfl (by first | exact Or.inl rfl | exact Or.inr rfl)) pgs_nil))))
    (pss_cons (ps_if (pt_cmpR op_eq (pv 2) pe_str (nomark _)) (pss_cons (ps_set (i := 4) sc_step.nd rfl (by first | exact Or.inl rfl | exact Or.inr rfl) pe_bl)
    (pss_one (ps_if (pt_cmpR op_eq (pv 5) pe_str (nomark _)) (pss_one (ps_set (i := 5) sc_step.nd rfl (by first | exact Or.inl rfl | exact Or.inr rfl) pe_str)) pss_nil))) (pss_one (ps_if (pt_cmpR op_eq (pv 2) pe_str (nomark _)) (pss_cons (ps_set (i := 4) sc_step.nd rfl (by first | exact Or.inl rfl | exact Or.inr rfl) pe_bl)
    (pss_one (ps_set (i := 5) sc_step.nd rfl (by first | exact Or.inl rfl | exact Or.inr rfl) pe_str))) (pss_one (ps_if (PW.pt (pw_or (pt_cmpR op_eq (pv 2) pe_str (nomark _)) (pw_or1 (pt_cmpR op_eq (pv 2) pe_str (nomark _))))) (pss_one (ps_set (i := 5) sc_step.nd rfl (by first | exact Or.inl rfl | exact Or.inr rfl) pe_str)) (pss_one (ps_if (pt_cmpR op_eq (pv 2) pe_str (nomark _)) (pss_one (ps_set (i := 4) sc_step.nd rfl (by first | exact Or.inl rfl | exact Or.inr rfl) pe_bl)) pss_nil)))))))
    (pss_one (ps_ret (pe_tup (pa_cons (pe_tup (pa_cons (pv 6) (pa_cons (pv 4) (pa_cons (pv 5) pa_nil)))) (pa_cons (pv 7) pa_nil)))))))), ?_⟩
  obtain ⟨a, R, v, n, e, rfl, hR, hv, hok, m0, m1, k⟩ := h
  obtain ⟨dx, r, hr1, us, hr2, hr3⟩ := id hR
  obtain ⟨c, rfl, hc⟩ := id hv
  have el : us.length = R.rule.length := Paired.length hr3
  obtain ⟨y, mk, e1, e2, b, ps, rfl, hb, hps⟩ := pr_get hr3 n.m.toNat (by omega)
  obtain ⟨l6, _⟩ := hok.2.2 mk (List.mem_of_getElem? e2)
  have lx : e.ix < mk.length := by rw [l6]; cases e <;> decide
  obtain ⟨z, p, f1, f2, d, rfl, hd⟩ := pr_get hps e.ix lx
  have ep : R.pair n.m e = p := by
    unfold RowM.pair
    rw [List.getD_eq_getElem?_getD, List.getD_eq_getElem?_getD, e2, Option.getD_some, f2, Option.getD_some]
  refine ⟨_, rfl, c, _, rfl, hc, rfl, _, _, rfl, _, _, rfl, _, _, rfl, rfl, ?_⟩
  refine ⟨_, rfl, _, _, _, _, _, rfl, hr1, T.cl_Row, T.n_Row_rule, row_rule _ _, _, rfl, r, us, n.m, .ref b, rfl, rfl, hr2, at_get m0 e1, ⟨_, rfl⟩, _, rfl, _, _, _, _, rfl, rfl, occ e, b, ps, (e.ix : Int), .ref d, rfl, rfl, hb, at_get (by omega) f1, d, _, rfl, hd, rfl, _, _, rfl, _, _, rfl, rfl, ?_⟩
  have fin : ∀ (al : Bool) (st : Sta), after n e = (al, st) → tRet (tTup (tCons (tTup (tCons (tVar 6) (tCons (tVar 4) (tCons (tVar 5) tNil)))) (tCons (tVar 7) tNil))) { nx := fun _ H' => Q .non H', rt := Q } [some (.ref a), some (.ref c), some (.str e.str), some (.int n.m), some (.bl al), some (.str st.str), some (.int p.1), some (.int p.2)] H := fun al st h => by
    refine ⟨_, rfl, _, rfl, _, rfl, (by show 3 ≤ sizeLine; decide), fun q hq => ?_⟩
    refine ⟨_, rfl, (by show 2 ≤ sizeLine; decide), fun q2 hq2 => ?_⟩
    have s2 := same_new (o := .tup [.int p.1, .bl al, .str st.str]) hq
    refine k q2 (.ref q) _ (s2.trans (same_new hq2)) ?_ ⟨q, rfl, ?_⟩
    · rw [upd_same]
      unfold RowM.step
      rw [ep]
    · unfold RowM.step
      rw [ep, h]
      exact SqT.of (by rw [upd_ne (ne_of_none upd_same hq2)]; exact upd_same)
  cases e with
  | L =>
    refine ⟨_, rfl, rfl, _, rfl, ?_⟩
    rw [e_L]
    refine iteT ⟨_, rfl, rfl, _, rfl, ?_⟩
    rw [e_shut]
    refine iteD (fun h => fin true .opn (by unfold after; rw [if_pos h])) (fun h => fin true n.st (by unfold after; rw [if_neg h]))
  | G =>
    refine ⟨_, rfl, rfl, _, rfl, ?_⟩
    rw [e_L]
    refine iteF ⟨_, rfl, rfl, _, rfl, ?_⟩
    rw [e_G]
    exact iteT (fin true .free rfl)
  | H =>
    refine ⟨_, rfl, rfl, _, rfl, ?_⟩
    rw [e_L]
    refine iteF ⟨_, rfl, rfl, _, rfl, ?_⟩
    rw [e_G]
    refine iteF ⟨_, rfl, rfl, _, rfl, ?_⟩
    rw [e_R]
    refine iteF ⟨_, rfl, rfl, _, rfl, ?_⟩
    rw [e_F]
    refine iteF ⟨_, rfl, rfl, _, rfl, ?_⟩
    rw [e_D]
    exact iteF (fin n.al n.st rfl)
  | R =>
    refine ⟨_, rfl, rfl, _, rfl, ?_⟩
    rw [e_L]
    refine iteF ⟨_, rfl, rfl, _, rfl, ?_⟩
    rw [e_G]
    refine iteF ⟨_, rfl, rfl, _, rfl, ?_⟩
    rw [e_R]
    exact iteT (fin n.al .shut rfl)
  | F =>
    refine ⟨_, rfl, rfl, _, rfl, ?_⟩
    rw [e_L]
    refine iteF ⟨_, rfl, rfl, _, rfl, ?_⟩
    rw [e_G]
    refine iteF ⟨_, rfl, rfl, _, rfl, ?_⟩
    rw [e_R]
    refine iteF ⟨_, rfl, rfl, _, rfl, ?_⟩
    rw [e_F]
    exact iteT (fin n.al .shut rfl)
  | D =>
    refine ⟨_, rfl, rfl, _, rfl, ?_⟩
    rw [e_L]
    refine iteF ⟨_, rfl, rfl, _, rfl, ?_⟩
    rw [e_G]
    refine iteF ⟨_, rfl, rfl, _, rfl, ?_⟩
    rw [e_R]
    refine iteF ⟨_, rfl, rfl, _, rfl, ?_⟩
    rw [e_F]
    refine iteF ⟨_, rfl, rfl, _, rfl, ?_⟩
    rw [e_D]
    exact iteT (fin false n.st rfl)

def sp_is_finished (K : PySem.W.Frag) : Sp := fun vs H Q _ => ∃ (v : V) (n : Node), vs = [v] ∧ NodeV K H v n ∧ Q (.bl n.finished) H
theorem c_is_finished (T : Tx K mg) : C8.Cal P w K mg base 1 "is_finished" (sp_is_finished K) [] := by
  refine c_mk T.d_is_finished sc_is_finished (fun vs H Q E h => ?_) (fun f cdv A outer s H vs Q E hr h => ?_)
  · first | (obtain ⟨rfl, _⟩ := h; rfl) | (obtain ⟨_, rfl, _⟩ := h; rfl) | (obtain ⟨_, _, rfl, _⟩ := h; rfl) | (obtain ⟨_, _, _, rfl, _⟩ := h; rfl) | (obtain ⟨_, _, _, _, rfl, _⟩ := h; rfl) | (obtain ⟨_, _, _, _, _, rfl, _⟩ := h; rfl) | (obtain ⟨_, _, _, _, _, _, rfl, _⟩ := h; rfl) | (obtain ⟨_, _, _, _, _, _, _, rfl, _⟩ := h; rfl) | (obtain ⟨_, _, _, _, _, _, _, _, rfl, _⟩ := h; rfl) | (obtain ⟨_, _, _, _, _, _, _, _, _, rfl, _⟩ := h; rfl) | (obtain ⟨_, _, _, _, _, _, _, _, _, _, rfl, _⟩ := h; rfl) | (obtain ⟨_, _, _, _, _, _, _, _, _, _, _, rfl, _⟩ := h; rfl) | (obtain ⟨_, _, _, _, _, _, _, _, _, _, _, _, rfl, _⟩ := h; rfl) | (obtain ⟨_, _, _, _, _, _, _, _, _, _, _, _, _, rfl, _⟩ := h; rfl)
  have hu := hu_of hr
  refine ⟨_, (pss_one (ps_ret (pe_and (pe_not (pe_ix ix_tup (pv 0) pe_int (fun _ _ => rfl))) (pe_one (pe_cmpR op_ne (pe_ix ix_tup (pv 0) pe_int (fun _ _ => rfl)) pe_str (nomark _)))))), ?_⟩
  obtain ⟨v, n, rfl, ⟨c, rfl, hc⟩, k⟩ := h
  unfold Node.finished at k
  refine ⟨_, rfl, c, _, _, _, rfl, rfl, hc, rfl, ?_⟩
  cases ha : n.al with
  | true => rw [ha] at k; exact ⟨_, rfl, _, rfl, iteF k⟩
  | false =>
    rw [ha] at k
    refine ⟨_, rfl, _, rfl, iteT ⟨_, rfl, c, _, _, _, rfl, rfl, hc, rfl, rfl, ?_⟩⟩
    show Q (.bl (!decide (V.str n.st.str = V.str "open"))) H
    rw [n_opn]
    exact k
def optS : Option Str → V
  | none => .non
  | some x => .str x
def sp_fault (K : PySem.W.Frag) : Sp := fun vs H Q _ => ∃ (a : Addr) (R : RowM) (home : Int) (v : V) (n : Node) (hold : Int), vs = [.ref a, .int home, v, .int hold] ∧ RowV K H a R ∧ NodeV K H v n ∧ Q (optS (R.fault home n hold)) H
theorem c_fault (T : Tx K mg) : C8.Cal P w K mg base 2 "fault" (sp_fault K) [] := by
  have C_is_usable := c_is_usable (P := P) (w := w) (base := base) T
  have C_is_finished := c_is_finished (P := P) (w := w) (base := base) T
  refine c_mk T.d_fault sc_fault (fun vs H Q E h => ?_) (fun f cdv A outer s H vs Q E hr h => ?_)
  · first | (obtain ⟨rfl, _⟩ := h; rfl) | (obtain ⟨_, rfl, _⟩ := h; rfl) | (obtain ⟨_, _, rfl, _⟩ := h; rfl) | (obtain ⟨_, _, _, rfl, _⟩ := h; rfl) | (obtain ⟨_, _, _, _, rfl, _⟩ := h; rfl) | (obtain ⟨_, _, _, _, _, rfl, _⟩ := h; rfl) | (obtain ⟨_, _, _, _, _, _, rfl, _⟩ := h; rfl) | (obtain ⟨_, _, _, _, _, _, _, rfl, _⟩ := h; rfl) | (obtain ⟨_, _, _, _, _, _, _, _, rfl, _⟩ := h; rfl) | (obtain ⟨_, _, _, _, _, _, _, _, _, rfl, _⟩ := h; rfl) | (obtain ⟨_, _, _, _, _, _, _, _, _, _, rfl, _⟩ := h; rfl) | (obtain ⟨_, _, _, _, _, _, _, _, _, _, _, rfl, _⟩ := h; rfl) | (obtain ⟨_, _, _, _, _, _, _, _, _, _, _, _, rfl, _⟩ := h; rfl) | (obtain ⟨_, _, _, _, _, _, _, _, _, _, _, _, _, rfl, _⟩ := h; rfl)
  have hu := hu_of hr
  refine ⟨_, (pss_cons (ps_if (pt_cmpR op_lt (pv 3) pe_int (nomark _)) (pss_one (ps_ret pe_str)) pss_nil)
    (pss_cons (ps_if (PW.pt (pw_and (pt_val (C8.pe_c (C_is_finished) hr (by decide) rfl (pa_cons (pv 2) pa_nil))) (pw_and1 (pt_cmpR op_gt (pv 3) pe_int (nomark _))))) (pss_one (ps_ret pe_str)) pss_nil)
    (pss_cons (ps_if (pt_val (C8.pe_c (C_is_usable) hr (by decide) rfl (pa_cons (pv 0) (pa_cons (pv 2) pa_nil)))) (pss_cons (ps_if (pt_cmpR op_eq (pv 3) pe_int (nomark _)) (pss_one (ps_ret pe_str)) pss_nil)
    (pss_one (ps_if (PW.pt (pw_and (pt_cmpR op_eq (pe_fld (pv 0) rfl) pe_str (nomark _)) (pw_and1 (pt_cmpR op_eq (pv 1) pe_int (nomark _))))) (pss_one (ps_ret pe_str)) pss_nil))) pss_nil)
    (pss_one (ps_ret pe_non))))), ?_⟩
  obtain ⟨a, R, home, v, n, hold, rfl, hR, hv, k⟩ := h
  obtain ⟨dx, r, hr1, hr2⟩ := id hR
  unfold RowM.fault at k
  refine ⟨_, rfl, _, _, rfl, rfl, _, rfl, iteD (fun h => by rw [if_pos h] at k; exact k) (fun h => ?_)⟩
  rw [if_neg h] at k
  refine ⟨_, rfl, _, n, rfl, hv, _, rfl, ?_⟩
  have tail : ∀ {X : Prop}, (Q (optS (if R.usable n = true then if hold = 0 then some "bare" else if R.grip = "place" ∧ home = 1 then some "moved" else none else none)) H → X) → ¬ (n.finished = true ∧ 0 < hold) → X := fun f h => f (by rw [if_neg h] at k; exact k)
  rcases Bool.eq_false_or_eq_true n.finished with hf | hf
  rw [hf]
  refine iteT ⟨_, rfl, _, _, rfl, rfl, _, rfl, iteD (fun h2 => by rw [if_pos ⟨hf, h2⟩] at k; exact k) (fun h2 => tail (fun k => ?_) (fun z => h2 z.2))⟩
  rotate_left
  rw [hf]
  refine iteF (tail (fun k => ?_) (by rw [hf]; rintro ⟨h, _⟩; cases h))
  all_goals
    refine ⟨_, rfl, _, rfl, a, R, v, n, rfl, hR, hv, _, rfl, ?_⟩
    cases hu : R.usable n with
    | false =>
      rw [hu, if_neg (by decide)] at k
      exact iteF k
    | true =>
      rw [hu, if_pos rfl] at k
      refine iteT ⟨_, rfl, rfl, _, rfl, ?_⟩
      by_cases h0 : hold = 0
      · rw [if_pos h0] at k
        rw [decide_eq_true (congrArg V.int h0)]
        exact iteT k
      · rw [if_neg h0] at k
        rw [decide_eq_false (fun e => h0 (by injection e))]
        refine iteF ⟨_, rfl, _, _, _, _, _, rfl, hr1, T.cl_Row, T.n_Row_grip, row_grip _ _, rfl, _, rfl, ?_⟩
        rw [e_str]
        by_cases hg : R.grip = "place"
        · rw [decide_eq_true hg]
          refine iteT ⟨_, rfl, rfl, _, rfl, ?_⟩
          by_cases hh : home = 1
          · rw [if_pos ⟨hg, hh⟩] at k
            rw [decide_eq_true (congrArg V.int hh)]
            exact iteT k
          · rw [if_neg (fun z => hh z.2)] at k
            rw [decide_eq_false (fun e => hh (by injection e))]
            exact iteF k
        · rw [if_neg (fun z => hg z.1)] at k
          rw [decide_eq_false hg]
          exact iteF k

/-- a mark as it is handed in: a list or a tuple of pairs -/
def MarkA (K : PySem.W.Frag) (H : Hp) (v : V) (mk : List (Int × Int)) : Prop := ∃ a ps, v = .ref a ∧ (SqL K H a ps ∨ SqT K H a ps) ∧ Paired (PairT K H) ps mk
def still : List (List (Int × Int)) := [List.replicate 6 (0, 0)]
theorem keep_sql {K : PySem.W.Frag} {H H' : Hp} (s : Same H H') {a : Addr} {xs : List V} (h : SqL K H a xs) : SqL K H' a xs := by
  rcases h with (h | ⟨o, h⟩) | h
  · exact .inl (.inl (s _ _ h))
  · exact .inl (.inr ⟨o, s _ _ h⟩)
  · exact .inr h
theorem markT_dps {K : PySem.W.Frag} {H : Hp} : ∀ {vs : List V} {mk : List (Int × Int)}, Paired (PairT K H) vs mk → DpAll K H vs (mk.map fun p => .tuple [.int p.1, .int p.2])
  | _, _, .nil => .nil
  | _, _, .cons ⟨a, e, s⟩ t => by
    subst e
    exact .cons (.tup s (.cons (.int _) (.cons (.int _) .nil))) (markT_dps t)
theorem markT_dp {K : PySem.W.Frag} {H : Hp} {v : V} {mk : List (Int × Int)} (h : MarkT K H v mk) : Dp K H v (.tuple (mk.map fun p => .tuple [.int p.1, .int p.2])) := by
  obtain ⟨a, vs, rfl, s, r⟩ := h
  exact .tup s (markT_dps r)
def modesL : List Str := ["held", "copied", "refused"]
def sharingsL : List Str := ["one", "each"]
def leasesL : List Str := ["always", "call"]
def gripsL : List Str := ["slot", "place", "pin"]
theorem iteB {b : Bool} {A B : Prop} (h1 : b = true → A) (h2 : b = false → B) : if b = true then A else B := by
  cases b with
  | true => exact h1 rfl
  | false => exact h2 rfl
theorem iteNB {b : Bool} {A B : Prop} (h1 : b = false → A) (h2 : b = true → B) : if (!b) = true then A else B := by
  cases b with
  | true => exact h2 rfl
  | false => exact h1 rfl
def HeldArgs (R : RowM) : Prop := R.mode = "held" ∧ (R.sharing = "one" ∨ R.sharing = "each") ∧ (R.lease = "always" ∨ R.lease = "call") ∧ (R.grip = "slot" ∨ R.grip = "place" ∨ R.grip = "pin")
def PlainArgs (R : RowM) : Prop := (R.mode = "copied" ∨ R.mode = "refused") ∧ R.sharing = "one" ∧ R.lease = "always" ∧ R.grip = "slot" ∧ R.rule = still
def sp_Row___init__ (K : PySem.W.Frag) : Sp := fun vs H Q _ => ∃ (x dx l : Addr) (R : RowM) (us : List V), vs = [.ref x, .str R.mode, .str R.sharing, .str R.lease, .str R.grip, .ref l] ∧ H x = some (.ins (He.ga K "Row") dx []) ∧ H l = some (.lst us) ∧ Paired (MarkA K H) us R.rule ∧ RuleOk R.rule ∧ (HeldArgs R ∨ PlainArgs R) ∧
  ∀ H', (∀ b o, H b = some o → b ≠ x → H' b = some o) → RowV K H' x R → Q .non H'
theorem c_Row___init__ (T : Tx K mg) : C8.Mak P w K mg base 3 "Row" (He.ga K "Row") (sp_Row___init__ K) [] := by
  have C_is_rule := c_is_rule (P := P) (w := w) (base := base) T
  refine c_mak T.d_Row___init__ sc_Row___init__ (fun vs H Q E h => ?_) (fun f cdv A outer s H vs Q E hr h => ?_)
  · first | (obtain ⟨rfl, _⟩ := h; rfl) | (obtain ⟨_, rfl, _⟩ := h; rfl) | (obtain ⟨_, _, rfl, _⟩ := h; rfl) | (obtain ⟨_, _, _, rfl, _⟩ := h; rfl) | (obtain ⟨_, _, _, _, rfl, _⟩ := h; rfl) | (obtain ⟨_, _, _, _, _, rfl, _⟩ := h; rfl) | (obtain ⟨_, _, _, _, _, _, rfl, _⟩ := h; rfl) | (obtain ⟨_, _, _, _, _, _, _, rfl, _⟩ := h; rfl) | (obtain ⟨_, _, _, _, _, _, _, _, rfl, _⟩ := h; rfl) | (obtain ⟨_, _, _, _, _, _, _, _, _, rfl, _⟩ := h; rfl) | (obtain ⟨_, _, _, _, _, _, _, _, _, _, rfl, _⟩ := h; rfl) | (obtain ⟨_, _, _, _, _, _, _, _, _, _, _, rfl, _⟩ := h; rfl) | (obtain ⟨_, _, _, _, _, _, _, _, _, _, _, _, rfl, _⟩ := h; rfl) | (obtain ⟨_, _, _, _, _, _, _, _, _, _, _, _, _, rfl, _⟩ := h; rfl)
  have hu := hu_of hr
  refine ⟨_, (pss_cons (ps_if (pt_cmpR op_notIn_seq (pv 1) (pe_glob (v := .ref (He.ga K "MODES")) rfl T.g_MODES rfl) (by with_unfolding_all rfl)) (pss_one ps_never) pss_nil)
    (pss_cons (ps_set (i := 6) sc_Row___init__.nd rfl (by first | exact Or.inl rfl | exact Or.inr rfl) (pe_cmpR op_eq (pv 1) pe_str (nomark _)))
    (pss_cons (ps_if (PW.pt (pw_or (pt_cmpR op_notIn_seq (pv 2) (pe_glob (v := .ref (He.ga K "SHARINGS")) rfl T.g_SHARINGS rfl) (by with_unfolding_all rfl)) (pw_or1 (PW.pt (pw_and (pt_not (pt_val (pv 6))) (pw_and1 (pt_cmpR op_ne (pv 2) pe_str (nomark _)))))))) (pss_one ps_never) pss_nil)
    (pss_cons (ps_if (PW.pt (pw_or (pt_cmpR op_notIn_seq (pv 3) (pe_glob (v := .ref (He.ga K "LEASES")) rfl T.g_LEASES rfl) (by with_unfolding_all rfl)) (pw_or1 (PW.pt (pw_and (pt_not (pt_val (pv 6))) (pw_and1 (pt_cmpR op_ne (pv 3) pe_str (nomark _)))))))) (pss_one ps_never) pss_nil)
    (pss_cons (ps_if (PW.pt (pw_or (pt_cmpR op_notIn_seq (pv 4) (pe_glob (v := .ref (He.ga K "GRIPS")) rfl T.g_GRIPS rfl) (by with_unfolding_all rfl)) (pw_or1 (PW.pt (pw_and (pt_not (pt_val (pv 6))) (pw_and1 (pt_cmpR op_ne (pv 4) pe_str (nomark _)))))))) (pss_one ps_never) pss_nil)
    (pss_cons (ps_set (i := 7) sc_Row___init__.nd rfl (by first | exact Or.inl rfl | exact Or.inr rfl) (pe_lst pa_nil))
    (pss_cons (ps_for PassesOwn.never rfl (pi_list (pv 5)) (pg_name (i := 8) sc_Row___init__.nd rfl (by first | exact Or.inl rfl | exact Or.inr rfl)) (pss_one (ps_expr (pe_bm PySem.F.plainAttrs_list PySem.F.slot_list_append PySem.F.type_list_append mt_append (pv 7) (pa_cons (pe_callTy call_tuple_of rfl T.b_tuple (by decide +kernel) (pa_cons (pe_lc (own := [("pair", 9)]) (g := gName 9) rfl sc_Row___init__.nd (pi_seq (pv 8)) (blkOk_by (own := [("pair", 9)]) (N := N_Row___init__) (sc := defScope s_Row___init__) (by decide +kernel)) (fun _ _ _ _ _ => (pg_name (i := 9) sc_Row___init__.nd rfl (by first | exact Or.inl rfl | exact Or.inr rfl))) (fun _ _ _ _ _ => pts_nil) (fun _ _ _ _ _ => (pe_callTy (call_tuple_ofK (K := K) rfl) rfl T.b_tuple (by decide +kernel) (pa_cons (pv 9) pa_nil)))) pa_nil)) pa_nil)))))
    (pss_cons (ps_if (PW.pt (pw_or (pt_not (pt_val (C8.pe_c (C_is_rule) hr (by decide) rfl (pa_cons (pv 7) pa_nil)))) (pw_or1 (PW.pt (pw_and (pt_not (pt_val (pv 6))) (pw_and1 (pt_cmpR (op_neP hr.units) (pv 7) (pe_lst (pa_cons (pe_glob (v := .ref (He.ga K "STILL")) rfl T.g_STILL rfl) pa_nil)) (nomark _)))))))) (pss_one ps_never) pss_nil)
    (pss_cons (ps_fld (pv 0) (pv 1) rfl)
    (pss_cons (ps_fld (pv 0) (pv 2) rfl)
    (pss_cons (ps_fld (pv 0) (pv 3) rfl)
    (pss_cons (ps_fld (pv 0) (pv 4) rfl)
    (pss_one (ps_fld (pv 0) (pe_callTy call_tuple_of rfl T.b_tuple (by decide +kernel) (pa_cons (pv 7) pa_nil)) rfl)))))))))))))), ?_⟩
  obtain ⟨x, dx, l, R, us, rfl, hx, hl, hm, hok, hargs, k⟩ := h
  have nxl : l ≠ x := ne_of hl hx (by intro z; cases z)
  have iM : inV (.str R.mode) (modesL.map V.str) = true ∧ inV (.str R.sharing) (sharingsL.map V.str) = true ∧ inV (.str R.lease) (leasesL.map V.str) = true ∧ inV (.str R.grip) (gripsL.map V.str) = true := by
    rcases hargs with ⟨h1, h2, h3, h4⟩ | ⟨h1, h2, h3, h4, _⟩
    · rw [h1]
      refine ⟨by decide +kernel, ?_, ?_, ?_⟩
      · rcases h2 with h2 | h2 <;> rw [h2] <;> decide +kernel
      · rcases h3 with h2 | h2 <;> rw [h2] <;> decide +kernel
      · rcases h4 with h2 | h2 | h2 <;> rw [h2] <;> decide +kernel
    · rw [h2, h3, h4]
      refine ⟨?_, by decide +kernel, by decide +kernel, by decide +kernel⟩
      rcases h1 with h1 | h1 <;> rw [h1] <;> decide +kernel
  obtain ⟨i1, i2, i3, i4⟩ := iM
  have hp : decide (V.str R.mode = V.str "held") = false → R.sharing = "one" ∧ R.lease = "always" ∧ R.grip = "slot" ∧ R.rule = still := fun h => by
    rcases hargs with ⟨h1, _⟩ | ⟨_, h2⟩
    · rw [e_str, decide_eq_true h1] at h; cases h
    · exact h2
  refine ⟨_, rfl, _, _, rfl, .inr (datS (xs := modesL) T.v_MODES), rfl, rfl, ?_⟩
  rw [i1]
  refine ⟨_, rfl, iteF ⟨_, rfl, rfl, ?_⟩⟩
  generalize decide (V.str R.mode = V.str "held") = hd at hp
  refine ⟨_, rfl, _, _, rfl, .inr (datS (xs := sharingsL) T.v_SHARINGS), rfl, rfl, ?_⟩
  rw [i2]
  refine ⟨_, rfl, iteF ⟨_, rfl, _, rfl, ?_⟩⟩
  refine (fun (rest : ?G0) => iteNB (fun e => ?u10) (fun e => ?u20)) ?u30
  case u10 =>
    refine ⟨_, rfl, rfl, _, rfl, iteN (fun z => absurd (congrArg V.str (hp e).1) z) (fun _ => ?_)⟩
    exact rest
  case u20 => exact iteF rest
  refine ⟨_, rfl, _, _, rfl, .inr (datS (xs := leasesL) T.v_LEASES), rfl, rfl, ?_⟩
  rw [i3]
  refine ⟨_, rfl, iteF ⟨_, rfl, _, rfl, ?_⟩⟩
  refine (fun (rest : ?G1) => iteNB (fun e => ?u11) (fun e => ?u21)) ?u31
  case u11 =>
    refine ⟨_, rfl, rfl, _, rfl, iteN (fun z => absurd (congrArg V.str (hp e).2.1) z) (fun _ => ?_)⟩
    exact rest
  case u21 => exact iteF rest
  refine ⟨_, rfl, _, _, rfl, .inr (datS (xs := gripsL) T.v_GRIPS), rfl, rfl, ?_⟩
  rw [i4]
  refine ⟨_, rfl, iteF ⟨_, rfl, _, rfl, ?_⟩⟩
  refine (fun (rest : ?G2) => iteNB (fun e => ?u12) (fun e => ?u22)) ?u32
  case u12 =>
    refine ⟨_, rfl, rfl, _, rfl, iteN (fun z => absurd (congrArg V.str (hp e).2.2.1) z) (fun _ => ?_)⟩
    exact rest
  case u22 => exact iteF rest
  refine ⟨by decide, fun q hq => ?_⟩
  have nqx : q ≠ x := fun e => by rw [e, hx] at hq; cases hq
  refine ⟨_, rfl, l, rfl, ⟨_, SqL.of (same_new hq _ _ hl)⟩, for_list (xs := us) (fun i σ H2 => ∃ (ms : List V) (x8 x9 : Option V), σ = [some (.ref x), some (.str R.mode), some (.str R.sharing), some (.str R.lease), some (.str R.grip), some (.ref l), some (.bl hd), some (.ref q), x8, x9] ∧ Same H H2 ∧ H2 q = some (.lst ms) ∧ Paired (MarkT K H2) ms (R.rule.take i)) ?_ ?_ ?_ ?_⟩
  · exact ⟨[], none, none, rfl, same_new hq, upd_same, .nil⟩
  · rintro i σ H2 _ ⟨_, _, _, _, s2, _⟩
    exact SqL.of (s2 _ _ hl)
  · rintro i y σ H2 hi ⟨ms, x8, x9, rfl, s2, h2, hp2⟩
    have hil : i < us.length := (List.getElem?_eq_some_iff.mp hi).1
    have eul := Paired.length hm
    obtain ⟨y', mk, e1, e2, b, ps, rfl, hb, hps⟩ := pr_get hm i (by omega)
    rw [hi] at e1
    cases e1
    obtain ⟨l6, _⟩ := hok.2.2 mk (List.mem_of_getElem? e2)
    have lps : ps.length = 6 := by rw [← l6]; exact Paired.length hps
    have t2 : KeepT K H H2 := keep_same s2
    have hps2 : Paired (PairT K H2) ps mk := Paired.mapP hps fun _ _ z => z.mono t2
    have elp := Paired.length hps
    rcases hb with hb | hb
    refine ⟨_, rfl, .inl ⟨rfl, _, .inl (.inl h2)⟩, _, rfl, b, rfl, .inl ⟨⟨_, keep_sql s2 hb⟩, fun D hD => lc_list (xs := ps) (fun j H3 => Same H2 H3 ∧ H3 D = some (.lst (ps.take j))) ⟨same_new hD, upd_same⟩ (fun j H3 _ ⟨s3, _⟩ => keep_sql s3 (keep_sql s2 hb)) ?sL ?dL⟩⟩
    rotate_left 2
    refine ⟨_, rfl, .inl ⟨rfl, _, .inl (.inl h2)⟩, _, rfl, b, rfl, .inr ⟨⟨_, t2 _ _ hb⟩, fun D hD => lc_tup (xs := ps) (fun j H3 => Same H2 H3 ∧ H3 D = some (.lst (ps.take j))) ⟨same_new hD, upd_same⟩ (fun j H3 _ ⟨s3, _⟩ => keep_same s3 _ _ (t2 _ _ hb)) ?sT ?dT⟩⟩
    case sL | sT =>
      rintro j z H3 hj ⟨s3, h3⟩
      have hjl : j < ps.length := (List.getElem?_eq_some_iff.mp hj).1
      obtain ⟨z', p, f1, f2, c, rfl, hc⟩ := pr_get hps2 j (by omega)
      rw [hj] at f1
      cases f1
      refine ⟨rfl, ?_⟩
      unfold tYes
      refine iteT ⟨_, rfl, c, _, rfl, .inr ⟨keep_same s3 _ _ hc, _, h3, ?_, fun b' o hb' => ?_, ?_⟩⟩
      · rw [List.length_take]
        exact Nat.lt_of_le_of_lt (show min j ps.length ≤ 6 by omega) (by decide)
      · rw [upd_ne (ne_of_none hb' hD)]
        exact s3 _ _ hb'
      · rw [upd_same, take_snoc hj]
    case dL | dT =>
      rintro H3 ⟨s3, h3⟩
      rw [List.take_of_length_le (Nat.le_refl _)] at h3
      refine ⟨D, ps, rfl, .inl ⟨SqL.of h3, fun t ht => ?_⟩⟩
      have s4 : Same H3 (upd H3 t (.tup ps)) := same_new ht
      have h4 := s4 _ _ (s3 _ _ h2)
      have em := Paired.length hp2
      refine ⟨q, _, _, rfl, rfl, h4, ?_, ?_⟩
      · rw [em, List.length_take]
        obtain ⟨_, l4, _⟩ := hok
        exact Nat.lt_of_le_of_lt (show min i R.rule.length ≤ 4 by omega) (by decide)
      · have b5 : But q (upd H3 t (.tup ps)) (upd (upd H3 t (.tup ps)) q (.lst (ms ++ [.ref t]))) := But.upd
        have t5 := keep_lst (K := K) b5 h4
        have t35 : KeepT K H2 (upd (upd H3 t (.tup ps)) q (.lst (ms ++ [.ref t]))) := fun a' xs' h' => t5 _ _ (keep_same s4 _ _ (keep_same s3 _ _ h'))
        refine ⟨ms ++ [.ref t], _, _, rfl, fun b' o hb' => ?_, upd_same, ?_⟩
        · exact b5 _ _ (s4 _ _ (s3 _ _ (s2 _ _ hb'))) (ne_of_none hb' hq)
        · rw [take_snoc e2]
          exact pr_app (Paired.mapP hp2 fun _ _ z => z.mono t35) (.cons ⟨t, ps, rfl, t5 _ _ (SqT.of upd_same), Paired.mapP hps2 fun _ _ z => z.mono t35⟩ .nil)
  · rintro σ H2 ⟨ms, x8, x9, rfl, s2, h2, hp2⟩
    have eul := Paired.length hm
    rw [eul, List.take_of_length_le (Nat.le_refl _)] at hp2
    refine ⟨_, rfl, q, ms, R.rule, rfl, SqL.of h2, hp2, hok, ?_⟩
    refine ⟨_, rfl, iteF ⟨_, rfl, _, rfl, ?_⟩⟩
    refine iteNB (fun e => ?_) (fun e => iteF ?_)
    rotate_left
    generalize hH : H2 = H4
    have s4 : Same H2 H4 := hH ▸ Same.refl H2
    rotate_left
    have hst := (hp e).2.2.2
    refine ⟨_, rfl, (by show 1 ≤ sizeLine; decide), fun w hw => ?_⟩
    have s3 : Same H2 (upd H2 w (.lst [.ref (He.ga K "STILL")])) := same_new hw
    have hp3 := hp2
    rw [hst] at hp3
    have d1 : Dp K (upd H2 w (.lst [.ref (He.ga K "STILL")])) (.ref q) (.list [.tuple (List.replicate 6 (.tuple [.int 0, .int 0]))]) := by
      cases hp3 with
      | cons r t =>
        cases t
        exact .lst (SqL.of (s3 _ _ h2)) (.cons (markT_dp (r.mono (keep_same s3))) .nil)
    have d2 : Dp K (upd H2 w (.lst [.ref (He.ga K "STILL")])) (.ref w) (.list [.tuple (List.replicate 6 (.tuple [.int 0, .int 0]))]) := .lst (SqL.of upd_same) (.cons (T.v_STILL _) .nil)
    refine ⟨_, _, true, d1, d2, by decide +kernel, by decide +kernel, by decide +kernel, by decide +kernel, _, rfl, iteF ?_⟩
    generalize upd H2 w (.lst [.ref (He.ga K "STILL")]) = H4 at s3
    have s4 := s3
    all_goals
      have hx4 := s4 _ _ (s2 _ _ hx)
      have h4 := s4 _ _ h2
      have hp4 : Paired (MarkT K H4) ms R.rule := Paired.mapP hp2 fun _ _ z => z.mono (keep_same s4)
      refine ⟨_, rfl, _, rfl, _, _, _, _, rfl, hx4, T.cl_Row, T.n_Row_mode, (by show 0 < 1000; decide), ?_⟩
      refine ⟨_, rfl, _, rfl, _, _, _, _, rfl, upd_same, T.cl_Row, T.n_Row_sharing, (by show 1 < 1000; decide), ?_⟩
      refine ⟨_, rfl, _, rfl, _, _, _, _, rfl, upd_same, T.cl_Row, T.n_Row_lease, (by show 2 < 1000; decide), ?_⟩
      refine ⟨_, rfl, _, rfl, _, _, _, _, rfl, upd_same, T.cl_Row, T.n_Row_grip, (by show 3 < 1000; decide), ?_⟩
      rw [upd_upd, upd_upd, upd_upd]
      have sx : ∀ (o : HO) b u, H4 b = some u → b ≠ x → upd H4 x o b = some u := fun o b u hb hn => by rw [upd_ne hn]; exact hb
      refine ⟨_, rfl, q, ms, rfl, .inl ⟨SqL.of (sx _ _ _ h4 nqx), fun t ht => ?_⟩⟩
      have ntx : t ≠ x := fun z => by rw [z, upd_same] at ht; cases ht
      refine ⟨_, rfl, x, _, _, _, rfl, (by rw [upd_ne ntx.symm]; exact upd_same), T.cl_Row, T.n_Row_rule, (by show 4 < 1000; decide), ?_⟩
      have fr : ∀ b o, H b = some o → b ≠ x → b ≠ t := fun b o hb hn z => by
        rw [z] at hb
        have := sx (.ins (He.ga K "Row") dx (putF "grip" (.str R.grip) (putF "lease" (.str R.lease) (putF "sharing" (.str R.sharing) (putF "mode" (.str R.mode) []))))) _ _ (s4 _ _ (s2 _ _ hb)) ntx
        rw [ht] at this
        cases this
      refine k _ (fun b o hb hn => ?_) ⟨dx, t, upd_same, ms, SqT.of ?_, ?_⟩
      · rw [upd_ne hn, upd_ne (fr b o hb hn), upd_ne hn]
        exact s4 _ _ (s2 _ _ hb)
      · rw [upd_ne ntx]
        exact upd_same
      · refine Paired.mapP hp4 fun _ _ z => z.mono fun a xs h => ?_
        rcases h with h | h
        · refine .inl ?_
          rcases h with h | ⟨o, h⟩
          · have n1 := ne_of h hx4 (by intro z; cases z)
            have n2 : a ≠ t := fun z => by
              have := sx (.ins (He.ga K "Row") dx (putF "grip" (.str R.grip) (putF "lease" (.str R.lease) (putF "sharing" (.str R.sharing) (putF "mode" (.str R.mode) []))))) _ _ h n1
              rw [z, ht] at this
              cases this
            exact .inl (by rw [upd_ne n1, upd_ne n2, upd_ne n1]; exact h)
          · have n1 := ne_of h hx4 (by intro z; cases z)
            have n2 : a ≠ t := fun z => by
              have := sx (.ins (He.ga K "Row") dx (putF "grip" (.str R.grip) (putF "lease" (.str R.lease) (putF "sharing" (.str R.sharing) (putF "mode" (.str R.mode) []))))) _ _ h n1
              rw [z, ht] at this
              cases this
            exact .inr ⟨o, by rw [upd_ne n1, upd_ne n2, upd_ne n1]; exact h⟩
        · exact .inr h
theorem made {H : Hp} {x dx C : Addr} (hx : H x = none) (hdx : H dx = none) : Same H (upd (upd H dx (.own x)) x (.ins C dx [])) := fun b o e => by
  rw [upd_ne (ne_of_none e hx), upd_ne (ne_of_none e hdx)]
  exact e
theorem dp_start {K : PySem.W.Frag} {H : Hp} {v : V} (h : Dp K H v (.tuple [.int 0, .bool false, .str "shut"])) : NodeV K H v start := by
  cases h with
  | tup s d =>
    cases d with
    | cons d1 d =>
      cases d with
      | cons d2 d =>
        cases d with
        | cons d3 d =>
          cases d1; cases d2; cases d3; cases d
          exact ⟨_, rfl, s⟩

def FlV (H : Hp) (v : V) : Option (Str × Str) → Prop
  | none => v = .non
  | some (l, w) => ∃ p, v = .ref p ∧ H p = some (.tup [.str l, .str w])
section
variable {R : RowM} {home : Int} {x : QE} {e : Ev} {es : List Ev} {q : List QE}
theorem inner_flaw {w : Str} (hf : R.fault home (R.step x.n e).1 (x.h + (R.step x.n e).2) = some w) : R.inner home x (e :: es) q = .flaw (x.life ++ e.str) w := by
  show (match R.fault home (R.step x.n e).1 (x.h + (R.step x.n e).2) with
    | some w => Res.flaw (x.life ++ e.str) w
    | none => if seen q (R.step x.n e).1 (x.h + (R.step x.n e).2) then R.inner home x es q else R.inner home x es (q ++ [(⟨(R.step x.n e).1, x.h + (R.step x.n e).2, x.life ++ e.str⟩ : QE)])) = _
  rw [hf]
theorem inner_old (hf : R.fault home (R.step x.n e).1 (x.h + (R.step x.n e).2) = none) (hs : seen q (R.step x.n e).1 (x.h + (R.step x.n e).2) = true) : R.inner home x (e :: es) q = R.inner home x es q := by
  show (match R.fault home (R.step x.n e).1 (x.h + (R.step x.n e).2) with
    | some w => Res.flaw (x.life ++ e.str) w
    | none => if seen q (R.step x.n e).1 (x.h + (R.step x.n e).2) then R.inner home x es q else _) = _
  rw [hf, hs]
  rfl
theorem inner_new (hf : R.fault home (R.step x.n e).1 (x.h + (R.step x.n e).2) = none) (hs : seen q (R.step x.n e).1 (x.h + (R.step x.n e).2) = false) : R.inner home x (e :: es) q = R.inner home x es (q ++ [(⟨(R.step x.n e).1, x.h + (R.step x.n e).2, x.life ++ e.str⟩ : QE)]) := by
  show (match R.fault home (R.step x.n e).1 (x.h + (R.step x.n e).2) with
    | some w => Res.flaw (x.life ++ e.str) w
    | none => if seen q (R.step x.n e).1 (x.h + (R.step x.n e).2) then R.inner home x es q else R.inner home x es (q ++ [(⟨(R.step x.n e).1, x.h + (R.step x.n e).2, x.life ++ e.str⟩ : QE)])) = _
  rw [hf, hs]
  rfl
end
theorem inner_app {R : RowM} {home : Int} {x : QE} : ∀ (es fs : List Ev) (q : List QE), R.inner home x (es ++ fs) q = match R.inner home x es q with
    | .flaw l w => .flaw l w
    | .ok q' => R.inner home x fs q'
  | [], fs, q => rfl
  | e :: es, fs, q => by
    rw [List.cons_append]
    cases hf : R.fault home (R.step x.n e).1 (x.h + (R.step x.n e).2) with
    | some w => rw [inner_flaw hf, inner_flaw hf]
    | none =>
      cases hs : seen q (R.step x.n e).1 (x.h + (R.step x.n e).2) with
      | true => rw [inner_old hf hs, inner_old hf hs, inner_app es fs q]
      | false => rw [inner_new hf hs, inner_new hf hs, inner_app es fs _]
theorem split_at {α : Type} {l : List α} {i : Nat} {x : α} (h : l[i]? = some x) : l = l.take i ++ x :: l.drop (i + 1) := by
  obtain ⟨h1, h2⟩ := List.getElem?_eq_some_iff.mp h
  rw [← h2, List.getElem_cons_drop, List.take_append_drop]
theorem FlV.same {H H' : Hp} (s : Same H H') {v : V} {res : Option (Str × Str)} (h : FlV H v res) : FlV H' v res := by
  cases res with
  | none => exact h
  | some z => obtain ⟨l, w⟩ := z; obtain ⟨p, e, hp⟩ := h; exact ⟨p, e, s _ _ hp⟩
/-- the state of the walk: the queue and the table -/
structure WK (P : Program) (w : World) (K : PySem.W.Frag) (H H' : Hp) (qa kd : Addr) (q : List QE) : Prop where
  same : Same H H'
  fq : H qa = none
  fk : H kd = none
  ne : qa ≠ kd
  at_ : ∃ us, H' qa = some (.lst us) ∧ Paired (QEV K H') us q
  kn : DkAt P w K H' kd (knownK q)
theorem WK.later {P : Program} {w : World} {K : PySem.W.Frag} {H H' H2 : Hp} {qa kd : Addr} {q : List QE} (h : WK P w K H H' qa kd q) (s : Same H' H2) : WK P w K H H2 qa kd q := by
  obtain ⟨us, e1, e2⟩ := h.at_
  obtain ⟨ys, d1, d2, d3⟩ := id h.kn
  exact ⟨h.same.trans s, h.fq, h.fk, h.ne, ⟨us, s _ _ e1, Paired.mapP e2 fun _ _ z => z.mono (keep_same s)⟩, h.kn.mono (keep_same s) (by rw [d1]; exact s _ _ d1)⟩

def sp_first_flaw (K : PySem.W.Frag) : Sp := fun vs H Q _ => ∃ (a : Addr) (R : RowM) (home : Int), vs = [.ref a, .int home] ∧ RowV K H a R ∧ RuleOk R.rule ∧ ∀ (res : Option (Str × Str)) (v : V) (H' : Hp), Same H H' → FlawR R home res → FlV H' v res → Q v H'
theorem c_first_flaw (T : Tx K mg) : C8.Cal P w K mg base 4 "first_flaw" (sp_first_flaw K) [] := by
  have C_possible := c_possible (P := P) (w := w) (base := base) T
  have C_fault := c_fault (P := P) (w := w) (base := base) T
  have C_step := c_step (P := P) (w := w) (base := base) T
  refine c_mk T.d_first_flaw sc_first_flaw (fun vs H Q E h => ?_) (fun f cdv A outer s H vs Q E hr h => ?_)
  · first | (obtain ⟨rfl, _⟩ := h; rfl) | (obtain ⟨_, rfl, _⟩ := h; rfl) | (obtain ⟨_, _, rfl, _⟩ := h; rfl) | (obtain ⟨_, _, _, rfl, _⟩ := h; rfl) | (obtain ⟨_, _, _, _, rfl, _⟩ := h; rfl) | (obtain ⟨_, _, _, _, _, rfl, _⟩ := h; rfl) | (obtain ⟨_, _, _, _, _, _, rfl, _⟩ := h; rfl) | (obtain ⟨_, _, _, _, _, _, _, rfl, _⟩ := h; rfl) | (obtain ⟨_, _, _, _, _, _, _, _, rfl, _⟩ := h; rfl) | (obtain ⟨_, _, _, _, _, _, _, _, _, rfl, _⟩ := h; rfl) | (obtain ⟨_, _, _, _, _, _, _, _, _, _, rfl, _⟩ := h; rfl) | (obtain ⟨_, _, _, _, _, _, _, _, _, _, _, rfl, _⟩ := h; rfl) | (obtain ⟨_, _, _, _, _, _, _, _, _, _, _, _, rfl, _⟩ := h; rfl) | (obtain ⟨_, _, _, _, _, _, _, _, _, _, _, _, _, rfl, _⟩ := h; rfl)
  have hu := hu_of hr
  refine ⟨_, (pss_cons (ps_set (i := 2) sc_first_flaw.nd rfl (by first | exact Or.inl rfl | exact Or.inr rfl) (pe_lst (pa_cons (pe_tup (pa_cons (pe_glob (v := .ref (He.ga K "START")) rfl T.g_START rfl) (pa_cons pe_int (pa_cons pe_str pa_nil)))) pa_nil)))
    (pss_cons (ps_set (i := 3) sc_first_flaw.nd rfl (by first | exact Or.inl rfl | exact Or.inr rfl) pe_dnewN)
    (pss_cons (ps_set (i := 4) sc_first_flaw.nd rfl (by first | exact Or.inl rfl | exact Or.inr rfl) pe_int)
    (pss_cons (ps_while PassesOwn.never (pt_cmpR op_lt (pv 4) (pe_callB call_len_seq rfl T.b_len (by decide +kernel) (pa_cons (pv 2) pa_nil)) (nomark _)) (pss_cons (ps_asg (pe_ix ix_list (pv 2) (pv 4) (fun _ _ => rfl)) (pg_tup rfl (pgs_cons (pg_name (i := 5) sc_first_flaw.nd rfl (by first | exact Or.inl rfl | exact Or.inr rfl)) (pgs_cons (pg_name (i := 6) sc_first_flaw.nd rfl (by first | exact Or.inl rfl | exact Or.inr rfl)) (pgs_cons (pg_name (i := 7) sc_first_flaw.nd rfl (by first | exact Or.inl rfl | exact Or.inr rfl)) pgs_nil)))))
    (pss_cons (ps_for PassesOwn.never rfl (pi_str (C8.pe_c (C_possible) hr (by decide) rfl (pa_cons (pv 0) (pa_cons (pv 5) (pa_cons (pe_cmpR op_eq (pv 7) pe_str (nomark _)) pa_nil))))) (pg_name (i := 8) sc_first_flaw.nd rfl (by first | exact Or.inl rfl | exact Or.inr rfl)) (pss_cons (ps_asg (C8.pe_c (C_step) hr (by decide) rfl (pa_cons (pv 0) (pa_cons (pv 5) (pa_cons (pv 8) pa_nil)))) (pg_tup rfl (pgs_cons (pg_name (i := 9) sc_first_flaw.nd rfl (by first | exact Or.inl rfl | exact Or.inr rfl)) (pgs_cons (pg_name (i := 10) sc_first_flaw.nd rfl (by first | exact Or.inl rfl | exact Or.inr rfl)) pgs_nil))))
    (pss_cons (ps_set (i := 11) sc_first_flaw.nd rfl (by first | exact Or.inl rfl | exact Or.inr rfl) (C8.pe_c (C_fault) hr (by decide) rfl (pa_cons (pv 0) (pa_cons (pv 1) (pa_cons (pv 9) (pa_cons (pe_op op_add (pv 6) (pv 10)) pa_nil))))))
    (pss_cons (ps_if (pt_cmpR op_notN (pv 11) pe_non (nomark _)) (pss_one (ps_ret (pe_tup (pa_cons (pe_op op_add_str (pv 7) (pv 8)) (pa_cons (pv 11) pa_nil))))) pss_nil)
    (pss_one (ps_if (pt_cmpR (op_notInN hr.units) (pe_tup (pa_cons (pv 9) (pa_cons (pe_op op_add (pv 6) (pv 10)) pa_nil))) (pv 3) (by with_unfolding_all rfl)) (pss_cons (ps_asg pe_bl (pg_sub (pv 3) (pe_tup (pa_cons (pv 9) (pa_cons (pe_op op_add (pv 6) (pv 10)) pa_nil))) (ps_setN hr.units)))
    (pss_one (ps_expr (pe_bm PySem.F.plainAttrs_list PySem.F.slot_list_append PySem.F.type_list_append mt_append (pv 2) (pa_cons (pe_tup (pa_cons (pv 9) (pa_cons (pe_op op_add (pv 6) (pv 10)) (pa_cons (pe_op op_add_str (pv 7) (pv 8)) pa_nil)))) pa_nil))))) pss_nil))))))
    (pss_one (ps_aug (i := 4) sc_first_flaw.nd rfl (by first | exact Or.inl rfl | exact Or.inr rfl) pe_int ip_add)))))
    (pss_one (ps_ret pe_non)))))), ?_⟩
  obtain ⟨a, R, home, rfl, hR, hok, k⟩ := h
  have hst : ∀ H : Hp, NodeV K H (.ref (He.ga K "START")) start := fun H => dp_start (T.v_START H)
  refine ⟨(by show 3 ≤ sizeLine; decide), fun p hp => ?_⟩
  have s1 := same_new (o := .tup [.ref (He.ga K "START"), .int 0, .str ""]) hp
  refine ⟨(by show 1 ≤ sizeLine; decide), fun qa hqa => ?_⟩
  have s2 := same_new (o := .lst [.ref p]) hqa
  refine fun kd hkd => ?_
  have s3 := same_new (o := DkO P w kd []) hkd
  have h1 : Hp := H
  have s12 := s1.trans s2
  have s123 := s12.trans s3
  have hqa0 : H qa = none := s1.free hqa
  have hkd0 : H kd = none := s12.free hkd
  have nqk : qa ≠ kd := ne_of_none upd_same hkd
  have hp3 := s3 _ _ (s2 _ _ (upd_same (H := H) (a := p) (o := .tup [.ref (He.ga K "START"), .int 0, .str ""])))
  have W0 : WK P w K H (upd (upd (upd H p (.tup [.ref (He.ga K "START"), .int 0, .str ""])) qa (.lst [.ref p])) kd (DkO P w kd [])) qa kd [q0] :=
    ⟨s123, hqa0, hkd0, nqk, ⟨[.ref p], s3 _ _ upd_same, .cons ⟨p, _, rfl, SqT.of hp3, hst _⟩ .nil⟩, DkAt.new⟩
  clear hp3 s123 s12 s3 s2 s1 h1 hkd hqa hp
  refine ⟨fun m σ H' => ∃ (i : Nat) (q : List QE) (x5 x6 x7 x8 x9 x10 x11 : Option V), m = 157 - i ∧ Reach R home i q ∧ WK P w K H H' qa kd q ∧ σ = [some (.ref a), some (.int home), some (.ref qa), some (.ref kd), some (.int (i : Int)), x5, x6, x7, x8, x9, x10, x11], ⟨157, 0, [q0], none, none, none, none, none, none, none, rfl, .zero, W0, rfl⟩, ?_⟩
  clear W0 p
  rintro m σ H1 ⟨i, q, x5, x6, x7, x8, x9, x10, x11, rfl, hre, W, rfl⟩
  obtain ⟨us, hus, hqs⟩ := W.at_
  have elen := Paired.length hqs
  refine ⟨_, rfl, _, rfl, qa, us, rfl, .inl (SqL.of hus), _, _, rfl, rfl, _, rfl, iteD (fun hc => ?_) (fun hc => ?_)⟩
  · have hi : i < q.length := by omega
    have hb := hre.bound hok
    obtain ⟨qk, ql⟩ := hre.qok hok
    refine ⟨fun σ' H' => ∃ (q' : List QE) (x5 x6 x7 x8 x9 x10 x11 : Option V), Reach R home (i + 1) q' ∧ WK P w K H H' qa kd q' ∧ σ' = [some (.ref a), some (.int home), some (.ref qa), some (.ref kd), some (.int ((i + 1 : Nat) : Int)), x5, x6, x7, x8, x9, x10, x11], fun σ' H' ⟨q', y5, y6, y7, y8, y9, y10, y11, e1, e2, e3⟩ => ⟨157 - (i + 1), by omega, i + 1, q', y5, y6, y7, y8, y9, y10, y11, rfl, e1, e2, e3⟩, ?_⟩
    obtain ⟨y, x, u1, u2, b, u, rfl, hbt, hun⟩ := pr_get hqs i hi
    obtain ⟨m0, m1⟩ := qk.mark hok u2
    have ll := qk.len i x u2
    refine ⟨_, rfl, _, rfl, qa, us, (i : Int), .ref b, rfl, rfl, SqL.of hus, atI_nat u1, b, _, rfl, hbt, rfl, _, _, rfl, _, _, rfl, _, _, rfl, rfl, ?_⟩
    refine ⟨_, rfl, _, rfl, _, rfl, rfl, a, R, u, x.n, _, rfl, hR.same W.same, hun, fun H2 s2 => ?_⟩
    rw [e_str]
    have W2 := W.later s2
    have hun2 := hun.mono (keep_same (K := K) s2)
    clear hbt u1 hus hqs elen hun
    have hout : R.outer home x q = R.inner home x (R.evs x.n (decide (x.life = ""))) q := rfl
    have hes := evs_len R x.n (decide (x.life = ""))
    generalize R.evs x.n (decide (x.life = "")) = es at hout hes
    refine ⟨_, rfl, for_ev (es := es) (fun j σ H3 => ∃ (q' : List QE) (x8 x9 x10 x11 : Option V), R.inner home x (es.take j) q = .ok q' ∧ WK P w K H H3 qa kd q' ∧ NodeV K H3 u x.n ∧ σ = [some (.ref a), some (.int home), some (.ref qa), some (.ref kd), some (.int (i : Int)), some u, some (.int x.h), some (.str x.life), x8, x9, x10, x11]) ⟨q, _, _, _, _, rfl, W2, hun2, rfl⟩ ?_ ?_⟩
    · rintro j e σ H3 he ⟨q', x8, x9, x10, x11, hin, W3, hu3, rfl⟩
      have hR3 := hR.same W3.same
      refine ⟨_, rfl, _, rfl, _, rfl, a, R, u, x.n, e, rfl, hR3, hu3, hok, m0, m1, fun p v H4 s4 h4 hv4 => ?_⟩
      refine ⟨p, _, rfl, SqT.of h4, rfl, _, _, rfl, _, _, rfl, rfl, ?_⟩
      have W4 := W3.later s4
      have hu4 := hu3.mono (keep_same (K := K) s4)
      refine ⟨_, rfl, _, rfl, _, rfl, _, rfl, _, rfl, _, _, rfl, rfl, a, R, home, v, (R.step x.n e).1, x.h + (R.step x.n e).2, rfl, hR.same W4.same, hv4, ?_⟩
      refine ⟨_, rfl, rfl, _, rfl, ?_⟩
      have hcut : R.inner home x es q = R.inner home x (e :: es.drop (j + 1)) q' := by
        have e1 : es = es.take j ++ e :: es.drop (j + 1) := split_at he
        have e2 := inner_app (R := R) (home := home) (x := x) (es.take j) (e :: es.drop (j + 1)) q
        rw [← e1, hin] at e2
        exact e2
      have htk : ∀ q2, R.inner home x [e] q' = .ok q2 → R.inner home x (es.take (j + 1)) q = .ok q2 := fun q2 h2 => by
        rw [take_snoc he, inner_app, hin]
        exact h2
      cases hf : R.fault home (R.step x.n e).1 (x.h + (R.step x.n e).2) with
      | some w =>
        refine iteN (fun _ => ?_) (fun e => by cases e)
        refine ⟨_, rfl, _, rfl, _, _, rfl, rfl, ?_, _, rfl, (by show 2 ≤ sizeLine; decide), fun t ht => ?_⟩
        · show x.life.length + 1 ≤ sizeLine
          exact Nat.le_trans (show x.life.length + 1 ≤ 157 by omega) (by decide)
        · refine k (some (x.life ++ e.str, w)) _ _ (W4.same.trans (same_new ht)) ⟨i, q, x, hre, u2, ?_⟩ ⟨t, rfl, upd_same⟩
          rw [hout, hcut, inner_flaw hf]
      | none =>
        refine iteN (fun e => absurd rfl e) (fun _ => ?_)
        refine ⟨_, rfl, _, rfl, _, rfl, _, _, rfl, rfl, (by show 2 ≤ sizeLine; decide), fun t ht => ?_⟩
        have s5 := same_new (o := .tup [v, .int (x.h + (R.step x.n e).2)]) ht
        have W5 := W4.later s5
        have hv5 := hv4.mono (keep_same (K := K) s5)
        have hu5 := hu4.mono (keep_same (K := K) s5)
        have hk5 : NkV K _ (keyP (R.step x.n e).1 (x.h + (R.step x.n e).2)) (.ref t) := hv5.keyP (SqT.of (upd_same (H := H4) (a := t) (o := .tup [v, .int (x.h + (R.step x.n e).2)])))
        refine ⟨_, rfl, t, kd, _, _, rfl, rfl, W5.kn, hk5, keyP_depth _ _, _, rfl, ?_⟩
        rw [known_seen]
        refine iteNB (fun hs => ?_) (fun hs => ?_)
        · refine ⟨_, rfl, _, rfl, _, rfl, _, rfl, _, _, rfl, rfl, (by show 2 ≤ sizeLine; decide), fun t2 ht2 => ?_⟩
          have s6 := same_new (o := .tup [v, .int (x.h + (R.step x.n e).2)]) ht2
          have W6 := W5.later s6
          have hv6 := hv5.mono (keep_same (K := K) s6)
          have hu6 := hu5.mono (keep_same (K := K) s6)
          have hk6 : NkV K _ (keyP (R.step x.n e).1 (x.h + (R.step x.n e).2)) (.ref t2) := hv6.keyP (SqT.of (upd_same (H := upd H4 t (.tup [v, .int (x.h + (R.step x.n e).2)])) (a := t2) (o := .tup [v, .int (x.h + (R.step x.n e).2)])))
          obtain ⟨⟨r, er, rl, _⟩, qk', _⟩ := inner_ok hok m0 m1 ll _ _ _ qk hi hin
          have q1 : 1 ≤ q'.length := by rw [er, List.length_append]; omega
          have tl : (es.take j).length ≤ 6 := Nat.le_trans (List.length_take_le' _ _) hes
          have ql' : q'.length ≤ 1 + 6 * 156 + 6 := by rw [er, List.length_append]; omega
          have kl : (knownK q').length < sizeLine := by
            unfold knownK
            rw [List.length_map, List.length_drop]
            exact Nat.lt_of_le_of_lt (show q'.length - 1 ≤ 1000 by omega) (by decide)
          refine ⟨kd, t2, _, _, rfl, rfl, W6.kn, hk6, keyP_depth _ _, kl, fun H7 hne keep7 hD7 => ?_⟩
          obtain ⟨us6, hq6, hp6⟩ := W6.at_
          have hq7 : H7 qa = some (.lst us6) := by rw [hne _ W6.ne]; exact hq6
          have eu6 := Paired.length hp6
          refine ⟨_, rfl, .inl ⟨rfl, _, .inl (.inl hq7)⟩, _, rfl, _, rfl, _, rfl, _, _, rfl, rfl, _, rfl, _, rfl, _, _, rfl, rfl, ?_, (by show 3 ≤ sizeLine; decide), fun t3 ht3 => ?_⟩
          · show x.life.length + 1 ≤ sizeLine
            exact Nat.le_trans (show x.life.length + 1 ≤ 157 by omega) (by decide)
          have s8 := same_new (o := .tup [v, .int (x.h + (R.step x.n e).2), .str (x.life ++ e.str)]) ht3
          have hq8 := s8 _ _ hq7
          refine ⟨qa, _, _, rfl, rfl, hq8, by rw [eu6]; exact Nat.lt_of_le_of_lt (show q'.length ≤ 1000 by omega) (by decide), ?_⟩
          have b9 : But qa (upd H7 t3 (.tup [v, .int (x.h + (R.step x.n e).2), .str (x.life ++ e.str)])) (upd (upd H7 t3 (.tup [v, .int (x.h + (R.step x.n e).2), .str (x.life ++ e.str)])) qa (.lst (us6 ++ [.ref t3]))) := But.upd
          have k9 := keep_lst (K := K) b9 hq8
          have k79 : KeepT K H7 _ := fun a' xs' h' => k9 _ _ (keep_same s8 _ _ h')
          have k69 : KeepT K _ _ := fun a' xs' h' => k79 _ _ (keep7 a' xs' h')
          refine ⟨q' ++ [⟨(R.step x.n e).1, x.h + (R.step x.n e).2, x.life ++ e.str⟩], _, _, _, _, htk _ (by rw [inner_new hf hs]; rfl), ⟨?_, W6.fq, W6.fk, W6.ne, ⟨us6 ++ [.ref t3], upd_same, ?_⟩, ?_⟩, hu6.mono k69, rfl⟩
          · intro b' o hb'
            have n1 : b' ≠ qa := ne_of_none hb' W6.fq
            have n2 : b' ≠ kd := ne_of_none hb' W6.fk
            refine b9 _ _ (s8 _ _ ?_) n1
            rw [hne _ n2]
            exact W6.same _ _ hb'
          · refine pr_app (Paired.mapP hp6 fun _ _ z => z.mono k69) (.cons ⟨t3, v, rfl, k9 _ _ (SqT.of upd_same), hv6.mono k69⟩ .nil)
          · have hD9 := hD7.mono k79 (by
              obtain ⟨ys, d1, _⟩ := id hD7
              rw [upd_ne W6.ne.symm, d1]
              exact s8 _ _ d1)
            have kp := known_put (q := q') (x := ⟨(R.step x.n e).1, x.h + (R.step x.n e).2, x.life ++ e.str⟩) hs q1
            rw [← kp]
            exact hD9
        · exact ⟨q', _, _, _, _, htk _ (by rw [inner_old hf hs]; rfl), W5, hu5, rfl⟩
    · rintro σ H3 ⟨q', x8, x9, x10, x11, hin, W3, hu3, rfl⟩
      rw [List.take_of_length_le (Nat.le_refl _)] at hin
      refine ⟨_, rfl, _, _, rfl, rfl, ?_⟩
      exact ⟨q', _, _, _, _, _, _, _, .succ hre u2 (by rw [hout]; exact hin), W3, rfl⟩
  · have hi : q.length ≤ i := by omega
    exact k none .non H1 W.same ⟨i, q, hre, hi⟩ rfl

theorem dp_pairs {K : PySem.W.Frag} {H : Hp} : ∀ (mk : List (Int × Int)) (vs : List V), DpAll K H vs (mk.map fun p => .tuple [.int p.1, .int p.2]) → Paired (PairT K H) vs mk
  | [], _, h => by cases h; exact .nil
  | p :: mk, _, h => by
    cases h with
    | cons h1 h2 =>
      refine .cons ?_ (dp_pairs mk _ h2)
      cases h1 with
      | tup s d =>
        cases d with
        | cons d1 d =>
          cases d with
          | cons d2 d =>
            cases d1; cases d2; cases d
            exact ⟨_, rfl, s⟩
theorem dp_mark {K : PySem.W.Frag} {H : Hp} {v : V} {mk : List (Int × Int)} (h : Dp K H v (.tuple (mk.map fun p => .tuple [.int p.1, .int p.2]))) : MarkT K H v mk := by
  cases h with
  | tup s d => exact ⟨_, _, rfl, s, dp_pairs mk _ d⟩
def plainR (mode : Str) : RowM := ⟨mode, "one", "always", "slot", still⟩
theorem still_ok : RuleOk still := by
  refine ⟨by decide, by decide, fun mk hmk => ?_⟩
  cases (List.mem_singleton.mp hmk)
  refine ⟨rfl, fun p hp => ?_⟩
  cases (List.eq_of_mem_replicate hp)
  decide
def sp_plain_row (K : PySem.W.Frag) : Sp := fun vs H Q _ => ∃ mode : Str, vs = [.str mode] ∧ (mode = "copied" ∨ mode = "refused") ∧ ∀ (a : Addr) (H' : Hp), Same H H' → RowV K H' a (plainR mode) → Q (.ref a) H'
theorem c_plain_row (T : Tx K mg) : C8.Cal P w K mg base 5 "plain_row" (sp_plain_row K) [] := by
  have K_Row := c_Row___init__ (P := P) (w := w) (base := base) T
  refine c_mk T.d_plain_row sc_plain_row (fun vs H Q E h => ?_) (fun f cdv A outer s H vs Q E hr h => ?_)
  · first | (obtain ⟨rfl, _⟩ := h; rfl) | (obtain ⟨_, rfl, _⟩ := h; rfl) | (obtain ⟨_, _, rfl, _⟩ := h; rfl) | (obtain ⟨_, _, _, rfl, _⟩ := h; rfl) | (obtain ⟨_, _, _, _, rfl, _⟩ := h; rfl) | (obtain ⟨_, _, _, _, _, rfl, _⟩ := h; rfl) | (obtain ⟨_, _, _, _, _, _, rfl, _⟩ := h; rfl) | (obtain ⟨_, _, _, _, _, _, _, rfl, _⟩ := h; rfl) | (obtain ⟨_, _, _, _, _, _, _, _, rfl, _⟩ := h; rfl) | (obtain ⟨_, _, _, _, _, _, _, _, _, rfl, _⟩ := h; rfl) | (obtain ⟨_, _, _, _, _, _, _, _, _, _, rfl, _⟩ := h; rfl) | (obtain ⟨_, _, _, _, _, _, _, _, _, _, _, rfl, _⟩ := h; rfl) | (obtain ⟨_, _, _, _, _, _, _, _, _, _, _, _, rfl, _⟩ := h; rfl) | (obtain ⟨_, _, _, _, _, _, _, _, _, _, _, _, _, rfl, _⟩ := h; rfl)
  have hu := hu_of hr
  refine ⟨_, (pss_cons (ps_if (pt_cmpR op_eq (pv 0) pe_str (nomark _)) (pss_one ps_never) pss_nil)
    (pss_one (ps_ret (C8.pe_mk (K_Row) hr (by decide) rfl (pa_cons (pv 0) (pa_cons pe_str (pa_cons pe_str (pa_cons pe_str (pa_cons (pe_lst (pa_cons (pe_glob (v := .ref (He.ga K "STILL")) rfl T.g_STILL rfl) pa_nil)) pa_nil))))))))), ?_⟩
  obtain ⟨mode, rfl, hm, k⟩ := h
  have nh : ¬ mode = "held" := by rcases hm with h | h <;> rw [h] <;> decide +kernel
  refine ⟨_, rfl, rfl, _, rfl, ?_⟩
  rw [e_str, decide_eq_false nh]
  refine iteF ⟨_, rfl, (by show 1 ≤ sizeLine; decide), fun p hp => ?_⟩
  have s0 : Same H (upd H p (.lst [.ref (He.ga K "STILL")])) := same_new hp
  intro x dx hx hdx hne
  have s1 := made (C := He.ga K "Row") hx hdx
  have mk := dp_mark (mk := List.replicate 6 (0, 0)) (T.v_STILL (upd (upd (upd H p (.lst [.ref (He.ga K "STILL")])) dx (.own x)) x (.ins (He.ga K "Row") dx [])))
  obtain ⟨b, ps, e1, e2, e3⟩ := mk
  refine ⟨x, dx, p, plainR mode, [.ref (He.ga K "STILL")], rfl, upd_same, s1 _ _ upd_same, .cons ⟨b, ps, e1, .inr e2, e3⟩ .nil, still_ok, .inr ⟨hm, rfl, rfl, rfl, rfl⟩, fun H' kp hR => ⟨rfl, k x H' (fun c o hc => ?_) hR⟩⟩
  exact kp _ _ (s1 _ _ (s0 _ _ hc)) (ne_of_none (s0 _ _ hc) hx)

/-! ### rules as lists -/
def LMark (K : PySem.W.Frag) (H : Hp) (v : V) (mk : List (Int × Int)) : Prop := ∃ b ps, v = .ref b ∧ H b = some (.lst ps) ∧ Paired (PairT K H) ps mk
structure LRule (K : PySem.W.Frag) (H : Hp) (l : Addr) (rule : List (List (Int × Int))) : Prop where
  ex : ∃ vs, H l = some (.lst vs) ∧ Paired (LMark K H) vs rule ∧ vs.Nodup ∧ ∀ b, V.ref b ∈ vs → b ≠ l
theorem LMark.mono {K : PySem.W.Frag} {H H' : Hp} (t : KeepT K H H') {v : V} {mk : List (Int × Int)} (h : LMark K H v mk) (hb : ∀ b xs, v = .ref b → H b = some (.lst xs) → H' b = some (.lst xs)) : LMark K H' v mk :=
  let ⟨b, ps, e, hp, r⟩ := h; ⟨b, ps, e, hb b ps e hp, Paired.mapP r fun _ _ z => z.mono t⟩
theorem pr_map {α β : Type} {F G : α → β → Prop} : ∀ {l₁ : List α} {l₂ : List β}, Paired F l₁ l₂ → (∀ x ∈ l₁, ∀ y ∈ l₂, F x y → G x y) → Paired G l₁ l₂
  | _, _, .nil, _ => .nil
  | _, _, .cons r t, f => .cons (f _ List.mem_cons_self _ List.mem_cons_self r) (pr_map t fun x hx y hy => f x (List.mem_cons_of_mem _ hx) y (List.mem_cons_of_mem _ hy))
theorem ints_ref {ds : List Int} {b : Addr} : V.ref b ∉ ds.map V.int := fun h => by
  obtain ⟨z, _, e⟩ := List.mem_map.mp h
  cases e
theorem pair_ref {K : PySem.W.Frag} {H : Hp} {ps : List V} {mk : List (Int × Int)} (h : Paired (PairT K H) ps mk) (hp : 0 < mk.length) : ∃ b, V.ref b ∈ ps := by
  cases h with
  | nil => cases hp
  | cons r _ => obtain ⟨b, rfl, _⟩ := r; exact ⟨b, List.mem_cons_self⟩
theorem LRule.but {K : PySem.W.Frag} {H H' : Hp} {d l : Addr} {ds : List Int} {rule : List (List (Int × Int))} (s : But d H H') (hd : H d = some (.lst (ds.map V.int))) (hok : RuleOk rule) (h : LRule K H l rule) : LRule K H' l rule := by
  obtain ⟨vs, h1, h2, h3, h4⟩ := h.ex
  have t := keep_lst (K := K) s hd
  refine ⟨vs, s _ _ h1 fun e => ?_, pr_map h2 fun x hx mk hmk hm => hm.mono t fun b xs e hb => s _ _ hb fun e2 => ?_, h3, h4⟩
  · rw [e, hd] at h1
    injection h1 with h1
    injection h1 with h1
    cases h2 with
    | nil => exact absurd hok.1 (by decide)
    | cons r _ =>
      obtain ⟨b, _, rfl, _⟩ := r
      exact ints_ref (h1 ▸ List.mem_cons_self)
  · obtain ⟨b', ps, e3, h5, h6⟩ := hm
    rw [e] at e3
    cases e3
    rw [e2, hd] at h5
    injection h5 with h5
    injection h5 with h5
    have l6 : 0 < mk.length := by rw [(hok.2.2 _ hmk).1]; decide
    obtain ⟨c, hc⟩ := pair_ref h6 l6
    exact ints_ref (h5 ▸ hc)

/-- a mark's row that is being made: its pairs so far -/
def PairOk (size : Int) (p : Int × Int) : Prop := 0 ≤ p.1 ∧ p.1 < size ∧ p.2.natAbs ≤ 3
/-- the rule that is being made -/
structure Making (K : PySem.W.Frag) (H H' : Hp) (d l : Addr) (size : Int) (rule : List (List (Int × Int))) : Prop where
  but : But d H H'
  dk : ∃ ds : List Int, H' d = some (.lst (ds.map V.int))
  fr : H l = none
  ru : LRule K H' l rule
  ok : ∀ mk ∈ rule, mk.length = 6 ∧ ∀ p ∈ mk, PairOk size p
  nd : l ≠ d
  old : ∀ vs, H' l = some (.lst vs) → ∀ b, V.ref b ∈ vs → H b = none ∧ b ≠ d
theorem Making.same {K : PySem.W.Frag} {H H1 H2 : Hp} {d l : Addr} {size : Int} {rule : List (List (Int × Int))} (m : Making K H H1 d l size rule) (s : Same H1 H2) : Making K H H2 d l size rule := by
  obtain ⟨ds, hd⟩ := m.dk
  obtain ⟨vs, h1, h2, h3, h4⟩ := m.ru.ex
  refine ⟨fun b o hb hn => s _ _ (m.but b o hb hn), ⟨ds, s _ _ hd⟩, m.fr, ⟨vs, s _ _ h1, Paired.mapP h2 fun _ _ z => z.mono (keep_same s) fun b xs _ hb => s _ _ hb, h3, h4⟩, m.ok, m.nd, fun vs' h' b hb => ?_⟩
  have e := s _ _ h1
  rw [h'] at e
  injection e with e
  injection e with e
  subst e
  exact m.old _ h1 b hb
/-- the deck is written -/
theorem Making.deck {K : PySem.W.Frag} {H H1 : Hp} {d l : Addr} {size : Int} {rule : List (List (Int × Int))} (m : Making K H H1 d l size rule) (ds' : List Int) : Making K H (upd H1 d (.lst (ds'.map V.int))) d l size rule := by
  obtain ⟨ds, hd⟩ := m.dk
  obtain ⟨vs, h1, h2, h3, h4⟩ := m.ru.ex
  have b : But d H1 (upd H1 d (.lst (ds'.map V.int))) := But.upd
  refine ⟨m.but.trans b, ⟨ds', upd_same⟩, m.fr, ⟨vs, b _ _ h1 m.nd, pr_map h2 fun x hx mk _ z => z.mono (keep_lst (K := K) b hd) fun b' xs e hb => b _ _ hb (m.old _ h1 b' (e ▸ hx)).2, h3, h4⟩, m.ok, m.nd, fun vs' h' b' hb' => ?_⟩
  have e := b _ _ h1 m.nd
  rw [h'] at e
  injection e with e
  injection e with e
  subst e
  exact m.old _ h1 b' hb'
theorem Making.start {K : PySem.W.Frag} {H H1 : Hp} {d l : Addr} {size : Int} {ds : List Int} (b : But d H H1) (hd : H1 d = some (.lst (ds.map V.int))) (hl : H1 l = none) : Making K H (upd H1 l (.lst [])) d l size [] := by
  have nl : l ≠ d := fun e => by rw [e, hd] at hl; cases hl
  refine ⟨b.trans (but_new hl), ⟨ds, same_new hl _ _ hd⟩, b.free nl hl, ⟨[], upd_same, .nil, List.nodup_nil, fun b hb => by cases hb⟩, (fun mk hmk => by cases hmk), nl, fun vs' h' b hb => ?_⟩
  rw [upd_same] at h'
  injection h' with h'
  injection h' with h'
  subst h'
  cases hb
/-- q is a list of its own -/
structure Own (H H1 : Hp) (d l q : Addr) : Prop where
  fr : H q = none
  nd : q ≠ d
  nl : q ≠ l
  nv : ∀ vs, H1 l = some (.lst vs) → V.ref q ∉ vs
theorem Making.own {K : PySem.W.Frag} {H H1 : Hp} {d l q : Addr} {size : Int} {rule : List (List (Int × Int))} (M : Making K H H1 d l size rule) (hq : H1 q = none) : Own H H1 d l q := by
  have nqd : q ≠ d := fun e => by obtain ⟨ds, hd⟩ := M.dk; rw [e, hd] at hq; cases hq
  refine ⟨M.but.free nqd hq, nqd, fun e => ?_, fun vs hv hm => ?_⟩
  · obtain ⟨vs, h1, _⟩ := M.ru.ex
    rw [e, h1] at hq
    cases hq
  · obtain ⟨vs', h1, h2, _⟩ := M.ru.ex
    rw [hv] at h1
    injection h1 with h1
    injection h1 with h1
    subst h1
    obtain ⟨j, hj⟩ := List.mem_iff_getElem?.mp hm
    obtain ⟨x, y, e1, e2, b, ps, e3, e4, _⟩ := pr_get h2 j (by rw [← Paired.length h2]; exact (List.getElem?_eq_some_iff.mp hj).1)
    rw [hj] at e1
    cases e1
    cases e3
    rw [hq] at e4
    cases e4
/-- q is written -/
theorem Making.wrote {K : PySem.W.Frag} {H H1 : Hp} {d l q : Addr} {size : Int} {rule : List (List (Int × Int))} {xs ys : List V} (m : Making K H H1 d l size rule) (ow : Own H H1 d l q) (hq : H1 q = some (.lst xs)) : Making K H (upd H1 q (.lst ys)) d l size rule := by
  obtain ⟨ds, hd⟩ := m.dk
  obtain ⟨vs, h1, h2, h3, h4⟩ := m.ru.ex
  have b : But q H1 (upd H1 q (.lst ys)) := But.upd
  refine ⟨fun c o hc hn => b _ _ (m.but c o hc hn) (ne_of_none hc ow.fr), ⟨ds, b _ _ hd ow.nd.symm⟩, m.fr, ⟨vs, b _ _ h1 ow.nl.symm, pr_map h2 fun x hx mk _ z => z.mono (keep_lst (K := K) b hq) fun b' xs e hb => b _ _ hb fun e2 => ow.nv _ h1 (by rw [← e2, ← e]; exact hx), h3, h4⟩, m.ok, m.nd, fun vs' h' b' hb' => ?_⟩
  have e := b _ _ h1 ow.nl.symm
  rw [h'] at e
  injection e with e
  injection e with e
  subst e
  exact m.old _ h1 b' hb'
/-- a row is put behind -/
theorem Making.snoc {K : PySem.W.Frag} {H H1 : Hp} {d l q : Addr} {size : Int} {rule : List (List (Int × Int))} {ps : List V} {mk : List (Int × Int)} (m : Making K H H1 d l size rule) (ow : Own H H1 d l q) (hq : H1 q = some (.lst ps)) (hp : Paired (PairT K H1) ps mk) (h6 : mk.length = 6) (hok : ∀ p ∈ mk, PairOk size p) {vs : List V} (hv : H1 l = some (.lst vs)) :
    Making K H (upd H1 l (.lst (vs ++ [.ref q]))) d l size (rule ++ [mk]) := by
  obtain ⟨ds, hd⟩ := m.dk
  obtain ⟨vs', h1, h2, h3, h4⟩ := m.ru.ex
  rw [hv] at h1
  injection h1 with h1
  injection h1 with h1
  subst h1
  have b : But l H1 (upd H1 l (.lst (vs ++ [.ref q]))) := But.upd
  have t := keep_lst (K := K) b hv
  refine ⟨fun c o hc hn => b _ _ (m.but c o hc hn) (ne_of_none hc m.fr), ⟨ds, b _ _ hd m.nd.symm⟩, m.fr, ⟨vs ++ [.ref q], upd_same, ?_, ?_, fun c hc => ?_⟩, fun mk' hmk' => ?_, m.nd, fun vs' h' c hc => ?_⟩
  · exact pr_app (pr_map h2 fun x hx mk _ z => z.mono t fun b' xs e hb => b _ _ hb (h4 b' (e ▸ hx))) (.cons ⟨q, ps, rfl, b _ _ hq ow.nl, Paired.mapP hp fun _ _ z => z.mono t⟩ .nil)
  · rw [List.nodup_append]
    refine ⟨h3, by simp, fun x hx y hy e => ?_⟩
    cases (List.mem_singleton.mp hy)
    exact ow.nv _ hv (e ▸ hx)
  · rcases List.mem_append.mp hc with hc | hc
    · exact h4 c hc
    · cases (List.mem_singleton.mp hc)
      exact ow.nl
  · rcases List.mem_append.mp hmk' with z | z
    · exact m.ok mk' z
    · cases (List.mem_singleton.mp z)
      exact ⟨h6, hok⟩
  · rw [upd_same] at h'
    injection h' with h'
    injection h' with h'
    subst h'
    rcases List.mem_append.mp hc with hc | hc
    · exact m.old _ hv c hc
    · cases (List.mem_singleton.mp hc)
      exact ⟨ow.fr, ow.nd⟩
theorem Own.same {H H1 H2 : Hp} {d l q : Addr} (o : Own H H1 d l q) (e : H2 l = H1 l) : Own H H2 d l q := ⟨o.fr, o.nd, o.nl, fun vs h => o.nv vs (e ▸ h)⟩

def sp__law_wild_rule (K : PySem.W.Frag) : Sp := fun vs H Q _ => ∃ (d : Addr) (ds : List Int), vs = [.ref d] ∧ H d = some (.lst (ds.map V.int)) ∧
  ∀ (l : Addr) (rule : List (List (Int × Int))) (H' : Hp), RuleOk rule → Making K H H' d l rule.length rule → Q (.ref l) H'
theorem c__law_wild_rule (T : Tx K mg) : C8.Cal P w K mg base 2 "_law_wild_rule" (sp__law_wild_rule K) [] := by
  have C__law_take := c__law_take (P := P) (w := w) (base := base) T
  refine c_mk T.d__law_wild_rule sc__law_wild_rule (fun vs H Q E h => ?_) (fun f cdv A outer s H vs Q E hr h => ?_)
  · first | (obtain ⟨rfl, _⟩ := h; rfl) | (obtain ⟨_, rfl, _⟩ := h; rfl) | (obtain ⟨_, _, rfl, _⟩ := h; rfl) | (obtain ⟨_, _, _, rfl, _⟩ := h; rfl) | (obtain ⟨_, _, _, _, rfl, _⟩ := h; rfl) | (obtain ⟨_, _, _, _, _, rfl, _⟩ := h; rfl) | (obtain ⟨_, _, _, _, _, _, rfl, _⟩ := h; rfl) | (obtain ⟨_, _, _, _, _, _, _, rfl, _⟩ := h; rfl) | (obtain ⟨_, _, _, _, _, _, _, _, rfl, _⟩ := h; rfl) | (obtain ⟨_, _, _, _, _, _, _, _, _, rfl, _⟩ := h; rfl) | (obtain ⟨_, _, _, _, _, _, _, _, _, _, rfl, _⟩ := h; rfl) | (obtain ⟨_, _, _, _, _, _, _, _, _, _, _, rfl, _⟩ := h; rfl) | (obtain ⟨_, _, _, _, _, _, _, _, _, _, _, _, rfl, _⟩ := h; rfl) | (obtain ⟨_, _, _, _, _, _, _, _, _, _, _, _, _, rfl, _⟩ := h; rfl)
  have hu := hu_of hr
  refine ⟨_, (pss_cons (ps_set (i := 1) sc__law_wild_rule.nd rfl (by first | exact Or.inl rfl | exact Or.inr rfl) (pe_op op_add pe_int (C8.pe_c (C__law_take) hr (by decide) rfl (pa_cons (pv 0) (pa_cons pe_int pa_nil)))))
    (pss_cons (ps_set (i := 2) sc__law_wild_rule.nd rfl (by first | exact Or.inl rfl | exact Or.inr rfl) (pe_lst pa_nil))
    (pss_cons (ps_for PassesOwn.never rfl (pi_range1 rfl T.b_range (pa_cons (pv 1) pa_nil)) (pg_name (i := 3) sc__law_wild_rule.nd rfl (by first | exact Or.inl rfl | exact Or.inr rfl)) (pss_cons (ps_set (i := 4) sc__law_wild_rule.nd rfl (by first | exact Or.inl rfl | exact Or.inr rfl) (pe_lst pa_nil))
    (pss_cons (ps_for PassesOwn.never rfl (pi_str pe_str) (pg_name (i := 5) sc__law_wild_rule.nd rfl (by first | exact Or.inl rfl | exact Or.inr rfl)) (pss_cons (ps_set (i := 6) sc__law_wild_rule.nd rfl (by first | exact Or.inl rfl | exact Or.inr rfl) (pe_op op_sub (C8.pe_c (C__law_take) hr (by decide) rfl (pa_cons (pv 0) (pa_cons pe_int pa_nil))) pe_int))
    (C8.pss_cut (ps_if (PW.pt (pw_or (pt_cmpR op_eq (pv 5) pe_str (nomark _)) (pw_or1 (pt_cmpR op_eq (pv 5) pe_str (nomark _))))) (pss_one (ps_set (i := 6) sc__law_wild_rule.nd rfl (by first | exact Or.inl rfl | exact Or.inr rfl) (pe_callB call_abs rfl T.b_abs (by decide +kernel) (pa_cons (pv 6) pa_nil)))) pss_nil)
    (pss_one (ps_expr (pe_bm PySem.F.plainAttrs_list PySem.F.slot_list_append PySem.F.type_list_append mt_append (pv 4) (pa_cons (pe_tup (pa_cons (C8.pe_c (C__law_take) hr (by decide) rfl (pa_cons (pv 0) (pa_cons (pv 1) pa_nil))) (pa_cons (pv 6) pa_nil))) pa_nil)))))))
    (pss_one (ps_expr (pe_bm PySem.F.plainAttrs_list PySem.F.slot_list_append PySem.F.type_list_append mt_append (pv 2) (pa_cons (pv 4) pa_nil)))))))
    (pss_one (ps_ret (pv 2)))))), ?_⟩
  obtain ⟨d, ds, rfl, hd, k⟩ := h
  refine ⟨_, rfl, d, ds, 4, rfl, hd, by decide, fun r0 e1 c0 c1 => ⟨_, _, rfl, rfl, ?_⟩⟩
  refine ⟨by decide, fun l hl => ?_⟩
  have M0 := Making.start (K := K) (size := 1 + r0) (But.upd (H := H) (d := d) (o := .lst (e1.map V.int))) upd_same hl
  refine ⟨_, rfl, 1 + r0, rfl, by omega, by omega, for_range (lo := 0) (n := (1 + r0).toNat) (fun i σ H1 => ∃ (rule : List (List (Int × Int))) (x3 x4 x5 x6 : Option V), σ = [some (.ref d), some (.int (1 + r0)), some (.ref l), x3, x4, x5, x6] ∧ rule.length = i ∧ Making K H H1 d l (1 + r0) rule) ⟨[], none, none, none, none, rfl, rfl, M0⟩ ?_ ?_⟩
  · rintro i σ H1 hi ⟨rule, x3, x4, x5, x6, rfl, hlen, M⟩
    refine ⟨by decide, fun q hq => ?_⟩
    have ow := M.own hq
    have M1 := M.same (same_new (o := .lst []) hq)
    have ow1 : Own H (upd H1 q (.lst [])) d l q := ow.same (upd_ne ow.nl.symm)
    rw [← all_S]
    refine ⟨_, rfl, for_ev (es := Ev.all) (fun j σ H2 => ∃ (ps : List V) (mk : List (Int × Int)) (x5 x6 : Option V), σ = [some (.ref d), some (.int (1 + r0)), some (.ref l), some (.int (0 + i)), some (.ref q), x5, x6] ∧ Making K H H2 d l (1 + r0) rule ∧ Own H H2 d l q ∧ H2 q = some (.lst ps) ∧ Paired (PairT K H2) ps mk ∧ mk.length = j ∧ ∀ p ∈ mk, PairOk (1 + r0) p) ⟨[], [], _, _, rfl, M1, ow1, upd_same, .nil, rfl, (fun p hp => by cases hp)⟩ ?_ ?_⟩
    · rintro j e σ H2 he ⟨ps, mk, x5, x6, rfl, M2, ow2, h2, hp2, hmk, hok2⟩
      have hj6 : j < 6 := (List.getElem?_eq_some_iff.mp he).1
      obtain ⟨ds2, hd2⟩ := M2.dk
      refine ⟨_, rfl, d, ds2, 7, rfl, hd2, by decide, fun r1 e2 c2 c3 => ⟨_, _, rfl, rfl, ?_⟩⟩
      have M3 := M2.deck e2
      have b3 : But d H2 (upd H2 d (.lst (e2.map V.int))) := But.upd
      have t3 := keep_lst (K := K) b3 hd2
      have ow3 : Own H (upd H2 d (.lst (e2.map V.int))) d l q := ow2.same (upd_ne M2.nd)
      have h3 := b3 _ _ h2 ow2.nd
      have hp3 : Paired (PairT K (upd H2 d (.lst (e2.map V.int)))) ps mk := Paired.mapP hp2 fun _ _ z => z.mono t3
      clear b3 t3 hp2 h2 ow2 M2 hd2
      generalize upd H2 d (.lst (e2.map V.int)) = H3 at *
      -- the change, made positive
      refine ⟨fun σ' H' => ∃ c : Int, c.natAbs ≤ 3 ∧ σ' = [some (.ref d), some (.int (1 + r0)), some (.ref l), some (.int (0 + i)), some (.ref q), some (.str e.str), some (.int c)] ∧ H' = H3, ?_, ?_⟩
      · refine ⟨_, rfl, rfl, _, rfl, iteB (fun _ => ⟨_, rfl, _, rfl, ?_⟩) (fun _ => ⟨_, rfl, rfl, _, rfl, iteB (fun _ => ⟨_, rfl, _, rfl, ?_⟩) (fun _ => ⟨r1 - 3, by omega, rfl, rfl⟩)⟩)⟩
        · exact ⟨_, by split <;> omega, rfl, rfl⟩
        · exact ⟨_, by split <;> omega, rfl, rfl⟩
      · rintro σ' H' ⟨c, hc, rfl, rfl⟩
        obtain ⟨ds3, hd3⟩ := M3.dk
        refine ⟨_, rfl, .inl ⟨rfl, _, .inl (.inl h3)⟩, _, rfl, _, rfl, d, ds3, 1 + r0, rfl, hd3, by omega, fun r2 e3 c4 c5 => ?_⟩
        have M4 := M3.deck e3
        have b4 : But d H' (upd H' d (.lst (e3.map V.int))) := But.upd
        have t4 := keep_lst (K := K) b4 hd3
        have ow4 : Own H (upd H' d (.lst (e3.map V.int))) d l q := ow3.same (upd_ne M3.nd)
        have h4 := b4 _ _ h3 ow3.nd
        have hp4 : Paired (PairT K (upd H' d (.lst (e3.map V.int)))) ps mk := Paired.mapP hp3 fun _ _ z => z.mono t4
        clear b4 t4 hp3 h3 ow3 M3 hd3
        generalize upd H' d (.lst (e3.map V.int)) = H4 at *
        refine ⟨_, rfl, (by show 2 ≤ sizeLine; decide), fun t ht => ?_⟩
        have s5 := same_new (o := .tup [.int r2, .int c]) ht
        have h5 := s5 _ _ h4
        have M5 := M4.same s5
        have ow5 : Own H (upd H4 t (.tup [.int r2, .int c])) d l q := ow4.same (by
          obtain ⟨vs, h1, _⟩ := M4.ru.ex
          rw [h1]
          exact s5 _ _ h1)
        have el := Paired.length hp4
        refine ⟨q, _, _, rfl, rfl, h5, by rw [el, hmk]; exact Nat.lt_trans hj6 (by decide), ?_⟩
        have b6 : But q (upd H4 t (.tup [.int r2, .int c])) (upd (upd H4 t (.tup [.int r2, .int c])) q (.lst (ps ++ [.ref t]))) := But.upd
        have t6 := keep_lst (K := K) b6 h5
        refine ⟨ps ++ [.ref t], mk ++ [(r2, c)], _, _, rfl, M5.wrote ow5 h5, ow5.same (upd_ne ow5.nl.symm), upd_same, ?_, by rw [List.length_append, hmk]; rfl, fun p hp => ?_⟩
        · exact pr_app (Paired.mapP hp4 fun _ _ z => z.mono fun a' xs' h' => t6 _ _ (keep_same s5 _ _ h')) (.cons ⟨t, rfl, t6 _ _ (SqT.of upd_same)⟩ .nil)
        · rcases List.mem_append.mp hp with hp | hp
          · exact hok2 p hp
          · cases (List.mem_singleton.mp hp)
            exact ⟨c4, c5, hc⟩
    · rintro σ H2 ⟨ps, mk, x5, x6, rfl, M2, ow2, h2, hp2, hmk, hok2⟩
      obtain ⟨vs, hv, _⟩ := M2.ru.ex
      refine ⟨_, rfl, .inl ⟨rfl, _, .inl (.inl hv)⟩, _, rfl, l, _, _, rfl, rfl, hv, ?_, ?_⟩
      · obtain ⟨vs', h1, h2', _⟩ := M2.ru.ex
        rw [hv] at h1
        injection h1 with h1
        injection h1 with h1
        subst h1
        rw [Paired.length h2', hlen]
        exact Nat.lt_of_le_of_lt (show i ≤ 10 by omega) (by decide)
      · exact ⟨rule ++ [mk], _, _, _, _, rfl, by rw [List.length_append, hlen]; rfl, M2.snoc ow2 h2 hp2 hmk hok2 hv⟩
  · rintro σ H1 ⟨rule, x3, x4, x5, x6, rfl, hlen, M⟩
    have e : ((rule.length : Nat) : Int) = 1 + r0 := by omega
    refine ⟨_, rfl, k l rule H1 ⟨by omega, by omega, fun mk hmk => ?_⟩ (by rw [e]; exact M)⟩
    rw [e]
    exact M.ok mk hmk

def livingL (ns : List Int) : List Int := ((List.range ns.length).filter fun i => decide (0 < ns.getD i 0)).map fun (i : Nat) => (i : Int)
def deadL (ns : List Int) : List Int := ((List.range ns.length).filter fun i => decide (ns.getD i 0 = 0)).map fun (i : Nat) => (i : Int)
theorem living_mem {ns : List Int} {x : Int} (h : x ∈ livingL ns ∨ x ∈ deadL ns) : 0 ≤ x ∧ x < (ns.length : Int) := by
  rcases h with h | h
  all_goals
    obtain ⟨i, hi, rfl⟩ := List.mem_map.mp h
    have := List.mem_range.mp (List.mem_filter.mp hi).1
    omega
theorem living_ne {ns : List Int} {i : Nat} (hi : i < ns.length) (h : 0 < ns.getD i 0) : livingL ns ≠ [] := fun e => by
  have : (i : Int) ∈ livingL ns := List.mem_map.mpr ⟨i, List.mem_filter.mpr ⟨List.mem_range.mpr hi, decide_eq_true h⟩, rfl⟩
  rw [e] at this
  cases this
theorem dead_ne {ns : List Int} {i : Nat} (hi : i < ns.length) (h : ns.getD i 0 = 0) : deadL ns ≠ [] := fun e => by
  have : (i : Int) ∈ deadL ns := List.mem_map.mpr ⟨i, List.mem_filter.mpr ⟨List.mem_range.mpr hi, decide_eq_true h⟩, rfl⟩
  rw [e] at this
  cases this
theorem ints_at {ns : List Int} {x : Int} (h0 : 0 ≤ x) (h1 : x < (ns.length : Int)) : atI (ns.map V.int) x = some (.int (ns.getD x.toNat 0)) := by
  refine at_get h0 ?_
  have h2 : x.toNat < ns.length := by omega
  rw [List.getElem?_map, List.getD_eq_getElem?_getD, List.getElem?_eq_getElem h2] <;> rfl
theorem range_flt (f : Nat → Bool) (i : Nat) : ((List.range (i + 1)).filter f).map (fun (i : Nat) => V.int (i : Int)) = ((List.range i).filter f).map (fun (i : Nat) => V.int (i : Int)) ++ (if f i then [V.int (i : Int)] else []) := by
  rw [List.range_succ, List.filter_append, List.map_append]
  cases h : f i <;> simp [h]
/-- the levels, while they are drawn -/
structure HInv (H H4 : Hp) (d hl : Addr) (r1 : Int) (i : Nat) (ns : List Int) : Prop where
  but : But d H H4
  dk : ∃ ds : List Int, H4 d = some (.lst (ds.map V.int))
  at_ : H4 hl = some (.lst (ns.map V.int))
  len : ns.length = 1 + i
  bd : ∀ j, 0 ≤ ns.getD j 0 ∧ ns.getD j 0 ≤ 3
  z : ns.getD 0 0 = 0
  sure : 1 + r1 ≤ (i : Int) → 0 < ns.getD (1 + r1).toNat 0
theorem getD_snoc (ns : List Int) (v : Int) (j : Nat) : (ns ++ [v]).getD j 0 = if j < ns.length then ns.getD j 0 else if j = ns.length then v else 0 := by
  rw [List.getD_eq_getElem?_getD, List.getD_eq_getElem?_getD]
  by_cases c : j < ns.length
  · rw [if_pos c, List.getElem?_append_left c]
  · rw [if_neg c, List.getElem?_append_right (by omega)]
    by_cases c2 : j = ns.length
    · rw [if_pos c2, c2, Nat.sub_self] <;> rfl
    · rw [if_neg c2, List.getElem?_eq_none (by rw [List.length_singleton]; omega)] <;> rfl
theorem HInv.put {H H4 : Hp} {d hl : Addr} {r1 : Int} {i : Nat} {ns : List Int} (h : HInv H H4 d hl r1 i ns) (h0 : H hl = none) (nd : hl ≠ d) (hr : 0 ≤ r1) {v : Int} (v0 : 0 ≤ v) (v3 : v ≤ 3) (vs : 1 + r1 = 1 + (i : Int) → 0 < v) : HInv H (upd H4 hl (.lst (ns.map V.int ++ [.int v]))) d hl r1 (i + 1) (ns ++ [v]) := by
  obtain ⟨b, ⟨ds, hd⟩, hh, hlen, hb, hz, hs⟩ := h
  refine ⟨fun c o hc hn => ?_, ⟨ds, by rw [upd_ne nd.symm]; exact hd⟩, by rw [upd_same, List.map_append] <;> rfl, by rw [List.length_append, hlen]; rfl, fun j => ?_, ?_, fun h => ?_⟩
  · rw [upd_ne (ne_of_none hc h0)]
    exact b _ _ hc hn
  · rw [getD_snoc]
    split
    · exact hb j
    · split
      · exact ⟨v0, v3⟩
      · exact ⟨Int.le_refl _, by decide⟩
  · rw [getD_snoc, if_pos (by omega)]
    exact hz
  · rw [getD_snoc]
    by_cases c : (1 + r1).toNat < ns.length
    · rw [if_pos c]
      exact hs (by omega)
    · rw [if_neg c, if_pos (by omega)]
      exact vs (by omega)
theorem HInv.deck {H H4 : Hp} {d hl : Addr} {r1 : Int} {i : Nat} {ns : List Int} (h : HInv H H4 d hl r1 i ns) (nd : hl ≠ d) (ds' : List Int) : HInv H (upd H4 d (.lst (ds'.map V.int))) d hl r1 i ns := by
  obtain ⟨b, ⟨ds, hd⟩, hh, r1, r2, r3, r4⟩ := h
  exact ⟨b.trans But.upd, ⟨ds', upd_same⟩, by rw [upd_ne nd]; exact hh, r1, r2, r3, r4⟩
theorem e_int (a b : Int) : decide (V.int a = V.int b) = decide (a = b) := by
  by_cases h : a = b
  · rw [decide_eq_true h, decide_eq_true (congrArg V.int h)]
  · rw [decide_eq_false h, decide_eq_false fun e => h (by injection e)]
/-- the pools stand -/
structure Pools (H : Hp) (hl L D : Addr) (ns : List Int) : Prop where
  h : H hl = some (.lst (ns.map V.int))
  l : H L = some (.lst ((livingL ns).map V.int))
  d : H D = some (.lst ((deadL ns).map V.int))
theorem Pools.same {H H' : Hp} {hl L D : Addr} {ns : List Int} (p : Pools H hl L D ns) (s : Same H H') : Pools H' hl L D ns := ⟨s _ _ p.h, s _ _ p.l, s _ _ p.d⟩
theorem Pools.but {H H' : Hp} {q hl L D : Addr} {ns : List Int} (p : Pools H hl L D ns) (s : But q H H') (n1 : hl ≠ q) (n2 : L ≠ q) (n3 : D ≠ q) : Pools H' hl L D ns := ⟨s _ _ p.h n1, s _ _ p.l n2, s _ _ p.d n3⟩

def sp__law_living_rule (K : PySem.W.Frag) : Sp := fun vs H Q _ => ∃ (d : Addr) (ds : List Int), vs = [.ref d] ∧ H d = some (.lst (ds.map V.int)) ∧
  ∀ (l : Addr) (rule : List (List (Int × Int))) (H' : Hp), RuleOk rule → Making K H H' d l rule.length rule → Q (.ref l) H'
theorem c__law_living_rule (T : Tx K mg) : C8.Cal P w K mg base 2 "_law_living_rule" (sp__law_living_rule K) [] := by
  have C__law_take := c__law_take (P := P) (w := w) (base := base) T
  refine c_mk T.d__law_living_rule sc__law_living_rule (fun vs H Q E h => ?_) (fun f cdv A outer s H vs Q E hr h => ?_)
  · first | (obtain ⟨rfl, _⟩ := h; rfl) | (obtain ⟨_, rfl, _⟩ := h; rfl) | (obtain ⟨_, _, rfl, _⟩ := h; rfl) | (obtain ⟨_, _, _, rfl, _⟩ := h; rfl) | (obtain ⟨_, _, _, _, rfl, _⟩ := h; rfl) | (obtain ⟨_, _, _, _, _, rfl, _⟩ := h; rfl) | (obtain ⟨_, _, _, _, _, _, rfl, _⟩ := h; rfl) | (obtain ⟨_, _, _, _, _, _, _, rfl, _⟩ := h; rfl) | (obtain ⟨_, _, _, _, _, _, _, _, rfl, _⟩ := h; rfl) | (obtain ⟨_, _, _, _, _, _, _, _, _, rfl, _⟩ := h; rfl) | (obtain ⟨_, _, _, _, _, _, _, _, _, _, rfl, _⟩ := h; rfl) | (obtain ⟨_, _, _, _, _, _, _, _, _, _, _, rfl, _⟩ := h; rfl) | (obtain ⟨_, _, _, _, _, _, _, _, _, _, _, _, rfl, _⟩ := h; rfl) | (obtain ⟨_, _, _, _, _, _, _, _, _, _, _, _, _, rfl, _⟩ := h; rfl)
  have hu := hu_of hr
  refine ⟨_, (pss_cons (ps_set (i := 1) sc__law_living_rule.nd rfl (by first | exact Or.inl rfl | exact Or.inr rfl) (pe_op op_add pe_int (C8.pe_c (C__law_take) hr (by decide) rfl (pa_cons (pv 0) (pa_cons pe_int pa_nil)))))
    (pss_cons (ps_set (i := 2) sc__law_living_rule.nd rfl (by first | exact Or.inl rfl | exact Or.inr rfl) (pe_op op_add pe_int (C8.pe_c (C__law_take) hr (by decide) rfl (pa_cons (pv 0) (pa_cons (pe_op op_sub (pv 1) pe_int) pa_nil)))))
    (pss_cons (ps_set (i := 3) sc__law_living_rule.nd rfl (by first | exact Or.inl rfl | exact Or.inr rfl) (pe_lst (pa_cons pe_int pa_nil)))
    (pss_cons (ps_for PassesOwn.never rfl (pi_range2 rfl T.b_range (pa_cons pe_int (pa_cons (pv 1) pa_nil))) (pg_name (i := 4) sc__law_living_rule.nd rfl (by first | exact Or.inl rfl | exact Or.inr rfl)) (pss_one (ps_if (PW.pt (pw_or (pt_cmpR op_eq (pv 4) (pv 2) (nomark _)) (pw_or1 (pt_cmpR op_eq (C8.pe_c (C__law_take) hr (by decide) rfl (pa_cons (pv 0) (pa_cons pe_int pa_nil))) pe_int (nomark _))))) (pss_one (ps_expr (pe_bm PySem.F.plainAttrs_list PySem.F.slot_list_append PySem.F.type_list_append mt_append (pv 3) (pa_cons (pe_op op_add pe_int (C8.pe_c (C__law_take) hr (by decide) rfl (pa_cons (pv 0) (pa_cons pe_int pa_nil)))) pa_nil)))) (pss_one (ps_expr (pe_bm PySem.F.plainAttrs_list PySem.F.slot_list_append PySem.F.type_list_append mt_append (pv 3) (pa_cons pe_int pa_nil)))))))
    (pss_cons (ps_setLc (i := 5) (own := [("mark", 4)]) (g := gName 4) rfl sc__law_living_rule.nd rfl rfl (sw_true rfl rfl rfl (by decide +kernel)) (pi_range1 rfl T.b_range (pa_cons (pv 1) pa_nil)) (blkOk_by (own := [("mark", 4)]) (N := N__law_living_rule) (sc := defScope s__law_living_rule) (by decide +kernel)) (fun _ _ _ _ _ => (pg_name (i := 4) sc__law_living_rule.nd rfl (by first | exact Or.inl rfl | exact Or.inr rfl))) (fun _ _ _ _ _ => (pts_one (pt_cmpR op_gt (pe_ix (ix_listK (K := K) rfl) (pv 3) (pv 4) (fun _ _ => rfl)) pe_int (nomark _)))) (fun _ _ _ _ _ => (pv 4)))
    (pss_cons (ps_setLc (i := 6) (own := [("mark", 4)]) (g := gName 4) rfl sc__law_living_rule.nd rfl rfl (sw_true rfl rfl rfl (by decide +kernel)) (pi_range1 rfl T.b_range (pa_cons (pv 1) pa_nil)) (blkOk_by (own := [("mark", 4)]) (N := N__law_living_rule) (sc := defScope s__law_living_rule) (by decide +kernel)) (fun _ _ _ _ _ => (pg_name (i := 4) sc__law_living_rule.nd rfl (by first | exact Or.inl rfl | exact Or.inr rfl))) (fun _ _ _ _ _ => (pts_one (pt_cmpR op_eq (pe_ix (ix_listK (K := K) rfl) (pv 3) (pv 4) (fun _ _ => rfl)) pe_int (nomark _)))) (fun _ _ _ _ _ => (pv 4)))
    (pss_cons (ps_set (i := 7) sc__law_living_rule.nd rfl (by first | exact Or.inl rfl | exact Or.inr rfl) (pe_lst pa_nil))
    (pss_cons (ps_for PassesOwn.never rfl (pi_range1 rfl T.b_range (pa_cons (pv 1) pa_nil)) (pg_name (i := 4) sc__law_living_rule.nd rfl (by first | exact Or.inl rfl | exact Or.inr rfl)) (pss_cons (ps_set (i := 8) sc__law_living_rule.nd rfl (by first | exact Or.inl rfl | exact Or.inr rfl) (pe_lst pa_nil))
    (pss_cons (ps_for PassesOwn.never rfl (pi_str pe_str) (pg_name (i := 9) sc__law_living_rule.nd rfl (by first | exact Or.inl rfl | exact Or.inr rfl)) (pss_cons (ps_set (i := 10) sc__law_living_rule.nd rfl (by first | exact Or.inl rfl | exact Or.inr rfl) (pv 6))
    (C8.pss_cut (ps_if (PW.pt (pw_or (pt_cmpR op_eq (pv 9) pe_str (nomark _)) (pw_or (pt_cmpR op_eq (pv 9) pe_str (nomark _)) (pw_or1 (PW.pt (pw_and (pt_cmpR op_ne (pv 9) pe_str (nomark _)) (pw_and1 (pt_cmpR op_gt (pe_ix ix_list (pv 3) (pv 4) (fun _ _ => rfl)) pe_int (nomark _))))))))) (pss_one (ps_set (i := 10) sc__law_living_rule.nd rfl (by first | exact Or.inl rfl | exact Or.inr rfl) (pv 5))) pss_nil)
    (pss_cons (ps_set (i := 11) sc__law_living_rule.nd rfl (by first | exact Or.inl rfl | exact Or.inr rfl) (pe_ix ix_list (pv 10) (C8.pe_c (C__law_take) hr (by decide) rfl (pa_cons (pv 0) (pa_cons (pe_callB call_len_seq rfl T.b_len (by decide +kernel) (pa_cons (pv 10) pa_nil)) pa_nil))) (fun _ _ => rfl)))
    (pss_one (ps_expr (pe_bm PySem.F.plainAttrs_list PySem.F.slot_list_append PySem.F.type_list_append mt_append (pv 8) (pa_cons (pe_tup (pa_cons (pv 11) (pa_cons (pe_op op_sub (pe_ix ix_list (pv 3) (pv 11) (fun _ _ => rfl)) (pe_ix ix_list (pv 3) (pv 4) (fun _ _ => rfl))) pa_nil))) pa_nil))))))))
    (pss_one (ps_expr (pe_bm PySem.F.plainAttrs_list PySem.F.slot_list_append PySem.F.type_list_append mt_append (pv 7) (pa_cons (pv 8) pa_nil)))))))
    (pss_one (ps_ret (pv 7))))))))))), ?_⟩
  obtain ⟨d, ds, rfl, hd, k⟩ := h
  refine ⟨_, rfl, d, ds, 3, rfl, hd, by decide, fun r0 e1 c0 c1 => ⟨_, _, rfl, rfl, ?_⟩⟩
  have b1 : But d H (upd H d (.lst (e1.map V.int))) := But.upd
  refine ⟨_, rfl, _, rfl, _, _, rfl, rfl, d, e1, 2 + r0 - 1, rfl, upd_same, by omega, fun r1 e2 c2 c3 => ⟨_, _, rfl, rfl, ?_⟩⟩
  have b2 : But d H (upd (upd H d (.lst (e1.map V.int))) d (.lst (e2.map V.int))) := b1.trans But.upd
  have hd2 : upd (upd H d (.lst (e1.map V.int))) d (.lst (e2.map V.int)) d = some (.lst (e2.map V.int)) := upd_same
  clear b1
  generalize upd (upd H d (.lst (e1.map V.int))) d (.lst (e2.map V.int)) = H2 at *
  refine ⟨by decide, fun hl hhl => ?_⟩
  have nhd : hl ≠ d := fun e => by rw [e, hd2] at hhl; cases hhl
  -- the holds
  have hl0 : H hl = none := b2.free nhd hhl
  have I0 : HInv H (upd H2 hl (.lst [.int 0])) d hl r1 0 [0] := ⟨b2.trans (but_new hhl), ⟨e2, same_new hhl _ _ hd2⟩, upd_same, rfl, fun j => by
    cases j with
    | zero => exact ⟨Int.le_refl _, by decide⟩
    | succ j => exact ⟨Int.le_refl _, (by decide : (0 : Int) ≤ 3)⟩, rfl, fun h => by omega⟩
  refine ⟨_, rfl, 1, 2 + r0, rfl, ⟨by omega, by omega, by omega, by omega⟩, for_range (lo := 1) (fun i σ H3 => ∃ (ns : List Int) (x4 x5 x6 x7 x8 x9 x10 x11 : Option V), σ = [some (.ref d), some (.int (2 + r0)), some (.int (1 + r1)), some (.ref hl), x4, x5, x6, x7, x8, x9, x10, x11] ∧ HInv H H3 d hl r1 i ns) ⟨[0], none, none, none, none, none, none, none, none, rfl, I0⟩ ?_ ?_⟩
  · rintro i σ H3 hi ⟨ns, x4, x5, x6, x7, x8, x9, x10, x11, rfl, I⟩
    have big : ns.length < sizeLine := Nat.lt_of_le_of_lt (show ns.length ≤ 10 by have := I.len; omega) (by decide)
    have pos : ∀ (D : Ends) (H4 : Hp), HInv H H4 d hl r1 i ns → (∀ H5 ns', HInv H H5 d hl r1 (i + 1) ns' → D.nx [some (.ref d), some (.int (2 + r0)), some (.int (1 + r1)), some (.ref hl), some (.int (1 + (i : Int))), x5, x6, x7, x8, x9, x10, x11] H5) → tDrop (tBM K "list" rAppend (tVar 3) (tCons (tOp (rI0 fun i j => V.int (i + j)) (tC (V.int 1)) (tCall (sp__law_take K) [] C8.E0 (tCons (tVar 0) (tCons (tC (V.int 3)) tNil)))) tNil)) D [some (.ref d), some (.int (2 + r0)), some (.int (1 + r1)), some (.ref hl), some (.int (1 + (i : Int))), x5, x6, x7, x8, x9, x10, x11] H4 := fun D H4 I4 fin => by
      obtain ⟨ds4, hd4⟩ := I4.dk
      refine ⟨_, rfl, .inl ⟨rfl, _, .inl (.inl I4.at_)⟩, _, rfl, d, ds4, 3, rfl, hd4, by decide, fun r ds5 c4 c5 => ?_⟩
      have I5 := I4.deck nhd ds5
      refine ⟨_, _, rfl, rfl, hl, _, _, rfl, rfl, I5.at_, by rw [List.length_map]; exact big, ?_⟩
      exact fin _ _ (I5.put hl0 nhd c2 (by omega) (by omega) (fun _ => by omega))
    refine ⟨_, rfl, _, rfl, rfl, _, rfl, iteB (fun _ => pos _ H3 I fun H5 ns' I5 => ⟨ns', _, _, _, _, _, _, _, _, rfl, I5⟩) (fun hm => ?_)⟩
    have hm2 : ¬ (1 + (i : Int) = 1 + r1) := fun e => of_decide_eq_false hm (congrArg V.int e)
    obtain ⟨ds3, hd3⟩ := I.dk
    refine ⟨_, rfl, d, ds3, 2, rfl, hd3, by decide, fun r ds4 c4 c5 => ?_⟩
    have I4 := I.deck nhd ds4
    refine ⟨rfl, _, rfl, iteB (fun _ => pos _ _ I4 fun H5 ns' I5 => ⟨ns', _, _, _, _, _, _, _, _, rfl, I5⟩) (fun _ => ?_)⟩
    refine ⟨_, rfl, .inl ⟨rfl, _, .inl (.inl I4.at_)⟩, hl, _, _, rfl, rfl, I4.at_, by rw [List.length_map]; exact big, ?_⟩
    exact ⟨ns ++ [0], _, _, _, _, _, _, _, _, rfl, I4.put hl0 nhd c2 (Int.le_refl _) (by decide) (fun e => absurd e.symm hm2)⟩
  · rintro σ H3 ⟨ns, x4, x5, x6, x7, x8, x9, x10, x11, rfl, I⟩
    obtain ⟨b3, ⟨ds3, hd3⟩, hh3, hlen, hbd, hz, hsure⟩ := I
    have sz : (ns.length : Int) = 2 + r0 := by omega
    have lne := living_ne (ns := ns) (i := (1 + r1).toNat) (by omega) (hsure (by omega))
    have dne := dead_ne (ns := ns) (i := 0) (by omega) hz
    -- living, dead
    refine ⟨_, rfl, 2 + r0, rfl, by omega, by omega, fun L hL => lc_range (lo := 0) (n := (2 + r0).toNat) (fun i H4 => Same H3 H4 ∧ H4 L = some (.lst (((List.range i).filter fun i => decide (0 < ns.getD i 0)).map fun (i : Nat) => V.int (i : Int)))) ⟨same_new hL, upd_same⟩ ?_ ?_⟩
    · rintro i H4 hi ⟨s4, h4⟩
      refine ⟨rfl, ?_⟩
      refine ⟨_, rfl, _, rfl, hl, _, _, _, rfl, rfl, SqL.of (s4 _ _ hh3), ints_at (by omega) (by omega), _, _, rfl, rfl, _, rfl, ?_⟩
      have e0 : ((0 : Int) + (i : Int)).toNat = i := by omega
      rw [e0]
      have fl := range_flt (fun i => decide (0 < ns.getD i 0)) i
      have e1 : (0 : Int) + (i : Int) = i := by omega
      refine iteB (fun c => ⟨_, rfl, _, h4, ?_, fun b o hb => ?_, ?_⟩) (fun c => ⟨s4, ?_⟩)
      · rw [List.length_map]
        exact Nat.lt_of_le_of_lt (Nat.le_trans (List.length_filter_le _ _) (show (List.range i).length ≤ 10 by rw [List.length_range]; omega)) (by decide)
      · rw [upd_ne (ne_of_none hb hL)]
        exact s4 _ _ hb
      · rw [upd_same, fl, if_pos c, e1]
      · rw [h4, fl, if_neg (by rw [c]; decide), List.append_nil]
    · rintro H4 ⟨s4, h4⟩
      have esz : (2 + r0).toNat = ns.length := by omega
      have eL : ((List.range (2 + r0).toNat).filter fun i => decide (0 < ns.getD i 0)).map (fun (i : Nat) => V.int (i : Int)) = (livingL ns).map V.int := by
        rw [esz]
        unfold livingL
        rw [List.map_map] <;> rfl
      rw [eL] at h4
      have hh4 := s4 _ _ hh3
      have hd4 := s4 _ _ hd3
      have b4 : But d H H4 := b3.trans (Same.but s4)
      have nL : L ≠ hl := (ne_of_none hh3 hL).symm
      have nLd : L ≠ d := (ne_of_none hd3 hL).symm
      clear s4 hh3 hd3 b3 hL eL H3
      refine ⟨_, rfl, 2 + r0, rfl, by omega, by omega, fun D hD => lc_range (lo := 0) (n := (2 + r0).toNat) (fun i H5 => Same H4 H5 ∧ H5 D = some (.lst (((List.range i).filter fun i => decide (ns.getD i 0 = 0)).map fun (i : Nat) => V.int (i : Int)))) ⟨same_new hD, upd_same⟩ ?_ ?_⟩
      · rintro i H5 hi ⟨s5, h5⟩
        refine ⟨rfl, ?_⟩
        refine ⟨_, rfl, _, rfl, hl, _, _, _, rfl, rfl, SqL.of (s5 _ _ hh4), ints_at (by omega) (by omega), rfl, _, rfl, ?_⟩
        have e0 : ((0 : Int) + (i : Int)).toNat = i := by omega
        rw [e0, e_int]
        have fl := range_flt (fun i => decide (ns.getD i 0 = 0)) i
        have e1 : (0 : Int) + (i : Int) = i := by omega
        refine iteB (fun c => ⟨_, rfl, _, h5, ?_, fun b o hb => ?_, ?_⟩) (fun c => ⟨s5, ?_⟩)
        · rw [List.length_map]
          exact Nat.lt_of_le_of_lt (Nat.le_trans (List.length_filter_le _ _) (show (List.range i).length ≤ 10 by rw [List.length_range]; omega)) (by decide)
        · rw [upd_ne (ne_of_none hb hD)]
          exact s5 _ _ hb
        · rw [upd_same, fl, if_pos c, e1]
        · rw [h5, fl, if_neg (by rw [c]; decide), List.append_nil]
      · rintro H5 ⟨s5, h5⟩
        have eD : ((List.range (2 + r0).toNat).filter fun i => decide (ns.getD i 0 = 0)).map (fun (i : Nat) => V.int (i : Int)) = (deadL ns).map V.int := by
          rw [esz]
          unfold deadL
          rw [List.map_map] <;> rfl
        rw [eD] at h5
        have hd5 := s5 _ _ hd4
        have b5 : But d H H5 := b4.trans (Same.but s5)
        have Po : Pools H5 hl L D ns := ⟨s5 _ _ hh4, s5 _ _ h4, h5⟩
        have nD : D ≠ d := (ne_of_none hd4 hD).symm
        have nLD : L ≠ D := ne_of_none h4 hD
        clear s5 h5 eD hD hh4 h4 b4 hd4 H4
        refine ⟨by decide, fun l hl5 => ?_⟩
        have M0 := Making.start (K := K) (size := 2 + r0) b5 hd5 hl5
        have Po0 := Po.same (same_new (o := .lst []) hl5)
        have n1 : hl ≠ l := ne_of_none Po.h hl5
        have n2 : L ≠ l := ne_of_none Po.l hl5
        have n3 : D ≠ l := ne_of_none Po.d hl5
        have ll : ∀ {z}, (livingL z).length ≤ z.length := fun {z} => by
          unfold livingL
          rw [List.length_map]
          exact Nat.le_trans (List.length_filter_le _ _) (by rw [List.length_range]; exact Nat.le_refl _)
        have ld : ∀ {z}, (deadL z).length ≤ z.length := fun {z} => by
          unfold deadL
          rw [List.length_map]
          exact Nat.le_trans (List.length_filter_le _ _) (by rw [List.length_range]; exact Nat.le_refl _)
        refine ⟨_, rfl, 2 + r0, rfl, by omega, by omega, for_range (lo := 0) (n := (2 + r0).toNat) (fun i σ H1 => ∃ (rule : List (List (Int × Int))) (x4 x8 x9 x10 x11 : Option V), σ = [some (.ref d), some (.int (2 + r0)), some (.int (1 + r1)), some (.ref hl), x4, some (.ref L), some (.ref D), some (.ref l), x8, x9, x10, x11] ∧ rule.length = i ∧ Making K H H1 d l (2 + r0) rule ∧ Pools H1 hl L D ns) ⟨[], _, _, _, _, _, rfl, rfl, M0, Po0⟩ ?_ ?_⟩
        · rintro i σ H1 hi ⟨rule, x4, x8, x9, x10, x11, rfl, hlen, M, Po⟩
          refine ⟨by decide, fun q hq => ?_⟩
          have ow := M.own hq
          have M1 := M.same (same_new (o := .lst []) hq)
          have Po1 := Po.same (same_new (o := .lst []) hq)
          have m1 : hl ≠ q := ne_of_none Po.h hq
          have m2 : L ≠ q := ne_of_none Po.l hq
          have m3 : D ≠ q := ne_of_none Po.d hq
          have ow1 : Own H (upd H1 q (.lst [])) d l q := ow.same (upd_ne ow.nl.symm)
          rw [← all_S]
          refine ⟨_, rfl, for_ev (es := Ev.all) (fun j σ H2 => ∃ (ps : List V) (mk : List (Int × Int)) (x9 x10 x11 : Option V), σ = [some (.ref d), some (.int (2 + r0)), some (.int (1 + r1)), some (.ref hl), some (.int (0 + i)), some (.ref L), some (.ref D), some (.ref l), some (.ref q), x9, x10, x11] ∧ Making K H H2 d l (2 + r0) rule ∧ Own H H2 d l q ∧ Pools H2 hl L D ns ∧ H2 q = some (.lst ps) ∧ Paired (PairT K H2) ps mk ∧ mk.length = j ∧ ∀ p ∈ mk, PairOk (2 + r0) p) ⟨[], [], _, _, _, rfl, M1, ow1, Po1, upd_same, .nil, rfl, (fun p hp => by cases hp)⟩ ?_ ?_⟩
          · rintro j e σ H2 he ⟨ps, mk, x9, x10, x11, rfl, M2, ow2, Po2, h2, hp2, hmk, hok2⟩
            have hj6 : j < 6 := (List.getElem?_eq_some_iff.mp he).1
            refine ⟨_, rfl, ?_⟩
            refine ⟨fun σ' H' => ∃ (pl : Addr) (xs : List Int), H2 pl = some (.lst (xs.map V.int)) ∧ pl ≠ d ∧ xs ≠ [] ∧ xs.length ≤ 10 ∧ (∀ x ∈ xs, 0 ≤ x ∧ x < 2 + r0) ∧ σ' = [some (.ref d), some (.int (2 + r0)), some (.int (1 + r1)), some (.ref hl), some (.int (0 + i)), some (.ref L), some (.ref D), some (.ref l), some (.ref q), some (.str e.str), some (.ref pl), x11] ∧ H' = H2, ?_, ?_⟩
            · have li : ∃ (pl : Addr) (xs : List Int), H2 pl = some (.lst (xs.map V.int)) ∧ pl ≠ d ∧ xs ≠ [] ∧ xs.length ≤ 10 ∧ (∀ x ∈ xs, 0 ≤ x ∧ x < 2 + r0) ∧ [some (.ref d), some (.int (2 + r0)), some (.int (1 + r1)), some (.ref hl), some (.int (0 + i)), some (.ref L), some (.ref D), some (.ref l), some (.ref q), some (.str e.str), some (.ref L), x11] = [some (.ref d), some (.int (2 + r0)), some (.int (1 + r1)), some (.ref hl), some (.int (0 + i)), some (.ref L), some (.ref D), some (.ref l), some (.ref q), some (.str e.str), some (V.ref pl), x11] ∧ H2 = H2 :=
                ⟨L, livingL ns, Po2.l, nLd, lne, by have := ll (z := ns); omega, fun x hx => by have := living_mem (.inl hx); omega, rfl, rfl⟩
              have de : ∃ (pl : Addr) (xs : List Int), H2 pl = some (.lst (xs.map V.int)) ∧ pl ≠ d ∧ xs ≠ [] ∧ xs.length ≤ 10 ∧ (∀ x ∈ xs, 0 ≤ x ∧ x < 2 + r0) ∧ [some (.ref d), some (.int (2 + r0)), some (.int (1 + r1)), some (.ref hl), some (.int (0 + i)), some (.ref L), some (.ref D), some (.ref l), some (.ref q), some (.str e.str), some (.ref D), x11] = [some (.ref d), some (.int (2 + r0)), some (.int (1 + r1)), some (.ref hl), some (.int (0 + i)), some (.ref L), some (.ref D), some (.ref l), some (.ref q), some (.str e.str), some (V.ref pl), x11] ∧ H2 = H2 :=
                ⟨D, deadL ns, Po2.d, nD, dne, by have := ld (z := ns); omega, fun x hx => by have := living_mem (.inr hx); omega, rfl, rfl⟩
              refine ⟨_, rfl, rfl, _, rfl, iteB (fun _ => ⟨_, rfl, li⟩) (fun _ => ⟨_, rfl, rfl, _, rfl, iteB (fun _ => ⟨_, rfl, li⟩) (fun _ => ⟨_, rfl, rfl, _, rfl, iteB (fun _ => ?_) (fun _ => de)⟩)⟩)⟩
              refine ⟨_, rfl, _, rfl, hl, _, _, _, rfl, rfl, SqL.of Po2.h, ints_at (by omega) (by omega), _, _, rfl, rfl, _, rfl, iteB (fun _ => ⟨_, rfl, li⟩) (fun _ => de)⟩
            · rintro σ' H' ⟨pl, xs, hpl, npl, xne, xlen, xok, rfl, rfl⟩
              obtain ⟨ds3, hd3⟩ := M2.dk
              have hx0 : 0 < xs.length := by cases xs with
                | nil => exact absurd rfl xne
                | cons _ _ => exact Nat.succ_pos _
              refine ⟨_, rfl, _, rfl, _, rfl, pl, _, rfl, .inl (SqL.of hpl), d, ds3, _, rfl, hd3, by rw [List.length_map]; omega, fun r2 e3 c4 c5 => ?_⟩
              rw [List.length_map] at c5
              have M4 := M2.deck e3
              have b4 : But d H' (upd H' d (.lst (e3.map V.int))) := But.upd
              have t4 := keep_lst (K := K) b4 hd3
              have ow4 : Own H (upd H' d (.lst (e3.map V.int))) d l q := ow2.same (upd_ne M2.nd)
              have h4 := b4 _ _ h2 ow2.nd
              have hp4 : Paired (PairT K (upd H' d (.lst (e3.map V.int)))) ps mk := Paired.mapP hp2 fun _ _ z => z.mono t4
              have Po4 := Po2.but b4 nhd nLd nD
              have hpl4 := b4 _ _ hpl npl
              have gm : xs.getD r2.toNat 0 ∈ xs := by
                have : r2.toNat < xs.length := by omega
                rw [List.getD_eq_getElem?_getD, List.getElem?_eq_getElem this]
                exact List.getElem_mem this
              obtain ⟨g0, g1⟩ := xok _ gm
              clear b4 t4 hp2 h2 ow2 M2 hd3 Po2 hpl
              generalize upd H' d (.lst (e3.map V.int)) = H4 at *
              refine ⟨pl, _, r2, _, rfl, rfl, SqL.of hpl4, ints_at c4 (by omega), ?_⟩
              generalize xs.getD r2.toNat 0 = g at *
              have hgl : g.toNat < ns.length := by omega
              have bg := hbd g.toNat
              have bi := hbd ((0 : Int) + (i : Int)).toNat
              refine ⟨_, rfl, .inl ⟨rfl, _, .inl (.inl h4)⟩, _, rfl, _, rfl, _, rfl, hl, _, _, _, rfl, rfl, SqL.of Po4.h, ints_at g0 (by omega), _, rfl, _, rfl, hl, _, _, _, rfl, rfl, SqL.of Po4.h, ints_at (by omega) (by omega), _, _, rfl, rfl, (by show 2 ≤ sizeLine; decide), fun t ht => ?_⟩
              have s5 := same_new (o := .tup [.int g, .int (ns.getD g.toNat 0 - ns.getD ((0 : Int) + (i : Int)).toNat 0)]) ht
              have h5 := s5 _ _ h4
              have M5 := M4.same s5
              have Po5 := Po4.same s5
              have ow5 : Own H (upd H4 t (.tup [.int g, .int (ns.getD g.toNat 0 - ns.getD ((0 : Int) + (i : Int)).toNat 0)])) d l q := ow4.same (by
                obtain ⟨vs, h1, _⟩ := M4.ru.ex
                rw [h1]
                exact s5 _ _ h1)
              have el := Paired.length hp4
              refine ⟨q, _, _, rfl, rfl, h5, by rw [el, hmk]; exact Nat.lt_trans hj6 (by decide), ?_⟩
              have b6 : But q (upd H4 t (.tup [.int g, .int (ns.getD g.toNat 0 - ns.getD ((0 : Int) + (i : Int)).toNat 0)])) (upd (upd H4 t (.tup [.int g, .int (ns.getD g.toNat 0 - ns.getD ((0 : Int) + (i : Int)).toNat 0)])) q (.lst (ps ++ [.ref t]))) := But.upd
              have t6 := keep_lst (K := K) b6 h5
              refine ⟨ps ++ [.ref t], mk ++ [(g, ns.getD g.toNat 0 - ns.getD ((0 : Int) + (i : Int)).toNat 0)], _, _, _, rfl, M5.wrote ow5 h5, ow5.same (upd_ne ow5.nl.symm), Po5.but b6 m1 m2 m3, upd_same, ?_, by rw [List.length_append, hmk]; rfl, fun p hp => ?_⟩
              · exact pr_app (Paired.mapP hp4 fun _ _ z => z.mono fun a' xs' h' => t6 _ _ (keep_same s5 _ _ h')) (.cons ⟨t, rfl, t6 _ _ (SqT.of upd_same)⟩ .nil)
              · rcases List.mem_append.mp hp with hp | hp
                · exact hok2 p hp
                · cases (List.mem_singleton.mp hp)
                  exact ⟨g0, g1, by show (_ - _ : Int).natAbs ≤ 3; omega⟩
          · rintro σ H2 ⟨ps, mk, x9, x10, x11, rfl, M2, ow2, Po2, h2, hp2, hmk, hok2⟩
            obtain ⟨vs, hv, _⟩ := M2.ru.ex
            refine ⟨_, rfl, .inl ⟨rfl, _, .inl (.inl hv)⟩, _, rfl, l, _, _, rfl, rfl, hv, ?_, ?_⟩
            · obtain ⟨vs', h1, h2', _⟩ := M2.ru.ex
              rw [hv] at h1
              injection h1 with h1
              injection h1 with h1
              subst h1
              rw [Paired.length h2', hlen]
              exact Nat.lt_of_le_of_lt (show i ≤ 10 by omega) (by decide)
            · exact ⟨rule ++ [mk], _, _, _, _, _, rfl, by rw [List.length_append, hlen]; rfl, M2.snoc ow2 h2 hp2 hmk hok2 hv, Po2.but But.upd n1 n2 n3⟩
        · rintro σ H1 ⟨rule, x4, x8, x9, x10, x11, rfl, hlen, M, _⟩
          have e : ((rule.length : Nat) : Int) = 2 + r0 := by omega
          refine ⟨_, rfl, k l rule H1 ⟨by omega, by omega, fun mk hmk => ?_⟩ (by rw [e]; exact M)⟩
          rw [e]
          exact M.ok mk hmk

/-- a reading that gives this int and leaves the heap -/
def IntT (t : TE) (σ : L2.St) (v : Int) : Prop := ∀ (H : Hp) (Q : VK), Q (.int v) H → t σ H Q
inductive ArgsP (σ : L2.St) : TA → List (Int × Int) → Prop where
  | nil : ArgsP σ tNil []
  | cons {t1 t2 : TE} {r : TA} {a b : Int} {mk : List (Int × Int)} : IntT t1 σ a → IntT t2 σ b → ArgsP σ r mk → ArgsP σ (tCons (tTup (tCons t1 (tCons t2 tNil))) r) ((a, b) :: mk)
theorem ArgsP.run {K : PySem.W.Frag} {σ : L2.St} {ta : TA} {mk : List (Int × Int)} (h : ArgsP σ ta mk) : ∀ (H : Hp) (Q : List V → Hp → Prop), (∀ H' vs, Same H H' → Paired (PairT K H') vs mk → Q vs H') → ta σ H Q := by
  induction h with
  | nil => exact fun H Q q => q H [] (Same.refl H) .nil
  | @cons t1 t2 r a b mk h1 h2 _ ih =>
    intro H Q q
    refine h1 _ _ (h2 _ _ ⟨(by show 2 ≤ sizeLine; decide), fun p hp => ?_⟩)
    have s := same_new (o := .tup [.int a, .int b]) hp
    exact ih _ _ fun H' vs s' hv => q H' _ (s.trans s') (.cons ⟨p, rfl, SqT.of (s' _ _ upd_same)⟩ hv)
/-- rows that stand, not yet in one list -/
structure RL (K : PySem.W.Frag) (H H1 : Hp) (d : Addr) (vs : List V) (rule : List (List (Int × Int))) : Prop where
  but : But d H H1
  dk : ∃ ds : List Int, H1 d = some (.lst (ds.map V.int))
  ru : Paired (LMark K H1) vs rule
  nd : vs.Nodup
  fr : ∀ b, V.ref b ∈ vs → H b = none ∧ b ≠ d
theorem RL.same {K : PySem.W.Frag} {H H1 H2 : Hp} {d : Addr} {vs : List V} {rule : List (List (Int × Int))} (r : RL K H H1 d vs rule) (s : Same H1 H2) : RL K H H2 d vs rule := by
  obtain ⟨b, ⟨ds, hd⟩, ru, nd, fr⟩ := r
  exact ⟨fun c o hc hn => s _ _ (b c o hc hn), ⟨ds, s _ _ hd⟩, Paired.mapP ru fun _ _ z => z.mono (keep_same s) fun b xs _ hb => s _ _ hb, nd, fr⟩
theorem RL.add {K : PySem.W.Frag} {H H1 : Hp} {d q : Addr} {vs : List V} {rule : List (List (Int × Int))} {ps : List V} {mk : List (Int × Int)} (r : RL K H H1 d vs rule) (hp : Paired (PairT K H1) ps mk) (hq : H1 q = none) : RL K H (upd H1 q (.lst ps)) d (vs ++ [.ref q]) (rule ++ [mk]) := by
  have s := same_new (o := .lst ps) hq
  have r2 := r.same s
  obtain ⟨ds, hd⟩ := r.dk
  have nd : q ≠ d := fun e => by rw [e, hd] at hq; cases hq
  refine ⟨r2.but, r2.dk, pr_app r2.ru (.cons ⟨q, ps, rfl, upd_same, Paired.mapP hp fun _ _ z => z.mono (keep_same s)⟩ .nil), ?_, fun b hb => ?_⟩
  · rw [List.nodup_append]
    refine ⟨r.nd, by simp, fun x hx y hy e => ?_⟩
    cases (List.mem_singleton.mp hy)
    subst e
    obtain ⟨j, hj⟩ := List.mem_iff_getElem?.mp hx
    obtain ⟨x, y, e1, e2, b, ps, e3, e4, _⟩ := pr_get r.ru j (by rw [← Paired.length r.ru]; exact (List.getElem?_eq_some_iff.mp hj).1)
    rw [hj] at e1
    cases e1
    cases e3
    rw [hq] at e4
    cases e4
  · rcases List.mem_append.mp hb with hb | hb
    · exact r.fr b hb
    · cases (List.mem_singleton.mp hb)
      exact ⟨r.but.free nd hq, nd⟩
theorem RL.done {K : PySem.W.Frag} {H H1 : Hp} {d l : Addr} {size : Int} {vs : List V} {rule : List (List (Int × Int))} (r : RL K H H1 d vs rule) (hl : H1 l = none) (ok : ∀ mk ∈ rule, mk.length = 6 ∧ ∀ p ∈ mk, PairOk size p) : Making K H (upd H1 l (.lst vs)) d l size rule := by
  have s := same_new (o := .lst vs) hl
  have r2 := r.same s
  obtain ⟨ds, hd⟩ := r.dk
  have nd : l ≠ d := fun e => by rw [e, hd] at hl; cases hl
  refine ⟨r2.but, r2.dk, r.but.free nd hl, ⟨vs, upd_same, r2.ru, r.nd, fun b hb e => ?_⟩, ok, nd, fun vs' h' b hb => ?_⟩
  · subst e
    obtain ⟨j, hj⟩ := List.mem_iff_getElem?.mp hb
    obtain ⟨x, y, e1, e2, b', ps, e3, e4, _⟩ := pr_get r.ru j (by rw [← Paired.length r.ru]; exact (List.getElem?_eq_some_iff.mp hj).1)
    rw [hj] at e1
    cases e1
    cases e3
    rw [hl] at e4
    cases e4
  · rw [upd_same] at h'
    injection h' with h'
    injection h' with h'
    subst h'
    exact r.fr b hb
theorem intT_c {v : Int} {σ : L2.St} : IntT (tC (.int v)) σ v := fun _ _ q => q
theorem intT_v {i : Nat} {v : Int} {σ : L2.St} (h : σ[i]? = some (some (.int v))) : IntT (tVar i) σ v := fun _ _ q => ⟨_, h, q⟩
theorem intT_n {t : TE} {v : Int} {σ : L2.St} (h : IntT t σ v) : IntT (tUn (rU fun i => .int (-i)) t) σ (-v) := fun H Q q => h H _ ⟨v, rfl, q⟩
theorem intT_s {t u : TE} {v w : Int} {σ : L2.St} (h : IntT t σ v) (h' : IntT u σ w) : IntT (tOp (rI0 fun i j => .int (i - j)) t u) σ (v - w) := fun H Q q => h H _ (h' H _ ⟨v, w, rfl, rfl, q⟩)
theorem asg_pairs {K : PySem.W.Frag} {σ : L2.St} {ta : TA} {mk : List (Int × Int)} {i : Nat} {D : Ends} {H : Hp} (h : ArgsP σ ta mk) (hl : mk.length ≤ 100) (k : ∀ H' vs, Same H H' → Paired (PairT K H') vs mk → ∀ q, H' q = none → D.nx (σ.set i (some (.ref q))) (upd H' q (.lst vs))) : tAsg (tLst ta) (gName i) D σ H :=
  h.run (K := K) H _ fun H' vs s hp => ⟨by rw [Paired.length hp]; exact Nat.le_trans hl (by decide), fun q hq => k H' vs s hp q hq⟩
theorem gn {i : Nat} {v : V} {σ : L2.St} {H : Hp} {Q : L2.St → Hp → Prop} (h : Q (σ.set i (some v)) H) : gName i v σ H Q := h
theorem sq {a b : TS} {D : Ends} {σ : L2.St} {H : Hp} (h : a { D with nx := b D } σ H) : tSeq a b D σ H := h
def callR (a b : Int) : List (List (Int × Int)) := [[(1, a), (2, b), (0, 0), (0, 0), (0, 0), (0, 0)], [(1, 0), (2, b - a), (1, 0), (0, -a), (0, -a), (3, -a)], [(2, 0), (2, 0), (2, 0), (0, -b), (0, -b), (0, -b)], [(1, a), (2, b), (3, 0), (0, 0), (0, 0), (3, 0)]]
theorem callR_ok {a b : Int} (h1 : 1 ≤ a) (h2 : a ≤ 3) (h3 : 1 ≤ b) (h4 : b ≤ 3) : ∀ mk ∈ callR a b, mk.length = 6 ∧ ∀ p ∈ mk, PairOk 4 p := by
  intro mk hmk
  unfold callR at hmk
  simp only [List.mem_cons, List.not_mem_nil, or_false] at hmk
  rcases hmk with rfl | rfl | rfl | rfl
  all_goals
    refine ⟨rfl, fun p hp => ?_⟩
    simp only [List.mem_cons, List.not_mem_nil, or_false] at hp
    rcases hp with rfl | rfl | rfl | rfl | rfl | rfl
    all_goals
      refine ⟨?_, ?_, ?_⟩
      all_goals
        simp only
        omega

def sp__law_call_rule (K : PySem.W.Frag) : Sp := fun vs H Q _ => ∃ (d : Addr) (ds : List Int), vs = [.ref d] ∧ H d = some (.lst (ds.map V.int)) ∧
  ∀ (l : Addr) (a b : Int) (H' : Hp), 1 ≤ a → a ≤ 3 → 1 ≤ b → b ≤ 3 → Making K H H' d l 4 (callR a b) → Q (.ref l) H'
theorem c__law_call_rule (T : Tx K mg) : C8.Cal P w K mg base 2 "_law_call_rule" (sp__law_call_rule K) [] := by
  have C__law_take := c__law_take (P := P) (w := w) (base := base) T
  refine c_mk T.d__law_call_rule sc__law_call_rule (fun vs H Q E h => ?_) (fun f cdv A outer s H vs Q E hr h => ?_)
  · first | (obtain ⟨rfl, _⟩ := h; rfl) | (obtain ⟨_, rfl, _⟩ := h; rfl) | (obtain ⟨_, _, rfl, _⟩ := h; rfl) | (obtain ⟨_, _, _, rfl, _⟩ := h; rfl) | (obtain ⟨_, _, _, _, rfl, _⟩ := h; rfl) | (obtain ⟨_, _, _, _, _, rfl, _⟩ := h; rfl) | (obtain ⟨_, _, _, _, _, _, rfl, _⟩ := h; rfl) | (obtain ⟨_, _, _, _, _, _, _, rfl, _⟩ := h; rfl) | (obtain ⟨_, _, _, _, _, _, _, _, rfl, _⟩ := h; rfl) | (obtain ⟨_, _, _, _, _, _, _, _, _, rfl, _⟩ := h; rfl) | (obtain ⟨_, _, _, _, _, _, _, _, _, _, rfl, _⟩ := h; rfl) | (obtain ⟨_, _, _, _, _, _, _, _, _, _, _, rfl, _⟩ := h; rfl) | (obtain ⟨_, _, _, _, _, _, _, _, _, _, _, _, rfl, _⟩ := h; rfl) | (obtain ⟨_, _, _, _, _, _, _, _, _, _, _, _, _, rfl, _⟩ := h; rfl)
  have hu := hu_of hr
  refine ⟨_, (pss_cons (ps_set (i := 1) sc__law_call_rule.nd rfl (by first | exact Or.inl rfl | exact Or.inr rfl) (pe_op op_add pe_int (C8.pe_c (C__law_take) hr (by decide) rfl (pa_cons (pv 0) (pa_cons pe_int pa_nil)))))
    (pss_cons (ps_set (i := 2) sc__law_call_rule.nd rfl (by first | exact Or.inl rfl | exact Or.inr rfl) (pe_op op_add pe_int (C8.pe_c (C__law_take) hr (by decide) rfl (pa_cons (pv 0) (pa_cons pe_int pa_nil)))))
    (pss_cons (ps_set (i := 3) sc__law_call_rule.nd rfl (by first | exact Or.inl rfl | exact Or.inr rfl) (pe_lst (pa_cons (pe_tup (pa_cons pe_int (pa_cons (pv 1) pa_nil))) (pa_cons (pe_tup (pa_cons pe_int (pa_cons (pv 2) pa_nil))) (pa_cons (pe_tup (pa_cons pe_int (pa_cons pe_int pa_nil))) (pa_cons (pe_tup (pa_cons pe_int (pa_cons pe_int pa_nil))) (pa_cons (pe_tup (pa_cons pe_int (pa_cons pe_int pa_nil))) (pa_cons (pe_tup (pa_cons pe_int (pa_cons pe_int pa_nil))) pa_nil))))))))
    (pss_cons (ps_set (i := 4) sc__law_call_rule.nd rfl (by first | exact Or.inl rfl | exact Or.inr rfl) (pe_lst (pa_cons (pe_tup (pa_cons pe_int (pa_cons pe_int pa_nil))) (pa_cons (pe_tup (pa_cons pe_int (pa_cons (pe_op op_sub (pv 2) (pv 1)) pa_nil))) (pa_cons (pe_tup (pa_cons pe_int (pa_cons pe_int pa_nil))) (pa_cons (pe_tup (pa_cons pe_int (pa_cons (pe_un un_neg (pv 1)) pa_nil))) (pa_cons (pe_tup (pa_cons pe_int (pa_cons (pe_un un_neg (pv 1)) pa_nil))) (pa_cons (pe_tup (pa_cons pe_int (pa_cons (pe_un un_neg (pv 1)) pa_nil))) pa_nil))))))))
    (pss_cons (ps_set (i := 5) sc__law_call_rule.nd rfl (by first | exact Or.inl rfl | exact Or.inr rfl) (pe_lst (pa_cons (pe_tup (pa_cons pe_int (pa_cons pe_int pa_nil))) (pa_cons (pe_tup (pa_cons pe_int (pa_cons pe_int pa_nil))) (pa_cons (pe_tup (pa_cons pe_int (pa_cons pe_int pa_nil))) (pa_cons (pe_tup (pa_cons pe_int (pa_cons (pe_un un_neg (pv 2)) pa_nil))) (pa_cons (pe_tup (pa_cons pe_int (pa_cons (pe_un un_neg (pv 2)) pa_nil))) (pa_cons (pe_tup (pa_cons pe_int (pa_cons (pe_un un_neg (pv 2)) pa_nil))) pa_nil))))))))
    (pss_cons (ps_set (i := 6) sc__law_call_rule.nd rfl (by first | exact Or.inl rfl | exact Or.inr rfl) (pe_lst (pa_cons (pe_tup (pa_cons pe_int (pa_cons (pv 1) pa_nil))) (pa_cons (pe_tup (pa_cons pe_int (pa_cons (pv 2) pa_nil))) (pa_cons (pe_tup (pa_cons pe_int (pa_cons pe_int pa_nil))) (pa_cons (pe_tup (pa_cons pe_int (pa_cons pe_int pa_nil))) (pa_cons (pe_tup (pa_cons pe_int (pa_cons pe_int pa_nil))) (pa_cons (pe_tup (pa_cons pe_int (pa_cons pe_int pa_nil))) pa_nil))))))))
    (pss_one (ps_ret (pe_lst (pa_cons (pv 3) (pa_cons (pv 4) (pa_cons (pv 5) (pa_cons (pv 6) pa_nil))))))))))))), ?_⟩
  obtain ⟨d, ds, rfl, hd, k⟩ := h
  refine ⟨_, rfl, d, ds, 3, rfl, hd, by decide, fun r0 e1 c0 c1 => ⟨_, _, rfl, rfl, ?_⟩⟩
  refine ⟨_, rfl, d, e1, 3, rfl, upd_same, by decide, fun r1 e2 c2 c3 => ⟨_, _, rfl, rfl, ?_⟩⟩
  have b2 : But d H (upd (upd H d (.lst (e1.map V.int))) d (.lst (e2.map V.int))) := But.trans But.upd But.upd
  have hd2 : upd (upd H d (.lst (e1.map V.int))) d (.lst (e2.map V.int)) d = some (.lst (e2.map V.int)) := upd_same
  generalize upd (upd H d (.lst (e1.map V.int))) d (.lst (e2.map V.int)) = H2 at *
  have R0 : RL K H H2 d [] [] := ⟨b2, ⟨e2, hd2⟩, .nil, List.nodup_nil, fun b hb => by cases hb⟩
  dsimp only [gName]
  refine sq ?_
  refine asg_pairs (K := K) (mk := [(1, 1 + r0), (2, 1 + r1), (0, 0), (0, 0), (0, 0), (0, 0)]) ?_ (by show 6 ≤ 100; decide) ?_
  · exact (.cons intT_c (intT_v rfl) (.cons intT_c (intT_v rfl) (.cons intT_c intT_c (.cons intT_c intT_c (.cons intT_c intT_c (.cons intT_c intT_c .nil))))))
  intro H3 vs3 s3 hp3 q1 hq1
  have R1 := (R0.same s3).add hp3 hq1
  generalize upd H3 q1 (.lst vs3) = H4 at *
  dsimp only
  refine sq ?_
  refine asg_pairs (K := K) (mk := [(1, 0), (2, 1 + r1 - (1 + r0)), (1, 0), (0, -(1 + r0)), (0, -(1 + r0)), (3, -(1 + r0))]) ?_ (by show 6 ≤ 100; decide) ?_
  · exact (.cons intT_c intT_c (.cons intT_c (intT_s (intT_v rfl) (intT_v rfl)) (.cons intT_c intT_c (.cons intT_c (intT_n (intT_v rfl)) (.cons intT_c (intT_n (intT_v rfl)) (.cons intT_c (intT_n (intT_v rfl)) .nil))))))
  intro H5 vs5 s5 hp5 q2 hq2
  have R2 := (R1.same s5).add hp5 hq2
  generalize upd H5 q2 (.lst vs5) = H6 at *
  dsimp only
  refine sq ?_
  refine asg_pairs (K := K) (mk := [(2, 0), (2, 0), (2, 0), (0, -(1 + r1)), (0, -(1 + r1)), (0, -(1 + r1))]) ?_ (by show 6 ≤ 100; decide) ?_
  · exact (.cons intT_c intT_c (.cons intT_c intT_c (.cons intT_c intT_c (.cons intT_c (intT_n (intT_v rfl)) (.cons intT_c (intT_n (intT_v rfl)) (.cons intT_c (intT_n (intT_v rfl)) .nil))))))
  intro H7 vs7 s7 hp7 q3 hq3
  have R3 := (R2.same s7).add hp7 hq3
  generalize upd H7 q3 (.lst vs7) = H8 at *
  dsimp only
  refine sq ?_
  refine asg_pairs (K := K) (mk := [(1, 1 + r0), (2, 1 + r1), (3, 0), (0, 0), (0, 0), (3, 0)]) ?_ (by show 6 ≤ 100; decide) ?_
  · exact (.cons intT_c (intT_v rfl) (.cons intT_c (intT_v rfl) (.cons intT_c intT_c (.cons intT_c intT_c (.cons intT_c intT_c (.cons intT_c intT_c .nil))))))
  intro H9 vs9 s9 hp9 q4 hq4
  have R4 := (R3.same s9).add hp9 hq4
  generalize upd H9 q4 (.lst vs9) = H10 at *
  refine ⟨_, rfl, _, rfl, _, rfl, _, rfl, (by show 4 ≤ sizeLine; decide), fun l hl => ?_⟩
  have ok := callR_ok (a := 1 + r0) (b := 1 + r1) (by omega) (by omega) (by omega) (by omega)
  exact k l (1 + r0) (1 + r1) _ (by omega) (by omega) (by omega) (by omega) (R4.done hl ok)

def callH (a b m : Int) : Int := if m = 1 then a else if m = 2 then b else 0
def CallI (n : Node) : Prop := (n.al = true ∧ n.st ≠ .shut ∧ (n.m = 1 ∨ n.m = 2)) ∨ (n.al = true ∧ n.st = .shut ∧ n.m = 0) ∨ (n.al = false ∧ (n.m = 0 ∨ n.m = 3))
theorem call_step {a b : Int} {sh le g : Str} {n : Node} (h : CallI n) (e : Ev) : CallI (RowM.step ⟨"held", sh, le, g, callR a b⟩ n e).1 ∧ (RowM.step ⟨"held", sh, le, g, callR a b⟩ n e).2 = callH a b (RowM.step ⟨"held", sh, le, g, callR a b⟩ n e).1.m - callH a b n.m := by
  obtain ⟨m, al, st⟩ := n
  rcases h with ⟨h1, h2, h3 | h3⟩ | ⟨h1, h2, h3⟩ | ⟨h1, h3 | h3⟩
  all_goals
    simp only at h1 h3
    subst h1 h3
    cases e <;> simp [RowM.step, RowM.pair, callR, after, Ev.ix, CallI, callH] <;> (try (cases st <;> simp_all)) <;> (try omega)
theorem call_life {a b : Int} {sh le g : Str} {p : List Ev} {n : Node} {h : Int} (l : Life ⟨"held", sh, le, g, callR a b⟩ p n h) : CallI n ∧ h = callH a b n.m := by
  induction l with
  | nil => exact ⟨.inr (.inr ⟨rfl, .inl rfl⟩), rfl⟩
  | @snoc p n h e _ _ ih =>
    obtain ⟨i1, i2⟩ := ih
    obtain ⟨s1, s2⟩ := call_step (a := a) (b := b) (sh := sh) (le := le) (g := g) i1 e
    exact ⟨s1, by omega⟩
theorem call_sound {a b : Int} (h1 : 1 ≤ a) (h2 : 1 ≤ b) {sh g : Str} {home : Int} (hg : ¬ (g = "place" ∧ home = 1)) : Sound ⟨"held", sh, "call", g, callR a b⟩ home := by
  intro p n h l _
  obtain ⟨i1, i2⟩ := call_life l
  have nl : decide (("call" : Str) = "always") = false := by decide +kernel
  subst i2
  obtain ⟨m, al, st⟩ := n
  unfold RowM.fault RowM.usable Node.finished
  rcases i1 with ⟨h3, h4, h5⟩ | ⟨h3, h4, h5⟩ | ⟨h3, h5⟩
  · simp only at h3 h4 h5
    subst h3
    have hp : 0 < callH a b m := by
      unfold callH
      rcases h5 with h5 | h5
      · subst h5; rw [if_pos rfl]; omega
      · subst h5; rw [if_neg (by decide), if_pos rfl]; omega
    show (if callH a b m < 0 then _ else if ((!true && decide (st ≠ .opn)) = true ∧ 0 < callH a b m) then _ else if (true && (decide (("call" : Str) = "always") || decide (st ≠ .shut))) = true then if callH a b m = 0 then _ else if g = "place" ∧ home = 1 then _ else _ else _) = none
    rw [if_neg (by omega), if_neg (by rintro ⟨z, _⟩; cases z), nl, decide_eq_true h4, if_pos (show (true && (false || true)) = true from rfl), if_neg (by omega), if_neg hg]
  · simp only at h3 h4 h5
    subst h3 h4 h5
    have hp : callH a b 0 = 0 := rfl
    show (if callH a b 0 < 0 then _ else if ((!true && decide (Sta.shut ≠ .opn)) = true ∧ 0 < callH a b 0) then _ else if (true && (decide (("call" : Str) = "always") || decide (Sta.shut ≠ .shut))) = true then _ else _) = none
    rw [hp, if_neg (by omega), if_neg (by rintro ⟨z, _⟩; cases z), nl, if_neg (by decide)]
  · simp only at h3 h5
    subst h3
    have hp : callH a b m = 0 := by
      rcases h5 with h5 | h5 <;> subst h5 <;> rfl
    show (if callH a b m < 0 then _ else if ((!false && decide (st ≠ .opn)) = true ∧ 0 < callH a b m) then _ else if (false && (decide (("call" : Str) = "always") || decide (st ≠ .shut))) = true then _ else _) = none
    rw [hp, if_neg (by omega), if_neg (by rintro ⟨_, z⟩; omega), if_neg (by rw [Bool.false_and]; decide)]

theorem pr_upd {α β : Type} {F G : α → β → Prop} {b : α} {z : β} (hz : G b z) : ∀ {vs : List α} {rule : List β} {m : Nat}, Paired F vs rule → vs.Nodup → vs[m]? = some b → (∀ v ∈ vs, v ≠ b → ∀ y ∈ rule, F v y → G v y) → Paired G vs (rule.set m z)
  | _, _, _, .nil, _, h, _ => by cases h
  | v :: vs, y :: rule, 0, .cons r t, nd, h, f => by
    cases h
    obtain ⟨n1, _⟩ := List.nodup_cons.mp nd
    exact .cons hz (pr_map t fun x hx y hy => f x (List.mem_cons_of_mem _ hx) (fun e => n1 (e ▸ hx)) y (List.mem_cons_of_mem _ hy))
  | v :: vs, y :: rule, m + 1, .cons r t, nd, h, f => by
    obtain ⟨n1, n2⟩ := List.nodup_cons.mp nd
    have hb : b ∈ vs := List.mem_of_getElem? (i := m) h
    exact .cons (f v List.mem_cons_self (fun e => n1 (e ▸ hb)) y List.mem_cons_self r) (pr_upd hz t n2 h fun x hx ne y hy => f x (List.mem_cons_of_mem _ hx) ne y (List.mem_cons_of_mem _ hy))
theorem Making.spoil {K : PySem.W.Frag} {H0 H : Hp} {d l b t : Addr} {size : Int} {rule : List (List (Int × Int))} {vs ps : List V} {mk : List (Int × Int)} {m e : Nat} {p : Int × Int} (M : Making K H0 H d l size rule) (hv : H l = some (.lst vs)) (hm : vs[m]? = some (.ref b)) (hb : H b = some (.lst ps)) (hp : Paired (PairT K H) ps mk) (hmk : rule[m]? = some mk) (ht : H t = none) (ok : PairOk size p) :
    Making K H0 (upd (upd H t (.tup [.int p.1, .int p.2])) b (.lst (ps.set e (.ref t)))) d l size (rule.set m (mk.set e p)) := by
  have s := same_new (o := .tup [.int p.1, .int p.2]) ht
  have M1 := M.same s
  obtain ⟨ds, hd⟩ := M1.dk
  obtain ⟨vs', h1, h2, h3, h4⟩ := M1.ru.ex
  rw [s _ _ hv] at h1
  injection h1 with h1
  injection h1 with h1
  subst h1
  have hb1 := s _ _ hb
  have bm : V.ref b ∈ vs := List.mem_of_getElem? hm
  obtain ⟨o1, o2⟩ := M.old _ hv b bm
  have bt : But b (upd H t (.tup [.int p.1, .int p.2])) (upd (upd H t (.tup [.int p.1, .int p.2])) b (.lst (ps.set e (.ref t)))) := But.upd
  have kt := keep_lst (K := K) bt hb1
  refine ⟨fun c o hc hn => bt _ _ (M1.but c o hc hn) (ne_of_none hc o1), ⟨ds, bt _ _ hd o2.symm⟩, M1.fr, ⟨vs, bt _ _ (s _ _ hv) (h4 b bm).symm, ?_, h3, h4⟩, fun mk' hmk' => ?_, M1.nd, fun vs' h' c hc => ?_⟩
  · refine pr_upd ?_ h2 h3 hm fun v hvm ne y hy z => z.mono kt fun b' xs ev hb' => bt _ _ hb' fun e2 => ne (by rw [ev, e2])
    refine ⟨b, ps.set e (.ref t), rfl, upd_same, pr_set ⟨t, rfl, kt _ _ (SqT.of upd_same)⟩ e (Paired.mapP hp fun _ _ z => (z.mono (keep_same s)).mono kt)⟩
  · rcases List.mem_or_eq_of_mem_set hmk' with z | z
    · exact M.ok mk' z
    · subst z
      obtain ⟨a1, a2⟩ := M.ok mk (List.mem_of_getElem? hmk)
      refine ⟨by rw [List.length_set]; exact a1, fun q hq => ?_⟩
      rcases List.mem_or_eq_of_mem_set hq with z | z
      · exact a2 q z
      · subst z; exact ok
  · have e := bt _ _ (s _ _ hv) (h4 b bm).symm
    rw [h'] at e
    injection e with e
    injection e with e
    subst e
    exact M.old _ hv c hc
theorem ixN_in {n : Nat} {i : Int} (h0 : 0 ≤ i) (h1 : i < (n : Int)) : ixN n i = some i.toNat := by
  unfold ixN
  rw [if_pos h0, if_pos h1]
def sp__law_spoil (K : PySem.W.Frag) : Sp := fun vs H Q _ => ∃ (d l : Addr) (H0 : Hp) (rule : List (List (Int × Int))), vs = [.ref d, .ref l] ∧ Making K H0 H d l rule.length rule ∧ 1 ≤ rule.length ∧ rule.length ≤ 4 ∧
  ∀ (rule' : List (List (Int × Int))) (H' : Hp), rule'.length = rule.length → Making K H0 H' d l rule.length rule' → Q .non H'
theorem c__law_spoil (T : Tx K mg) : C8.Cal P w K mg base 2 "_law_spoil" (sp__law_spoil K) [] := by
  have C__law_take := c__law_take (P := P) (w := w) (base := base) T
  refine c_mk T.d__law_spoil sc__law_spoil (fun vs H Q E h => ?_) (fun f cdv A outer s H vs Q E hr h => ?_)
  · first | (obtain ⟨rfl, _⟩ := h; rfl) | (obtain ⟨_, rfl, _⟩ := h; rfl) | (obtain ⟨_, _, rfl, _⟩ := h; rfl) | (obtain ⟨_, _, _, rfl, _⟩ := h; rfl) | (obtain ⟨_, _, _, _, rfl, _⟩ := h; rfl) | (obtain ⟨_, _, _, _, _, rfl, _⟩ := h; rfl) | (obtain ⟨_, _, _, _, _, _, rfl, _⟩ := h; rfl) | (obtain ⟨_, _, _, _, _, _, _, rfl, _⟩ := h; rfl) | (obtain ⟨_, _, _, _, _, _, _, _, rfl, _⟩ := h; rfl) | (obtain ⟨_, _, _, _, _, _, _, _, _, rfl, _⟩ := h; rfl) | (obtain ⟨_, _, _, _, _, _, _, _, _, _, rfl, _⟩ := h; rfl) | (obtain ⟨_, _, _, _, _, _, _, _, _, _, _, rfl, _⟩ := h; rfl) | (obtain ⟨_, _, _, _, _, _, _, _, _, _, _, _, rfl, _⟩ := h; rfl) | (obtain ⟨_, _, _, _, _, _, _, _, _, _, _, _, _, rfl, _⟩ := h; rfl)
  have hu := hu_of hr
  refine ⟨_, (pss_cons (ps_set (i := 2) sc__law_spoil.nd rfl (by first | exact Or.inl rfl | exact Or.inr rfl) (C8.pe_c (C__law_take) hr (by decide) rfl (pa_cons (pv 0) (pa_cons (pe_callB call_len_seq rfl T.b_len (by decide +kernel) (pa_cons (pv 1) pa_nil)) pa_nil))))
    (pss_cons (ps_set (i := 3) sc__law_spoil.nd rfl (by first | exact Or.inl rfl | exact Or.inr rfl) (C8.pe_c (C__law_take) hr (by decide) rfl (pa_cons (pv 0) (pa_cons pe_int pa_nil))))
    (pss_cons (ps_set (i := 4) sc__law_spoil.nd rfl (by first | exact Or.inl rfl | exact Or.inr rfl) (pe_ix ix_list (pe_ix ix_list (pv 1) (pv 2) (fun _ _ => rfl)) (pv 3) (fun _ _ => rfl)))
    (pss_cons (ps_set (i := 5) sc__law_spoil.nd rfl (by first | exact Or.inl rfl | exact Or.inr rfl) (C8.pe_c (C__law_take) hr (by decide) rfl (pa_cons (pv 0) (pa_cons pe_int pa_nil))))
    (pss_one (ps_if (pt_cmpR op_eq (pv 5) pe_int (nomark _)) (pss_one (ps_asg (pe_tup (pa_cons (C8.pe_c (C__law_take) hr (by decide) rfl (pa_cons (pv 0) (pa_cons (pe_callB call_len_seq rfl T.b_len (by decide +kernel) (pa_cons (pv 1) pa_nil)) pa_nil))) (pa_cons (pe_ix ix_tup (pv 4) pe_int (fun _ _ => rfl)) pa_nil))) (pg_sub (pe_ix ix_list (pv 1) (pv 2) (fun _ _ => rfl)) (pv 3) set_list))) (pss_one (ps_if (pt_cmpR op_eq (pv 5) pe_int (nomark _)) (pss_one (ps_asg (pe_tup (pa_cons (pe_ix ix_tup (pv 4) pe_int (fun _ _ => rfl)) (pa_cons (pe_callB (call_min2 rfl) rfl T.b_min (by decide +kernel) (pa_cons pe_int (pa_cons (pe_op op_add (pe_ix ix_tup (pv 4) pe_int (fun _ _ => rfl)) pe_int) pa_nil))) pa_nil))) (pg_sub (pe_ix ix_list (pv 1) (pv 2) (fun _ _ => rfl)) (pv 3) set_list))) (pss_one (ps_asg (pe_tup (pa_cons (pe_ix ix_tup (pv 4) pe_int (fun _ _ => rfl)) (pa_cons (pe_callB (call_max2 rfl) rfl T.b_max (by decide +kernel) (pa_cons (pe_un un_neg pe_int) (pa_cons (pe_op op_sub (pe_ix ix_tup (pv 4) pe_int (fun _ _ => rfl)) pe_int) pa_nil))) pa_nil))) (pg_sub (pe_ix ix_list (pv 1) (pv 2) (fun _ _ => rfl)) (pv 3) set_list))))))))))), ?_⟩
  obtain ⟨d, l, H0, rule, rfl, M, l1, l4, k⟩ := h
  obtain ⟨vs, hv, h2, _⟩ := M.ru.ex
  have el := Paired.length h2
  obtain ⟨ds, hd⟩ := M.dk
  refine ⟨_, rfl, _, rfl, l, vs, rfl, .inl (SqL.of hv), d, ds, _, rfl, hd, by omega, fun r0 e1 c0 c1 => ?_⟩
  have M1 := M.deck e1
  obtain ⟨ds1, hd1⟩ := M1.dk
  refine ⟨_, rfl, d, ds1, 6, rfl, hd1, by decide, fun r1 e2 c2 c3 => ?_⟩
  have M2 := M1.deck e2
  clear M1 M hv hd hd1
  generalize upd (upd H d (.lst (e1.map V.int))) d (.lst (e2.map V.int)) = H2 at *
  obtain ⟨vs, hv, h2, _⟩ := M2.ru.ex
  have el2 := Paired.length h2
  obtain ⟨y, mk, u1, u2, b, ps, rfl, hb, hps⟩ := pr_get h2 r0.toNat (by omega)
  obtain ⟨l6, okp⟩ := M2.ok mk (List.mem_of_getElem? u2)
  obtain ⟨z, p, f1, f2, c, rfl, hc⟩ := pr_get hps r1.toNat (by omega)
  have okp := okp p (List.mem_of_getElem? f2)
  refine ⟨_, rfl, _, rfl, l, _, _, _, rfl, rfl, SqL.of hv, at_get c0 u1, _, rfl, b, _, _, _, rfl, rfl, SqL.of hb, at_get c2 f1, ?_⟩
  obtain ⟨ds2, hd2⟩ := M2.dk
  refine ⟨_, rfl, d, ds2, 3, rfl, hd2, by decide, fun r2 e3 c4 c5 => ?_⟩
  have b3 : But d H2 (upd H2 d (.lst (e3.map V.int))) := But.upd
  have t3 := keep_lst (K := K) b3 hd2
  have M3 := M2.deck e3
  have nbd : b ≠ d := fun e => by
    rw [e, hd2] at hb
    injection hb with hb
    injection hb with hb
    obtain ⟨c', hc'⟩ := pair_ref hps (by omega)
    exact ints_ref (hb ▸ hc')
  have hv3 := b3 _ _ hv M2.nd
  have hb3 := b3 _ _ hb nbd
  have hp3 : Paired (PairT K (upd H2 d (.lst (e3.map V.int)))) ps mk := Paired.mapP hps fun _ _ z => z.mono t3
  have hc3 := t3 _ _ hc
  clear b3 t3 M2 hv hb hps hc hd2
  generalize upd H2 d (.lst (e3.map V.int)) = H3 at *
  refine ⟨_, rfl, rfl, _, rfl, iteB (fun _ => ?_) (fun _ => ⟨_, rfl, rfl, _, rfl, iteB (fun _ => ?_) (fun _ => ?_)⟩)⟩
  · obtain ⟨ds3, hd3⟩ := M3.dk
    refine ⟨_, rfl, _, rfl, l, _, rfl, .inl (SqL.of hv3), d, ds3, _, rfl, hd3, by omega, fun r3 e4 c6 c7 => ?_⟩
    have b4 : But d H3 (upd H3 d (.lst (e4.map V.int))) := But.upd
    have t4 := keep_lst (K := K) b4 hd3
    have M4 := M3.deck e4
    have hv4 := b4 _ _ hv3 M3.nd
    have hb4 := b4 _ _ hb3 nbd
    have hp4 : Paired (PairT K (upd H3 d (.lst (e4.map V.int)))) ps mk := Paired.mapP hp3 fun _ _ z => z.mono t4
    refine ⟨_, rfl, c, _, _, _, rfl, rfl, t4 _ _ hc3, rfl, (by show 2 ≤ sizeLine; decide), fun t ht => ?_⟩
    have s5 := same_new (o := .tup [.int r3, .int p.2]) ht
    refine ⟨_, rfl, _, rfl, l, _, _, _, rfl, rfl, SqL.of (s5 _ _ hv4), at_get c0 u1, _, rfl, b, _, _, _, rfl, rfl, s5 _ _ hb4, ixN_in c2 (by have := Paired.length hp4; omega), ?_⟩
    exact k _ _ (by rw [List.length_set]) (M4.spoil (p := (r3, p.2)) hv4 u1 hb4 hp4 u2 ht ⟨c6, by simp only; omega, okp.2.2⟩)
  · refine ⟨_, rfl, c, _, _, _, rfl, rfl, hc3, rfl, _, rfl, c, _, _, _, rfl, rfl, hc3, rfl, _, _, rfl, rfl, _, _, rfl, (by show 2 ≤ sizeLine; decide), fun t ht => ?_⟩
    have s5 := same_new (o := .tup [.int p.1, .int (if p.2 + 1 < 3 then p.2 + 1 else 3)]) ht
    refine ⟨_, rfl, _, rfl, l, _, _, _, rfl, rfl, SqL.of (s5 _ _ hv3), at_get c0 u1, _, rfl, b, _, _, _, rfl, rfl, s5 _ _ hb3, ixN_in c2 (by have := Paired.length hp3; omega), ?_⟩
    exact k _ _ (by rw [List.length_set]) (M3.spoil (p := (p.1, if p.2 + 1 < 3 then p.2 + 1 else 3)) hv3 u1 hb3 hp3 u2 ht ⟨okp.1, okp.2.1, by have := okp.2.2; simp only; split <;> omega⟩)
  · refine ⟨_, rfl, c, _, _, _, rfl, rfl, hc3, rfl, _, rfl, _, rfl, c, _, _, _, rfl, rfl, hc3, rfl, _, _, rfl, rfl, _, _, rfl, (by show 2 ≤ sizeLine; decide), fun t ht => ?_⟩
    have s5 := same_new (o := .tup [.int p.1, .int (if p.2 - 1 > -3 then p.2 - 1 else -3)]) ht
    refine ⟨_, rfl, _, rfl, l, _, _, _, rfl, rfl, SqL.of (s5 _ _ hv3), at_get c0 u1, _, rfl, b, _, _, _, rfl, rfl, s5 _ _ hb3, ixN_in c2 (by have := Paired.length hp3; omega), ?_⟩
    exact k _ _ (by rw [List.length_set]) (M3.spoil (p := (p.1, if p.2 - 1 > -3 then p.2 - 1 else -3)) hv3 u1 hb3 hp3 u2 ht ⟨okp.1, okp.2.1, by have := okp.2.2; simp only; split <;> omega⟩)

/-- a spec: the row in the law's own words -/
def SpecV (K : PySem.W.Frag) (H : Hp) (s l : Addr) (R : RowM) : Prop := H s = some (.lst [.str R.mode, .str R.sharing, .str R.lease, .str R.grip, .ref l]) ∧ LRule K H l R.rule
theorem asg_rule1 {K : PySem.W.Frag} {σ : L2.St} {ta : TA} {mk : List (Int × Int)} {i : Nat} {D : Ends} {H : Hp} (h : ArgsP σ ta mk) (hl : mk.length ≤ 100) (k : ∀ H' vs, Same H H' → Paired (PairT K H') vs mk → ∀ q, H' q = none → ∀ l, upd H' q (.lst vs) l = none → D.nx (σ.set i (some (.ref l))) (upd (upd H' q (.lst vs)) l (.lst [.ref q]))) : tAsg (tLst (tCons (tLst ta) tNil)) (gName i) D σ H :=
  h.run (K := K) H _ fun H' vs s hp => ⟨by rw [Paired.length hp]; exact Nat.le_trans hl (by decide), fun q hq => ⟨(by show 1 ≤ sizeLine; decide), fun l hl => k H' vs s hp q hq l hl⟩⟩
def oneR (a : Int) : List (List (Int × Int)) := [[(0, a), (0, a), (0, 0), (0, 0), (0, 0), (0, -a)]]
theorem oneR_ok {a : Int} (h1 : 1 ≤ a) (h2 : a ≤ 3) : ∀ mk ∈ oneR a, mk.length = 6 ∧ ∀ p ∈ mk, PairOk 1 p := by
  intro mk hmk
  cases (List.mem_singleton.mp hmk)
  refine ⟨rfl, fun p hp => ?_⟩
  simp only [List.mem_cons, List.not_mem_nil, or_false] at hp
  rcases hp with rfl | rfl | rfl | rfl | rfl | rfl
  all_goals
    refine ⟨?_, ?_, ?_⟩
    all_goals
      simp only
      omega

def sp__law_spec (K : PySem.W.Frag) : Sp := fun vs H Q _ => ∃ (d : Addr) (ds : List Int), vs = [.ref d] ∧ H d = some (.lst (ds.map V.int)) ∧
  ∀ (s l : Addr) (R : RowM) (ds' : List Int) (H' : Hp), H s = none → s ≠ d → But d H H' → H' d = some (.lst (ds'.map V.int)) → SpecV K H' s l R → HeldArgs R → RuleOk R.rule → Q (.ref s) H'
theorem c__law_spec (T : Tx K mg) : C8.Cal P w K mg base 3 "_law_spec" (sp__law_spec K) [] := by
  have C__law_take := c__law_take (P := P) (w := w) (base := base) T
  have C__law_spoil := c__law_spoil (P := P) (w := w) (base := base) T
  have C__law_wild_rule := c__law_wild_rule (P := P) (w := w) (base := base) T
  have C__law_call_rule := c__law_call_rule (P := P) (w := w) (base := base) T
  have C__law_living_rule := c__law_living_rule (P := P) (w := w) (base := base) T
  refine c_mk T.d__law_spec sc__law_spec (fun vs H Q E h => ?_) (fun f cdv A outer s H vs Q E hr h => ?_)
  · first | (obtain ⟨rfl, _⟩ := h; rfl) | (obtain ⟨_, rfl, _⟩ := h; rfl) | (obtain ⟨_, _, rfl, _⟩ := h; rfl) | (obtain ⟨_, _, _, rfl, _⟩ := h; rfl) | (obtain ⟨_, _, _, _, rfl, _⟩ := h; rfl) | (obtain ⟨_, _, _, _, _, rfl, _⟩ := h; rfl) | (obtain ⟨_, _, _, _, _, _, rfl, _⟩ := h; rfl) | (obtain ⟨_, _, _, _, _, _, _, rfl, _⟩ := h; rfl) | (obtain ⟨_, _, _, _, _, _, _, _, rfl, _⟩ := h; rfl) | (obtain ⟨_, _, _, _, _, _, _, _, _, rfl, _⟩ := h; rfl) | (obtain ⟨_, _, _, _, _, _, _, _, _, _, rfl, _⟩ := h; rfl) | (obtain ⟨_, _, _, _, _, _, _, _, _, _, _, rfl, _⟩ := h; rfl) | (obtain ⟨_, _, _, _, _, _, _, _, _, _, _, _, rfl, _⟩ := h; rfl) | (obtain ⟨_, _, _, _, _, _, _, _, _, _, _, _, _, rfl, _⟩ := h; rfl)
  have hu := hu_of hr
  refine ⟨_, (pss_cons (ps_set (i := 1) sc__law_spec.nd rfl (by first | exact Or.inl rfl | exact Or.inr rfl) (pe_ix ix_list (pe_lst (pa_cons pe_str (pa_cons pe_str pa_nil))) (C8.pe_c (C__law_take) hr (by decide) rfl (pa_cons (pv 0) (pa_cons pe_int pa_nil))) (fun _ _ => rfl)))
    (pss_cons (ps_set (i := 2) sc__law_spec.nd rfl (by first | exact Or.inl rfl | exact Or.inr rfl) (pe_ix ix_list (pe_lst (pa_cons pe_str (pa_cons pe_str pa_nil))) (C8.pe_c (C__law_take) hr (by decide) rfl (pa_cons (pv 0) (pa_cons pe_int pa_nil))) (fun _ _ => rfl)))
    (pss_cons (ps_set (i := 3) sc__law_spec.nd rfl (by first | exact Or.inl rfl | exact Or.inr rfl) (pe_ix ix_list (pe_lst (pa_cons pe_str (pa_cons pe_str (pa_cons pe_str pa_nil)))) (C8.pe_c (C__law_take) hr (by decide) rfl (pa_cons (pv 0) (pa_cons pe_int pa_nil))) (fun _ _ => rfl)))
    (pss_cons (ps_set (i := 4) sc__law_spec.nd rfl (by first | exact Or.inl rfl | exact Or.inr rfl) (C8.pe_c (C__law_take) hr (by decide) rfl (pa_cons (pv 0) (pa_cons pe_int pa_nil))))
    (C8.pss_cut (ps_if (pt_cmpR op_eq (pv 4) pe_int (nomark _)) (pss_one (ps_set (i := 5) sc__law_spec.nd rfl (by first | exact Or.inl rfl | exact Or.inr rfl) (C8.pe_c (C__law_wild_rule) hr (by decide) rfl (pa_cons (pv 0) pa_nil)))) (pss_one (ps_if (pt_cmpR op_eq (pv 4) pe_int (nomark _)) (pss_cons (ps_set (i := 2) sc__law_spec.nd rfl (by first | exact Or.inl rfl | exact Or.inr rfl) pe_str)
    (pss_one (ps_set (i := 5) sc__law_spec.nd rfl (by first | exact Or.inl rfl | exact Or.inr rfl) (C8.pe_c (C__law_call_rule) hr (by decide) rfl (pa_cons (pv 0) pa_nil))))) (pss_one (ps_if (pt_cmpR op_eq (pv 4) pe_int (nomark _)) (pss_cons (ps_set (i := 1) sc__law_spec.nd rfl (by first | exact Or.inl rfl | exact Or.inr rfl) pe_str)
    (pss_cons (ps_set (i := 6) sc__law_spec.nd rfl (by first | exact Or.inl rfl | exact Or.inr rfl) (pe_op op_add pe_int (C8.pe_c (C__law_take) hr (by decide) rfl (pa_cons (pv 0) (pa_cons pe_int pa_nil)))))
    (pss_one (ps_set (i := 5) sc__law_spec.nd rfl (by first | exact Or.inl rfl | exact Or.inr rfl) (pe_lst (pa_cons (pe_lst (pa_cons (pe_tup (pa_cons pe_int (pa_cons (pv 6) pa_nil))) (pa_cons (pe_tup (pa_cons pe_int (pa_cons (pv 6) pa_nil))) (pa_cons (pe_tup (pa_cons pe_int (pa_cons pe_int pa_nil))) (pa_cons (pe_tup (pa_cons pe_int (pa_cons pe_int pa_nil))) (pa_cons (pe_tup (pa_cons pe_int (pa_cons pe_int pa_nil))) (pa_cons (pe_tup (pa_cons pe_int (pa_cons (pe_un un_neg (pv 6)) pa_nil))) pa_nil))))))) pa_nil)))))) (pss_one (ps_set (i := 5) sc__law_spec.nd rfl (by first | exact Or.inl rfl | exact Or.inr rfl) (C8.pe_c (C__law_living_rule) hr (by decide) rfl (pa_cons (pv 0) pa_nil)))))))))
    (pss_cons (ps_for PassesOwn.never rfl (pi_range1 rfl T.b_range (pa_cons (C8.pe_c (C__law_take) hr (by decide) rfl (pa_cons (pv 0) (pa_cons pe_int pa_nil))) pa_nil)) (pg_name (i := 7) sc__law_spec.nd rfl (by first | exact Or.inl rfl | exact Or.inr rfl)) (pss_one (ps_expr (C8.pe_c (C__law_spoil) hr (by decide) rfl (pa_cons (pv 0) (pa_cons (pv 5) pa_nil))))))
    (pss_one (ps_ret (pe_lst (pa_cons pe_str (pa_cons (pv 1) (pa_cons (pv 2) (pa_cons (pv 3) (pa_cons (pv 5) pa_nil)))))))))))))), ?_⟩
  obtain ⟨d, ds, rfl, hd, k⟩ := h
  refine ⟨(by show 2 ≤ sizeLine; decide), fun q1 hq1 => ?_⟩
  have n1 : d ≠ q1 := ne_of_none hd hq1
  refine ⟨_, rfl, d, ds, 2, rfl, same_new hq1 _ _ hd, by decide, fun r0 e1 c0 c1 => ?_⟩
  have a1 : ∃ sh : Str, (sh = "one" ∨ sh = "each") ∧ atI [V.str "one", V.str "each"] r0 = some (.str sh) := by
    have : r0 = 0 ∨ r0 = 1 := by omega
    rcases this with rfl | rfl
    · exact ⟨"one", .inl rfl, rfl⟩
    · exact ⟨"each", .inr rfl, rfl⟩
  obtain ⟨sh, hsh, at1⟩ := a1
  refine ⟨q1, _, _, _, rfl, rfl, SqL.of (by rw [upd_ne n1.symm]; exact upd_same), at1, ?_⟩
  have b1 : But d H (upd (upd H q1 (.lst [.str "one", .str "each"])) d (.lst (e1.map V.int))) := (but_new hq1).trans But.upd
  have hd1 : upd (upd H q1 (.lst [.str "one", .str "each"])) d (.lst (e1.map V.int)) d = some (.lst (e1.map V.int)) := upd_same
  generalize upd (upd H q1 (.lst [.str "one", .str "each"])) d (.lst (e1.map V.int)) = H1 at *
  refine ⟨(by show 2 ≤ sizeLine; decide), fun q2 hq2 => ?_⟩
  have n2 : d ≠ q2 := ne_of_none hd1 hq2
  refine ⟨_, rfl, d, e1, 2, rfl, same_new hq2 _ _ hd1, by decide, fun r1 e2 c2 c3 => ?_⟩
  have a2 : ∃ le : Str, (le = "always" ∨ le = "call") ∧ atI [V.str "always", V.str "call"] r1 = some (.str le) := by
    have : r1 = 0 ∨ r1 = 1 := by omega
    rcases this with rfl | rfl
    · exact ⟨"always", .inl rfl, rfl⟩
    · exact ⟨"call", .inr rfl, rfl⟩
  obtain ⟨le, hle, at2⟩ := a2
  refine ⟨q2, _, _, _, rfl, rfl, SqL.of (by rw [upd_ne n2.symm]; exact upd_same), at2, ?_⟩
  have b2 : But d H (upd (upd H1 q2 (.lst [.str "always", .str "call"])) d (.lst (e2.map V.int))) := (b1.trans (but_new hq2)).trans But.upd
  have hd2 : upd (upd H1 q2 (.lst [.str "always", .str "call"])) d (.lst (e2.map V.int)) d = some (.lst (e2.map V.int)) := upd_same
  generalize upd (upd H1 q2 (.lst [.str "always", .str "call"])) d (.lst (e2.map V.int)) = H2 at *
  refine ⟨(by show 3 ≤ sizeLine; decide), fun q3 hq3 => ?_⟩
  have n3 : d ≠ q3 := ne_of_none hd2 hq3
  refine ⟨_, rfl, d, e2, 3, rfl, same_new hq3 _ _ hd2, by decide, fun r2 e3 c4 c5 => ?_⟩
  have a3 : ∃ gr : Str, (gr = "slot" ∨ gr = "place" ∨ gr = "pin") ∧ atI [V.str "slot", V.str "place", V.str "pin"] r2 = some (.str gr) := by
    have : r2 = 0 ∨ r2 = 1 ∨ r2 = 2 := by omega
    rcases this with rfl | rfl | rfl
    · exact ⟨"slot", .inl rfl, rfl⟩
    · exact ⟨"place", .inr (.inl rfl), rfl⟩
    · exact ⟨"pin", .inr (.inr rfl), rfl⟩
  obtain ⟨gr, hgr, at3⟩ := a3
  refine ⟨q3, _, _, _, rfl, rfl, SqL.of (by rw [upd_ne n3.symm]; exact upd_same), at3, ?_⟩
  have b3 : But d H (upd (upd H2 q3 (.lst [.str "slot", .str "place", .str "pin"])) d (.lst (e3.map V.int))) := (b2.trans (but_new hq3)).trans But.upd
  have hd3 : upd (upd H2 q3 (.lst [.str "slot", .str "place", .str "pin"])) d (.lst (e3.map V.int)) d = some (.lst (e3.map V.int)) := upd_same
  generalize upd (upd H2 q3 (.lst [.str "slot", .str "place", .str "pin"])) d (.lst (e3.map V.int)) = H3 at *
  refine ⟨_, rfl, d, e3, 6, rfl, hd3, by decide, fun r3 e4 c6 c7 => ?_⟩
  have b4 : But d H (upd H3 d (.lst (e4.map V.int))) := b3.trans But.upd
  have hd4 : upd H3 d (.lst (e4.map V.int)) d = some (.lst (e4.map V.int)) := upd_same
  generalize upd H3 d (.lst (e4.map V.int)) = H4 at *
  have lift : ∀ {l : Addr} {z : Int} {rule : List (List (Int × Int))} {H' : Hp}, Making K H4 H' d l z rule → Making K H H' d l z rule := fun {l z rule H'} M => ⟨b4.trans M.but, M.dk, b4.free M.nd M.fr, M.ru, M.ok, M.nd, fun vs hv b hb => ⟨b4.free (M.old vs hv b hb).2 (M.old vs hv b hb).1, (M.old vs hv b hb).2⟩⟩
  refine ⟨fun σ' H' => ∃ (sh le : Str) (l : Addr) (rule : List (List (Int × Int))) (x6 : Option V), (sh = "one" ∨ sh = "each") ∧ (le = "always" ∨ le = "call") ∧ σ' = [some (.ref d), some (.str sh), some (.str le), some (.str gr), some (.int r3), some (.ref l), x6, none] ∧ Making K H H' d l rule.length rule ∧ 1 ≤ rule.length ∧ rule.length ≤ 4, ?_, ?_⟩
  · refine ⟨_, rfl, rfl, _, rfl, iteB (fun _ => ?_) (fun _ => ⟨_, rfl, rfl, _, rfl, iteB (fun _ => ?_) (fun _ => ⟨_, rfl, rfl, _, rfl, iteB (fun _ => ?_) (fun _ => ?_)⟩)⟩)⟩
    · refine ⟨_, rfl, d, e4, rfl, hd4, fun l rule H' ok M => ?_⟩
      exact ⟨sh, le, l, rule, _, hsh, hle, rfl, lift M, ok.1, ok.2.1⟩
    · refine ⟨_, rfl, d, e4, rfl, hd4, fun l a b H' _ _ _ _ M => ?_⟩
      exact ⟨sh, "call", l, callR a b, _, hsh, .inr rfl, rfl, lift M, (by show 1 ≤ 4; decide), (by show 4 ≤ 4; decide)⟩
    · refine ⟨_, rfl, d, e4, 3, rfl, hd4, by decide, fun r4 e5 c8 c9 => ⟨_, _, rfl, rfl, ?_⟩⟩
      dsimp only [gName]
      refine asg_rule1 (K := K) (mk := [(0, 1 + r4), (0, 1 + r4), (0, 0), (0, 0), (0, 0), (0, -(1 + r4))]) ?_ (by show 6 ≤ 100; decide) ?_
      · exact (.cons intT_c (intT_v rfl) (.cons intT_c (intT_v rfl) (.cons intT_c intT_c (.cons intT_c intT_c (.cons intT_c intT_c (.cons intT_c (intT_n (intT_v rfl)) .nil))))))
      intro H5 vs s5 hp5 q hq l hl
      have R0 : RL K H (upd H4 d (.lst (e5.map V.int))) d [] [] := ⟨b4.trans But.upd, ⟨e5, upd_same⟩, .nil, List.nodup_nil, fun b hb => by cases hb⟩
      have R1 := (R0.same s5).add hp5 hq
      have ok := oneR_ok (a := 1 + r4) (by omega) (by omega)
      exact ⟨"each", le, l, oneR (1 + r4), _, .inr rfl, hle, rfl, R1.done hl ok, (by show 1 ≤ 1; decide), (by show 1 ≤ 4; decide)⟩
    · refine ⟨_, rfl, d, e4, rfl, hd4, fun l rule H' ok M => ?_⟩
      exact ⟨sh, le, l, rule, _, hsh, hle, rfl, lift M, ok.1, ok.2.1⟩
  · clear hsh hle lift
    rintro σ' H5 ⟨sh, le, l, rule, x6, hsh, hle, rfl, M, l1, l4⟩
    obtain ⟨ds5, hd5⟩ := M.dk
    refine ⟨_, rfl, d, ds5, 3, rfl, hd5, by decide, fun r4 e5 c8 c9 => ?_⟩
    have M5 := M.deck e5
    refine ⟨r4, rfl, by omega, by omega, for_range (lo := 0) (n := r4.toNat) (fun i σ H6 => ∃ (rule' : List (List (Int × Int))) (x7 : Option V), σ = [some (.ref d), some (.str sh), some (.str le), some (.str gr), some (.int r3), some (.ref l), x6, x7] ∧ rule'.length = rule.length ∧ Making K H H6 d l rule.length rule') ⟨rule, _, rfl, rfl, M5⟩ ?_ ?_⟩
    · rintro i σ H6 hi ⟨rule', x7, rfl, hlen, M6⟩
      refine ⟨_, rfl, _, rfl, d, l, H, rule', rfl, by rw [hlen]; exact M6, by omega, by omega, fun rule2 H7 hl2 M7 => ?_⟩
      exact ⟨rule2, _, rfl, by omega, by rw [hlen] at M7; exact M7⟩
    · rintro σ H6 ⟨rule', x7, rfl, hlen, M6⟩
      refine ⟨_, rfl, _, rfl, _, rfl, _, rfl, (by show 5 ≤ sizeLine; decide), fun s hs => ?_⟩
      have s7 := same_new (o := .lst [.str "held", .str sh, .str le, .str gr, .ref l]) hs
      have M7 := M6.same s7
      obtain ⟨ds7, hd7⟩ := M7.dk
      have nsd : s ≠ d := fun e => by
        obtain ⟨ds6, hd6⟩ := M6.dk
        rw [e, hd6] at hs
        cases hs
      refine k s l ⟨"held", sh, le, gr, rule'⟩ ds7 _ (M6.but.free nsd hs) nsd M7.but hd7 ⟨upd_same, M7.ru⟩ ⟨rfl, hsh, hle, hgr⟩ ⟨by show 1 ≤ rule'.length; omega, by show rule'.length ≤ 4; omega, fun mk hmk => ?_⟩
      obtain ⟨a1, a2⟩ := M7.ok mk hmk
      refine ⟨a1, fun p hp => ?_⟩
      obtain ⟨p1, p2, p3⟩ := a2 p hp
      exact ⟨p1, by show p.1 < (rule'.length : Int); omega, p3⟩

/-- a spec's own list -/
def SpecL (H : Hp) (s l : Addr) (R : RowM) : Prop := H s = some (.lst [.str R.mode, .str R.sharing, .str R.lease, .str R.grip, .ref l])
def sp__law_usable (K : PySem.W.Frag) : Sp := fun vs H Q _ => ∃ (s l : Addr) (R : RowM) (v : V) (n : Node), vs = [.ref s, v] ∧ SpecL H s l R ∧ NodeV K H v n ∧ Q (.bl (R.usable n)) H
theorem c__law_usable (T : Tx K mg) : C8.Cal P w K mg base 1 "_law_usable" (sp__law_usable K) [] := by
  refine c_mk T.d__law_usable sc__law_usable (fun vs H Q E h => ?_) (fun f cdv A outer s H vs Q E hr h => ?_)
  · first | (obtain ⟨rfl, _⟩ := h; rfl) | (obtain ⟨_, rfl, _⟩ := h; rfl) | (obtain ⟨_, _, rfl, _⟩ := h; rfl) | (obtain ⟨_, _, _, rfl, _⟩ := h; rfl) | (obtain ⟨_, _, _, _, rfl, _⟩ := h; rfl) | (obtain ⟨_, _, _, _, _, rfl, _⟩ := h; rfl) | (obtain ⟨_, _, _, _, _, _, rfl, _⟩ := h; rfl) | (obtain ⟨_, _, _, _, _, _, _, rfl, _⟩ := h; rfl) | (obtain ⟨_, _, _, _, _, _, _, _, rfl, _⟩ := h; rfl) | (obtain ⟨_, _, _, _, _, _, _, _, _, rfl, _⟩ := h; rfl) | (obtain ⟨_, _, _, _, _, _, _, _, _, _, rfl, _⟩ := h; rfl) | (obtain ⟨_, _, _, _, _, _, _, _, _, _, _, rfl, _⟩ := h; rfl) | (obtain ⟨_, _, _, _, _, _, _, _, _, _, _, _, rfl, _⟩ := h; rfl) | (obtain ⟨_, _, _, _, _, _, _, _, _, _, _, _, _, rfl, _⟩ := h; rfl)
  have hu := hu_of hr
  refine ⟨_, (pss_one (ps_ret (pe_and (pe_ix ix_tup (pv 1) pe_int (fun _ _ => rfl)) (pe_one (pe_or (pe_cmpR op_eq (pe_ix ix_list (pv 0) pe_int (fun _ _ => rfl)) pe_str (nomark _)) (pe_one (pe_cmpR op_ne (pe_ix ix_tup (pv 1) pe_int (fun _ _ => rfl)) pe_str (nomark _)))))))), ?_⟩
  obtain ⟨s, l, R, v, n, rfl, hs, ⟨c, rfl, hc⟩, k⟩ := h
  refine ⟨_, rfl, c, _, _, _, rfl, rfl, hc, rfl, ?_⟩
  unfold RowM.usable at k
  cases ha : n.al with
  | false => rw [ha] at k; exact ⟨_, rfl, iteF k⟩
  | true =>
    rw [ha] at k
    refine ⟨_, rfl, iteT ⟨_, rfl, s, _, _, _, rfl, rfl, SqL.of hs, rfl, rfl, _, rfl, ?_⟩⟩
    by_cases hl : R.lease = "always"
    · rw [decide_eq_true hl] at k
      rw [decide_eq_true (congrArg V.str hl)]
      exact iteT k
    · rw [decide_eq_false hl] at k
      rw [decide_eq_false fun e => hl (strI e)]
      refine iteF ⟨_, rfl, c, _, _, _, rfl, rfl, hc, rfl, rfl, ?_⟩
      show Q (.bl (!decide (V.str n.st.str = V.str "shut"))) H
      rw [n_shut]
      exact k
theorem evS_app (a b : List Ev) : evS a ++ evS b = evS (a ++ b) := by
  show SX.S (a.map Ev.cp) ++ SX.S (b.map Ev.cp) = SX.S ((a ++ b).map Ev.cp)
  rw [SX.S_cat, List.map_append]
theorem evS_len (a : List Ev) : (evS a).length = a.length := evS_size a
def sp__law_events (K : PySem.W.Frag) : Sp := fun vs H Q _ => ∃ (s l : Addr) (R : RowM) (v : V) (n : Node) (f : Bool), vs = [.ref s, v, .bl f] ∧ SpecL H s l R ∧ HeldArgs R ∧ NodeV K H v n ∧ Q (.str (evS (R.evs n f))) H
theorem c__law_events (T : Tx K mg) : C8.Cal P w K mg base 2 "_law_events" (sp__law_events K) [] := by
  have C__law_usable := c__law_usable (P := P) (w := w) (base := base) T
  refine c_mk T.d__law_events sc__law_events (fun vs H Q E h => ?_) (fun f cdv A outer s H vs Q E hr h => ?_)
  · first | (obtain ⟨rfl, _⟩ := h; rfl) | (obtain ⟨_, rfl, _⟩ := h; rfl) | (obtain ⟨_, _, rfl, _⟩ := h; rfl) | (obtain ⟨_, _, _, rfl, _⟩ := h; rfl) | (obtain ⟨_, _, _, _, rfl, _⟩ := h; rfl) | (obtain ⟨_, _, _, _, _, rfl, _⟩ := h; rfl) | (obtain ⟨_, _, _, _, _, _, rfl, _⟩ := h; rfl) | (obtain ⟨_, _, _, _, _, _, _, rfl, _⟩ := h; rfl) | (obtain ⟨_, _, _, _, _, _, _, _, rfl, _⟩ := h; rfl) | (obtain ⟨_, _, _, _, _, _, _, _, _, rfl, _⟩ := h; rfl) | (obtain ⟨_, _, _, _, _, _, _, _, _, _, rfl, _⟩ := h; rfl) | (obtain ⟨_, _, _, _, _, _, _, _, _, _, _, rfl, _⟩ := h; rfl) | (obtain ⟨_, _, _, _, _, _, _, _, _, _, _, _, rfl, _⟩ := h; rfl) | (obtain ⟨_, _, _, _, _, _, _, _, _, _, _, _, _, rfl, _⟩ := h; rfl)
  have hu := hu_of hr
  refine ⟨_, (pss_cons (ps_set (i := 3) sc__law_events.nd rfl (by first | exact Or.inl rfl | exact Or.inr rfl) pe_str)
    (pss_cons (ps_if (pt_cmpR op_ne (pe_ix ix_list (pv 0) pe_int (fun _ _ => rfl)) pe_str (nomark _)) (pss_one (ps_ret (pv 3))) pss_nil)
    (C8.pss_cut (ps_if (PW.pt (pw_or (pt_cmpR op_eq (pe_ix ix_list (pv 0) pe_int (fun _ _ => rfl)) pe_str (nomark _)) (pw_or1 (pt_val (pv 2))))) (pss_cons (ps_set (i := 3) sc__law_events.nd rfl (by first | exact Or.inl rfl | exact Or.inr rfl) pe_str)
    (pss_one (ps_if (pt_cmpR op_ne (pe_ix ix_tup (pv 1) pe_int (fun _ _ => rfl)) pe_str (nomark _)) (pss_one (ps_set (i := 3) sc__law_events.nd rfl (by first | exact Or.inl rfl | exact Or.inr rfl) pe_str)) pss_nil))) pss_nil)
    (C8.pss_cut (ps_if (pt_val (C8.pe_c (C__law_usable) hr (by decide) rfl (pa_cons (pv 0) (pa_cons (pv 1) pa_nil)))) (pss_one (ps_set (i := 3) sc__law_events.nd rfl (by first | exact Or.inl rfl | exact Or.inr rfl) (pe_op op_add_str (pv 3) pe_str))) pss_nil)
    (C8.pss_cut (ps_if (pt_cmpR op_eq (pe_ix ix_tup (pv 1) pe_int (fun _ _ => rfl)) pe_str (nomark _)) (pss_one (ps_set (i := 3) sc__law_events.nd rfl (by first | exact Or.inl rfl | exact Or.inr rfl) (pe_op op_add_str (pv 3) pe_str))) pss_nil)
    (C8.pss_cut (ps_if (pt_val (pe_ix ix_tup (pv 1) pe_int (fun _ _ => rfl))) (pss_one (ps_set (i := 3) sc__law_events.nd rfl (by first | exact Or.inl rfl | exact Or.inr rfl) (pe_op op_add_str (pv 3) pe_str))) pss_nil)
    (pss_one (ps_ret (pv 3))))))))), ?_⟩
  obtain ⟨s, l, R, v, n, f, rfl, hs, ha, hv, k⟩ := h
  obtain ⟨c, rfl, hc⟩ := id hv
  obtain ⟨hm, hsh, _⟩ := ha
  have cL : R.can n .L f = (decide (R.sharing = "one") || f) := by
    unfold RowM.can
    rw [if_pos hm]
    show (!(decide (R.sharing = "each") && !f)) = (decide (R.sharing = "one") || f)
    rcases hsh with h | h <;> rw [h] <;> cases f <;> decide +kernel
  have cG : R.can n .G f = ((decide (R.sharing = "one") || f) && decide (n.st ≠ .opn)) := by
    rw [← cL]
    unfold RowM.can
    rw [if_pos hm, if_pos hm]
  have cH : R.can n .H f = R.usable n := by unfold RowM.can; rw [if_pos hm]
  have cR : R.can n .R f = decide (n.st = .opn) := by unfold RowM.can; rw [if_pos hm]
  have cF : R.can n .F f = decide (n.st = .opn) := by unfold RowM.can; rw [if_pos hm]
  have cD : R.can n .D f = n.al := by unfold RowM.can; rw [if_pos hm]
  refine ⟨_, rfl, s, _, _, _, rfl, rfl, SqL.of hs, rfl, rfl, _, rfl, iteN (fun z => absurd (congrArg V.str hm) z) (fun _ => ?_)⟩
  -- L, G
  have mid : ∀ (A : List Ev), A.length ≤ 6 → ∀ B : List Ev, B.length ≤ 6 → (evS A).length + (evS B).length ≤ sizeLine := fun A ha B hb => by
    rw [evS_len, evS_len]
    exact Nat.le_trans (Nat.add_le_add ha hb) (by decide)
  refine ⟨fun σ' H' => σ' = [some (.ref s), some (.ref c), some (.bl f), some (.str (evS ([Ev.L, .G].filter fun e => R.can n e f)))] ∧ H' = H, ?_, ?_⟩
  · refine ⟨_, rfl, s, _, _, _, rfl, rfl, SqL.of hs, rfl, rfl, _, rfl, ?_⟩
    rw [e_str]
    have fT : ∀ (z : Bool), (decide (R.sharing = "one") || f) = true → decide (n.st ≠ .opn) = z → ([Ev.L, .G].filter fun e => R.can n e f) = if z = true then [Ev.L, .G] else [Ev.L] := fun z h1 h2 => by
      cases z <;> simp [List.filter, cL, cG, h1, h2]
    have fF : (decide (R.sharing = "one") || f) = false → ([Ev.L, .G].filter fun e => R.can n e f) = [] := fun h1 => by simp [List.filter, cL, cG, h1]
    have l1 : evS [Ev.L] = "L" := by decide +kernel
    have l2 : evS [Ev.L, .G] = "LG" := by decide +kernel
    cases ho : decide (R.sharing = "one") with
    | true =>
      refine iteT ⟨_, rfl, c, _, _, _, rfl, rfl, hc, rfl, rfl, _, rfl, ?_⟩
      rw [n_opn]
      refine iteB (fun h => ?_) (fun h => ?_)
      · rw [fT true (by rw [ho]; rfl) h, if_pos rfl, l2]; exact ⟨rfl, rfl⟩
      · rw [fT false (by rw [ho]; rfl) h, if_neg (by decide), l1]; exact ⟨rfl, rfl⟩
    | false =>
      refine iteF ⟨_, rfl, _, rfl, ?_⟩
      cases hf : f with
      | true =>
        subst hf
        refine iteT ⟨_, rfl, c, _, _, _, rfl, rfl, hc, rfl, rfl, _, rfl, ?_⟩
        rw [n_opn]
        refine iteB (fun h => ?_) (fun h => ?_)
        · rw [fT true (by rw [ho]; rfl) h, if_pos rfl, l2]; exact ⟨rfl, rfl⟩
        · rw [fT false (by rw [ho]; rfl) h, if_neg (by decide), l1]; exact ⟨rfl, rfl⟩
      | false =>
        subst hf
        refine iteF ?_
        rw [fF (by rw [ho]; rfl)]
        exact ⟨rfl, rfl⟩
  · rintro σ' H' ⟨rfl, rfl⟩
    have st : ∀ (A : List Ev) (e : Ev), (A ++ [e]).filter (fun e => R.can n e f) = A.filter (fun e => R.can n e f) ++ (if R.can n e f = true then [e] else []) := fun A e => by
      rw [List.filter_append]
      cases h : R.can n e f <;> simp [List.filter, h]
    have fl6 : ∀ A : List Ev, A.length ≤ 6 → (A.filter fun e => R.can n e f).length ≤ 6 := fun A h => Nat.le_trans (List.length_filter_le _ _) h
    have q : ∀ {A B : List Ev}, A = B → ([some (.ref s), some (.ref c), some (.bl f), some (.str (evS A))] : List (Option V)) = [some (.ref s), some (.ref c), some (.bl f), some (.str (evS B))] := fun h => by rw [h]
    have lH : ("H" : Str) = evS [Ev.H] := by decide +kernel
    have lRF : ("RF" : Str) = evS [Ev.R, .F] := by decide +kernel
    have lD : ("D" : Str) = evS [Ev.D] := by decide +kernel
    -- H
    refine ⟨fun σ' H'' => σ' = [some (.ref s), some (.ref c), some (.bl f), some (.str (evS ([Ev.L, .G, .H].filter fun e => R.can n e f)))] ∧ H'' = H', ?_, ?_⟩
    · refine ⟨_, rfl, _, rfl, s, l, R, _, n, rfl, hs, hv, _, rfl, ?_⟩
      have e := st [Ev.L, .G] .H
      rw [cH] at e
      refine iteB (fun h => ?_) (fun h => ?_)
      · refine ⟨_, rfl, _, _, rfl, rfl, ?_, ?_⟩
        · rw [lH]; exact mid _ (fl6 _ (by decide)) _ (by decide)
        · rw [lH, evS_app]
          rw [if_pos h] at e
          exact ⟨q e.symm, rfl⟩
      · rw [if_neg (by rw [h]; decide), List.append_nil] at e
        exact ⟨q e.symm, rfl⟩
    rintro σ' H'' ⟨rfl, rfl⟩
    -- R, F
    refine ⟨fun σ' H2 => σ' = [some (.ref s), some (.ref c), some (.bl f), some (.str (evS ([Ev.L, .G, .H, .R, .F].filter fun e => R.can n e f)))] ∧ H2 = H'', ?_, ?_⟩
    · refine ⟨_, rfl, c, _, _, _, rfl, rfl, hc, rfl, rfl, _, rfl, ?_⟩
      rw [e_opn]
      have e : [Ev.L, .G, .H, .R, .F].filter (fun e => R.can n e f) = [Ev.L, .G, .H].filter (fun e => R.can n e f) ++ (if decide (n.st = .opn) = true then [Ev.R, .F] else []) := by
        rw [show [Ev.L, .G, .H, .R, .F] = [Ev.L, .G, .H] ++ [.R, .F] from rfl, List.filter_append]
        cases h : decide (n.st = .opn) <;> simp [List.filter, cR, cF, h]
      refine iteB (fun h => ?_) (fun h => ?_)
      · refine ⟨_, rfl, _, _, rfl, rfl, ?_, ?_⟩
        · rw [lRF]; exact mid _ (fl6 _ (by decide)) _ (by decide)
        · rw [lRF, evS_app]
          rw [if_pos h] at e
          exact ⟨q e.symm, rfl⟩
      · rw [if_neg (by rw [h]; decide), List.append_nil] at e
        exact ⟨q e.symm, rfl⟩
    rintro σ' H2 ⟨rfl, rfl⟩
    -- D
    refine ⟨fun σ' H3 => σ' = [some (.ref s), some (.ref c), some (.bl f), some (.str (evS (R.evs n f)))] ∧ H3 = H2, ?_, ?_⟩
    · refine ⟨_, rfl, c, _, _, _, rfl, rfl, hc, rfl, _, rfl, ?_⟩
      have e := st [Ev.L, .G, .H, .R, .F] .D
      rw [cD] at e
      refine iteB (fun h => ?_) (fun h => ?_)
      · refine ⟨_, rfl, _, _, rfl, rfl, ?_, ?_⟩
        · rw [lD]; exact mid _ (fl6 _ (by decide)) _ (by decide)
        · rw [lD, evS_app]
          rw [if_pos h] at e
          exact ⟨q e.symm, rfl⟩
      · rw [if_neg (by rw [h]; decide), List.append_nil] at e
        exact ⟨q e.symm, rfl⟩
    rintro σ' H3 ⟨rfl, rfl⟩
    exact ⟨_, rfl, k⟩

theorem find_ev (e : Ev) : Txt.find "LGHRFD" e.str = (e.ix : Int) := by cases e <;> decide +kernel
def sp__law_next (K : PySem.W.Frag) : Sp := fun vs H Q _ => ∃ (s l : Addr) (R : RowM) (v : V) (n : Node) (e : Ev), vs = [.ref s, v, .str e.str] ∧ SpecV K H s l R ∧ NodeV K H v n ∧ RuleOk R.rule ∧ 0 ≤ n.m ∧ n.m < (R.rule.length : Int) ∧
  ∀ (p : Addr) (u : V) (H' : Hp), Same H H' → H' p = some (.tup [u, .int (R.step n e).2]) → NodeV K H' u (R.step n e).1 → Q (.ref p) H'
theorem c__law_next (T : Tx K mg) : C8.Cal P w K mg base 1 "_law_next" (sp__law_next K) [] := by
  refine c_mk T.d__law_next sc__law_next (fun vs H Q E h => ?_) (fun f cdv A outer s H vs Q E hr h => ?_)
  · first | (obtain ⟨rfl, _⟩ := h; rfl) | (obtain ⟨_, rfl, _⟩ := h; rfl) | (obtain ⟨_, _, rfl, _⟩ := h; rfl) | (obtain ⟨_, _, _, rfl, _⟩ := h; rfl) | (obtain ⟨_, _, _, _, rfl, _⟩ := h; rfl) | (obtain ⟨_, _, _, _, _, rfl, _⟩ := h; rfl) | (obtain ⟨_, _, _, _, _, _, rfl, _⟩ := h; rfl) | (obtain ⟨_, _, _, _, _, _, _, rfl, _⟩ := h; rfl) | (obtain ⟨_, _, _, _, _, _, _, _, rfl, _⟩ := h; rfl) | (obtain ⟨_, _, _, _, _, _, _, _, _, rfl, _⟩ := h; rfl) | (obtain ⟨_, _, _, _, _, _, _, _, _, _, rfl, _⟩ := h; rfl) | (obtain ⟨_, _, _, _, _, _, _, _, _, _, _, rfl, _⟩ := h; rfl) | (obtain ⟨_, _, _, _, _, _, _, _, _, _, _, _, rfl, _⟩ := h; rfl) | (obtain ⟨_, _, _, _, _, _, _, _, _, _, _, _, _, rfl, _⟩ := h; rfl)
  have hu := hu_of hr
  refine ⟨_, (pss_cons (ps_set (i := 3) sc__law_next.nd rfl (by first | exact Or.inl rfl | exact Or.inr rfl) (pe_ix ix_list (pe_ix ix_list (pe_ix ix_list (pv 0) pe_int (fun _ _ => rfl)) (pe_ix ix_tup (pv 1) pe_int (fun _ _ => rfl)) (fun _ _ => rfl)) (pe_m1 (PySem.F.slot_str_find) (PySem.F.type_str_find) mt_find pe_str (pv 2)) (fun _ _ => rfl)))
    (pss_cons (ps_set (i := 4) sc__law_next.nd rfl (by first | exact Or.inl rfl | exact Or.inr rfl) (pe_ix ix_tup (pv 1) pe_int (fun _ _ => rfl)))
    (pss_cons (ps_set (i := 5) sc__law_next.nd rfl (by first | exact Or.inl rfl | exact Or.inr rfl) (pe_ix ix_tup (pv 1) pe_int (fun _ _ => rfl)))
    (pss_cons (ps_if (PW.pt (pw_and (pt_cmpR op_eq (pv 2) pe_str (nomark _)) (pw_and1 (pt_cmpR op_eq (pv 5) pe_str (nomark _))))) (pss_one (ps_set (i := 5) sc__law_next.nd rfl (by first | exact Or.inl rfl | exact Or.inr rfl) pe_str)) pss_nil)
    (pss_cons (ps_if (pt_cmpR op_eq (pv 2) pe_str (nomark _)) (pss_one (ps_set (i := 5) sc__law_next.nd rfl (by first | exact Or.inl rfl | exact Or.inr rfl) pe_str)) pss_nil)
    (pss_cons (ps_if (PW.pt (pw_or (pt_cmpR op_eq (pv 2) pe_str (nomark _)) (pw_or1 (pt_cmpR op_eq (pv 2) pe_str (nomark _))))) (pss_one (ps_set (i := 5) sc__law_next.nd rfl (by first | exact Or.inl rfl | exact Or.inr rfl) pe_str)) pss_nil)
    (pss_cons (ps_if (PW.pt (pw_or (pt_cmpR op_eq (pv 2) pe_str (nomark _)) (pw_or1 (pt_cmpR op_eq (pv 2) pe_str (nomark _))))) (pss_one (ps_set (i := 4) sc__law_next.nd rfl (by first | exact Or.inl rfl | exact Or.inr rfl) pe_bl)) pss_nil)
    (pss_cons (ps_if (pt_cmpR op_eq (pv 2) pe_str (nomark _)) (pss_one (ps_set (i := 4) sc__law_next.nd rfl (by first | exact Or.inl rfl | exact Or.inr rfl) pe_bl)) pss_nil)
    (pss_one (ps_ret (pe_tup (pa_cons (pe_tup (pa_cons (pe_ix ix_tup (pv 3) pe_int (fun _ _ => rfl)) (pa_cons (pv 4) (pa_cons (pv 5) pa_nil)))) (pa_cons (pe_ix ix_tup (pv 3) pe_int (fun _ _ => rfl)) pa_nil))))))))))))), ?_⟩
  obtain ⟨s, l, R, v, n, e, rfl, ⟨hs, hl⟩, hv, hok, m0, m1, k⟩ := h
  obtain ⟨us, hl1, hl2, _⟩ := hl.ex
  obtain ⟨c, rfl, hc⟩ := id hv
  have el : us.length = R.rule.length := Paired.length hl2
  obtain ⟨y, mk, e1, e2, b, ps, rfl, hb, hps⟩ := pr_get hl2 n.m.toNat (by omega)
  obtain ⟨l6, _⟩ := hok.2.2 mk (List.mem_of_getElem? e2)
  have lx : e.ix < mk.length := by rw [l6]; cases e <;> decide
  obtain ⟨z, p, f1, f2, d, rfl, hd⟩ := pr_get hps e.ix lx
  have ep : R.pair n.m e = p := by
    unfold RowM.pair
    rw [List.getD_eq_getElem?_getD, List.getD_eq_getElem?_getD, e2, Option.getD_some, f2, Option.getD_some]
  refine ⟨_, rfl, s, _, _, _, rfl, rfl, SqL.of hs, rfl, _, rfl, c, _, _, _, rfl, rfl, hc, rfl, l, us, n.m, .ref b, rfl, rfl, SqL.of hl1, at_get m0 e1, ⟨_, rfl⟩, _, rfl, _, _, rfl, rfl, ?_⟩
  rw [find_ev]
  refine ⟨b, ps, (e.ix : Int), .ref d, rfl, rfl, SqL.of hb, at_get (by omega) f1, ?_⟩
  refine ⟨_, rfl, c, _, _, _, rfl, rfl, hc, rfl, ?_⟩
  refine ⟨_, rfl, c, _, _, _, rfl, rfl, hc, rfl, ?_⟩
  have fin : ∀ (al : Bool) (st : Sta), after n e = (al, st) → tRet (tTup (tCons (tTup (tCons (tOp (rIxT K) (tVar 3) (tC (.int 0))) (tCons (tVar 4) (tCons (tVar 5) tNil)))) (tCons (tOp (rIxT K) (tVar 3) (tC (.int 1))) tNil))) { nx := fun _ H' => Q .non H', rt := Q } [some (.ref s), some (.ref c), some (.str e.str), some (.ref d), some (.bl al), some (.str st.str)] H := fun al st h => by
    refine ⟨_, rfl, d, _, _, _, rfl, rfl, hd, rfl, _, rfl, _, rfl, (by show 3 ≤ sizeLine; decide), fun q hq => ?_⟩
    have s2 := same_new (o := .tup [.int p.1, .bl al, .str st.str]) hq
    refine ⟨_, rfl, d, _, _, _, rfl, rfl, keep_same s2 _ _ hd, rfl, (by show 2 ≤ sizeLine; decide), fun q2 hq2 => ?_⟩
    refine k q2 (.ref q) _ (s2.trans (same_new hq2)) ?_ ⟨q, rfl, ?_⟩
    · rw [upd_same]
      unfold RowM.step
      rw [ep]
    · unfold RowM.step
      rw [ep, h]
      exact SqT.of (by rw [upd_ne (ne_of_none upd_same hq2)]; exact upd_same)
  cases e with
  | L =>
    refine ⟨_, rfl, rfl, _, rfl, ?_⟩
    rw [e_L]
    refine iteT ⟨_, rfl, rfl, _, rfl, ?_⟩
    rw [e_shut]
    refine iteD (fun h => ?_) (fun h => ?_)
    · refine ⟨_, rfl, rfl, _, rfl, ?_⟩
      rw [e_G]
      refine iteF ?_
      refine ⟨_, rfl, rfl, _, rfl, ?_⟩
      rw [e_R]
      refine iteF ?_
      refine ⟨_, rfl, rfl, _, rfl, ?_⟩
      rw [e_F]
      refine iteF ?_
      refine ⟨_, rfl, rfl, _, rfl, ?_⟩
      rw [e_L]
      refine iteT ?_
      refine ⟨_, rfl, rfl, _, rfl, ?_⟩
      rw [e_D]
      refine iteF ?_
      exact fin true .opn (by unfold after; rw [if_pos h])
    · refine ⟨_, rfl, rfl, _, rfl, ?_⟩
      rw [e_G]
      refine iteF ?_
      refine ⟨_, rfl, rfl, _, rfl, ?_⟩
      rw [e_R]
      refine iteF ?_
      refine ⟨_, rfl, rfl, _, rfl, ?_⟩
      rw [e_F]
      refine iteF ?_
      refine ⟨_, rfl, rfl, _, rfl, ?_⟩
      rw [e_L]
      refine iteT ?_
      refine ⟨_, rfl, rfl, _, rfl, ?_⟩
      rw [e_D]
      refine iteF ?_
      exact fin true n.st (by unfold after; rw [if_neg h])
  | G =>
    refine ⟨_, rfl, rfl, _, rfl, ?_⟩
    rw [e_L]
    refine iteF ?_
    refine ⟨_, rfl, rfl, _, rfl, ?_⟩
    rw [e_G]
    refine iteT ?_
    refine ⟨_, rfl, rfl, _, rfl, ?_⟩
    rw [e_R]
    refine iteF ?_
    refine ⟨_, rfl, rfl, _, rfl, ?_⟩
    rw [e_F]
    refine iteF ?_
    refine ⟨_, rfl, rfl, _, rfl, ?_⟩
    rw [e_L]
    refine iteF ?_
    refine ⟨_, rfl, rfl, _, rfl, ?_⟩
    rw [e_G]
    refine iteT ?_
    refine ⟨_, rfl, rfl, _, rfl, ?_⟩
    rw [e_D]
    refine iteF ?_
    exact fin true .free rfl
  | H =>
    refine ⟨_, rfl, rfl, _, rfl, ?_⟩
    rw [e_L]
    refine iteF ?_
    refine ⟨_, rfl, rfl, _, rfl, ?_⟩
    rw [e_G]
    refine iteF ?_
    refine ⟨_, rfl, rfl, _, rfl, ?_⟩
    rw [e_R]
    refine iteF ?_
    refine ⟨_, rfl, rfl, _, rfl, ?_⟩
    rw [e_F]
    refine iteF ?_
    refine ⟨_, rfl, rfl, _, rfl, ?_⟩
    rw [e_L]
    refine iteF ?_
    refine ⟨_, rfl, rfl, _, rfl, ?_⟩
    rw [e_G]
    refine iteF ?_
    refine ⟨_, rfl, rfl, _, rfl, ?_⟩
    rw [e_D]
    refine iteF ?_
    exact fin n.al n.st rfl
  | R =>
    refine ⟨_, rfl, rfl, _, rfl, ?_⟩
    rw [e_L]
    refine iteF ?_
    refine ⟨_, rfl, rfl, _, rfl, ?_⟩
    rw [e_G]
    refine iteF ?_
    refine ⟨_, rfl, rfl, _, rfl, ?_⟩
    rw [e_R]
    refine iteT ?_
    refine ⟨_, rfl, rfl, _, rfl, ?_⟩
    rw [e_L]
    refine iteF ?_
    refine ⟨_, rfl, rfl, _, rfl, ?_⟩
    rw [e_G]
    refine iteF ?_
    refine ⟨_, rfl, rfl, _, rfl, ?_⟩
    rw [e_D]
    refine iteF ?_
    exact fin n.al .shut rfl
  | F =>
    refine ⟨_, rfl, rfl, _, rfl, ?_⟩
    rw [e_L]
    refine iteF ?_
    refine ⟨_, rfl, rfl, _, rfl, ?_⟩
    rw [e_G]
    refine iteF ?_
    refine ⟨_, rfl, rfl, _, rfl, ?_⟩
    rw [e_R]
    refine iteF ?_
    refine ⟨_, rfl, rfl, _, rfl, ?_⟩
    rw [e_F]
    refine iteT ?_
    refine ⟨_, rfl, rfl, _, rfl, ?_⟩
    rw [e_L]
    refine iteF ?_
    refine ⟨_, rfl, rfl, _, rfl, ?_⟩
    rw [e_G]
    refine iteF ?_
    refine ⟨_, rfl, rfl, _, rfl, ?_⟩
    rw [e_D]
    refine iteF ?_
    exact fin n.al .shut rfl
  | D =>
    refine ⟨_, rfl, rfl, _, rfl, ?_⟩
    rw [e_L]
    refine iteF ?_
    refine ⟨_, rfl, rfl, _, rfl, ?_⟩
    rw [e_G]
    refine iteF ?_
    refine ⟨_, rfl, rfl, _, rfl, ?_⟩
    rw [e_R]
    refine iteF ?_
    refine ⟨_, rfl, rfl, _, rfl, ?_⟩
    rw [e_F]
    refine iteF ?_
    refine ⟨_, rfl, rfl, _, rfl, ?_⟩
    rw [e_L]
    refine iteF ?_
    refine ⟨_, rfl, rfl, _, rfl, ?_⟩
    rw [e_G]
    refine iteF ?_
    refine ⟨_, rfl, rfl, _, rfl, ?_⟩
    rw [e_D]
    refine iteT ?_
    exact fin false n.st rfl

def sp__law_fault (K : PySem.W.Frag) : Sp := fun vs H Q _ => ∃ (s l : Addr) (R : RowM) (home : Int) (v : V) (n : Node) (hold : Int), vs = [.ref s, .int home, v, .int hold] ∧ SpecL H s l R ∧ NodeV K H v n ∧ Q (optS (R.fault home n hold)) H
theorem c__law_fault (T : Tx K mg) : C8.Cal P w K mg base 2 "_law_fault" (sp__law_fault K) [] := by
  have C__law_usable := c__law_usable (P := P) (w := w) (base := base) T
  refine c_mk T.d__law_fault sc__law_fault (fun vs H Q E h => ?_) (fun f cdv A outer s H vs Q E hr h => ?_)
  · first | (obtain ⟨rfl, _⟩ := h; rfl) | (obtain ⟨_, rfl, _⟩ := h; rfl) | (obtain ⟨_, _, rfl, _⟩ := h; rfl) | (obtain ⟨_, _, _, rfl, _⟩ := h; rfl) | (obtain ⟨_, _, _, _, rfl, _⟩ := h; rfl) | (obtain ⟨_, _, _, _, _, rfl, _⟩ := h; rfl) | (obtain ⟨_, _, _, _, _, _, rfl, _⟩ := h; rfl) | (obtain ⟨_, _, _, _, _, _, _, rfl, _⟩ := h; rfl) | (obtain ⟨_, _, _, _, _, _, _, _, rfl, _⟩ := h; rfl) | (obtain ⟨_, _, _, _, _, _, _, _, _, rfl, _⟩ := h; rfl) | (obtain ⟨_, _, _, _, _, _, _, _, _, _, rfl, _⟩ := h; rfl) | (obtain ⟨_, _, _, _, _, _, _, _, _, _, _, rfl, _⟩ := h; rfl) | (obtain ⟨_, _, _, _, _, _, _, _, _, _, _, _, rfl, _⟩ := h; rfl) | (obtain ⟨_, _, _, _, _, _, _, _, _, _, _, _, _, rfl, _⟩ := h; rfl)
  have hu := hu_of hr
  refine ⟨_, (pss_cons (ps_if (pt_cmpR op_lt (pv 3) pe_int (nomark _)) (pss_one (ps_ret pe_str)) pss_nil)
    (pss_cons (ps_if (PW.pt (pw_and (pt_not (pt_val (pe_ix ix_tup (pv 2) pe_int (fun _ _ => rfl)))) (pw_and (pt_cmpR op_ne (pe_ix ix_tup (pv 2) pe_int (fun _ _ => rfl)) pe_str (nomark _)) (pw_and1 (pt_cmpR op_gt (pv 3) pe_int (nomark _)))))) (pss_one (ps_ret pe_str)) pss_nil)
    (pss_cons (ps_if (PW.pt (pw_and (pt_val (C8.pe_c (C__law_usable) hr (by decide) rfl (pa_cons (pv 0) (pa_cons (pv 2) pa_nil)))) (pw_and1 (pt_cmpR op_eq (pv 3) pe_int (nomark _))))) (pss_one (ps_ret pe_str)) pss_nil)
    (pss_cons (ps_if (PW.pt (pw_and (pt_val (C8.pe_c (C__law_usable) hr (by decide) rfl (pa_cons (pv 0) (pa_cons (pv 2) pa_nil)))) (pw_and (pt_cmpR op_eq (pe_ix ix_list (pv 0) pe_int (fun _ _ => rfl)) pe_str (nomark _)) (pw_and1 (pt_cmpR op_eq (pv 1) pe_int (nomark _)))))) (pss_one (ps_ret pe_str)) pss_nil)
    (pss_one (ps_ret pe_non)))))), ?_⟩
  obtain ⟨s, l, R, home, v, n, hold, rfl, hs, hv, k⟩ := h
  obtain ⟨c, rfl, hc⟩ := id hv
  unfold RowM.fault at k
  refine ⟨_, rfl, _, _, rfl, rfl, _, rfl, iteD (fun h => by rw [if_pos h] at k; exact k) (fun h => ?_)⟩
  rw [if_neg h] at k
  have tail : ∀ {X : Prop}, (Q (optS (if R.usable n = true then if hold = 0 then some "bare" else if R.grip = "place" ∧ home = 1 then some "moved" else none else none)) H → X) → ¬ (n.finished = true ∧ 0 < hold) → X := fun f h => f (by rw [if_neg h] at k; exact k)
  refine ⟨_, rfl, c, _, _, _, rfl, rfl, hc, rfl, _, rfl, ?_⟩
  refine iteNB (fun ha => ?_) (fun ha => tail (fun k => ?_) (by unfold Node.finished; rw [ha]; rintro ⟨h, _⟩; cases h))
  refine ⟨_, rfl, c, _, _, _, rfl, rfl, hc, rfl, rfl, _, rfl, ?_⟩
  rw [n_opn]
  refine iteB (fun ho => ?_) (fun ho => tail (fun k => ?_) (by unfold Node.finished; rw [ha, ho]; rintro ⟨h, _⟩; cases h))
  refine ⟨_, rfl, _, _, rfl, rfl, _, rfl, iteD (fun hp => ?_) (fun hp => tail (fun k => ?_) (fun z => hp z.2))⟩
  · have fin : n.finished = true := by unfold Node.finished; rw [ha, ho]; rfl
    rw [if_pos ⟨fin, hp⟩] at k
    exact k
  all_goals
    refine ⟨_, rfl, _, rfl, s, l, R, _, n, rfl, hs, hv, _, rfl, ?_⟩
    cases hu : R.usable n with
    | false =>
      rw [hu, if_neg (by decide)] at k
      refine iteF ⟨_, rfl, _, rfl, s, l, R, _, n, rfl, hs, hv, _, rfl, ?_⟩
      rw [hu]
      exact iteF k
    | true =>
      rw [hu, if_pos rfl] at k
      refine iteT ⟨_, rfl, rfl, _, rfl, ?_⟩
      by_cases h0 : hold = 0
      · rw [if_pos h0] at k
        rw [decide_eq_true (congrArg V.int h0)]
        exact iteT k
      · rw [if_neg h0] at k
        rw [decide_eq_false (fun e => h0 (by injection e))]
        refine iteF ⟨_, rfl, _, rfl, s, l, R, _, n, rfl, hs, hv, _, rfl, ?_⟩
        rw [hu]
        refine iteT ⟨_, rfl, s, _, _, _, rfl, rfl, SqL.of hs, rfl, rfl, _, rfl, ?_⟩
        rw [e_str]
        by_cases hg : R.grip = "place"
        · rw [decide_eq_true hg]
          refine iteT ⟨_, rfl, rfl, _, rfl, ?_⟩
          by_cases hh : home = 1
          · rw [if_pos ⟨hg, hh⟩] at k
            rw [decide_eq_true (congrArg V.int hh)]
            exact iteT k
          · rw [if_neg (fun z => hh z.2)] at k
            rw [decide_eq_false (fun e => hh (by injection e))]
            exact iteF k
        · rw [if_neg (fun z => hg z.1)] at k
          rw [decide_eq_false hg]
          exact iteF k

theorem MarkA.mono {K : PySem.W.Frag} {H H' : Hp} (t : KeepT K H H') {v : V} {mk : List (Int × Int)} (h : MarkA K H v mk) (hl : ∀ b xs, v = .ref b → SqL K H b xs → SqL K H' b xs) : MarkA K H' v mk := by
  obtain ⟨a, ps, e, hs, r⟩ := h
  refine ⟨a, ps, e, ?_, Paired.mapP r fun _ _ z => z.mono t⟩
  rcases hs with hs | hs
  · exact .inl (hl a ps e hs)
  · exact .inr (t _ _ hs)
theorem LRule.same {K : PySem.W.Frag} {H H' : Hp} (t : Same H H') {l : Addr} {rule : List (List (Int × Int))} (h : LRule K H l rule) : LRule K H' l rule := by
  obtain ⟨vs, a1, a2, a3, a4⟩ := h.ex
  exact ⟨vs, t _ _ a1, Paired.mapP a2 fun _ _ z => z.mono (keep_same t) fun b xs _ hb => t _ _ hb, a3, a4⟩

theorem SpecV.same {K : PySem.W.Frag} {H H' : Hp} (t : Same H H') {s l : Addr} {R : RowM} (h : SpecV K H s l R) : SpecV K H' s l R := by
  obtain ⟨h1, h2⟩ := h
  obtain ⟨vs, a1, a2, a3, a4⟩ := h2.ex
  exact ⟨t _ _ h1, ⟨vs, t _ _ a1, Paired.mapP a2 fun _ _ z => z.mono (keep_same t) fun b xs _ hb => t _ _ hb, a3, a4⟩⟩
def sp__law_row (K : PySem.W.Frag) : Sp := fun vs H Q _ => ∃ (s l : Addr) (R : RowM), vs = [.ref s] ∧ SpecV K H s l R ∧ HeldArgs R ∧ RuleOk R.rule ∧ ∀ (a : Addr) (H' : Hp), Same H H' → RowV K H' a R → Q (.ref a) H'
theorem c__law_row (T : Tx K mg) : C8.Cal P w K mg base 5 "_law_row" (sp__law_row K) [] := by
  have K_Row := c_Row___init__ (P := P) (w := w) (base := base) T
  refine c_mk T.d__law_row sc__law_row (fun vs H Q E h => ?_) (fun f cdv A outer s H vs Q E hr h => ?_)
  · first | (obtain ⟨rfl, _⟩ := h; rfl) | (obtain ⟨_, rfl, _⟩ := h; rfl) | (obtain ⟨_, _, rfl, _⟩ := h; rfl) | (obtain ⟨_, _, _, rfl, _⟩ := h; rfl) | (obtain ⟨_, _, _, _, rfl, _⟩ := h; rfl) | (obtain ⟨_, _, _, _, _, rfl, _⟩ := h; rfl) | (obtain ⟨_, _, _, _, _, _, rfl, _⟩ := h; rfl) | (obtain ⟨_, _, _, _, _, _, _, rfl, _⟩ := h; rfl) | (obtain ⟨_, _, _, _, _, _, _, _, rfl, _⟩ := h; rfl) | (obtain ⟨_, _, _, _, _, _, _, _, _, rfl, _⟩ := h; rfl) | (obtain ⟨_, _, _, _, _, _, _, _, _, _, rfl, _⟩ := h; rfl) | (obtain ⟨_, _, _, _, _, _, _, _, _, _, _, rfl, _⟩ := h; rfl) | (obtain ⟨_, _, _, _, _, _, _, _, _, _, _, _, rfl, _⟩ := h; rfl) | (obtain ⟨_, _, _, _, _, _, _, _, _, _, _, _, _, rfl, _⟩ := h; rfl)
  have hu := hu_of hr
  refine ⟨_, (pss_one (ps_ret (C8.pe_mk (K_Row) hr (by decide) rfl (pa_cons (pe_ix ix_list (pv 0) pe_int (fun _ _ => rfl)) (pa_cons (pe_ix ix_list (pv 0) pe_int (fun _ _ => rfl)) (pa_cons (pe_ix ix_list (pv 0) pe_int (fun _ _ => rfl)) (pa_cons (pe_ix ix_list (pv 0) pe_int (fun _ _ => rfl)) (pa_cons (pe_lc (own := [("mark", 1)]) (g := gName 1) rfl sc__law_row.nd (pi_list (pe_ix ix_list (pv 0) pe_int (fun _ _ => rfl))) (blkOk_by (own := [("mark", 1)]) (N := N__law_row) (sc := defScope s__law_row) (by decide +kernel)) (fun _ _ _ _ _ => (pg_name (i := 1) sc__law_row.nd rfl (by first | exact Or.inl rfl | exact Or.inr rfl))) (fun _ _ _ _ _ => pts_nil) (fun _ _ _ _ _ => (pe_callTy (call_list_ofK (K := K) rfl) rfl T.b_list (by decide +kernel) (pa_cons (pv 1) pa_nil)))) pa_nil)))))))), ?_⟩
  obtain ⟨s, l, R, rfl, ⟨hs, hl⟩, ha, hok, k⟩ := h
  obtain ⟨us, hl1, hl2, _⟩ := hl.ex
  have el := Paired.length hl2
  refine ⟨_, rfl, s, _, _, _, rfl, rfl, SqL.of hs, rfl, _, rfl, s, _, _, _, rfl, rfl, SqL.of hs, rfl, _, rfl, s, _, _, _, rfl, rfl, SqL.of hs, rfl, _, rfl, s, _, _, _, rfl, rfl, SqL.of hs, rfl, _, rfl, s, _, _, _, rfl, rfl, SqL.of hs, rfl, ?_⟩
  refine ⟨l, rfl, ⟨_, SqL.of hl1⟩, fun D hD => lc_list (xs := us) (fun i H2 => ∃ ms, Same H H2 ∧ H2 D = some (.lst ms) ∧ Paired (MarkA K H2) ms (R.rule.take i) ∧ ∀ b, V.ref b ∈ ms → b ≠ D) ⟨[], same_new hD, upd_same, .nil, fun b hb => by cases hb⟩ (fun i H2 _ ⟨_, s2, _⟩ => SqL.of (s2 _ _ hl1)) ?_ ?_⟩
  · rintro i y H2 hi ⟨ms, s2, h2, hp2, hne⟩
    have hil : i < us.length := (List.getElem?_eq_some_iff.mp hi).1
    obtain ⟨y', mk, e1, e2, b, ps, rfl, hb, hps⟩ := pr_get hl2 i (by omega)
    rw [hi] at e1
    cases e1
    refine ⟨rfl, ?_⟩
    unfold tYes
    refine iteT ⟨_, rfl, b, ps, rfl, .inl (SqL.of (s2 _ _ hb)), fun q hq => ?_⟩
    have s3 := same_new (o := .lst ps) hq
    have nqD : q ≠ D := fun e => by rw [e, h2] at hq; cases hq
    have em := Paired.length hp2
    have b4 : But D (upd H2 q (.lst ps)) (upd (upd H2 q (.lst ps)) D (.lst (ms ++ [.ref q]))) := But.upd
    have k4 := keep_lst (K := K) b4 (s3 _ _ h2)
    have k24 : KeepT K H2 _ := fun a' xs' h' => k4 _ _ (keep_same s3 _ _ h')
    refine ⟨ms, s3 _ _ h2, ?_, ms ++ [.ref q], fun b' o hb' => b4 _ _ (s3 _ _ (s2 _ _ hb')) (ne_of_none hb' hD), upd_same, ?_, fun b' hb' => ?_⟩
    · rw [em, List.length_take]
      obtain ⟨_, l4, _⟩ := hok
      exact Nat.lt_of_le_of_lt (show min i R.rule.length ≤ 4 by omega) (by decide)
    · rw [take_snoc e2]
      refine pr_app (pr_map hp2 fun x hx y _ z => z.mono k24 fun b' xs ev h' => ?_) (.cons ⟨q, ps, rfl, .inl (SqL.of (b4 _ _ upd_same nqD)), Paired.mapP hps fun _ _ z => (z.mono (keep_same s2)).mono k24⟩ .nil)
      have nb := hne b' (ev ▸ hx)
      rcases h' with (h' | ⟨o, h'⟩) | h'
      · exact .inl (.inl (b4 _ _ (s3 _ _ h') nb))
      · exact .inl (.inr ⟨o, b4 _ _ (s3 _ _ h') nb⟩)
      · exact .inr h'
    · rcases List.mem_append.mp hb' with hb' | hb'
      · exact hne b' hb'
      · cases (List.mem_singleton.mp hb')
        exact nqD
  · rintro H2 ⟨ms, s2, h2, hp2, _⟩
    rw [el, List.take_of_length_le (Nat.le_refl _)] at hp2
    intro x dx hx hdx hne
    have s3 := made (C := He.ga K "Row") hx hdx
    refine ⟨x, dx, D, R, ms, rfl, upd_same, s3 _ _ h2, Paired.mapP hp2 fun _ _ z => z.mono (keep_same s3) fun b xs _ h => keep_sql s3 h, hok, .inl ha, fun H' kp hR => ⟨rfl, k x H' (fun b o hb => ?_) hR⟩⟩
    exact kp _ _ (s3 _ _ (s2 _ _ hb)) (ne_of_none (s2 _ _ hb) hx)

def sp_chart (K : PySem.W.Frag) : Sp := fun vs H Q _ => ∃ (a : Addr) (R : RowM), vs = [.ref a] ∧ RowV K H a R ∧ RuleOk R.rule ∧ ∀ (p : Addr) (us : List V) (H' : Hp), Same H H' → H p = none → H' p = some (.lst us) → Paired (CEV K H') us R.chart → Q (.ref p) H'
theorem c_chart (T : Tx K mg) : C8.Cal P w K mg base 4 "chart" (sp_chart K) [] := by
  have C_possible := c_possible (P := P) (w := w) (base := base) T
  have C_step := c_step (P := P) (w := w) (base := base) T
  refine c_mk T.d_chart sc_chart (fun vs H Q E h => ?_) (fun f cdv A outer s H vs Q E hr h => ?_)
  · first | (obtain ⟨rfl, _⟩ := h; rfl) | (obtain ⟨_, rfl, _⟩ := h; rfl) | (obtain ⟨_, _, rfl, _⟩ := h; rfl) | (obtain ⟨_, _, _, rfl, _⟩ := h; rfl) | (obtain ⟨_, _, _, _, rfl, _⟩ := h; rfl) | (obtain ⟨_, _, _, _, _, rfl, _⟩ := h; rfl) | (obtain ⟨_, _, _, _, _, _, rfl, _⟩ := h; rfl) | (obtain ⟨_, _, _, _, _, _, _, rfl, _⟩ := h; rfl) | (obtain ⟨_, _, _, _, _, _, _, _, rfl, _⟩ := h; rfl) | (obtain ⟨_, _, _, _, _, _, _, _, _, rfl, _⟩ := h; rfl) | (obtain ⟨_, _, _, _, _, _, _, _, _, _, rfl, _⟩ := h; rfl) | (obtain ⟨_, _, _, _, _, _, _, _, _, _, _, rfl, _⟩ := h; rfl) | (obtain ⟨_, _, _, _, _, _, _, _, _, _, _, _, rfl, _⟩ := h; rfl) | (obtain ⟨_, _, _, _, _, _, _, _, _, _, _, _, _, rfl, _⟩ := h; rfl)
  have hu := hu_of hr
  refine ⟨_, (pss_cons (ps_set (i := 1) sc_chart.nd rfl (by first | exact Or.inl rfl | exact Or.inr rfl) (pe_lst (pa_cons (pe_tup (pa_cons (pe_glob (v := .ref (He.ga K "START")) rfl T.g_START rfl) (pa_cons pe_str pa_nil))) pa_nil)))
    (pss_cons (ps_set (i := 2) sc_chart.nd rfl (by first | exact Or.inl rfl | exact Or.inr rfl) (pe_d1N hr.units (pe_glob (v := .ref (He.ga K "START")) rfl T.g_START rfl) pe_bl))
    (pss_cons (ps_set (i := 3) sc_chart.nd rfl (by first | exact Or.inl rfl | exact Or.inr rfl) pe_int)
    (pss_cons (ps_while PassesOwn.never (pt_cmpR op_lt (pv 3) (pe_callB call_len_seq rfl T.b_len (by decide +kernel) (pa_cons (pv 1) pa_nil)) (nomark _)) (pss_cons (ps_asg (pe_ix ix_list (pv 1) (pv 3) (fun _ _ => rfl)) (pg_tup rfl (pgs_cons (pg_name (i := 4) sc_chart.nd rfl (by first | exact Or.inl rfl | exact Or.inr rfl)) (pgs_cons (pg_name (i := 5) sc_chart.nd rfl (by first | exact Or.inl rfl | exact Or.inr rfl)) pgs_nil))))
    (pss_cons (ps_for PassesOwn.never rfl (pi_str (C8.pe_c (C_possible) hr (by decide) rfl (pa_cons (pv 0) (pa_cons (pv 4) (pa_cons (pe_cmpR op_eq (pv 5) pe_str (nomark _)) pa_nil))))) (pg_name (i := 6) sc_chart.nd rfl (by first | exact Or.inl rfl | exact Or.inr rfl)) (pss_cons (ps_set (i := 7) sc_chart.nd rfl (by first | exact Or.inl rfl | exact Or.inr rfl) (pe_ix ix_tup (C8.pe_c (C_step) hr (by decide) rfl (pa_cons (pv 0) (pa_cons (pv 4) (pa_cons (pv 6) pa_nil)))) pe_int (fun _ _ => rfl)))
    (pss_one (ps_if (pt_cmpR (op_notInN hr.units) (pv 7) (pv 2) (by with_unfolding_all rfl)) (pss_cons (ps_asg pe_bl (pg_sub (pv 2) (pv 7) (ps_setN hr.units)))
    (pss_one (ps_expr (pe_bm PySem.F.plainAttrs_list PySem.F.slot_list_append PySem.F.type_list_append mt_append (pv 1) (pa_cons (pe_tup (pa_cons (pv 7) (pa_cons (pe_op op_add_str (pv 5) (pv 6)) pa_nil))) pa_nil))))) pss_nil))))
    (pss_one (ps_aug (i := 3) sc_chart.nd rfl (by first | exact Or.inl rfl | exact Or.inr rfl) pe_int ip_add)))))
    (pss_one (ps_ret (pv 1))))))), ?_⟩
  obtain ⟨a, R, rfl, hR, hok, k⟩ := h
  have hst : ∀ H : Hp, NodeV K H (.ref (He.ga K "START")) start := fun H => dp_start (T.v_START H)
  refine ⟨(by show 2 ≤ sizeLine; decide), fun p hp => ?_⟩
  have s1 := same_new (o := .tup [.ref (He.ga K "START"), .str ""]) hp
  refine ⟨(by show 1 ≤ sizeLine; decide), fun qa hqa => ?_⟩
  have s2 := same_new (o := .lst [.ref p]) hqa
  refine fun kd hkd => ?_
  have s3 := same_new (o := DkO P w kd []) hkd
  have s12 := s1.trans s2
  have hqa0 : H qa = none := s1.free hqa
  have hkd0 : H kd = none := s12.free hkd
  have nqk : qa ≠ kd := ne_of_none upd_same hkd
  refine ⟨upd_same, _, keyN start, rfl, (hst _).key, keyN_depth _, fun H4 hne kt hD => ?_⟩
  have W0 : WC P w K H H4 qa kd [c0] := by
    have e4 : ∀ b o, b ≠ kd → (upd (upd H p (.tup [.ref (He.ga K "START"), .str ""])) qa (.lst [.ref p])) b = some o → H4 b = some o := fun b o hb h => by
      rw [hne b hb]
      exact s3 _ _ h
    exact ⟨fun b o hb => e4 _ _ (ne_of_none hb hkd0) (s12 _ _ hb), hqa0, hkd0, nqk, ⟨[.ref p], e4 _ _ nqk upd_same, .cons ⟨p, _, rfl, kt _ _ (SqT.of (s3 _ _ (s2 _ _ upd_same))), hst _⟩ .nil⟩, hD⟩
  clear hD kt hne s3 s12 s2 s1 hkd hqa
  refine ⟨fun m σ H' => ∃ (i : Nat) (x4 x5 x6 x7 : Option V), m = 24 - i ∧ i ≤ (R.cq i).length ∧ WC P w K H H' qa kd (R.cq i) ∧ σ = [some (.ref a), some (.ref qa), some (.ref kd), some (.int (i : Int)), x4, x5, x6, x7], ⟨24, 0, none, none, none, none, rfl, Nat.zero_le _, W0, rfl⟩, ?_⟩
  clear W0 hp
  rintro m σ H1 ⟨i, x4, x5, x6, x7, rfl, hil, W, rfl⟩
  obtain ⟨us, hus, hqs⟩ := W.at_
  have elen := Paired.length hqs
  have CO := cq_ok hok i
  have l24 := CO.len hok
  refine ⟨_, rfl, _, rfl, qa, us, rfl, .inl (SqL.of hus), _, _, rfl, rfl, _, rfl, iteD (fun hc => ?_) (fun hc => ?_)⟩
  · have hi : i < (R.cq i).length := by omega
    refine ⟨fun σ' H' => ∃ (x4 x5 x6 x7 : Option V), WC P w K H H' qa kd (R.cq (i + 1)) ∧ σ' = [some (.ref a), some (.ref qa), some (.ref kd), some (.int ((i + 1 : Nat) : Int)), x4, x5, x6, x7], fun σ' H' ⟨y4, y5, y6, y7, e2, e3⟩ => ⟨24 - (i + 1), by omega, i + 1, y4, y5, y6, y7, rfl, ?_, e2, e3⟩, ?_⟩
    · obtain ⟨r, e⟩ := cq_pre (R := R) i
      rw [e, List.length_append]
      omega
    obtain ⟨y, x, u1, u2, b, u, rfl, hbt, hun⟩ := pr_get hqs i hi
    obtain ⟨m0, m1⟩ := CO.mks x (List.mem_of_getElem? u2)
    obtain ⟨lp, lh, ll1, ll2, ll3, ll4⟩ := CO.life i x u2
    have ll : x.life.length ≤ 24 := by rw [ll1, evS_length]; omega
    refine ⟨_, rfl, _, rfl, qa, us, (i : Int), .ref b, rfl, rfl, SqL.of hus, atI_nat u1, b, _, rfl, hbt, rfl, _, _, rfl, _, _, rfl, rfl, ?_⟩
    refine ⟨_, rfl, _, rfl, _, rfl, rfl, a, R, u, x.n, _, rfl, hR.same W.same, hun, fun H2 s2 => ?_⟩
    rw [e_str]
    have W2 := W.later s2
    have hun2 := hun.mono (keep_same (K := K) s2)
    clear hbt u1 hus hqs elen hun
    have hout : R.cq (i + 1) = (R.evs x.n (decide (x.life = ""))).foldl (R.cstep x) (R.cq i) := cq_succ u2
    have hes := evs_len R x.n (decide (x.life = ""))
    generalize R.evs x.n (decide (x.life = "")) = es at hout hes
    refine ⟨_, rfl, for_ev (es := es) (fun j σ H3 => ∃ (x6 x7 : Option V), WC P w K H H3 qa kd ((es.take j).foldl (R.cstep x) (R.cq i)) ∧ NodeV K H3 u x.n ∧ σ = [some (.ref a), some (.ref qa), some (.ref kd), some (.int (i : Int)), some u, some (.str x.life), x6, x7]) ⟨_, _, W2, hun2, rfl⟩ ?_ ?_⟩
    · rintro j e σ H3 he ⟨x6, x7, W3, hu3, rfl⟩
      have hR3 := hR.same W3.same
      refine ⟨_, rfl, _, rfl, _, rfl, a, R, u, x.n, e, rfl, hR3, hu3, hok, m0, m1, fun p v H4 s4 h4 hv4 => ?_⟩
      refine ⟨p, _, _, _, rfl, rfl, SqT.of h4, rfl, ?_⟩
      have W4 := W3.later s4
      have hu4 := hu3.mono (keep_same (K := K) s4)
      have q1 := cfold_len R x (es.take j) (R.cq i)
      have tl : (es.take j).length ≤ 6 := Nat.le_trans (List.length_take_le' _ _) hes
      have tk := take_snoc he
      have hk := hv4.key
      obtain ⟨v', rfl, hv4'⟩ := id hv4
      refine ⟨_, rfl, _, rfl, v', kd, _, _, rfl, rfl, W4.kn, hk, keyN_depth _, _, rfl, ?_⟩
      rw [known_in]
      rw [tk, List.foldl_append]
      have es1 : ∀ q : List CE, [e].foldl (R.cstep x) q = R.cstep x q e := fun _ => rfl
      rw [es1]
      generalize (es.take j).foldl (R.cstep x) (R.cq i) = q' at W4 q1
      unfold RowM.cstep
      refine iteNB (fun hs => ?_) (fun hs => ?_)
      · rw [if_neg (by rw [hs]; decide)]
        have kl : (knownC q').length < sizeLine := by
          unfold knownC
          rw [List.length_map]
          exact Nat.lt_of_le_of_lt (show q'.length ≤ 1000 by omega) (by decide)
        refine ⟨_, rfl, _, rfl, kd, v', _, _, rfl, rfl, W4.kn, hk, keyN_depth _, kl, fun H7 hne keep7 hD7 => ?_⟩
        obtain ⟨us6, hq6, hp6⟩ := W4.at_
        have hq7 : H7 qa = some (.lst us6) := by rw [hne _ W4.ne]; exact hq6
        have eu6 := Paired.length hp6
        refine ⟨_, rfl, .inl ⟨rfl, _, .inl (.inl hq7)⟩, _, rfl, _, rfl, _, rfl, _, _, rfl, rfl, ?_, (by show 2 ≤ sizeLine; decide), fun t3 ht3 => ?_⟩
        · show x.life.length + 1 ≤ sizeLine
          exact Nat.le_trans (show x.life.length + 1 ≤ 25 by omega) (by decide)
        obtain ⟨W9, k9⟩ := W4.put (l := x.life ++ e.str) hs hv4 hne keep7 hD7 hq7 ht3
        have s8 := same_new (o := .tup [.ref v', .str (x.life ++ e.str)]) ht3
        refine ⟨qa, _, _, rfl, rfl, s8 _ _ hq7, by rw [eu6]; exact Nat.lt_of_le_of_lt (show q'.length ≤ 1000 by omega) (by decide), ?_⟩
        exact ⟨_, _, W9, hu4.mono k9, rfl⟩
      · rw [if_pos hs]
        exact ⟨_, _, W4, hu4, rfl⟩
    · rintro σ H3 ⟨x6, x7, W3, hu3, rfl⟩
      rw [List.take_of_length_le (Nat.le_refl _)] at W3
      rw [← hout] at W3
      refine ⟨_, rfl, _, _, rfl, rfl, ?_⟩
      exact ⟨_, _, _, _, W3, rfl⟩
  · have hi : (R.cq i).length ≤ i := by omega
    have e := cq_chart (R := R) (i := i) (by omega) hi
    rw [← e] at hqs
    exact ⟨_, rfl, k qa us H1 W.same W.fq hus hqs⟩

def sp__law_chart (K : PySem.W.Frag) : Sp := fun vs H Q _ => ∃ (a l : Addr) (R : RowM), vs = [.ref a] ∧ SpecV K H a l R ∧ HeldArgs R ∧ RuleOk R.rule ∧ ∀ (p : Addr) (us : List V) (H' : Hp), Same H H' → H p = none → H' p = some (.lst us) → Paired (CEV K H') us R.chart → Q (.ref p) H'
theorem c__law_chart (T : Tx K mg) : C8.Cal P w K mg base 3 "_law_chart" (sp__law_chart K) [] := by
  have C__law_events := c__law_events (P := P) (w := w) (base := base) T
  have C__law_next := c__law_next (P := P) (w := w) (base := base) T
  refine c_mk T.d__law_chart sc__law_chart (fun vs H Q E h => ?_) (fun f cdv A outer s H vs Q E hr h => ?_)
  · first | (obtain ⟨rfl, _⟩ := h; rfl) | (obtain ⟨_, rfl, _⟩ := h; rfl) | (obtain ⟨_, _, rfl, _⟩ := h; rfl) | (obtain ⟨_, _, _, rfl, _⟩ := h; rfl) | (obtain ⟨_, _, _, _, rfl, _⟩ := h; rfl) | (obtain ⟨_, _, _, _, _, rfl, _⟩ := h; rfl) | (obtain ⟨_, _, _, _, _, _, rfl, _⟩ := h; rfl) | (obtain ⟨_, _, _, _, _, _, _, rfl, _⟩ := h; rfl) | (obtain ⟨_, _, _, _, _, _, _, _, rfl, _⟩ := h; rfl) | (obtain ⟨_, _, _, _, _, _, _, _, _, rfl, _⟩ := h; rfl) | (obtain ⟨_, _, _, _, _, _, _, _, _, _, rfl, _⟩ := h; rfl) | (obtain ⟨_, _, _, _, _, _, _, _, _, _, _, rfl, _⟩ := h; rfl) | (obtain ⟨_, _, _, _, _, _, _, _, _, _, _, _, rfl, _⟩ := h; rfl) | (obtain ⟨_, _, _, _, _, _, _, _, _, _, _, _, _, rfl, _⟩ := h; rfl)
  have hu := hu_of hr
  refine ⟨_, (pss_cons (ps_set (i := 1) sc__law_chart.nd rfl (by first | exact Or.inl rfl | exact Or.inr rfl) (pe_lst (pa_cons (pe_tup (pa_cons (pe_tup (pa_cons pe_int (pa_cons pe_bl (pa_cons pe_str pa_nil)))) (pa_cons pe_str pa_nil))) pa_nil)))
    (pss_cons (ps_set (i := 2) sc__law_chart.nd rfl (by first | exact Or.inl rfl | exact Or.inr rfl) (pe_d1N hr.units (pe_tup (pa_cons pe_int (pa_cons pe_bl (pa_cons pe_str pa_nil)))) pe_bl))
    (pss_cons (ps_for PassesOwn.never rfl (pi_range1 rfl T.b_range (pa_cons pe_int pa_nil)) (pg_name (i := 3) sc__law_chart.nd rfl (by first | exact Or.inl rfl | exact Or.inr rfl)) (pss_cons (ps_if (pt_cmpR op_eq (pv 3) (pe_callB call_len_seq rfl T.b_len (by decide +kernel) (pa_cons (pv 1) pa_nil)) (nomark _)) (pss_one ps_break) pss_nil)
    (pss_cons (ps_set (i := 4) sc__law_chart.nd rfl (by first | exact Or.inl rfl | exact Or.inr rfl) (pe_ix ix_tup (pe_ix ix_list (pv 1) (pv 3) (fun _ _ => rfl)) pe_int (fun _ _ => rfl)))
    (pss_cons (ps_set (i := 5) sc__law_chart.nd rfl (by first | exact Or.inl rfl | exact Or.inr rfl) (pe_ix ix_tup (pe_ix ix_list (pv 1) (pv 3) (fun _ _ => rfl)) pe_int (fun _ _ => rfl)))
    (pss_one (ps_for PassesOwn.never rfl (pi_str (C8.pe_c (C__law_events) hr (by decide) rfl (pa_cons (pv 0) (pa_cons (pv 4) (pa_cons (pe_cmpR op_eq (pv 5) pe_str (nomark _)) pa_nil))))) (pg_name (i := 6) sc__law_chart.nd rfl (by first | exact Or.inl rfl | exact Or.inr rfl)) (pss_cons (ps_set (i := 7) sc__law_chart.nd rfl (by first | exact Or.inl rfl | exact Or.inr rfl) (pe_ix ix_tup (C8.pe_c (C__law_next) hr (by decide) rfl (pa_cons (pv 0) (pa_cons (pv 4) (pa_cons (pv 6) pa_nil)))) pe_int (fun _ _ => rfl)))
    (pss_one (ps_if (pt_cmpR (op_notInN hr.units) (pv 7) (pv 2) (by with_unfolding_all rfl)) (pss_cons (ps_asg pe_bl (pg_sub (pv 2) (pv 7) (ps_setN hr.units)))
    (pss_one (ps_expr (pe_bm PySem.F.plainAttrs_list PySem.F.slot_list_append PySem.F.type_list_append mt_append (pv 1) (pa_cons (pe_tup (pa_cons (pv 7) (pa_cons (pe_op op_add_str (pv 5) (pv 6)) pa_nil))) pa_nil))))) pss_nil)))))))))
    (pss_one (ps_ret (pv 1)))))), ?_⟩
  obtain ⟨a, l, R, rfl, hR, hargs, hok, k⟩ := h
  refine ⟨(by show 3 ≤ sizeLine; decide), fun p0 hp0 => ?_⟩
  have s0 := same_new (o := .tup [.int 0, .bl false, .str "shut"]) hp0
  refine ⟨(by show 2 ≤ sizeLine; decide), fun p hp => ?_⟩
  have s1 := same_new (o := .tup [.ref p0, .str ""]) hp
  refine ⟨(by show 1 ≤ sizeLine; decide), fun qa hqa => ?_⟩
  have s2 := same_new (o := .lst [.ref p]) hqa
  refine fun kd hkd => ?_
  have s3 := same_new (o := DkO P w kd []) hkd
  have s12 := (s0.trans s1).trans s2
  have hqa0 : H qa = none := (s0.trans s1).free hqa
  have hkd0 : H kd = none := s12.free hkd
  have nqk : qa ≠ kd := ne_of_none upd_same hkd
  refine ⟨(by show 3 ≤ sizeLine; decide), fun p1 hp1 => ?_⟩
  have s4 := same_new (o := .tup [.int 0, .bl false, .str "shut"]) hp1
  have hk1 : NodeV K (upd (upd (upd (upd (upd H p0 (.tup [.int 0, .bl false, .str "shut"])) p (.tup [.ref p0, .str ""])) qa (.lst [.ref p])) kd (DkO P w kd [])) p1 (.tup [.int 0, .bl false, .str "shut"])) (.ref p1) start := ⟨p1, rfl, SqT.of upd_same⟩
  refine ⟨s4 _ _ upd_same, p1, keyN start, rfl, hk1.key, keyN_depth _, fun H5 hne kt hD => ?_⟩
  have W0 : WC P w K H H5 qa kd [c0] := by
    have e4 : ∀ b o, b ≠ kd → (upd (upd (upd H p0 (.tup [.int 0, .bl false, .str "shut"])) p (.tup [.ref p0, .str ""])) qa (.lst [.ref p])) b = some o → H5 b = some o := fun b o hb h => by
      rw [hne b hb]
      exact s4 _ _ (s3 _ _ h)
    have st0 : NodeV K (upd H p0 (.tup [.int 0, .bl false, .str "shut"])) (.ref p0) start := ⟨p0, rfl, SqT.of upd_same⟩
    exact ⟨fun b o hb => e4 _ _ (ne_of_none hb hkd0) (s12 _ _ hb), hqa0, hkd0, nqk, ⟨[.ref p], e4 _ _ nqk upd_same, .cons ⟨p, _, rfl, kt _ _ (SqT.of (s4 _ _ (s3 _ _ (s2 _ _ upd_same)))), st0.mono fun a' xs h => kt _ _ (keep_same (s1.trans (s2.trans (s3.trans s4))) _ _ h)⟩ .nil⟩, hD⟩
  clear hD kt hne hk1 hp1 s4 s3 s12 s2 s1 s0 hkd hqa hp hp0
  refine ⟨24, rfl, by decide, by decide, for_range (lo := 0) (n := 24) (fun i σ H' => ∃ (x3 x4 x5 x6 x7 : Option V), i ≤ (R.cq i).length ∧ WC P w K H H' qa kd (R.cq i) ∧ σ = [some (.ref a), some (.ref qa), some (.ref kd), x3, x4, x5, x6, x7]) ⟨none, none, none, none, none, Nat.zero_le _, W0, rfl⟩ ?_ ?_⟩
  · rintro i σ H1 hi24 ⟨x3, x4, x5, x6, x7, hil, W, rfl⟩
    obtain ⟨us, hus, hqs⟩ := W.at_
    have elen := Paired.length hqs
    have CO := cq_ok hok i
    have l24 := CO.len hok
    refine ⟨_, rfl, _, rfl, qa, us, rfl, .inl (SqL.of hus), rfl, _, rfl, ?_⟩
    rw [e_int]
    refine iteD (fun hc => ?_) (fun hc => ?_)
    · have e := cq_chart (R := R) (i := i) (by omega) (by omega)
      rw [← e] at hqs
      exact ⟨_, rfl, k qa us H1 W.same W.fq hus hqs⟩
    have hi : i < (R.cq i).length := by omega
    obtain ⟨y, x, u1, u2, b, u, rfl, hbt, hun⟩ := pr_get hqs i hi
    obtain ⟨m0, m1⟩ := CO.mks x (List.mem_of_getElem? u2)
    obtain ⟨lp, lh, ll1, ll2, ll3, ll4⟩ := CO.life i x u2
    have ll : x.life.length ≤ 24 := by rw [ll1, evS_length]; omega
    have ei : (0 : Int) + (i : Int) = (i : Int) := by omega
    rw [ei]
    have at0 := atI_nat u1
    refine ⟨_, rfl, _, rfl, qa, us, (i : Int), .ref b, rfl, rfl, SqL.of hus, at0, b, _, _, _, rfl, rfl, hbt, rfl, ?_⟩
    refine ⟨_, rfl, _, rfl, qa, us, (i : Int), .ref b, rfl, rfl, SqL.of hus, at0, b, _, _, _, rfl, rfl, hbt, rfl, ?_⟩
    refine ⟨_, rfl, _, rfl, _, rfl, rfl, a, l, R, u, x.n, _, rfl, (hR.same W.same).1, hargs, hun, ?_⟩
    rw [e_str]
    have W2 := W
    have hun2 := hun
    clear hbt u1 hus hqs elen hun at0
    have hout : R.cq (i + 1) = (R.evs x.n (decide (x.life = ""))).foldl (R.cstep x) (R.cq i) := cq_succ u2
    have hes := evs_len R x.n (decide (x.life = ""))
    generalize R.evs x.n (decide (x.life = "")) = es at hout hes
    refine ⟨_, rfl, for_ev (es := es) (fun j σ H3 => ∃ (x6 x7 : Option V), WC P w K H H3 qa kd ((es.take j).foldl (R.cstep x) (R.cq i)) ∧ NodeV K H3 u x.n ∧ σ = [some (.ref a), some (.ref qa), some (.ref kd), some (.int (i : Int)), some u, some (.str x.life), x6, x7]) ⟨_, _, W2, hun2, rfl⟩ ?_ ?_⟩
    · rintro j e σ H3 he ⟨x6, x7, W3, hu3, rfl⟩
      have hR3 := hR.same W3.same
      refine ⟨_, rfl, _, rfl, _, rfl, a, l, R, u, x.n, e, rfl, hR3, hu3, hok, m0, m1, fun p v H4 s4 h4 hv4 => ?_⟩
      refine ⟨p, _, _, _, rfl, rfl, SqT.of h4, rfl, ?_⟩
      have W4 := W3.later s4
      have hu4 := hu3.mono (keep_same (K := K) s4)
      have q1 := cfold_len R x (es.take j) (R.cq i)
      have tl : (es.take j).length ≤ 6 := Nat.le_trans (List.length_take_le' _ _) hes
      have tk := take_snoc he
      have hk := hv4.key
      obtain ⟨v', rfl, hv4'⟩ := id hv4
      refine ⟨_, rfl, _, rfl, v', kd, _, _, rfl, rfl, W4.kn, hk, keyN_depth _, _, rfl, ?_⟩
      rw [known_in]
      rw [tk, List.foldl_append]
      have es1 : ∀ q : List CE, [e].foldl (R.cstep x) q = R.cstep x q e := fun _ => rfl
      rw [es1]
      generalize (es.take j).foldl (R.cstep x) (R.cq i) = q' at W4 q1
      unfold RowM.cstep
      refine iteNB (fun hs => ?_) (fun hs => ?_)
      · rw [if_neg (by rw [hs]; decide)]
        have kl : (knownC q').length < sizeLine := by
          unfold knownC
          rw [List.length_map]
          exact Nat.lt_of_le_of_lt (show q'.length ≤ 1000 by omega) (by decide)
        refine ⟨_, rfl, _, rfl, kd, v', _, _, rfl, rfl, W4.kn, hk, keyN_depth _, kl, fun H7 hne keep7 hD7 => ?_⟩
        obtain ⟨us6, hq6, hp6⟩ := W4.at_
        have hq7 : H7 qa = some (.lst us6) := by rw [hne _ W4.ne]; exact hq6
        have eu6 := Paired.length hp6
        refine ⟨_, rfl, .inl ⟨rfl, _, .inl (.inl hq7)⟩, _, rfl, _, rfl, _, rfl, _, _, rfl, rfl, ?_, (by show 2 ≤ sizeLine; decide), fun t3 ht3 => ?_⟩
        · show x.life.length + 1 ≤ sizeLine
          exact Nat.le_trans (show x.life.length + 1 ≤ 25 by omega) (by decide)
        obtain ⟨W9, k9⟩ := W4.put (l := x.life ++ e.str) hs hv4 hne keep7 hD7 hq7 ht3
        have s8 := same_new (o := .tup [.ref v', .str (x.life ++ e.str)]) ht3
        refine ⟨qa, _, _, rfl, rfl, s8 _ _ hq7, by rw [eu6]; exact Nat.lt_of_le_of_lt (show q'.length ≤ 1000 by omega) (by decide), ?_⟩
        exact ⟨_, _, W9, hu4.mono k9, rfl⟩
      · rw [if_pos hs]
        exact ⟨_, _, W4, hu4, rfl⟩
    · rintro σ H3 ⟨x6, x7, W3, hu3, rfl⟩
      rw [List.take_of_length_le (Nat.le_refl _)] at W3
      rw [← hout] at W3
      refine ⟨_, _, _, _, _, ?_, W3, rfl⟩
      obtain ⟨r, e⟩ := cq_pre (R := R) i
      rw [e, List.length_append]
      omega
  · rintro σ H1 ⟨x3, x4, x5, x6, x7, hil, W, rfl⟩
    obtain ⟨us, hus, hqs⟩ := W.at_
    exact ⟨_, rfl, k qa us H1 W.same W.fq hus hqs⟩

def PEV (K : PySem.W.Frag) (H : Hp) (v : V) (x : Node × Int) : Prop := ∃ a u, v = .ref a ∧ SqT K H a [u, .int x.2] ∧ NodeV K H u x.1
theorem PEV.mono {K : PySem.W.Frag} {H H' : Hp} (t : KeepT K H H') {v : V} {x : Node × Int} (h : PEV K H v x) : PEV K H' v x := let ⟨a, u, e, s, n⟩ := h; ⟨a, u, e, t _ _ s, n.mono t⟩
theorem ev_mem {es : List Ev} {e : Ev} : e.cp ∈ (evS es).cps.toList ↔ e ∈ es := by
  show e.cp ∈ (es.map Ev.cp).toArray.toList ↔ _
  rw [List.mem_map]
  constructor
  · rintro ⟨x, hx, ex⟩; rw [← cp_inj ex]; exact hx
  · intro h; exact ⟨e, h, rfl⟩
theorem evS_atI {es : List Ev} {i : Nat} {e : Ev} (h : es[i]? = some e) : atI (evS es).cps.toList ((0 : Int) + (i : Int)) = some e.cp := by
  have h2 : (evS es).cps.toList[i]? = some e.cp := by
    show (es.map Ev.cp).toArray.toList[i]? = _
    rw [List.getElem?_map, h] <;> rfl
  rw [show (0 : Int) + (i : Int) = ((i : Nat) : Int) by omega]
  exact atI_nat h2

def sp__law_path (K : PySem.W.Frag) : Sp := fun vs H Q _ => ∃ (s l : Addr) (R : RowM) (p : List Ev) (n : Node) (h : Int), vs = [.ref s, .str (evS p)] ∧ SpecV K H s l R ∧ HeldArgs R ∧ RuleOk R.rule ∧ Life R p n h ∧ p.length ≤ 1000 ∧
  ∀ (t q : Addr) (us : List V) (H' : Hp), Same H H' → H' t = some (.tup [.int (-1), .ref q]) → H' q = some (.lst us) → Paired (PEV K H') us (R.runs p) → Q (.ref t) H'
theorem c__law_path (T : Tx K mg) : C8.Cal P w K mg base 3 "_law_path" (sp__law_path K) [] := by
  have C__law_next := c__law_next (P := P) (w := w) (base := base) T
  have C__law_events := c__law_events (P := P) (w := w) (base := base) T
  refine c_mk T.d__law_path sc__law_path (fun vs H Q E h => ?_) (fun f cdv A outer s H vs Q E hr h => ?_)
  · first | (obtain ⟨rfl, _⟩ := h; rfl) | (obtain ⟨_, rfl, _⟩ := h; rfl) | (obtain ⟨_, _, rfl, _⟩ := h; rfl) | (obtain ⟨_, _, _, rfl, _⟩ := h; rfl) | (obtain ⟨_, _, _, _, rfl, _⟩ := h; rfl) | (obtain ⟨_, _, _, _, _, rfl, _⟩ := h; rfl) | (obtain ⟨_, _, _, _, _, _, rfl, _⟩ := h; rfl) | (obtain ⟨_, _, _, _, _, _, _, rfl, _⟩ := h; rfl) | (obtain ⟨_, _, _, _, _, _, _, _, rfl, _⟩ := h; rfl) | (obtain ⟨_, _, _, _, _, _, _, _, _, rfl, _⟩ := h; rfl) | (obtain ⟨_, _, _, _, _, _, _, _, _, _, rfl, _⟩ := h; rfl) | (obtain ⟨_, _, _, _, _, _, _, _, _, _, _, rfl, _⟩ := h; rfl) | (obtain ⟨_, _, _, _, _, _, _, _, _, _, _, _, rfl, _⟩ := h; rfl) | (obtain ⟨_, _, _, _, _, _, _, _, _, _, _, _, _, rfl, _⟩ := h; rfl)
  have hu := hu_of hr
  refine ⟨_, (pss_cons (ps_set (i := 2) sc__law_path.nd rfl (by first | exact Or.inl rfl | exact Or.inr rfl) (pe_tup (pa_cons pe_int (pa_cons pe_bl (pa_cons pe_str pa_nil)))))
    (pss_cons (ps_set (i := 3) sc__law_path.nd rfl (by first | exact Or.inl rfl | exact Or.inr rfl) pe_int)
    (pss_cons (ps_set (i := 4) sc__law_path.nd rfl (by first | exact Or.inl rfl | exact Or.inr rfl) (pe_lst (pa_cons (pe_tup (pa_cons (pv 2) (pa_cons (pv 3) pa_nil))) pa_nil)))
    (pss_cons (ps_for PassesOwn.never rfl (pi_range1 rfl T.b_range (pa_cons (pe_callB call_len_str rfl T.b_len (by decide +kernel) (pa_cons (pv 1) pa_nil)) pa_nil)) (pg_name (i := 5) sc__law_path.nd rfl (by first | exact Or.inl rfl | exact Or.inr rfl)) (pss_cons (ps_if (pt_cmpR op_notIn_sign (pe_ix ix_str (pv 1) (pv 5) (fun _ _ => rfl)) (C8.pe_c (C__law_events) hr (by decide) rfl (pa_cons (pv 0) (pa_cons (pv 2) (pa_cons (pe_cmpR op_eq (pv 5) pe_int (nomark _)) pa_nil)))) (by with_unfolding_all rfl)) (pss_one (ps_ret (pe_tup (pa_cons (pv 5) (pa_cons (pv 4) pa_nil))))) pss_nil)
    (pss_cons (ps_set (i := 6) sc__law_path.nd rfl (by first | exact Or.inl rfl | exact Or.inr rfl) (C8.pe_c (C__law_next) hr (by decide) rfl (pa_cons (pv 0) (pa_cons (pv 2) (pa_cons (pe_ix ix_str (pv 1) (pv 5) (fun _ _ => rfl)) pa_nil)))))
    (pss_cons (ps_set (i := 2) sc__law_path.nd rfl (by first | exact Or.inl rfl | exact Or.inr rfl) (pe_ix ix_tup (pv 6) pe_int (fun _ _ => rfl)))
    (pss_cons (ps_set (i := 3) sc__law_path.nd rfl (by first | exact Or.inl rfl | exact Or.inr rfl) (pe_op op_add (pv 3) (pe_ix ix_tup (pv 6) pe_int (fun _ _ => rfl))))
    (pss_one (ps_expr (pe_bm PySem.F.plainAttrs_list PySem.F.slot_list_append PySem.F.type_list_append mt_append (pv 4) (pa_cons (pe_tup (pa_cons (pv 2) (pa_cons (pv 3) pa_nil))) pa_nil)))))))))
    (pss_one (ps_ret (pe_tup (pa_cons (pe_un un_neg pe_int) (pa_cons (pv 4) pa_nil))))))))), ?_⟩
  obtain ⟨s, l, R, p, n, hh, rfl, hR, hargs, hok, hl, hlen, k⟩ := h
  refine ⟨(by show 3 ≤ sizeLine; decide), fun a0 ha0 => ?_⟩
  have s0 := same_new (o := .tup [.int 0, .bl false, .str "shut"]) ha0
  have st0 : NodeV K (upd H a0 (.tup [.int 0, .bl false, .str "shut"])) (.ref a0) start := ⟨a0, rfl, SqT.of upd_same⟩
  refine ⟨_, rfl, _, rfl, (by show 2 ≤ sizeLine; decide), fun a1 ha1 => ?_⟩
  have s1 := same_new (o := .tup [.ref a0, .int 0]) ha1
  refine ⟨(by show 1 ≤ sizeLine; decide), fun q hq => ?_⟩
  have s2 := same_new (o := .lst [.ref a1]) hq
  have s02 := (s0.trans s1).trans s2
  have hqH : H q = none := (s0.trans s1).free hq
  have el : (evS p).length = p.length := evS_length p
  refine ⟨_, rfl, _, rfl, Nat.le_trans (by rw [el]; exact hlen) (by decide), ?_⟩
  rw [el]
  refine ⟨_, rfl, by omega, by omega, for_range (lo := 0) (n := p.length) (fun i σ H' => ∃ (v : V) (us : List V) (x5 x6 : Option V), σ = [some (.ref s), some (.str (evS p)), some v, some (.int (R.at (p.take i)).2), some (.ref q), x5, x6] ∧ Same H H' ∧ NodeV K H' v (R.at (p.take i)).1 ∧ H' q = some (.lst us) ∧ Paired (PEV K H') us (R.runsTo p i)) ?_ ?_ ?_⟩
  · refine ⟨_, _, none, none, rfl, s02, st0.mono (keep_same (s1.trans s2)), upd_same, .cons ⟨a1, .ref a0, rfl, SqT.of (s2 _ _ upd_same), st0.mono (keep_same (s1.trans s2))⟩ .nil⟩
  · rintro i σ H1 hi ⟨v, us, x5, x6, rfl, s3, hv, hq1, hus⟩
    obtain ⟨e, he⟩ : ∃ e, p[i]? = some e := ⟨p[i]'hi, List.getElem?_eq_getElem hi⟩
    have hR1 := hR.same s3
    have hat := evS_atI he
    have lz : (evS p).length ≤ sizeLine := Nat.le_trans (by rw [el]; exact hlen) (by decide)
    obtain ⟨m0, m1⟩ := (hl.take i).marks hok
    refine ⟨_, rfl, _, rfl, _, _, _, rfl, rfl, lz, hat, _, rfl, _, rfl, _, rfl, rfl, s, l, R, v, (R.at (p.take i)).1, _, rfl, hR1.1, hargs, hv, ?_⟩
    rw [e_int]
    have hm := hl.evs he
    refine ⟨e.cp, _, rfl, rfl, _, rfl, iteN (fun z => absurd (ev_mem.mpr hm) z) (fun _ => ?_)⟩
    refine ⟨_, rfl, _, rfl, _, rfl, _, rfl, _, _, _, rfl, rfl, lz, hat, s, l, R, v, (R.at (p.take i)).1, e, rfl, hR1, hv, hok, m0, m1, fun pa u H2 s4 hpa hu => ?_⟩
    refine ⟨_, rfl, pa, _, _, _, rfl, rfl, SqT.of hpa, rfl, ?_⟩
    refine ⟨_, rfl, _, rfl, pa, _, _, _, rfl, rfl, SqT.of hpa, rfl, _, _, rfl, rfl, ?_⟩
    have hq2 := s4 _ _ hq1
    refine ⟨_, rfl, .inl ⟨rfl, _, .inl (.inl hq2)⟩, _, rfl, _, rfl, (by show 2 ≤ sizeLine; decide), fun t ht => ?_⟩
    have s5 := same_new (o := .tup [u, .int ((R.at (p.take i)).2 + (R.step (R.at (p.take i)).1 e).2)]) ht
    have eu := Paired.length hus
    have er : (R.runsTo p i).length = i + 1 := by unfold RowM.runsTo; rw [List.length_map, List.length_range]
    refine ⟨q, _, _, rfl, rfl, s5 _ _ hq2, by rw [eu, er]; exact Nat.lt_of_le_of_lt (show i + 1 ≤ 1001 by omega) (by decide), ?_⟩
    have b6 : But q (upd H2 t (.tup [u, .int ((R.at (p.take i)).2 + (R.step (R.at (p.take i)).1 e).2)])) (upd (upd H2 t (.tup [u, .int ((R.at (p.take i)).2 + (R.step (R.at (p.take i)).1 e).2)])) q (.lst (us ++ [.ref t]))) := But.upd
    have k6 := keep_lst (K := K) b6 (s5 _ _ hq2)
    have k26 : KeepT K H2 _ := fun a' xs h' => k6 _ _ (keep_same s5 _ _ h')
    have k16 : KeepT K H1 _ := fun a' xs h' => k26 _ _ (keep_same s4 _ _ h')
    have ea : R.at (p.take (i + 1)) = ((R.step (R.at (p.take i)).1 e).1, (R.at (p.take i)).2 + (R.step (R.at (p.take i)).1 e).2) := by rw [take_snoc he, at_snoc]
    refine ⟨u, us ++ [.ref t], _, _, by rw [ea]; rfl, fun b o hb => b6 _ _ (s5 _ _ (s4 _ _ (s3 _ _ hb))) (ne_of_none hb hqH), by rw [ea]; exact hu.mono k26, upd_same, ?_⟩
    rw [runsTo_succ]
    refine pr_app (Paired.mapP hus fun _ _ z => z.mono k16) (.cons ⟨t, u, rfl, k6 _ _ (by rw [ea]; exact SqT.of upd_same), by rw [ea]; exact hu.mono k26⟩ .nil)
  · rintro σ H1 ⟨v, us, x5, x6, rfl, s3, hv, hq1, hus⟩
    refine ⟨_, rfl, _, rfl, (by show 2 ≤ sizeLine; decide), fun t ht => ?_⟩
    have s4 := same_new (o := .tup [.int (-1), .ref q]) ht
    exact k t q us _ (s3.trans s4) upd_same (s4 _ _ hq1) (Paired.mapP hus fun _ _ z => z.mono (keep_same s4))

/-! ### papers on the heap -/
theorem runs_end {K : PySem.W.Frag} {H : Hp} {us : List V} {R : RowM} {p : List Ev} {n : Node} {h : Int} (hl : Life R p n h) (hus : Paired (PEV K H) us (R.runs p)) : ∃ (b : Addr) (u : V), atI us (-1) = some (.ref b) ∧ SqT K H b [u, .int h] ∧ NodeV K H u n := by
  obtain ⟨xs, er⟩ := runs_last R p
  rw [er, hl.at] at hus
  have key : ∀ {us : List V} {xs : List (Node × Int)}, Paired (PEV K H) us (xs ++ [(n, h)]) → ∃ us' v, us = us' ++ [v] ∧ PEV K H v (n, h) := fun {us xs} => by
    induction xs generalizing us with
    | nil =>
      intro h
      cases h with
      | cons r t => cases t; exact ⟨[], _, rfl, r⟩
    | cons x xs ih =>
      intro h
      cases h with
      | @cons y _ ys _ r t =>
        obtain ⟨us', v, e, z⟩ := ih t
        exact ⟨y :: us', v, by rw [e]; rfl, z⟩
  obtain ⟨us', v, rfl, b, u, rfl, hb, hu⟩ := key hus
  exact ⟨b, u, atI_last us' _, hb, hu⟩
theorem PEV.same {K : PySem.W.Frag} {H H' : Hp} (s : Same H H') {us : List V} {xs : List (Node × Int)} (h : Paired (PEV K H) us xs) : Paired (PEV K H') us xs := Paired.mapP h fun _ _ z => z.mono (keep_same s)
theorem PEV.keep {K : PySem.W.Frag} {H H' : Hp} (s : KeepT K H H') {us : List V} {xs : List (Node × Int)} (h : Paired (PEV K H) us xs) : Paired (PEV K H') us xs := Paired.mapP h fun _ _ z => z.mono s
def kvsP (ps : List (Node × Int)) : List (NestedKey × V) := ps.map fun x => (keyN x.1, V.int x.2)
theorem kvsP_val (n : Node) : ∀ ps : List (Node × Int), valN (kvsP ps) (keyN n) = (lookP ps n).map V.int
  | [] => rfl
  | x :: ps => by
    have ih := kvsP_val n ps
    unfold kvsP valN lookP at ih ⊢
    rw [List.map_cons, List.find?_cons, List.find?_cons]
    by_cases e : x.1 = n
    · have e1 : decide (keyN x.1 = keyN n) = true := decide_eq_true (by rw [e])
      simp only [e1, decide_eq_true e]
      rfl
    · have e1 : decide (keyN x.1 = keyN n) = false := decide_eq_false fun z => e (keyN_inj z)
      simp only [e1, decide_eq_false e]
      exact ih
theorem kvsP_in (n : Node) (ps : List (Node × Int)) : (valN (kvsP ps) (keyN n)).isSome = decide (n ∈ ps.map fun x => x.1) := by
  rw [kvsP_val, Option.isSome_map]
  unfold lookP
  rw [Option.isSome_map]
  induction ps with
  | nil => rfl
  | cons x ps ih =>
    rw [List.find?_cons]
    by_cases e : x.1 = n
    · rw [decide_eq_true e]
      exact (decide_eq_true (List.mem_map.mpr ⟨x, List.mem_cons_self, e⟩)).symm
    · rw [decide_eq_false e]
      simp only
      rw [ih]
      refine decide_eq_decide.mpr ⟨fun h => ?_, fun h => ?_⟩
      · obtain ⟨y, hy, ey⟩ := List.mem_map.mp h
        exact List.mem_map.mpr ⟨y, List.mem_cons_of_mem _ hy, ey⟩
      · obtain ⟨y, hy, ey⟩ := List.mem_map.mp h
        rcases List.mem_cons.mp hy with c | c
        · rw [c] at ey; exact absurd ey e
        · exact List.mem_map.mpr ⟨y, c, ey⟩
theorem kvsP_put {n : Node} {h : Int} {ps : List (Node × Int)} (hn : n ∉ ps.map fun x => x.1) : putN (kvsP ps) (keyN n) (.int h) = kvsP (ps ++ [(n, h)]) := by
  unfold putN
  rw [kvsP_in, decide_eq_false hn, if_neg (by decide)]
  unfold kvsP
  rw [List.map_append]
  rfl
theorem lookP_none {n : Node} {ps : List (Node × Int)} (hn : n ∉ ps.map fun x => x.1) : lookP ps n = none := by
  have h := kvsP_in n ps
  rw [decide_eq_false hn, kvsP_val, Option.isSome_map] at h
  cases e : lookP ps n with
  | none => rfl
  | some z => rw [e] at h; cases h
theorem lookP_some {n : Node} {ps : List (Node × Int)} (hn : n ∈ ps.map fun x => x.1) : ∃ h, lookP ps n = some h := by
  have h := kvsP_in n ps
  rw [decide_eq_true hn, kvsP_val, Option.isSome_map] at h
  cases e : lookP ps n with
  | none => rw [e] at h; cases h
  | some z => exact ⟨z, rfl⟩
def nodeD (n : Node) : PyData := .tuple [.int n.m, .bool n.al, .str n.st.str]
theorem NodeV.dp {K : PySem.W.Frag} {H : Hp} {v : V} {n : Node} (h : NodeV K H v n) : Dp K H v (nodeD n) := by
  obtain ⟨a, rfl, s⟩ := h
  exact .tup s (.cons (.int _) (.cons (.bl _) (.cons (.str _) .nil)))
theorem nodeD_eq (a b : Node) : PyData.eqv (nodeD a) (nodeD b) = decide (a = b) := by
  obtain ⟨m, al, st⟩ := a
  obtain ⟨m', al', st'⟩ := b
  by_cases h : (⟨m, al, st⟩ : Node) = ⟨m', al', st'⟩
  · injection h with h1 h2 h3
    subst h1 h2 h3
    rw [decide_eq_true rfl]
    simp [nodeD, PyData.eqv, PyData.eqvAll]
  · rw [decide_eq_false h]
    have h2 : ¬ (m = m' ∧ al = al' ∧ st.str = st'.str) := fun z => h (by rw [z.1, z.2.1, sta_inj z.2.2])
    have : ¬ PyData.eqv (nodeD ⟨m, al, st⟩) (nodeD ⟨m', al', st'⟩) = true := fun z => h2 (by
      simpa [nodeD, PyData.eqv, PyData.eqvAll] using z)
    simpa using this
theorem node_eq {K : PySem.W.Frag} {H : Hp} {x y : V} {a b : Node} {Q : VK} (hx : NodeV K H x a) (hy : NodeV K H y b) (k : Q (.bl (decide (a = b))) H) : rEqP K x y H Q :=
  ⟨_, _, _, hx.dp, hy.dp, rfl, rfl, by show 1 ≤ 60; decide, nodeD_eq a b, k⟩

theorem agree_some {R : RowM} {paper : List (Node × Int)} {n : Node} {h : Int} {es : List Ev} (he : R.evs n (decide (n = start)) = es) {j : Nat} {e : Ev} (hj : es[j]? = some e) {b : Bool} (hb : b = false) (hn : lookP paper (R.step n e).1 ≠ some (h + (R.step n e).2)) : b = true ↔ AgreeAt R paper (n, h) := by
  subst hb
  refine ⟨fun z => (by cases z), fun z => absurd (z e ?_) hn⟩
  show e ∈ R.evs n (decide (n = start))
  rw [he]
  exact List.mem_of_getElem? hj
theorem agree_all {R : RowM} {paper : List (Node × Int)} {n : Node} {h : Int} {es : List Ev} (he : R.evs n (decide (n = start)) = es) {b : Bool} (hb : b = true) (ha : ∀ e ∈ es.take es.length, lookP paper (R.step n e).1 = some (h + (R.step n e).2)) : b = true ↔ AgreeAt R paper (n, h) := by
  subst hb
  refine ⟨fun _ e hm => ha e ?_, fun _ => rfl⟩
  rw [List.take_of_length_le (Nat.le_refl _), ← he]
  exact hm

def sp_steps_agree (P : Program) (w : World) (K : PySem.W.Frag) : Sp := fun vs H Q _ => ∃ (a kd : Addr) (R : RowM) (paper : List (Node × Int)) (v : V) (n : Node) (h : Int), vs = [.ref a, .ref kd, v] ∧ RowV K H a R ∧ RuleOk R.rule ∧ DkAt P w K H kd (kvsP paper) ∧ NodeV K H v n ∧ 0 ≤ n.m ∧ n.m < (R.rule.length : Int) ∧ lookP paper n = some h ∧
  ∀ (b : Bool) (H' : Hp), Same H H' → (b = true ↔ AgreeAt R paper (n, h)) → Q (.bl b) H'
theorem DkAt.same {P : Program} {w : World} {K : PySem.W.Frag} {H H' : Hp} {d : Addr} {kvs : List (NestedKey × V)} (h : DkAt P w K H d kvs) (s : Same H H') : DkAt P w K H' d kvs := by
  obtain ⟨ys, d1, d2⟩ := id h
  exact h.mono (keep_same s) (by rw [d1]; exact s _ _ d1)
theorem c_steps_agree (T : Tx K mg) : C8.Cal P w K mg base 4 "steps_agree" (sp_steps_agree P w K) [] := by
  have C_possible := c_possible (P := P) (w := w) (base := base) T
  have C_step := c_step (P := P) (w := w) (base := base) T
  refine c_mk T.d_steps_agree sc_steps_agree (fun vs H Q E h => ?_) (fun f cdv A outer s H vs Q E hr h => ?_)
  · first | (obtain ⟨rfl, _⟩ := h; rfl) | (obtain ⟨_, rfl, _⟩ := h; rfl) | (obtain ⟨_, _, rfl, _⟩ := h; rfl) | (obtain ⟨_, _, _, rfl, _⟩ := h; rfl) | (obtain ⟨_, _, _, _, rfl, _⟩ := h; rfl) | (obtain ⟨_, _, _, _, _, rfl, _⟩ := h; rfl) | (obtain ⟨_, _, _, _, _, _, rfl, _⟩ := h; rfl) | (obtain ⟨_, _, _, _, _, _, _, rfl, _⟩ := h; rfl) | (obtain ⟨_, _, _, _, _, _, _, _, rfl, _⟩ := h; rfl) | (obtain ⟨_, _, _, _, _, _, _, _, _, rfl, _⟩ := h; rfl) | (obtain ⟨_, _, _, _, _, _, _, _, _, _, rfl, _⟩ := h; rfl) | (obtain ⟨_, _, _, _, _, _, _, _, _, _, _, rfl, _⟩ := h; rfl) | (obtain ⟨_, _, _, _, _, _, _, _, _, _, _, _, rfl, _⟩ := h; rfl) | (obtain ⟨_, _, _, _, _, _, _, _, _, _, _, _, _, rfl, _⟩ := h; rfl)
  have hu := hu_of hr
  refine ⟨_, (pss_cons (ps_for PassesOwn.never rfl (pi_str (C8.pe_c (C_possible) hr (by decide) rfl (pa_cons (pv 0) (pa_cons (pv 2) (pa_cons (pe_cmpR (op_eqP hr.units) (pv 2) (pe_glob (v := .ref (He.ga K "START")) rfl T.g_START rfl) (nomark _)) pa_nil))))) (pg_name (i := 3) sc_steps_agree.nd rfl (by first | exact Or.inl rfl | exact Or.inr rfl)) (pss_cons (ps_asg (C8.pe_c (C_step) hr (by decide) rfl (pa_cons (pv 0) (pa_cons (pv 2) (pa_cons (pv 3) pa_nil)))) (pg_tup rfl (pgs_cons (pg_name (i := 4) sc_steps_agree.nd rfl (by first | exact Or.inl rfl | exact Or.inr rfl)) (pgs_cons (pg_name (i := 5) sc_steps_agree.nd rfl (by first | exact Or.inl rfl | exact Or.inr rfl)) pgs_nil))))
    (pss_one (ps_if (PW.pt (pw_or (pt_cmpR (op_notInN hr.units) (pv 4) (pv 1) (by with_unfolding_all rfl)) (pw_or1 (pt_cmpR op_ne (pe_dgetN hr.units (pv 1) (pv 4) (fun _ _ => rfl)) (pe_op op_add (pe_dgetN hr.units (pv 1) (pv 2) (fun _ _ => rfl)) (pv 5)) (nomark _))))) (pss_one (ps_ret pe_bl)) pss_nil))))
    (pss_one (ps_ret pe_bl))), ?_⟩
  obtain ⟨a, kd, R, paper, v, n, h, rfl, hR, hok, hD, hv, m0, m1, hlk, k⟩ := h
  have hst : ∀ H : Hp, NodeV K H (.ref (He.ga K "START")) start := fun H => dp_start (T.v_START H)
  refine ⟨_, rfl, _, rfl, _, rfl, ?_⟩
  refine ⟨nodeD n, nodeD start, _, hv.dp, (hst H).dp, rfl, rfl, (by show 1 ≤ 60; decide), nodeD_eq n start, ?_⟩
  refine ⟨a, R, v, n, _, rfl, hR, hv, fun H1 s1 => ?_⟩
  generalize hes : R.evs n (decide (n = start)) = es
  have hv1 := hv.mono (keep_same (K := K) s1)
  refine ⟨_, rfl, for_ev (es := es) (fun j σ H2 => ∃ (x3 x4 x5 : Option V), σ = [some (.ref a), some (.ref kd), some v, x3, x4, x5] ∧ Same H H2 ∧ ∀ e ∈ es.take j, lookP paper (R.step n e).1 = some (h + (R.step n e).2)) ⟨_, _, _, rfl, s1, fun e he => by cases he⟩ ?_ ?_⟩
  · rintro j e σ H2 he ⟨x3, x4, x5, rfl, s2, hall⟩
    have hv2 := hv.mono (keep_same (K := K) s2)
    refine ⟨_, rfl, _, rfl, _, rfl, a, R, v, n, e, rfl, hR.same s2, hv2, hok, m0, m1, fun p u H3 s3 h3 hu3 => ?_⟩
    refine ⟨p, _, rfl, SqT.of h3, rfl, _, _, rfl, _, _, rfl, rfl, ?_⟩
    have s23 := s2.trans s3
    have hD3 := DkAt.same hD s23
    have hv3 := hv.mono (keep_same (K := K) s23)
    obtain ⟨u', rfl, hu'⟩ := id hu3
    obtain ⟨v', rfl, hv'⟩ := id hv3
    refine ⟨_, rfl, _, rfl, u', kd, _, _, rfl, rfl, hD3, hu3.key, keyN_depth _, _, rfl, ?_⟩
    rw [kvsP_in]
    refine iteN (fun hn => ?_) (fun hn => ?_)
    · exact k false H3 s23 (agree_some hes he rfl (by rw [lookP_none hn]; intro z; cases z))
    · obtain ⟨h2, e2⟩ := lookP_some hn
      refine ⟨_, rfl, _, rfl, kd, u', _, _, _, rfl, rfl, hD3, hu3.key, keyN_depth _, by rw [kvsP_val, e2]; rfl, ?_⟩
      refine ⟨_, rfl, _, rfl, kd, v', _, _, _, rfl, rfl, hD3, hv3.key, keyN_depth _, by rw [kvsP_val, hlk]; rfl, ?_⟩
      refine ⟨_, rfl, _, _, rfl, rfl, rfl, _, rfl, ?_⟩
      rw [e_int]
      refine iteN (fun hx => ?_) (fun hx => ?_)
      · exact k false H3 s23 (agree_some hes he rfl (by rw [e2]; intro z; injection z with z; exact hx z))
      · refine ⟨_, _, _, rfl, s23, fun e' he' => ?_⟩
        rw [take_snoc he] at he'
        rcases List.mem_append.mp he' with m | m
        · exact hall e' m
        · rw [List.mem_singleton.mp m, e2, hx]
  · rintro σ H2 ⟨x3, x4, x5, rfl, s2, hall⟩
    exact k true H2 s2 (agree_all hes rfl hall)
def sp_judge_holdings (K : PySem.W.Frag) : Sp := fun vs H Q _ => ∃ (a q : Addr) (R : RowM) (home : Int) (us : List V) (paper : List (Node × Int)), vs = [.ref a, .int home, .ref q] ∧ RowV K H a R ∧ RuleOk R.rule ∧ SqL K H q us ∧ Paired (PEV K H) us paper ∧ paper.length ≤ 1000 ∧
  ∀ (b : Bool) (H' : Hp), Same H H' → (b = true ↔ Judge R home paper) → Q (.bl b) H'
theorem judge_no {R : RowM} {home : Int} {paper : List (Node × Int)} (h : ¬ Judge R home paper) : false = true ↔ Judge R home paper := ⟨fun z => (by cases z), fun z => absurd z h⟩
theorem not_nodup {paper : List (Node × Int)} {i : Nat} {n : Node} {h : Int} (hi : paper[i]? = some (n, h)) (hn : n ∈ (paper.take i).map fun x => x.1) : ¬ (paper.map fun x => x.1).Nodup := fun nd => by
  obtain ⟨x, hx, ex⟩ := List.mem_map.mp hn
  obtain ⟨j, hj⟩ := List.mem_iff_getElem?.mp hx
  have jl := (List.getElem?_eq_some_iff.mp hj).1
  rw [List.length_take] at jl
  rw [List.getElem?_take_of_lt (by omega)] at hj
  have := nodup_at (i := j) (j := i) nd (by rw [List.getElem?_map, hj]; rfl) (by rw [List.getElem?_map, hi]; exact congrArg some ex.symm)
  omega
theorem c_judge_holdings (T : Tx K mg) : C8.Cal P w K mg base 5 "judge_holdings" (sp_judge_holdings K) [] := by
  have C_fault := c_fault (P := P) (w := w) (base := base) T
  have C_steps_agree := c_steps_agree (P := P) (w := w) (base := base) T
  refine c_mk T.d_judge_holdings sc_judge_holdings (fun vs H Q E h => ?_) (fun f cdv A outer s H vs Q E hr h => ?_)
  · first | (obtain ⟨rfl, _⟩ := h; rfl) | (obtain ⟨_, rfl, _⟩ := h; rfl) | (obtain ⟨_, _, rfl, _⟩ := h; rfl) | (obtain ⟨_, _, _, rfl, _⟩ := h; rfl) | (obtain ⟨_, _, _, _, rfl, _⟩ := h; rfl) | (obtain ⟨_, _, _, _, _, rfl, _⟩ := h; rfl) | (obtain ⟨_, _, _, _, _, _, rfl, _⟩ := h; rfl) | (obtain ⟨_, _, _, _, _, _, _, rfl, _⟩ := h; rfl) | (obtain ⟨_, _, _, _, _, _, _, _, rfl, _⟩ := h; rfl) | (obtain ⟨_, _, _, _, _, _, _, _, _, rfl, _⟩ := h; rfl) | (obtain ⟨_, _, _, _, _, _, _, _, _, _, rfl, _⟩ := h; rfl) | (obtain ⟨_, _, _, _, _, _, _, _, _, _, _, rfl, _⟩ := h; rfl) | (obtain ⟨_, _, _, _, _, _, _, _, _, _, _, _, rfl, _⟩ := h; rfl) | (obtain ⟨_, _, _, _, _, _, _, _, _, _, _, _, _, rfl, _⟩ := h; rfl)
  have hu := hu_of hr
  refine ⟨_, (pss_cons (ps_set (i := 3) sc_judge_holdings.nd rfl (by first | exact Or.inl rfl | exact Or.inr rfl) pe_dnewN)
    (pss_cons (ps_for PassesOwn.never rfl (pi_list (pv 2)) (pg_tup rfl (pgs_cons (pg_name (i := 4) sc_judge_holdings.nd rfl (by first | exact Or.inl rfl | exact Or.inr rfl)) (pgs_cons (pg_name (i := 5) sc_judge_holdings.nd rfl (by first | exact Or.inl rfl | exact Or.inr rfl)) pgs_nil))) (pss_cons (ps_if (PW.pt (pw_or (pt_cmpR (op_inN hr.units) (pv 4) (pv 3) (by with_unfolding_all rfl)) (pw_or1 (pt_not (pt_chain op_le op_lt pe_int (pe_ix ix_tup (pv 4) pe_int (fun _ _ => rfl)) (pe_callB call_len_seq rfl T.b_len (by decide +kernel) (pa_cons (pe_fld (pv 0) rfl) pa_nil))))))) (pss_one (ps_ret pe_bl)) pss_nil)
    (pss_one (ps_asg (pv 5) (pg_sub (pv 3) (pv 4) (ps_setN hr.units))))))
    (pss_cons (ps_if (PW.pt (pw_or (pt_cmpR (op_notInN hr.units) (pe_glob (v := .ref (He.ga K "START")) rfl T.g_START rfl) (pv 3) (by with_unfolding_all rfl)) (pw_or1 (pt_cmpR op_ne (pe_dgetN hr.units (pv 3) (pe_glob (v := .ref (He.ga K "START")) rfl T.g_START rfl) (fun _ _ => rfl)) pe_int (nomark _))))) (pss_one (ps_ret pe_bl)) pss_nil)
    (pss_cons (ps_for PassesOwn.never rfl (pi_list (pv 2)) (pg_tup rfl (pgs_cons (pg_name (i := 4) sc_judge_holdings.nd rfl (by first | exact Or.inl rfl | exact Or.inr rfl)) (pgs_cons (pg_name (i := 5) sc_judge_holdings.nd rfl (by first | exact Or.inl rfl | exact Or.inr rfl)) pgs_nil))) (pss_one (ps_if (PW.pt (pw_or (pt_cmpR op_notN (C8.pe_c (C_fault) hr (by decide) rfl (pa_cons (pv 0) (pa_cons (pv 1) (pa_cons (pv 4) (pa_cons (pv 5) pa_nil))))) pe_non (nomark _)) (pw_or1 (pt_not (pt_val (C8.pe_c (C_steps_agree) hr (by decide) rfl (pa_cons (pv 0) (pa_cons (pv 3) (pa_cons (pv 4) pa_nil))))))))) (pss_one (ps_ret pe_bl)) pss_nil)))
    (pss_one (ps_ret pe_bl)))))), ?_⟩
  obtain ⟨a, q, R, home, us, paper, rfl, hR, hok, hq, hus, hlen, k⟩ := h
  have hst : ∀ H : Hp, NodeV K H (.ref (He.ga K "START")) start := fun H => dp_start (T.v_START H)
  obtain ⟨dx, r, hr1, rs, hr2, hr3⟩ := id hR
  have erl := Paired.length hr3
  have elen := Paired.length hus
  refine fun kd hkd => ?_
  have s0 := same_new (o := DkO P w kd []) hkd
  refine ⟨_, rfl, q, rfl, ⟨_, s0.seq hq⟩, for_list (xs := us) (fun i σ H2 => ∃ (x4 x5 : Option V), σ = [some (.ref a), some (.int home), some (.ref q), some (.ref kd), x4, x5] ∧ Same H H2 ∧ DkAt P w K H2 kd (kvsP (paper.take i)) ∧ ((paper.take i).map fun x => x.1).Nodup ∧ ∀ x ∈ paper.take i, 0 ≤ x.1.m ∧ x.1.m < (R.rule.length : Int)) ⟨none, none, rfl, s0, DkAt.new, List.nodup_nil, fun x hx => by cases hx⟩ (fun i σ H2 _ ⟨_, _, _, h, _⟩ => h.seq hq) ?_ ?_⟩
  · rintro i y σ H2 hi ⟨x4, x5, rfl, s2, hD, hnd, hmk⟩
    have hil := (List.getElem?_eq_some_iff.mp hi).1
    obtain ⟨y', x, e1, e2, b, u, rfl, hb, hu⟩ := pr_get (PEV.same s2 hus) i (by omega)
    rw [hi] at e1
    cases e1
    obtain ⟨n, h⟩ := x
    have tk := take_snoc e2
    refine ⟨b, _, rfl, hb, rfl, _, _, rfl, _, _, rfl, rfl, ?_⟩
    obtain ⟨u', rfl, hu'⟩ := id hu
    have hu1 : NodeV K H2 (.ref u') n := hu
    refine ⟨_, rfl, _, rfl, u', kd, _, _, rfl, rfl, hD, hu1.key, keyN_depth _, _, rfl, ?_⟩
    show if (valN (kvsP (paper.take i)) (keyN n)).isSome = true then _ else _
    rw [kvsP_in]
    refine iteD (fun hn => ?_) (fun hn => ?_)
    · exact k false H2 s2 (judge_no fun j => not_nodup e2 hn j.nd)
    have bad : ¬ (0 ≤ n.m ∧ n.m < (R.rule.length : Int)) → ¬ Judge R home paper := fun z j => z (j.mks _ (List.mem_of_getElem? e2))
    have go : 0 ≤ n.m → n.m < (R.rule.length : Int) → ∀ H7 : Hp, (∀ b, b ≠ kd → H7 b = H2 b) → KeepT K H2 H7 → DkAt P w K H7 kd (putN (kvsP (paper.take i)) (keyN n) (.int h)) → Same H H7 ∧ DkAt P w K H7 kd (kvsP (paper.take (i + 1))) ∧ ((paper.take (i + 1)).map fun x => x.1).Nodup ∧ ∀ x ∈ paper.take (i + 1), 0 ≤ x.1.m ∧ x.1.m < (R.rule.length : Int) := fun g0 g1 H7 hne kt hD7 => by
      refine ⟨fun b o hb => by rw [hne b (ne_of_none hb hkd)]; exact s2 _ _ hb, by rw [tk, ← kvsP_put hn]; exact hD7, ?_, fun x hx => ?_⟩
      · rw [tk, List.map_append, List.nodup_append]
        refine ⟨hnd, by simp, fun z1 hz1 z2 hz2 => ?_⟩
        cases (List.mem_singleton.mp hz2)
        rintro rfl
        exact hn hz1
      · rw [tk] at hx
        rcases List.mem_append.mp hx with m | m
        · exact hmk x m
        · cases (List.mem_singleton.mp m); exact ⟨g0, g1⟩
    refine ⟨_, rfl, u', _, _, _, rfl, rfl, hu', rfl, _, _, rfl, rfl, _, rfl, iteD (fun g0 => ?_) (fun g0 => ?_)⟩
    · refine ⟨_, rfl, _, _, _, _, _, rfl, s2 _ _ hr1, T.cl_Row, T.n_Row_rule, row_rule _ _, r, _, rfl, .inr (keep_same s2 _ _ hr2), _, _, rfl, rfl, _, rfl, ?_⟩
      rw [erl]
      refine iteN (fun g1 => ?_) (fun g1 => ?_)
      · exact k false H2 s2 (judge_no (bad fun z => g1 z.2))
      · have kl : (kvsP (paper.take i)).length < sizeLine := by
          unfold kvsP
          rw [List.length_map]
          exact Nat.lt_of_le_of_lt (Nat.le_trans (List.length_take_le' _ _) hlen) (by decide)
        refine ⟨_, rfl, _, rfl, _, rfl, kd, u', _, _, rfl, rfl, hD, hu1.key, keyN_depth _, kl, fun H7 hne kt hD7 => ?_⟩
        exact ⟨_, _, rfl, go g0 g1 H7 hne kt hD7⟩
    · exact ⟨_, rfl, iteT (k false H2 s2 (judge_no (bad fun z => g0 z.1)))⟩
  · rintro σ H2 ⟨x4, x5, rfl, s2, hD, hnd, hmk⟩
    rw [elen, List.take_of_length_le (Nat.le_refl _)] at hD hnd hmk
    refine ⟨_, rfl, He.ga K "START", kd, _, _, rfl, rfl, hD, (hst H2).key, keyN_depth _, _, rfl, ?_⟩
    rw [kvsP_in]
    refine iteN (fun hn => ?_) (fun hn => ?_)
    · exact k false H2 s2 (judge_no fun j => by
        have := j.st
        rw [lookP_none hn] at this
        cases this)
    obtain ⟨h0, e0⟩ := lookP_some hn
    refine ⟨_, rfl, kd, He.ga K "START", _, _, _, rfl, rfl, hD, (hst H2).key, keyN_depth _, by rw [kvsP_val, e0]; rfl, rfl, _, rfl, ?_⟩
    rw [e_int]
    refine iteN (fun hx => ?_) (fun hx => ?_)
    · exact k false H2 s2 (judge_no fun j => by
        have := j.st
        rw [e0] at this
        injection this with this
        exact hx this)
    rw [hx] at e0
    refine ⟨_, rfl, q, rfl, ⟨_, s2.seq hq⟩, for_list (xs := us) (fun i σ H3 => ∃ (x4 x5 : Option V), σ = [some (.ref a), some (.int home), some (.ref q), some (.ref kd), x4, x5] ∧ Same H2 H3 ∧ ∀ x ∈ paper.take i, R.fault home x.1 x.2 = none ∧ AgreeAt R paper x) ⟨_, _, rfl, Same.refl _, fun x hx => by cases hx⟩ (fun i σ H3 _ ⟨_, _, _, h, _⟩ => (s2.trans h).seq hq) ?_ ?_⟩
    · rintro i y σ H3 hi ⟨y4, y5, rfl, s3, hall⟩
      have hil := (List.getElem?_eq_some_iff.mp hi).1
      have s23 := s2.trans s3
      obtain ⟨y', x, e1, e2, b, u, rfl, hb, hu⟩ := pr_get (PEV.same s23 hus) i (by omega)
      rw [hi] at e1
      cases e1
      obtain ⟨n, h⟩ := x
      have xm := List.mem_of_getElem? e2
      have tk := take_snoc e2
      refine ⟨b, _, rfl, hb, rfl, _, _, rfl, _, _, rfl, rfl, ?_⟩
      refine ⟨_, rfl, _, rfl, _, rfl, _, rfl, a, R, home, u, n, h, rfl, hR.same s23, hu, ?_⟩
      cases hf : R.fault home n h with
      | some wf =>
        refine ⟨rfl, _, rfl, iteT ?_⟩
        exact k false H3 s23 (judge_no fun j => by
          have := (j.ok _ xm).1
          rw [hf] at this
          cases this)
      | none =>
        refine ⟨rfl, _, rfl, iteF ?_⟩
        obtain ⟨g0, g1⟩ := hmk _ xm
        refine ⟨_, rfl, _, rfl, _, rfl, a, kd, R, paper, u, n, h, rfl, hR.same s23, hok, DkAt.same hD s3, hu, g0, g1, lookP_of hnd xm, fun bb H4 s4 hbb => ?_⟩
        refine ⟨_, rfl, ?_⟩
        cases bb with
        | false =>
          refine iteT (k false H4 (s23.trans s4) (judge_no fun j => ?_))
          cases hbb.mpr (j.ok _ xm).2
        | true =>
          refine iteF ⟨_, _, rfl, s3.trans s4, fun x hx => ?_⟩
          rw [tk] at hx
          rcases List.mem_append.mp hx with m | m
          · exact hall x m
          · cases (List.mem_singleton.mp m)
            exact ⟨hf, hbb.mp rfl⟩
    · rintro σ H3 ⟨y4, y5, rfl, s3, hall⟩
      rw [elen, List.take_of_length_le (Nat.le_refl _)] at hall
      exact k true H3 (s2.trans s3) ⟨fun _ => ⟨hnd, hmk, e0, hall⟩, fun _ => rfl⟩

theorem Reach.le {R : RowM} {home : Int} (hr : RuleOk R.rule) {i : Nat} {q : List QE} (h : Reach R home i q) : i ≤ q.length := by
  cases h with
  | zero => exact Nat.zero_le _
  | @succ i q _ x h1 h2 h3 =>
    obtain ⟨a, _⟩ := h1.qok hr
    obtain ⟨m0, m1⟩ := a.mark hr h2
    obtain ⟨⟨r, e1, _, _⟩, _, _⟩ := inner_ok hr m0 m1 (a.len i x h2) _ _ _ a (List.getElem?_eq_some_iff.mp h2).1 h3
    have := (List.getElem?_eq_some_iff.mp h2).1
    rw [e1, List.length_append]
    omega
def sp__law_first_flaw (K : PySem.W.Frag) : Sp := fun vs H Q _ => ∃ (a l : Addr) (R : RowM) (home : Int), vs = [.ref a, .int home] ∧ SpecV K H a l R ∧ HeldArgs R ∧ RuleOk R.rule ∧ ∀ (res : Option (Str × Str)) (v : V) (H' : Hp), Same H H' → FlawR R home res → FlV H' v res → Q v H'
theorem c__law_first_flaw (T : Tx K mg) : C8.Cal P w K mg base 3 "_law_first_flaw" (sp__law_first_flaw K) [] := by
  have C__law_events := c__law_events (P := P) (w := w) (base := base) T
  have C__law_fault := c__law_fault (P := P) (w := w) (base := base) T
  have C__law_next := c__law_next (P := P) (w := w) (base := base) T
  refine c_mk T.d__law_first_flaw sc__law_first_flaw (fun vs H Q E h => ?_) (fun f cdv A outer s H vs Q E hr h => ?_)
  · first | (obtain ⟨rfl, _⟩ := h; rfl) | (obtain ⟨_, rfl, _⟩ := h; rfl) | (obtain ⟨_, _, rfl, _⟩ := h; rfl) | (obtain ⟨_, _, _, rfl, _⟩ := h; rfl) | (obtain ⟨_, _, _, _, rfl, _⟩ := h; rfl) | (obtain ⟨_, _, _, _, _, rfl, _⟩ := h; rfl) | (obtain ⟨_, _, _, _, _, _, rfl, _⟩ := h; rfl) | (obtain ⟨_, _, _, _, _, _, _, rfl, _⟩ := h; rfl) | (obtain ⟨_, _, _, _, _, _, _, _, rfl, _⟩ := h; rfl) | (obtain ⟨_, _, _, _, _, _, _, _, _, rfl, _⟩ := h; rfl) | (obtain ⟨_, _, _, _, _, _, _, _, _, _, rfl, _⟩ := h; rfl) | (obtain ⟨_, _, _, _, _, _, _, _, _, _, _, rfl, _⟩ := h; rfl) | (obtain ⟨_, _, _, _, _, _, _, _, _, _, _, _, rfl, _⟩ := h; rfl) | (obtain ⟨_, _, _, _, _, _, _, _, _, _, _, _, _, rfl, _⟩ := h; rfl)
  have hu := hu_of hr
  refine ⟨_, (pss_cons (ps_set (i := 2) sc__law_first_flaw.nd rfl (by first | exact Or.inl rfl | exact Or.inr rfl) (pe_lst (pa_cons (pe_tup (pa_cons (pe_tup (pa_cons pe_int (pa_cons pe_bl (pa_cons pe_str pa_nil)))) (pa_cons pe_int (pa_cons pe_str pa_nil)))) pa_nil)))
    (pss_cons (ps_set (i := 3) sc__law_first_flaw.nd rfl (by first | exact Or.inl rfl | exact Or.inr rfl) pe_dnewN)
    (pss_cons (ps_for PassesOwn.never rfl (pi_range1 rfl T.b_range (pa_cons pe_int pa_nil)) (pg_name (i := 4) sc__law_first_flaw.nd rfl (by first | exact Or.inl rfl | exact Or.inr rfl)) (pss_cons (ps_if (pt_cmpR op_eq (pv 4) (pe_callB call_len_seq rfl T.b_len (by decide +kernel) (pa_cons (pv 2) pa_nil)) (nomark _)) (pss_one (ps_ret pe_non)) pss_nil)
    (pss_cons (ps_set (i := 5) sc__law_first_flaw.nd rfl (by first | exact Or.inl rfl | exact Or.inr rfl) (pe_ix ix_tup (pe_ix ix_list (pv 2) (pv 4) (fun _ _ => rfl)) pe_int (fun _ _ => rfl)))
    (pss_cons (ps_set (i := 6) sc__law_first_flaw.nd rfl (by first | exact Or.inl rfl | exact Or.inr rfl) (pe_ix ix_tup (pe_ix ix_list (pv 2) (pv 4) (fun _ _ => rfl)) pe_int (fun _ _ => rfl)))
    (pss_cons (ps_set (i := 7) sc__law_first_flaw.nd rfl (by first | exact Or.inl rfl | exact Or.inr rfl) (pe_ix ix_tup (pe_ix ix_list (pv 2) (pv 4) (fun _ _ => rfl)) pe_int (fun _ _ => rfl)))
    (pss_one (ps_for PassesOwn.never rfl (pi_str (C8.pe_c (C__law_events) hr (by decide) rfl (pa_cons (pv 0) (pa_cons (pv 5) (pa_cons (pe_cmpR op_eq (pv 7) pe_str (nomark _)) pa_nil))))) (pg_name (i := 8) sc__law_first_flaw.nd rfl (by first | exact Or.inl rfl | exact Or.inr rfl)) (pss_cons (ps_set (i := 9) sc__law_first_flaw.nd rfl (by first | exact Or.inl rfl | exact Or.inr rfl) (C8.pe_c (C__law_next) hr (by decide) rfl (pa_cons (pv 0) (pa_cons (pv 5) (pa_cons (pv 8) pa_nil)))))
    (pss_cons (ps_set (i := 10) sc__law_first_flaw.nd rfl (by first | exact Or.inl rfl | exact Or.inr rfl) (pe_op op_add (pv 6) (pe_ix ix_tup (pv 9) pe_int (fun _ _ => rfl))))
    (pss_cons (ps_set (i := 11) sc__law_first_flaw.nd rfl (by first | exact Or.inl rfl | exact Or.inr rfl) (C8.pe_c (C__law_fault) hr (by decide) rfl (pa_cons (pv 0) (pa_cons (pv 1) (pa_cons (pe_ix ix_tup (pv 9) pe_int (fun _ _ => rfl)) (pa_cons (pv 10) pa_nil))))))
    (pss_cons (ps_if (pt_cmpR op_notN (pv 11) pe_non (nomark _)) (pss_one (ps_ret (pe_tup (pa_cons (pe_op op_add_str (pv 7) (pv 8)) (pa_cons (pv 11) pa_nil))))) pss_nil)
    (pss_one (ps_if (pt_cmpR (op_notInN hr.units) (pe_tup (pa_cons (pe_ix ix_tup (pv 9) pe_int (fun _ _ => rfl)) (pa_cons (pv 10) pa_nil))) (pv 3) (by with_unfolding_all rfl)) (pss_cons (ps_asg pe_bl (pg_sub (pv 3) (pe_tup (pa_cons (pe_ix ix_tup (pv 9) pe_int (fun _ _ => rfl)) (pa_cons (pv 10) pa_nil))) (ps_setN hr.units)))
    (pss_one (ps_expr (pe_bm PySem.F.plainAttrs_list PySem.F.slot_list_append PySem.F.type_list_append mt_append (pv 2) (pa_cons (pe_tup (pa_cons (pe_ix ix_tup (pv 9) pe_int (fun _ _ => rfl)) (pa_cons (pv 10) (pa_cons (pe_op op_add_str (pv 7) (pv 8)) pa_nil)))) pa_nil))))) pss_nil)))))))))))))
    (pss_one (ps_ret pe_non))))), ?_⟩
  obtain ⟨a, l, R, home, rfl, hR, hargs, hok, k⟩ := h
  refine ⟨(by show 3 ≤ sizeLine; decide), fun p0 hp0 => ?_⟩
  have s0 := same_new (o := .tup [.int 0, .bl false, .str "shut"]) hp0
  refine ⟨(by show 3 ≤ sizeLine; decide), fun p hp => ?_⟩
  have s1 := same_new (o := .tup [.ref p0, .int 0, .str ""]) hp
  refine ⟨(by show 1 ≤ sizeLine; decide), fun qa hqa => ?_⟩
  have s2 := same_new (o := .lst [.ref p]) hqa
  refine fun kd hkd => ?_
  have s3 := same_new (o := DkO P w kd []) hkd
  have s012 := (s0.trans s1).trans s2
  have hqa0 : H qa = none := (s0.trans s1).free hqa
  have hkd0 : H kd = none := s012.free hkd
  have nqk : qa ≠ kd := ne_of_none upd_same hkd
  have st0 : NodeV K (upd H p0 (.tup [.int 0, .bl false, .str "shut"])) (.ref p0) start := ⟨p0, rfl, SqT.of upd_same⟩
  have W0 : WK P w K H _ qa kd [q0] :=
    ⟨s012.trans s3, hqa0, hkd0, nqk, ⟨[.ref p], s3 _ _ upd_same, .cons ⟨p, _, rfl, SqT.of (s3 _ _ (s2 _ _ upd_same)), st0.mono (keep_same (s1.trans (s2.trans s3)))⟩ .nil⟩, DkAt.new⟩
  refine ⟨3000, rfl, by decide, by decide, for_range (lo := 0) (n := 3000) (fun i σ H' => ∃ (q : List QE) (x5 x6 x7 x8 x9 x10 x11 : Option V) (x4 : Option V), Reach R home i q ∧ WK P w K H H' qa kd q ∧ σ = [some (.ref a), some (.int home), some (.ref qa), some (.ref kd), x4, x5, x6, x7, x8, x9, x10, x11]) ⟨[q0], none, none, none, none, none, none, none, none, .zero, W0, rfl⟩ ?_ ?_⟩
  · rintro i σ H1 hi ⟨q, x5, x6, x7, x8, x9, x10, x11, x4, hre, W, rfl⟩
    obtain ⟨us, hus, hqs⟩ := W.at_
    have elen := Paired.length hqs
    have hle := hre.le hok
    refine ⟨_, rfl, _, rfl, qa, us, rfl, .inl (SqL.of hus), rfl, _, rfl, ?_⟩
    rw [e_int]
    refine iteD (fun hc => k none .non H1 W.same ⟨i, q, hre, by omega⟩ rfl) (fun hc => ?_)
    have hi : i < q.length := by omega
    have hb := hre.bound hok
    obtain ⟨qk, ql⟩ := hre.qok hok
    obtain ⟨y, x, u1, u2, b, u, rfl, hbt, hun⟩ := pr_get hqs i hi
    obtain ⟨m0, m1⟩ := qk.mark hok u2
    have ll := qk.len i x u2
    have ei : (0 : Int) + (i : Int) = (i : Int) := by omega
    rw [ei]
    have at0 := atI_nat u1
    refine ⟨_, rfl, _, rfl, qa, us, (i : Int), .ref b, rfl, rfl, SqL.of hus, at0, b, _, _, _, rfl, rfl, hbt, rfl, ?_⟩
    refine ⟨_, rfl, _, rfl, qa, us, (i : Int), .ref b, rfl, rfl, SqL.of hus, at0, b, _, _, _, rfl, rfl, hbt, rfl, ?_⟩
    refine ⟨_, rfl, _, rfl, qa, us, (i : Int), .ref b, rfl, rfl, SqL.of hus, at0, b, _, _, _, rfl, rfl, hbt, rfl, ?_⟩
    refine ⟨_, rfl, _, rfl, _, rfl, rfl, a, l, R, u, x.n, _, rfl, (hR.same W.same).1, hargs, hun, ?_⟩
    rw [e_str]
    have W2 := W
    have hun2 := hun
    clear hbt u1 hus hqs elen hun at0
    have hout : R.outer home x q = R.inner home x (R.evs x.n (decide (x.life = ""))) q := rfl
    have hes := evs_len R x.n (decide (x.life = ""))
    generalize R.evs x.n (decide (x.life = "")) = es at hout hes
    refine ⟨_, rfl, for_ev (es := es) (fun j σ H3 => ∃ (q' : List QE) (x8 x9 x10 x11 : Option V), R.inner home x (es.take j) q = .ok q' ∧ WK P w K H H3 qa kd q' ∧ NodeV K H3 u x.n ∧ σ = [some (.ref a), some (.int home), some (.ref qa), some (.ref kd), some (.int (i : Int)), some u, some (.int x.h), some (.str x.life), x8, x9, x10, x11]) ⟨q, _, _, _, _, rfl, W2, hun2, rfl⟩ ?_ ?_⟩
    · rintro j e σ H3 he ⟨q', x8, x9, x10, x11, hin, W3, hu3, rfl⟩
      have hR3 := hR.same W3.same
      refine ⟨_, rfl, _, rfl, _, rfl, a, l, R, u, x.n, e, rfl, hR3, hu3, hok, m0, m1, fun p v H4 s4 h4 hv4 => ?_⟩
      refine ⟨_, rfl, _, rfl, p, _, _, _, rfl, rfl, SqT.of h4, rfl, _, _, rfl, rfl, ?_⟩
      have W4 := W3.later s4
      have hu4 := hu3.mono (keep_same (K := K) s4)
      refine ⟨_, rfl, _, rfl, _, rfl, p, _, _, _, rfl, rfl, SqT.of h4, rfl, _, rfl, a, l, R, home, v, (R.step x.n e).1, x.h + (R.step x.n e).2, rfl, (hR.same W4.same).1, hv4, ?_⟩
      refine ⟨_, rfl, rfl, _, rfl, ?_⟩
      have hcut : R.inner home x es q = R.inner home x (e :: es.drop (j + 1)) q' := by
        have e1 : es = es.take j ++ e :: es.drop (j + 1) := split_at he
        have e2 := inner_app (R := R) (home := home) (x := x) (es.take j) (e :: es.drop (j + 1)) q
        rw [← e1, hin] at e2
        exact e2
      have htk : ∀ q2, R.inner home x [e] q' = .ok q2 → R.inner home x (es.take (j + 1)) q = .ok q2 := fun q2 h2 => by
        rw [take_snoc he, inner_app, hin]
        exact h2
      cases hf : R.fault home (R.step x.n e).1 (x.h + (R.step x.n e).2) with
      | some w =>
        refine iteN (fun _ => ?_) (fun e => by cases e)
        refine ⟨_, rfl, _, rfl, _, _, rfl, rfl, ?_, _, rfl, (by show 2 ≤ sizeLine; decide), fun t ht => ?_⟩
        · show x.life.length + 1 ≤ sizeLine
          exact Nat.le_trans (show x.life.length + 1 ≤ 157 by omega) (by decide)
        · refine k (some (x.life ++ e.str, w)) _ _ (W4.same.trans (same_new ht)) ⟨i, q, x, hre, u2, ?_⟩ ⟨t, rfl, upd_same⟩
          rw [hout, hcut, inner_flaw hf]
      | none =>
        refine iteN (fun e => absurd rfl e) (fun _ => ?_)
        refine ⟨_, rfl, p, _, _, _, rfl, rfl, SqT.of h4, rfl, _, rfl, (by show 2 ≤ sizeLine; decide), fun t ht => ?_⟩
        have s5 := same_new (o := .tup [v, .int (x.h + (R.step x.n e).2)]) ht
        have W5 := W4.later s5
        have hv5 := hv4.mono (keep_same (K := K) s5)
        have hu5 := hu4.mono (keep_same (K := K) s5)
        have hk5 : NkV K _ (keyP (R.step x.n e).1 (x.h + (R.step x.n e).2)) (.ref t) := hv5.keyP (SqT.of (upd_same (H := H4) (a := t) (o := .tup [v, .int (x.h + (R.step x.n e).2)])))
        refine ⟨_, rfl, t, kd, _, _, rfl, rfl, W5.kn, hk5, keyP_depth _ _, _, rfl, ?_⟩
        rw [known_seen]
        refine iteNB (fun hs => ?_) (fun hs => ?_)
        · refine ⟨_, rfl, _, rfl, p, _, _, _, rfl, rfl, SqT.of (s5 _ _ h4), rfl, _, rfl, (by show 2 ≤ sizeLine; decide), fun t2 ht2 => ?_⟩
          have s6 := same_new (o := .tup [v, .int (x.h + (R.step x.n e).2)]) ht2
          have W6 := W5.later s6
          have hv6 := hv5.mono (keep_same (K := K) s6)
          have hu6 := hu5.mono (keep_same (K := K) s6)
          have hk6 : NkV K _ (keyP (R.step x.n e).1 (x.h + (R.step x.n e).2)) (.ref t2) := hv6.keyP (SqT.of (upd_same (H := upd H4 t (.tup [v, .int (x.h + (R.step x.n e).2)])) (a := t2) (o := .tup [v, .int (x.h + (R.step x.n e).2)])))
          obtain ⟨⟨r, er, rl, _⟩, qk', _⟩ := inner_ok hok m0 m1 ll _ _ _ qk hi hin
          have q1 : 1 ≤ q'.length := by rw [er, List.length_append]; omega
          have tl : (es.take j).length ≤ 6 := Nat.le_trans (List.length_take_le' _ _) hes
          have ql' : q'.length ≤ 1 + 6 * 156 + 6 := by rw [er, List.length_append]; omega
          have kl : (knownK q').length < sizeLine := by
            unfold knownK
            rw [List.length_map, List.length_drop]
            exact Nat.lt_of_le_of_lt (show q'.length - 1 ≤ 1000 by omega) (by decide)
          refine ⟨kd, t2, _, _, rfl, rfl, W6.kn, hk6, keyP_depth _ _, kl, fun H7 hne keep7 hD7 => ?_⟩
          obtain ⟨us6, hq6, hp6⟩ := W6.at_
          have hq7 : H7 qa = some (.lst us6) := by rw [hne _ W6.ne]; exact hq6
          have eu6 := Paired.length hp6
          have hp7 : SqT K H7 p _ := keep7 _ _ (SqT.of (s6 _ _ (s5 _ _ h4)))
          refine ⟨_, rfl, .inl ⟨rfl, _, .inl (.inl hq7)⟩, _, rfl, p, _, _, _, rfl, rfl, hp7, rfl, _, rfl, _, rfl, _, rfl, _, _, rfl, rfl, ?_, (by show 3 ≤ sizeLine; decide), fun t3 ht3 => ?_⟩
          · show x.life.length + 1 ≤ sizeLine
            exact Nat.le_trans (show x.life.length + 1 ≤ 157 by omega) (by decide)
          have s8 := same_new (o := .tup [v, .int (x.h + (R.step x.n e).2), .str (x.life ++ e.str)]) ht3
          have hq8 := s8 _ _ hq7
          refine ⟨qa, _, _, rfl, rfl, hq8, by rw [eu6]; exact Nat.lt_of_le_of_lt (show q'.length ≤ 1000 by omega) (by decide), ?_⟩
          have b9 : But qa (upd H7 t3 (.tup [v, .int (x.h + (R.step x.n e).2), .str (x.life ++ e.str)])) (upd (upd H7 t3 (.tup [v, .int (x.h + (R.step x.n e).2), .str (x.life ++ e.str)])) qa (.lst (us6 ++ [.ref t3]))) := But.upd
          have k9 := keep_lst (K := K) b9 hq8
          have k79 : KeepT K H7 _ := fun a' xs' h' => k9 _ _ (keep_same s8 _ _ h')
          have k69 : KeepT K _ _ := fun a' xs' h' => k79 _ _ (keep7 a' xs' h')
          refine ⟨q' ++ [⟨(R.step x.n e).1, x.h + (R.step x.n e).2, x.life ++ e.str⟩], _, _, _, _, htk _ (by rw [inner_new hf hs]; rfl), ⟨?_, W6.fq, W6.fk, W6.ne, ⟨us6 ++ [.ref t3], upd_same, ?_⟩, ?_⟩, hu6.mono k69, rfl⟩
          · intro b' o hb'
            have n1 : b' ≠ qa := ne_of_none hb' W6.fq
            have n2 : b' ≠ kd := ne_of_none hb' W6.fk
            refine b9 _ _ (s8 _ _ ?_) n1
            rw [hne _ n2]
            exact W6.same _ _ hb'
          · refine pr_app (Paired.mapP hp6 fun _ _ z => z.mono k69) (.cons ⟨t3, v, rfl, k9 _ _ (SqT.of upd_same), hv6.mono k69⟩ .nil)
          · have hD9 := hD7.mono k79 (by
              obtain ⟨ys, d1, _⟩ := id hD7
              rw [upd_ne W6.ne.symm, d1]
              exact s8 _ _ d1)
            have kp := known_put (q := q') (x := ⟨(R.step x.n e).1, x.h + (R.step x.n e).2, x.life ++ e.str⟩) hs q1
            rw [← kp]
            exact hD9
        · exact ⟨q', _, _, _, _, htk _ (by rw [inner_old hf hs]; rfl), W5, hu5, rfl⟩
    · rintro σ H3 ⟨q', x8, x9, x10, x11, hin, W3, hu3, rfl⟩
      rw [List.take_of_length_le (Nat.le_refl _)] at hin
      exact ⟨q', _, _, _, _, _, _, _, _, .succ hre u2 (by rw [hout]; exact hin), W3, rfl⟩
  · rintro σ H1 ⟨q, x5, x6, x7, x8, x9, x10, x11, x4, hre, W, rfl⟩
    have := hre.bound hok
    omega

theorem SpecV.but {K : PySem.W.Frag} {H H' : Hp} {d a l : Addr} {ds : List Int} {R : RowM} (s : But d H H') (hd : H d = some (.lst (ds.map V.int))) (hok : RuleOk R.rule) (h : SpecV K H a l R) : SpecV K H' a l R := by
  refine ⟨s _ _ h.1 fun e => ?_, LRule.but s hd hok h.2⟩
  have := h.1
  rw [e, hd] at this
  injection this with this
  injection this with this
  cases ds with
  | nil => cases this
  | cons z zs => injection this with this _; cases this
theorem RowV.but {K : PySem.W.Frag} {H H' : Hp} {d a : Addr} {xs : List V} {R : RowM} (s : But d H H') (hd : H d = some (.lst xs)) (h : RowV K H a R) : RowV K H' a R := by
  obtain ⟨dx, r, e, t⟩ := h
  exact ⟨dx, r, s _ _ e (ne_of e hd (by intro z; cases z)), t.mono (keep_lst s hd)⟩

theorem evS_eq_nil (es : List Ev) : decide (V.str (evS es) = V.str "") = decide (es = []) := by
  rw [e_str]
  exact decide_eq_decide.mpr evS_nil_iff
def sp__law_life (K : PySem.W.Frag) : Sp := fun vs H Q _ => ∃ (d s l : Addr) (ds : List Int) (R : RowM) (m : Int), vs = [.ref d, .ref s, .int m] ∧ H d = some (.lst (ds.map V.int)) ∧ SpecV K H s l R ∧ HeldArgs R ∧ RuleOk R.rule ∧ 0 ≤ m ∧ m ≤ 100 ∧
  ∀ (p : List Ev) (n : Node) (h : Int) (ds' : List Int) (H' : Hp), But d H H' → H' d = some (.lst (ds'.map V.int)) → Life R p n h → p.length ≤ 100 → Q (.str (evS p)) H'
theorem c__law_life (T : Tx K mg) : C8.Cal P w K mg base 3 "_law_life" (sp__law_life K) [] := by
  have C__law_next := c__law_next (P := P) (w := w) (base := base) T
  have C__law_take := c__law_take (P := P) (w := w) (base := base) T
  have C__law_events := c__law_events (P := P) (w := w) (base := base) T
  refine c_mk T.d__law_life sc__law_life (fun vs H Q E h => ?_) (fun f cdv A outer s H vs Q E hr h => ?_)
  · first | (obtain ⟨rfl, _⟩ := h; rfl) | (obtain ⟨_, rfl, _⟩ := h; rfl) | (obtain ⟨_, _, rfl, _⟩ := h; rfl) | (obtain ⟨_, _, _, rfl, _⟩ := h; rfl) | (obtain ⟨_, _, _, _, rfl, _⟩ := h; rfl) | (obtain ⟨_, _, _, _, _, rfl, _⟩ := h; rfl) | (obtain ⟨_, _, _, _, _, _, rfl, _⟩ := h; rfl) | (obtain ⟨_, _, _, _, _, _, _, rfl, _⟩ := h; rfl) | (obtain ⟨_, _, _, _, _, _, _, _, rfl, _⟩ := h; rfl) | (obtain ⟨_, _, _, _, _, _, _, _, _, rfl, _⟩ := h; rfl) | (obtain ⟨_, _, _, _, _, _, _, _, _, _, rfl, _⟩ := h; rfl) | (obtain ⟨_, _, _, _, _, _, _, _, _, _, _, rfl, _⟩ := h; rfl) | (obtain ⟨_, _, _, _, _, _, _, _, _, _, _, _, rfl, _⟩ := h; rfl) | (obtain ⟨_, _, _, _, _, _, _, _, _, _, _, _, _, rfl, _⟩ := h; rfl)
  have hu := hu_of hr
  refine ⟨_, (pss_cons (ps_set (i := 3) sc__law_life.nd rfl (by first | exact Or.inl rfl | exact Or.inr rfl) (pe_tup (pa_cons pe_int (pa_cons pe_bl (pa_cons pe_str pa_nil)))))
    (pss_cons (ps_set (i := 4) sc__law_life.nd rfl (by first | exact Or.inl rfl | exact Or.inr rfl) pe_str)
    (pss_cons (ps_for PassesOwn.never rfl (pi_range1 rfl T.b_range (pa_cons (pv 2) pa_nil)) (pg_name (i := 5) sc__law_life.nd rfl (by first | exact Or.inl rfl | exact Or.inr rfl)) (pss_cons (ps_set (i := 6) sc__law_life.nd rfl (by first | exact Or.inl rfl | exact Or.inr rfl) (C8.pe_c (C__law_events) hr (by decide) rfl (pa_cons (pv 1) (pa_cons (pv 3) (pa_cons (pe_cmpR op_eq (pv 4) pe_str (nomark _)) pa_nil)))))
    (pss_cons (ps_if (pt_cmpR op_eq (pv 6) pe_str (nomark _)) (pss_one (ps_ret (pv 4))) pss_nil)
    (pss_cons (ps_set (i := 7) sc__law_life.nd rfl (by first | exact Or.inl rfl | exact Or.inr rfl) (pe_ix ix_str (pv 6) (C8.pe_c (C__law_take) hr (by decide) rfl (pa_cons (pv 0) (pa_cons (pe_callB call_len_str rfl T.b_len (by decide +kernel) (pa_cons (pv 6) pa_nil)) pa_nil))) (fun _ _ => rfl)))
    (pss_cons (ps_set (i := 3) sc__law_life.nd rfl (by first | exact Or.inl rfl | exact Or.inr rfl) (pe_ix ix_tup (C8.pe_c (C__law_next) hr (by decide) rfl (pa_cons (pv 1) (pa_cons (pv 3) (pa_cons (pv 7) pa_nil)))) pe_int (fun _ _ => rfl)))
    (pss_one (ps_set (i := 4) sc__law_life.nd rfl (by first | exact Or.inl rfl | exact Or.inr rfl) (pe_op op_add_str (pv 4) (pv 7)))))))))
    (pss_one (ps_ret (pv 4)))))), ?_⟩
  obtain ⟨d, s, l, ds, R, m, rfl, hd, hR, hargs, hok, m0, m1, k⟩ := h
  refine ⟨(by show 3 ≤ sizeLine; decide), fun a0 ha0 => ?_⟩
  have s0 := same_new (o := .tup [.int 0, .bl false, .str "shut"]) ha0
  have st0 : NodeV K (upd H a0 (.tup [.int 0, .bl false, .str "shut"])) (.ref a0) start := ⟨a0, rfl, SqT.of upd_same⟩
  refine ⟨_, rfl, m, rfl, by omega, by omega, for_range (lo := 0) (n := m.toNat) (fun i σ H' => ∃ (v : V) (p : List Ev) (n : Node) (h : Int) (es : List Int) (x5 x6 x7 : Option V), σ = [some (.ref d), some (.ref s), some (.int m), some v, some (.str (evS p)), x5, x6, x7] ∧ But d H H' ∧ H' d = some (.lst (es.map V.int)) ∧ NodeV K H' v n ∧ Life R p n h ∧ p.length ≤ i) ?_ ?_ ?_⟩
  · exact ⟨_, [], _, _, ds, none, none, none, by rw [show evS [] = "" from evS_nil_iff.mpr rfl]; rfl, Same.but s0, s0 _ _ hd, st0, .nil, Nat.le_refl _⟩
  · rintro i σ H1 hi ⟨v, p, n, h, es, x5, x6, x7, rfl, b1, hd1, hv, hl, hlen⟩
    have hR1 := hR.but b1 hd hok
    obtain ⟨q0, q1⟩ := hl.marks hok
    refine ⟨_, rfl, _, rfl, _, rfl, rfl, s, l, R, v, n, _, rfl, hR1.1, hargs, hv, ?_⟩
    rw [evS_eq_nil]
    have hes := evs_len R n (decide (p = []))
    refine ⟨_, rfl, rfl, _, rfl, ?_⟩
    rw [evS_eq_nil]
    refine iteD (fun z => ⟨_, rfl, k p n h es H1 b1 hd1 hl (by omega)⟩) (fun z => ?_)
    have ep : 0 < (R.evs n (decide (p = []))).length := by
      cases e : R.evs n (decide (p = [])) with
      | nil => exact absurd e z
      | cons a b => rw [List.length_cons]; omega
    have el : (evS (R.evs n (decide (p = [])))).length = (R.evs n (decide (p = []))).length := evS_length _
    have lz : (evS (R.evs n (decide (p = [])))).length ≤ sizeLine := Nat.le_trans (by rw [el]; exact hes) (by decide)
    refine ⟨_, rfl, _, rfl, _, rfl, _, rfl, lz, d, es, _, rfl, hd1, by omega, fun r es' r0 r1 => ?_⟩
    have hrl : r.toNat < (R.evs n (decide (p = []))).length := by omega
    obtain ⟨e, he⟩ : ∃ e, (R.evs n (decide (p = [])))[r.toNat]? = some e := ⟨_, List.getElem?_eq_getElem hrl⟩
    have hat : atI (evS (R.evs n (decide (p = [])))).cps.toList r = some e.cp := by
      have := evS_atI he
      rw [show (0 : Int) + (r.toNat : Int) = r by omega] at this
      exact this
    have b2 : But d H1 (upd H1 d (.lst (es'.map V.int))) := But.upd
    have hv2 : NodeV K (upd H1 d (.lst (es'.map V.int))) v n := hv.mono (keep_lst b2 hd1)
    refine ⟨_, _, e.cp, rfl, rfl, lz, hat, ?_⟩
    have hR2 := hR1.but b2 hd1 hok
    refine ⟨_, rfl, _, rfl, _, rfl, s, l, R, v, n, e, rfl, hR2, hv2, hok, q0, q1, fun pa u H3 s3 hpa hu => ?_⟩
    refine ⟨pa, _, _, _, rfl, rfl, SqT.of hpa, rfl, ?_⟩
    refine ⟨_, rfl, _, rfl, _, _, rfl, rfl, ?_, ?_⟩
    · rw [evS_length]
      exact Nat.le_trans (show p.length + 1 ≤ 101 by omega) (by decide)
    · exact ⟨u, p ++ [e], _, _, es', _, _, _, by rw [evS_snoc]; rfl, (b1.trans b2).trans (Same.but s3), s3 _ _ upd_same, hu, .snoc hl (List.mem_of_getElem? he), by rw [List.length_append]; show p.length + 1 ≤ i + 1; omega⟩
  · rintro σ H1 ⟨v, p, n, h, es, x5, x6, x7, rfl, b1, hd1, hv, hl, hlen⟩
    exact ⟨_, rfl, k p n h es H1 b1 hd1 hl (by omega)⟩

def sp_walk (K : PySem.W.Frag) : Sp := fun vs H Q _ => ∃ (a : Addr) (R : RowM) (p : List Ev) (n : Node) (h : Int), vs = [.ref a, .str (evS p)] ∧ RowV K H a R ∧ RuleOk R.rule ∧ Life R p n h ∧ p.length ≤ 1000 ∧
  ∀ (q : Addr) (us : List V) (H' : Hp), Same H H' → H' q = some (.lst us) → Paired (PEV K H') us (R.runs p) → Q (.ref q) H'
theorem c_walk (T : Tx K mg) : C8.Cal P w K mg base 3 "walk" (sp_walk K) [] := by
  have C_step := c_step (P := P) (w := w) (base := base) T
  have C_can_happen := c_can_happen (P := P) (w := w) (base := base) T
  refine c_mk T.d_walk sc_walk (fun vs H Q E h => ?_) (fun f cdv A outer s H vs Q E hr h => ?_)
  · first | (obtain ⟨rfl, _⟩ := h; rfl) | (obtain ⟨_, rfl, _⟩ := h; rfl) | (obtain ⟨_, _, rfl, _⟩ := h; rfl) | (obtain ⟨_, _, _, rfl, _⟩ := h; rfl) | (obtain ⟨_, _, _, _, rfl, _⟩ := h; rfl) | (obtain ⟨_, _, _, _, _, rfl, _⟩ := h; rfl) | (obtain ⟨_, _, _, _, _, _, rfl, _⟩ := h; rfl) | (obtain ⟨_, _, _, _, _, _, _, rfl, _⟩ := h; rfl) | (obtain ⟨_, _, _, _, _, _, _, _, rfl, _⟩ := h; rfl) | (obtain ⟨_, _, _, _, _, _, _, _, _, rfl, _⟩ := h; rfl) | (obtain ⟨_, _, _, _, _, _, _, _, _, _, rfl, _⟩ := h; rfl) | (obtain ⟨_, _, _, _, _, _, _, _, _, _, _, rfl, _⟩ := h; rfl) | (obtain ⟨_, _, _, _, _, _, _, _, _, _, _, _, rfl, _⟩ := h; rfl) | (obtain ⟨_, _, _, _, _, _, _, _, _, _, _, _, _, rfl, _⟩ := h; rfl)
  have hu := hu_of hr
  refine ⟨_, (pss_cons (ps_set (i := 2) sc_walk.nd rfl (by first | exact Or.inl rfl | exact Or.inr rfl) (pe_glob (v := .ref (He.ga K "START")) rfl T.g_START rfl))
    (pss_cons (ps_set (i := 3) sc_walk.nd rfl (by first | exact Or.inl rfl | exact Or.inr rfl) pe_int)
    (pss_cons (ps_set (i := 4) sc_walk.nd rfl (by first | exact Or.inl rfl | exact Or.inr rfl) (pe_lst (pa_cons (pe_tup (pa_cons (pv 2) (pa_cons (pv 3) pa_nil))) pa_nil)))
    (pss_cons (ps_for PassesOwn.never rfl (pi_range1 rfl T.b_range (pa_cons (pe_callB call_len_str rfl T.b_len (by decide +kernel) (pa_cons (pv 1) pa_nil)) pa_nil)) (pg_name (i := 5) sc_walk.nd rfl (by first | exact Or.inl rfl | exact Or.inr rfl)) (pss_cons (ps_if (pt_not (pt_val (C8.pe_c (C_can_happen) hr (by decide) rfl (pa_cons (pv 0) (pa_cons (pv 2) (pa_cons (pe_ix ix_str (pv 1) (pv 5) (fun _ _ => rfl)) (pa_cons (pe_cmpR op_eq (pv 5) pe_int (nomark _)) pa_nil))))))) (pss_one ps_never) pss_nil)
    (pss_cons (ps_asg (C8.pe_c (C_step) hr (by decide) rfl (pa_cons (pv 0) (pa_cons (pv 2) (pa_cons (pe_ix ix_str (pv 1) (pv 5) (fun _ _ => rfl)) pa_nil)))) (pg_tup rfl (pgs_cons (pg_name (i := 2) sc_walk.nd rfl (by first | exact Or.inl rfl | exact Or.inr rfl)) (pgs_cons (pg_name (i := 6) sc_walk.nd rfl (by first | exact Or.inl rfl | exact Or.inr rfl)) pgs_nil))))
    (pss_cons (ps_aug (i := 3) sc_walk.nd rfl (by first | exact Or.inl rfl | exact Or.inr rfl) (pv 6) ip_add)
    (pss_one (ps_expr (pe_bm PySem.F.plainAttrs_list PySem.F.slot_list_append PySem.F.type_list_append mt_append (pv 4) (pa_cons (pe_tup (pa_cons (pv 2) (pa_cons (pv 3) pa_nil))) pa_nil))))))))
    (pss_one (ps_ret (pv 4))))))), ?_⟩
  obtain ⟨a, R, p, n, hh, rfl, hR, hok, hl, hlen, k⟩ := h
  have hst : ∀ H : Hp, NodeV K H (.ref (He.ga K "START")) start := fun H => dp_start (T.v_START H)
  refine ⟨_, rfl, _, rfl, (by show 2 ≤ sizeLine; decide), fun a1 ha1 => ?_⟩
  have s1 := same_new (o := .tup [.ref (He.ga K "START"), .int 0]) ha1
  refine ⟨(by show 1 ≤ sizeLine; decide), fun q hq => ?_⟩
  have s2 := same_new (o := .lst [.ref a1]) hq
  have s02 := s1.trans s2
  have hqH : H q = none := s1.free hq
  have el : (evS p).length = p.length := evS_length p
  refine ⟨_, rfl, _, rfl, Nat.le_trans (by rw [el]; exact hlen) (by decide), ?_⟩
  rw [el]
  refine ⟨_, rfl, by omega, by omega, for_range (lo := 0) (n := p.length) (fun i σ H' => ∃ (v : V) (us : List V) (x5 x6 : Option V), σ = [some (.ref a), some (.str (evS p)), some v, some (.int (R.at (p.take i)).2), some (.ref q), x5, x6] ∧ Same H H' ∧ NodeV K H' v (R.at (p.take i)).1 ∧ H' q = some (.lst us) ∧ Paired (PEV K H') us (R.runsTo p i)) ?_ ?_ ?_⟩
  · exact ⟨_, _, none, none, rfl, s02, hst _, upd_same, .cons ⟨a1, _, rfl, SqT.of (s2 _ _ upd_same), hst _⟩ .nil⟩
  · rintro i σ H1 hi ⟨v, us, x5, x6, rfl, s3, hv, hq1, hus⟩
    obtain ⟨e, he⟩ : ∃ e, p[i]? = some e := ⟨p[i]'hi, List.getElem?_eq_getElem hi⟩
    have hR1 := hR.same s3
    have hat := evS_atI he
    have lz : (evS p).length ≤ sizeLine := Nat.le_trans (by rw [el]; exact hlen) (by decide)
    obtain ⟨m0, m1⟩ := (hl.take i).marks hok
    have hm := (List.mem_filter.mp (hl.evs he)).2
    refine ⟨_, rfl, _, rfl, _, rfl, _, rfl, _, _, _, rfl, rfl, lz, hat, _, rfl, rfl, a, R, v, (R.at (p.take i)).1, e, _, rfl, hR1, hv, ?_⟩
    rw [e_int, hm]
    refine ⟨_, rfl, iteF ?_⟩
    refine ⟨_, rfl, _, rfl, _, rfl, _, rfl, _, _, _, rfl, rfl, lz, hat, a, R, v, (R.at (p.take i)).1, e, rfl, hR1, hv, hok, m0, m1, fun pa u H2 s4 hpa hu => ?_⟩
    refine ⟨pa, _, rfl, SqT.of hpa, rfl, _, _, rfl, _, _, rfl, rfl, ?_⟩
    refine ⟨_, rfl, _, rfl, _, _, rfl, rfl, ?_⟩
    have hq2 := s4 _ _ hq1
    refine ⟨_, rfl, .inl ⟨rfl, _, .inl (.inl hq2)⟩, _, rfl, _, rfl, (by show 2 ≤ sizeLine; decide), fun t ht => ?_⟩
    have s5 := same_new (o := .tup [u, .int ((R.at (p.take i)).2 + (R.step (R.at (p.take i)).1 e).2)]) ht
    have eu := Paired.length hus
    have er : (R.runsTo p i).length = i + 1 := by unfold RowM.runsTo; rw [List.length_map, List.length_range]
    refine ⟨q, _, _, rfl, rfl, s5 _ _ hq2, by rw [eu, er]; exact Nat.lt_of_le_of_lt (show i + 1 ≤ 1001 by omega) (by decide), ?_⟩
    have b6 : But q (upd H2 t (.tup [u, .int ((R.at (p.take i)).2 + (R.step (R.at (p.take i)).1 e).2)])) (upd (upd H2 t (.tup [u, .int ((R.at (p.take i)).2 + (R.step (R.at (p.take i)).1 e).2)])) q (.lst (us ++ [.ref t]))) := But.upd
    have k6 := keep_lst (K := K) b6 (s5 _ _ hq2)
    have k26 : KeepT K H2 _ := fun a' xs' h' => k6 _ _ (keep_same s5 _ _ h')
    have k16 : KeepT K H1 _ := fun a' xs' h' => k26 _ _ (keep_same s4 _ _ h')
    have ea : R.at (p.take (i + 1)) = ((R.step (R.at (p.take i)).1 e).1, (R.at (p.take i)).2 + (R.step (R.at (p.take i)).1 e).2) := by rw [take_snoc he, at_snoc]
    refine ⟨u, us ++ [.ref t], _, _, by rw [ea]; rfl, fun b o hb => b6 _ _ (s5 _ _ (s4 _ _ (s3 _ _ hb))) (ne_of_none hb hqH), by rw [ea]; exact hu.mono k26, upd_same, ?_⟩
    rw [runsTo_succ]
    refine pr_app (Paired.mapP hus fun _ _ z => z.mono k16) (.cons ⟨t, u, rfl, k6 _ _ (by rw [ea]; exact SqT.of upd_same), by rw [ea]; exact hu.mono k26⟩ .nil)
  · rintro σ H1 ⟨v, us, x5, x6, rfl, s3, hv, hq1, hus⟩
    exact ⟨_, rfl, k q us H1 s3 hq1 hus⟩
def sp_holdings (K : PySem.W.Frag) : Sp := fun vs H Q _ => ∃ (a : Addr) (R : RowM) (home : Int), vs = [.ref a, .int home] ∧ RowV K H a R ∧ RuleOk R.rule ∧ Sound R home ∧ ∀ (q : Addr) (us : List V) (H' : Hp), Same H H' → H q = none → H' q = some (.lst us) → Paired (PEV K H') us R.paper → Q (.ref q) H'
theorem paper_take (R : RowM) (i : Nat) : R.paper.take i = (R.chart.take i).map fun x => (x.n, (R.at (lifeEv x.life)).2) := by
  unfold RowM.paper
  rw [List.map_take]
theorem paper_len {R : RowM} (hok : RuleOk R.rule) : R.paper.length ≤ 24 ∧ 1 ≤ R.paper.length := by
  unfold RowM.paper
  rw [List.length_map]
  refine ⟨(cq_ok hok 24).len hok, ?_⟩
  have := List.length_pos_of_mem (chart_c0 R)
  exact this
theorem paper_life {R : RowM} (hok : RuleOk R.rule) {x : Node × Int} (hx : x ∈ R.paper) : ∃ p, Life R p x.1 x.2 := by
  obtain ⟨c, hc, rfl⟩ := List.mem_map.mp hx
  obtain ⟨p, h, ex, hl, _⟩ := chart_life hok hc
  rw [paper_at ex hl]
  exact ⟨p, hl⟩
theorem c_holdings (T : Tx K mg) : C8.Cal P w K mg base 5 "holdings" (sp_holdings K) [] := by
  have C_chart := c_chart (P := P) (w := w) (base := base) T
  have C_walk := c_walk (P := P) (w := w) (base := base) T
  have C_first_flaw := c_first_flaw (P := P) (w := w) (base := base) T
  refine c_mk T.d_holdings sc_holdings (fun vs H Q E h => ?_) (fun f cdv A outer s H vs Q E hr h => ?_)
  · first | (obtain ⟨rfl, _⟩ := h; rfl) | (obtain ⟨_, rfl, _⟩ := h; rfl) | (obtain ⟨_, _, rfl, _⟩ := h; rfl) | (obtain ⟨_, _, _, rfl, _⟩ := h; rfl) | (obtain ⟨_, _, _, _, rfl, _⟩ := h; rfl) | (obtain ⟨_, _, _, _, _, rfl, _⟩ := h; rfl) | (obtain ⟨_, _, _, _, _, _, rfl, _⟩ := h; rfl) | (obtain ⟨_, _, _, _, _, _, _, rfl, _⟩ := h; rfl) | (obtain ⟨_, _, _, _, _, _, _, _, rfl, _⟩ := h; rfl) | (obtain ⟨_, _, _, _, _, _, _, _, _, rfl, _⟩ := h; rfl) | (obtain ⟨_, _, _, _, _, _, _, _, _, _, rfl, _⟩ := h; rfl) | (obtain ⟨_, _, _, _, _, _, _, _, _, _, _, rfl, _⟩ := h; rfl) | (obtain ⟨_, _, _, _, _, _, _, _, _, _, _, _, rfl, _⟩ := h; rfl) | (obtain ⟨_, _, _, _, _, _, _, _, _, _, _, _, _, rfl, _⟩ := h; rfl)
  have hu := hu_of hr
  refine ⟨_, (pss_cons (ps_set (i := 2) sc_holdings.nd rfl (by first | exact Or.inl rfl | exact Or.inr rfl) (C8.pe_c (C_first_flaw) hr (by decide) rfl (pa_cons (pv 0) (pa_cons (pv 1) pa_nil))))
    (pss_cons (ps_if (pt_cmpR op_notN (pv 2) pe_non (nomark _)) (pss_one ps_never) pss_nil)
    (pss_one (ps_ret (pe_lc (own := [("node", 3), ("life", 4)]) (g := gTup K 2 (gCons (gName 3) (gCons (gName 4) gNil))) rfl sc_holdings.nd (pi_list (C8.pe_c (C_chart) hr (by decide) rfl (pa_cons (pv 0) pa_nil))) (blkOk_by (own := [("node", 3), ("life", 4)]) (N := N_holdings) (sc := defScope s_holdings) (by decide +kernel)) (fun _ _ _ _ _ => (pg_tup rfl (pgs_cons (pg_name (i := 3) sc_holdings.nd rfl (by first | exact Or.inl rfl | exact Or.inr rfl)) (pgs_cons (pg_name (i := 4) sc_holdings.nd rfl (by first | exact Or.inl rfl | exact Or.inr rfl)) pgs_nil)))) (fun _ _ _ _ _ => pts_nil) (fun _ _ _ _ _ => (pe_tup (pa_cons (pv 3) (pa_cons (pe_ix (ix_tupK (K := K) rfl) (pe_ix (ix_listK (K := K) rfl) (C8.pe_c (C_walk) hr (by decide) rfl (pa_cons (pv 0) (pa_cons (pv 4) pa_nil))) (pe_un un_neg pe_int) (fun _ _ => rfl)) pe_int (fun _ _ => rfl)) pa_nil))))))))), ?_⟩
  obtain ⟨a, R, home, rfl, hR, hok, hsnd, k⟩ := h
  refine ⟨_, rfl, _, rfl, a, R, home, rfl, hR, hok, fun res v H0 s0 hF hV => ?_⟩
  have er := hsnd.flaw hok hF
  subst er
  cases (show v = .non from hV)
  refine ⟨_, rfl, rfl, _, rfl, iteF ?_⟩
  refine ⟨_, rfl, a, R, rfl, hR.same s0, hok, fun c us H1 s01 _ hc hus => ?_⟩
  have s1 := s0.trans s01
  have elen := Paired.length hus
  have l24 : R.chart.length ≤ 24 := (cq_ok hok 24).len hok
  have clif : ∀ x ∈ R.chart, ∃ p h, x.life = evS p ∧ Life R p x.n h ∧ p.length ≤ 24 := fun x hx => chart_life hok hx
  have pt := paper_take R
  have pl : R.paper = R.paper.take R.chart.length := by
    rw [List.take_of_length_le]
    unfold RowM.paper
    rw [List.length_map]
    exact Nat.le_refl _
  refine ⟨c, rfl, ⟨_, SqL.of hc⟩, fun D hD => ?_⟩
  have hDH : H D = none := s1.free hD
  generalize R.chart = C at *
  refine lc_list (xs := us) (fun i H2 => ∃ ms, Same H1 H2 ∧ H2 D = some (.lst ms) ∧ Paired (PEV K H2) ms (R.paper.take i)) ⟨[], same_new hD, upd_same, .nil⟩ (fun i H2 _ ⟨_, s2, _⟩ => SqL.of (s2 _ _ hc)) ?_ ?_
  · rintro i y H2 hi ⟨ms, s2, h2, hms⟩
    have hil := (List.getElem?_eq_some_iff.mp hi).1
    obtain ⟨y', x, e1, e2, b, u, rfl, hb, hu⟩ := pr_get (Paired.mapP hus fun _ _ z => z.mono (keep_same s2)) i (by omega)
    rw [hi] at e1
    cases e1
    obtain ⟨p, h, ex, hl, hlen⟩ := clif x (List.mem_of_getElem? e2)
    rw [ex] at hb
    refine ⟨b, _, rfl, hb, rfl, _, _, rfl, _, _, rfl, rfl, rfl, ?_⟩
    unfold tYes
    have tk : R.paper.take (i + 1) = R.paper.take i ++ [(x.n, h)] := by
      rw [pt, pt, take_snoc e2, List.map_append, List.map_singleton, paper_at ex hl]
    have lms : ms.length ≤ 24 := by
      have := Paired.length hms
      rw [this, pt, List.length_map]
      exact Nat.le_trans (List.length_take_le' _ _) l24
    refine iteT ⟨_, rfl, _, rfl, _, rfl, a, R, p, x.n, h, rfl, (hR.same s1).same s2, hok, hl, by omega, fun q us2 H3 s3 hq hus2 => ?_⟩
    obtain ⟨b2, u2, at2, hb2, hu2⟩ := runs_end hl hus2
    refine ⟨_, rfl, q, _, _, _, rfl, rfl, SqL.of hq, at2, b2, _, _, _, rfl, rfl, hb2, rfl, (by show 2 ≤ sizeLine; decide), fun z hz => ?_⟩
    have s4 := same_new (o := .tup [u, .int h]) hz
    have h4 := s4 _ _ (s3 _ _ h2)
    have b5 : But D (upd H3 z (.tup [u, .int h])) (upd (upd H3 z (.tup [u, .int h])) D (.lst (ms ++ [.ref z]))) := But.upd
    have k5 := keep_lst (K := K) b5 h4
    have k35 : KeepT K H2 _ := fun a' xs' h' => k5 _ _ (keep_same (s3.trans s4) _ _ h')
    refine ⟨ms, h4, Nat.lt_of_le_of_lt lms (by decide), ms ++ [.ref z], fun b' o hb' => b5 _ _ (s4 _ _ (s3 _ _ (s2 _ _ hb'))) (ne_of_none hb' hD), upd_same, ?_⟩
    rw [tk]
    exact pr_app (PEV.keep k35 hms) (.cons ⟨z, u, rfl, k5 _ _ (SqT.of upd_same), hu.mono k35⟩ .nil)
  · rintro H2 ⟨ms, s2, h2, hms⟩
    rw [elen, ← pl] at hms
    exact k D ms H2 (s1.trans s2) hDH h2 hms

/-! ### UnsoundRow, raised by holdings -/
def fldU (l w : Str) : List (Str × V) := [("what", .str w), ("life", .str l)]
def sp_UnsoundRow___init__ (K : PySem.W.Frag) : Sp := fun vs H Q _ => ∃ (a : Addr) (l wh : Str), vs = [.ref a, .str l, .str wh] ∧ H a = some (exo a (He.ga K "UnsoundRow") none) ∧ l.length ≤ 1000 ∧ wh.length ≤ 100 ∧
  ∀ (d : Addr) (H' : Hp), H d = none → d ≠ a → H' a = some (exo a (He.ga K "UnsoundRow") (some d)) → H' d = some (exd d (fldU l wh)) → (∀ b, b ≠ a → b ≠ d → H' b = H b) → Q .non H'
theorem str_add_len (a b : Str) : (a ++ b).length = a.length + b.length := strLen_append a b
theorem e_UnsoundRow (T : Tx K mg) : MakC P w K mg base 1 "UnsoundRow" (He.ga K "UnsoundRow") (sp_UnsoundRow___init__ K) := by
  refine e_mak T.d_UnsoundRow___init__ sc_UnsoundRow___init__ (fun vs H Q E h => by obtain ⟨_, _, _, rfl, _⟩ := h; rfl) (fun f cdv A outer s H vs Q E hr h => ?_)
  obtain ⟨a, l, wh, rfl, ha, hl, hw, k⟩ := h
  refine ⟨_, pss_cons (ps_expr (pe_binit rfl T.g_BridgeError T.u_bi (pa_cons (pv 0) (pa_cons (pe_joined (.cons pe_str (.cons (pe_fmt (pv 1)) (.cons pe_str (.cons (pe_fmt (pv 2)) .nil))))) pa_nil))))
    (pss_cons (ps_ost (pv 0) (pv 1)) (pss_one (ps_ost (pv 0) (pv 2)))), ?_⟩
  have big : ∀ n : Nat, n ≤ 2000 → n ≤ sizeLine := fun n h => Nat.le_trans h (by decide)
  refine ⟨_, rfl, ⟨_, rfl, ?_, _, rfl, .inl ⟨l, rfl, big _ (by omega), _, rfl, ?_, _, rfl, ?_, _, rfl, .inl ⟨wh, rfl, big _ (by omega), _, rfl, ?_, ?_⟩⟩⟩⟩
  all_goals have e0 : (Str.empty ++ Str.ofString "unsound row: ").length = 13 := by decide +kernel
  all_goals have e1 : (Str.ofString " ").length = 1 := by decide +kernel
  · exact big _ (by omega)
  · exact big _ (by rw [str_add_len]; omega)
  · exact big _ (by rw [str_add_len, str_add_len]; omega)
  · exact big _ (by rw [str_add_len, str_add_len, str_add_len]; omega)
  · refine ⟨a, He.ga K "UnsoundRow", _, rfl, by show 1 ≤ 1000; decide, T.u_own.o, ha, ?_⟩
    refine ⟨_, rfl, _, rfl, a, He.ga K "UnsoundRow", rfl, T.u_own.o, T.u_life, .inl ⟨ha, fun dx hdx hne => ?_⟩⟩
    have e1 : (upd (upd H dx (exd dx [("life", .str l)])) a (exo a (He.ga K "UnsoundRow") (some dx))) a = some (exo a (He.ga K "UnsoundRow") (some dx)) := upd_same
    have e2 : (upd (upd H dx (exd dx [("life", .str l)])) a (exo a (He.ga K "UnsoundRow") (some dx))) dx = some (exd dx [("life", .str l)]) := by rw [upd_ne hne, upd_same]
    refine ⟨_, rfl, _, rfl, a, He.ga K "UnsoundRow", rfl, T.u_own.o, T.u_what, .inr ⟨dx, _, e1, e2, by show 1 ≤ 900; decide, ?_⟩⟩
    refine k dx _ hdx hne (by rw [upd_ne (Ne.symm hne)]; exact e1) upd_same (fun b h1 h2 => by rw [upd_ne h2, upd_ne h1, upd_ne h2])
/-- holdings of an unsound row -/
def sp_holdE (K : PySem.W.Frag) : Sp := fun vs H _ E => ∃ (a : Addr) (R : RowM) (home : Int) (lf wh : Str), vs = [.ref a, .int home] ∧ RowV K H a R ∧ RuleOk R.rule ∧ FlawR R home (some (lf, wh)) ∧
  ∀ (d : Addr) (H' : Hp), Same H H' → H' d = some (.xd (fldU lf wh)) → E (.ref (He.ga K "UnsoundRow")) (some d) H'
theorem fault_len {R : RowM} {home : Int} {n : Node} {h : Int} {wh : Str} (e : R.fault home n h = some wh) : wh.length ≤ 100 := by
  unfold RowM.fault at e
  split at e
  · cases e; decide +kernel
  · split at e
    · cases e; decide +kernel
    · split at e
      · split at e
        · cases e; decide +kernel
        · split at e
          · cases e; decide +kernel
          · cases e
      · cases e
theorem e_holdings (T : Tx K mg) : CalE P w K mg base 5 "holdings" (sp_holdE K) := by
  have C_first_flaw := c_first_flaw (P := P) (w := w) (base := base) T
  have K_U := e_UnsoundRow (P := P) (w := w) (base := base) T
  refine e_mk T.d_holdings sc_holdings (fun vs H Q E h => by obtain ⟨_, _, _, _, _, rfl, _⟩ := h; rfl) (fun f cdv A outer s H vs Q E hr h => ?_)
  obtain ⟨a, R, home, lf, wh, rfl, hR, hok, hF, k⟩ := h
  have hu := hu_of hr
  refine ⟨_, pss_cons (ps_set (i := 2) sc_holdings.nd rfl (by first | exact Or.inl rfl | exact Or.inr rfl) (C8.pe_c C_first_flaw hr (by decide) rfl (pa_cons (pv 0) (pa_cons (pv 1) pa_nil))))
    (pss_cons (ps_if (pt_cmpR op_notN (pv 2) pe_non (nomark _)) (pss_one (ps_raise rfl (takes_of rfl rfl rfl rfl) (pmk_E K_U T.u_own hr (by decide) (takes_of rfl rfl rfl rfl) rfl (pa_cons (pe_ix ix_tup (pv 2) pe_int (fun _ _ => rfl)) (pa_cons (pe_ix ix_tup (pv 2) pe_int (fun _ _ => rfl)) pa_nil))))) pss_nil) pss_never), ?_⟩
  refine ⟨_, rfl, _, rfl, a, R, home, rfl, hR, hok, fun res v H0 s0 hF' hV => ?_⟩
  have er := FlawR.one hF' hF
  subst er
  obtain ⟨p, rfl, hp⟩ := id hV
  obtain ⟨pp, n, hh, el, _, hlen, _, hfl, _⟩ := hF.least hok
  refine ⟨_, rfl, rfl, _, rfl, iteT ?_⟩
  refine ⟨_, rfl, p, _, _, _, rfl, rfl, SqT.of hp, rfl, _, rfl, p, _, _, _, rfl, rfl, SqT.of hp, rfl, by show 2 ≤ 1000; decide, fun e he => ?_⟩
  refine ⟨e, lf, wh, rfl, upd_same, by rw [el, evS_len]; omega, fault_len hfl, fun d H' hd hne h1 h2 h3 => ?_⟩
  have hd0 : H0 d = none := by rw [upd_ne hne] at hd; exact hd
  refine ⟨rfl, d, _, h1, h2, hd0, k d _ (fun b o hb => ?_) upd_same⟩
  have nbe : b ≠ e := ne_of_none (s0 _ _ hb) he
  have nbd : b ≠ d := ne_of_none (s0 _ _ hb) hd0
  rw [upd_ne nbd, del_ne nbe, h3 b nbe nbd, upd_ne nbe]
  exact s0 _ _ hb
def sp__law_refused (K : PySem.W.Frag) : Sp := fun vs H Q _ => ∃ (r fp : Addr) (R : RowM) (home : Int) (lf wh : Str), vs = [.ref r, .int home, .ref fp] ∧ RowV K H r R ∧ RuleOk R.rule ∧ FlawR R home (some (lf, wh)) ∧ SqT K H fp [.str lf, .str wh] ∧ ∀ H', Same H H' → Q (.bl true) H'
theorem c__law_refused (T : Tx K mg) : C8.Cal P w K mg base 6 "_law_refused" (sp__law_refused K) [] := by
  have C_holdings := e_holdings (P := P) (w := w) (base := base) T
  refine c_mk T.d__law_refused sc__law_refused (fun vs H Q E h => by obtain ⟨_, _, _, _, _, _, rfl, _⟩ := h; rfl) (fun f cdv A outer s H vs Q E hr h => ?_)
  have hu := hu_of hr
  refine ⟨_, pss_cons (ps_try_as (i := 3) rfl rfl sc__law_refused.nd rfl rfl ⟨rfl, by decide +kernel, .inl T.g_BridgeError⟩ takes_nox
      (fun W pn xe tk _ => pss_one (ps_expr (pe_cE C_holdings hr (by decide) tk rfl (pa_cons (pv 0) (pa_cons (pv 1) pa_nil)))))
      (fun a oe cls d pn hz hf => pss_cons (ps_if (PW.pt (pw_or (pt_not (pt_val (pe_callB (call_isX T.u_own hz hf) rfl T.b_isinstance (by decide +kernel) (pa_cons (pv 3) (pa_cons (pe_glob (v := .ref (He.ga K "UnsoundRow")) rfl T.g_UnsoundRow rfl) pa_nil)))))
          (pw_or (pt_val (pe_callB (call_isX T.u_own hz hf) rfl T.b_isinstance (by decide +kernel) (pa_cons (pv 3) (pa_cons (pe_glob (v := .ref (He.ga K "ImpossibleLife")) rfl T.g_ImpossibleLife rfl) pa_nil))))
            (pw_or1 (pt_not (pt_val (pe_callB (call_isX T.u_own hz hf) rfl T.b_isinstance (by decide +kernel) (pa_cons (pv 3) (pa_cons (pe_bltn (v := .ty "ValueError") rfl T.b_ValueError (by decide +kernel) rfl) pa_nil))))))))) (pss_one (ps_ret pe_bl)) pss_nil)
        (pss_one (ps_ret (pe_and (pe_callB (call_isiK (K := K) rfl) rfl T.b_isinstance (by decide +kernel) (pa_cons (pe_xf T.u_own.x T.u_life hz hf (pv 3)) (pa_cons (pe_bltn (v := .ty "str") rfl T.b_str (by decide +kernel) rfl) pa_nil)))
          (pe_and (pe_callB (call_isiK (K := K) rfl) rfl T.b_isinstance (by decide +kernel) (pa_cons (pe_xf T.u_own.x T.u_what hz hf (pv 3)) (pa_cons (pe_bltn (v := .ty "str") rfl T.b_str (by decide +kernel) rfl) pa_nil)))
            (pe_one (pe_cmpR (op_eqPK (K := K) rfl hr.units) (pe_tup (pa_cons (pe_xf T.u_own.x T.u_life hz hf (pv 3)) (pa_cons (pe_xf T.u_own.x T.u_what hz hf (pv 3)) pa_nil))) (pv 2) (nomark _)))))))))
    (pss_one (ps_ret pe_bl)), ?_⟩
  obtain ⟨r, fp, R, home, lf, wh, rfl, hR, hok, hF, hfp, k⟩ := h
  refine ⟨_, rfl, _, rfl, r, R, home, lf, wh, rfl, hR, hok, hF, fun d H1 s1 hd => ?_⟩
  refine ⟨true, T.u_ex, fun _ a ha => ?_, fun z => by cases z⟩
  have lk1 : List.lookup ("life" : Str) (fldU lf wh) = some (V.str lf) := by kernel_rfl
  have lk2 : List.lookup ("what" : Str) (fldU lf wh) = some (V.str wh) := by kernel_rfl
  refine ⟨_, rfl, .ref (He.ga K "UnsoundRow"), .ref (He.ga K "UnsoundRow"), true, d, fldU lf wh, rfl, fun _ z => z, rfl, rfl, hd, T.u_un, _, rfl, iteF ?_⟩
  refine ⟨_, rfl, .ref (He.ga K "ImpossibleLife"), .ref (He.ga K "ImpossibleLife"), false, d, fldU lf wh, rfl, fun _ z => z, rfl, rfl, hd, T.u_im, _, rfl, iteF ?_⟩
  refine ⟨_, rfl, .ty "ValueError", .type "ValueError", true, d, fldU lf wh, rfl, fun _ z => z, rfl, rfl, hd, T.u_ve, _, rfl, iteF ?_⟩
  refine ⟨_, rfl, rfl, rfl, d, _, _, rfl, hd, lk1, .str lf, .ty "str", _, _, true, rfl, .ty "str", .base (.str lf), kit_ty (by decide +kernel), _, rfl, iteT ?_⟩
  refine ⟨_, rfl, rfl, rfl, d, _, _, rfl, hd, lk2, .str wh, .ty "str", _, _, true, rfl, .ty "str", .base (.str wh), kit_ty (by decide +kernel), _, rfl, iteT ?_⟩
  refine ⟨_, rfl, rfl, rfl, d, _, _, rfl, hd, lk1, _, rfl, rfl, rfl, d, _, _, rfl, hd, lk2, by show 2 ≤ sizeLine; decide, fun t ht => ?_⟩
  have s2 := same_new (o := .tup [.str lf, .str wh]) ht
  have d1 : Dp K (upd H1 t (.tup [.str lf, .str wh])) (.ref t) (.tuple [.str lf, .str wh]) := .tup (SqT.of upd_same) (.cons (.str _) (.cons (.str _) .nil))
  have d2 : Dp K (upd H1 t (.tup [.str lf, .str wh])) (.ref fp) (.tuple [.str lf, .str wh]) := .tup (keep_same (s1.trans s2) _ _ hfp) (.cons (.str _) (.cons (.str _) .nil))
  refine ⟨_, rfl, _, _, true, d1, d2, rfl, rfl, by show 1 ≤ 60; decide, ?_, k _ (s1.trans s2)⟩
  simp [PyData.eqv, PyData.eqvAll]

theorem tyT {H : Hp} {a : Addr} {xs : List V} (h : SqT K H a xs) : TyX K H (.ref a) (.type "tuple") := by
  rcases h with (h | ⟨o, h⟩) | ⟨o, its, n, h1, h2, _⟩
  · exact .base (.tup h)
  · exact .fTuple h
  · exact .kTuple h1 h2
def sp__law_whole (K : PySem.W.Frag) : Sp := fun vs H Q _ => ∃ i : Int, vs = [.int i] ∧ Q (.bl true) H
theorem c__law_whole (T : Tx K mg) : C8.Cal P w K mg base 1 "_law_whole" (sp__law_whole K) [] := by
  refine c_mk T.d__law_whole sc__law_whole (fun vs H Q E h => ?_) (fun f cdv A outer s H vs Q E hr h => ?_)
  · first | (obtain ⟨rfl, _⟩ := h; rfl) | (obtain ⟨_, rfl, _⟩ := h; rfl) | (obtain ⟨_, _, rfl, _⟩ := h; rfl) | (obtain ⟨_, _, _, rfl, _⟩ := h; rfl) | (obtain ⟨_, _, _, _, rfl, _⟩ := h; rfl) | (obtain ⟨_, _, _, _, _, rfl, _⟩ := h; rfl) | (obtain ⟨_, _, _, _, _, _, rfl, _⟩ := h; rfl) | (obtain ⟨_, _, _, _, _, _, _, rfl, _⟩ := h; rfl) | (obtain ⟨_, _, _, _, _, _, _, _, rfl, _⟩ := h; rfl) | (obtain ⟨_, _, _, _, _, _, _, _, _, rfl, _⟩ := h; rfl) | (obtain ⟨_, _, _, _, _, _, _, _, _, _, rfl, _⟩ := h; rfl) | (obtain ⟨_, _, _, _, _, _, _, _, _, _, _, rfl, _⟩ := h; rfl) | (obtain ⟨_, _, _, _, _, _, _, _, _, _, _, _, rfl, _⟩ := h; rfl) | (obtain ⟨_, _, _, _, _, _, _, _, _, _, _, _, _, rfl, _⟩ := h; rfl)
  have hu := hu_of hr
  refine ⟨_, (pss_one (ps_ret (pe_and (pe_callB call_isi rfl T.b_isinstance (by decide +kernel) (pa_cons (pv 0) (pa_cons (pe_bltn (v := .ty "int") rfl T.b_int (by decide +kernel) rfl) pa_nil))) (pe_one (pe_not (pe_callB call_isi rfl T.b_isinstance (by decide +kernel) (pa_cons (pv 0) (pa_cons (pe_bltn (v := .ty "bool") rfl T.b_bool (by decide +kernel) rfl) pa_nil)))))))), ?_⟩
  obtain ⟨i, rfl, k⟩ := h
  refine ⟨_, rfl, .int i, .ty "int", _, _, true, rfl, .ty "int", .base (.int i), kit_ty (by decide +kernel), _, rfl, iteT ?_⟩
  exact ⟨_, rfl, .int i, .ty "bool", _, _, false, rfl, .ty "bool", .base (.int i), kit_ty (by decide +kernel), _, rfl, k⟩
def sp__law_same_node (K : PySem.W.Frag) : Sp := fun vs H Q _ => ∃ (v1 v2 : V) (n : Node), vs = [v1, v2] ∧ NodeV K H v1 n ∧ NodeV K H v2 n ∧ Q (.bl true) H
theorem c__law_same_node (T : Tx K mg) : C8.Cal P w K mg base 2 "_law_same_node" (sp__law_same_node K) [] := by
  have C__law_whole := c__law_whole (P := P) (w := w) (base := base) T
  refine c_mk T.d__law_same_node sc__law_same_node (fun vs H Q E h => ?_) (fun f cdv A outer s H vs Q E hr h => ?_)
  · first | (obtain ⟨rfl, _⟩ := h; rfl) | (obtain ⟨_, rfl, _⟩ := h; rfl) | (obtain ⟨_, _, rfl, _⟩ := h; rfl) | (obtain ⟨_, _, _, rfl, _⟩ := h; rfl) | (obtain ⟨_, _, _, _, rfl, _⟩ := h; rfl) | (obtain ⟨_, _, _, _, _, rfl, _⟩ := h; rfl) | (obtain ⟨_, _, _, _, _, _, rfl, _⟩ := h; rfl) | (obtain ⟨_, _, _, _, _, _, _, rfl, _⟩ := h; rfl) | (obtain ⟨_, _, _, _, _, _, _, _, rfl, _⟩ := h; rfl) | (obtain ⟨_, _, _, _, _, _, _, _, _, rfl, _⟩ := h; rfl) | (obtain ⟨_, _, _, _, _, _, _, _, _, _, rfl, _⟩ := h; rfl) | (obtain ⟨_, _, _, _, _, _, _, _, _, _, _, rfl, _⟩ := h; rfl) | (obtain ⟨_, _, _, _, _, _, _, _, _, _, _, _, rfl, _⟩ := h; rfl) | (obtain ⟨_, _, _, _, _, _, _, _, _, _, _, _, _, rfl, _⟩ := h; rfl)
  have hu := hu_of hr
  refine ⟨_, (pss_cons (ps_if (PW.pt (pw_or (pt_not (pt_val (pe_callB call_isi rfl T.b_isinstance (by decide +kernel) (pa_cons (pv 0) (pa_cons (pe_bltn (v := .ty "tuple") rfl T.b_tuple (by decide +kernel) rfl) pa_nil))))) (pw_or1 (pt_cmpR op_ne (pe_callB call_len_seq rfl T.b_len (by decide +kernel) (pa_cons (pv 0) pa_nil)) pe_int (nomark _))))) (pss_one (ps_ret pe_bl)) pss_nil)
    (pss_cons (ps_if (PW.pt (pw_or (pt_not (pt_val (C8.pe_c (C__law_whole) hr (by decide) rfl (pa_cons (pe_ix ix_tup (pv 0) pe_int (fun _ _ => rfl)) pa_nil)))) (pw_or (pt_not (pt_val (pe_callB call_isi rfl T.b_isinstance (by decide +kernel) (pa_cons (pe_ix ix_tup (pv 0) pe_int (fun _ _ => rfl)) (pa_cons (pe_bltn (v := .ty "bool") rfl T.b_bool (by decide +kernel) rfl) pa_nil))))) (pw_or1 (pt_not (pt_val (pe_callB call_isi rfl T.b_isinstance (by decide +kernel) (pa_cons (pe_ix ix_tup (pv 0) pe_int (fun _ _ => rfl)) (pa_cons (pe_bltn (v := .ty "str") rfl T.b_str (by decide +kernel) rfl) pa_nil))))))))) (pss_one (ps_ret pe_bl)) pss_nil)
    (pss_one (ps_ret (pe_cmpR (op_eqP hr.units) (pv 0) (pv 1) (nomark _)))))), ?_⟩
  obtain ⟨v1, v2, n, rfl, h1, h2, k⟩ := h
  obtain ⟨a, rfl, ha⟩ := id h1
  refine ⟨_, rfl, .ref a, .ty "tuple", _, _, true, rfl, .ty "tuple", tyT ha, kit_ty (by decide +kernel), _, rfl, iteF ?_⟩
  refine ⟨_, rfl, a, _, rfl, .inr ha, rfl, _, rfl, iteF ?_⟩
  refine ⟨_, rfl, a, _, _, _, rfl, rfl, ha, rfl, n.m, rfl, _, rfl, iteF ?_⟩
  refine ⟨_, rfl, a, _, _, _, rfl, rfl, ha, rfl, .bl n.al, .ty "bool", _, _, true, rfl, .ty "bool", .base (.bl n.al), kit_ty (by decide +kernel), _, rfl, iteF ?_⟩
  refine ⟨_, rfl, a, _, _, _, rfl, rfl, ha, rfl, .str n.st.str, .ty "str", _, _, true, rfl, .ty "str", .base (.str n.st.str), kit_ty (by decide +kernel), _, rfl, iteF ?_⟩
  have e := nodeD_eq n n
  rw [decide_eq_true rfl] at e
  exact ⟨_, rfl, _, rfl, _, _, true, h1.dp, h2.dp, rfl, rfl, by show 1 ≤ 60; decide, e, k⟩
def sp__law_same_holds (K : PySem.W.Frag) : Sp := fun vs H Q _ => ∃ (a b : Addr) (us ws : List V) (paper : List (Node × Int)), vs = [.ref a, .ref b] ∧ H a = some (.lst us) ∧ H b = some (.lst ws) ∧ Paired (PEV K H) us paper ∧ Paired (PEV K H) ws paper ∧ paper.length ≤ 1000 ∧ ∀ H', Same H H' → Q (.bl true) H'
theorem c__law_same_holds (T : Tx K mg) : C8.Cal P w K mg base 3 "_law_same_holds" (sp__law_same_holds K) [] := by
  have C__law_whole := c__law_whole (P := P) (w := w) (base := base) T
  have C__law_same_node := c__law_same_node (P := P) (w := w) (base := base) T
  refine c_mk T.d__law_same_holds sc__law_same_holds (fun vs H Q E h => ?_) (fun f cdv A outer s H vs Q E hr h => ?_)
  · first | (obtain ⟨rfl, _⟩ := h; rfl) | (obtain ⟨_, rfl, _⟩ := h; rfl) | (obtain ⟨_, _, rfl, _⟩ := h; rfl) | (obtain ⟨_, _, _, rfl, _⟩ := h; rfl) | (obtain ⟨_, _, _, _, rfl, _⟩ := h; rfl) | (obtain ⟨_, _, _, _, _, rfl, _⟩ := h; rfl) | (obtain ⟨_, _, _, _, _, _, rfl, _⟩ := h; rfl) | (obtain ⟨_, _, _, _, _, _, _, rfl, _⟩ := h; rfl) | (obtain ⟨_, _, _, _, _, _, _, _, rfl, _⟩ := h; rfl) | (obtain ⟨_, _, _, _, _, _, _, _, _, rfl, _⟩ := h; rfl) | (obtain ⟨_, _, _, _, _, _, _, _, _, _, rfl, _⟩ := h; rfl) | (obtain ⟨_, _, _, _, _, _, _, _, _, _, _, rfl, _⟩ := h; rfl) | (obtain ⟨_, _, _, _, _, _, _, _, _, _, _, _, rfl, _⟩ := h; rfl) | (obtain ⟨_, _, _, _, _, _, _, _, _, _, _, _, _, rfl, _⟩ := h; rfl)
  have hu := hu_of hr
  refine ⟨_, (pss_cons (ps_if (PW.pt (pw_or (pt_not (pt_val (pe_callB call_isi rfl T.b_isinstance (by decide +kernel) (pa_cons (pv 0) (pa_cons (pe_bltn (v := .ty "list") rfl T.b_list (by decide +kernel) rfl) pa_nil))))) (pw_or1 (pt_cmpR op_ne (pe_callB call_len_seq rfl T.b_len (by decide +kernel) (pa_cons (pv 0) pa_nil)) (pe_callB call_len_seq rfl T.b_len (by decide +kernel) (pa_cons (pv 1) pa_nil)) (nomark _))))) (pss_one (ps_ret pe_bl)) pss_nil)
    (pss_cons (ps_for PassesOwn.never rfl (pi_range1 rfl T.b_range (pa_cons (pe_callB call_len_seq rfl T.b_len (by decide +kernel) (pa_cons (pv 1) pa_nil)) pa_nil)) (pg_name (i := 2) sc__law_same_holds.nd rfl (by first | exact Or.inl rfl | exact Or.inr rfl)) (pss_cons (ps_set (i := 3) sc__law_same_holds.nd rfl (by first | exact Or.inl rfl | exact Or.inr rfl) (pe_ix ix_list (pv 0) (pv 2) (fun _ _ => rfl)))
    (pss_cons (ps_if (PW.pt (pw_or (pt_not (pt_val (pe_callB call_isi rfl T.b_isinstance (by decide +kernel) (pa_cons (pv 3) (pa_cons (pe_bltn (v := .ty "tuple") rfl T.b_tuple (by decide +kernel) rfl) pa_nil))))) (pw_or (pt_cmpR op_ne (pe_callB call_len_seq rfl T.b_len (by decide +kernel) (pa_cons (pv 3) pa_nil)) pe_int (nomark _)) (pw_or1 (pt_not (pt_val (C8.pe_c (C__law_same_node) hr (by decide) rfl (pa_cons (pe_ix ix_tup (pv 3) pe_int (fun _ _ => rfl)) (pa_cons (pe_ix ix_tup (pe_ix ix_list (pv 1) (pv 2) (fun _ _ => rfl)) pe_int (fun _ _ => rfl)) pa_nil))))))))) (pss_one (ps_ret pe_bl)) pss_nil)
    (pss_one (ps_if (PW.pt (pw_or (pt_not (pt_val (C8.pe_c (C__law_whole) hr (by decide) rfl (pa_cons (pe_ix ix_tup (pv 3) pe_int (fun _ _ => rfl)) pa_nil)))) (pw_or1 (pt_cmpR op_ne (pe_ix ix_tup (pv 3) pe_int (fun _ _ => rfl)) (pe_ix ix_tup (pe_ix ix_list (pv 1) (pv 2) (fun _ _ => rfl)) pe_int (fun _ _ => rfl)) (nomark _))))) (pss_one (ps_ret pe_bl)) pss_nil)))))
    (pss_one (ps_ret pe_bl)))), ?_⟩
  obtain ⟨a, b, us, ws, paper, rfl, ha, hb, hus, hws, hlen, k⟩ := h
  have eu := Paired.length hus
  have ew := Paired.length hws
  have euw : us.length = ws.length := by omega
  refine ⟨_, rfl, .ref a, .ty "list", _, _, true, rfl, .ty "list", .base (.lst ha), kit_ty (by decide +kernel), _, rfl, iteF ?_⟩
  refine ⟨_, rfl, a, _, rfl, .inl (SqL.of ha), _, rfl, b, _, rfl, .inl (SqL.of hb), rfl, _, rfl, ?_⟩
  rw [euw, decide_eq_true rfl]
  refine iteF ?_
  refine ⟨_, rfl, b, _, rfl, .inl (SqL.of hb), ?_⟩
  refine ⟨_, rfl, by omega, by omega, for_range (lo := 0) (n := ws.length) (fun i σ H' => ∃ (x2 x3 : Option V), σ = [some (.ref a), some (.ref b), x2, x3] ∧ Same H H') ⟨none, none, rfl, Same.refl _⟩ ?_ ?_⟩
  · rintro i σ H3 hi ⟨x2, x3, rfl, s3⟩
    obtain ⟨y, x, e1, e2, p, u, rfl, hp, hu⟩ := pr_get (PEV.same s3 hus) i (by omega)
    obtain ⟨y', x', e3, e4, p', u', rfl, hp', hu'⟩ := pr_get (PEV.same s3 hws) i (by omega)
    rw [e2] at e4
    cases e4
    have at1 : atI us ((0 : Int) + (i : Int)) = some (.ref p) := by
      rw [show (0 : Int) + (i : Int) = ((i : Nat) : Int) by omega]
      exact atI_nat e1
    have at2 : atI ws ((0 : Int) + (i : Int)) = some (.ref p') := by
      rw [show (0 : Int) + (i : Int) = ((i : Nat) : Int) by omega]
      exact atI_nat e3
    have ha3 := s3 _ _ ha
    have hb3 := s3 _ _ hb
    refine ⟨_, rfl, _, rfl, a, _, _, _, rfl, rfl, SqL.of ha3, at1, ?_⟩
    refine ⟨_, rfl, .ref p, .ty "tuple", _, _, true, rfl, .ty "tuple", tyT hp, kit_ty (by decide +kernel), _, rfl, iteF ?_⟩
    refine ⟨_, rfl, p, _, rfl, .inr hp, rfl, _, rfl, iteF ?_⟩
    refine ⟨_, rfl, p, _, _, _, rfl, rfl, hp, rfl, _, rfl, _, rfl, b, _, _, _, rfl, rfl, SqL.of hb3, at2, p', _, _, _, rfl, rfl, hp', rfl, _, _, _, rfl, hu, hu', _, rfl, iteF ?_⟩
    refine ⟨_, rfl, p, _, _, _, rfl, rfl, hp, rfl, _, rfl, _, rfl, iteF ?_⟩
    refine ⟨_, rfl, p, _, _, _, rfl, rfl, hp, rfl, _, rfl, _, rfl, b, _, _, _, rfl, rfl, SqL.of hb3, at2, p', _, _, _, rfl, rfl, hp', rfl, rfl, _, rfl, ?_⟩
    rw [decide_eq_true rfl]
    exact iteF ⟨_, _, rfl, s3⟩
  · rintro σ H3 ⟨x2, x3, rfl, s3⟩
    exact k H3 s3

def paperD (paper : List (Node × Int)) : PyData := .list (paper.map fun x => .tuple [nodeD x.1, .int x.2])
theorem pap_dps {K : PySem.W.Frag} {H : Hp} : ∀ {us : List V} {paper : List (Node × Int)}, Paired (PEV K H) us paper → DpAll K H us (paper.map fun x => .tuple [nodeD x.1, .int x.2])
  | _, _, .nil => .nil
  | _, _, .cons ⟨b, u, e, hb, hu⟩ t => by
    subst e
    exact .cons (.tup hb (.cons hu.dp (.cons (.int _) .nil))) (pap_dps t)
theorem pap_eqv : ∀ paper : List (Node × Int), PyData.eqvAll (paper.map fun x => .tuple [nodeD x.1, .int x.2]) (paper.map fun x => .tuple [nodeD x.1, .int x.2]) = true
  | [] => rfl
  | x :: paper => by
    have ih := pap_eqv paper
    have e := nodeD_eq x.1 x.1
    rw [decide_eq_true rfl] at e
    simp only [List.map_cons, PyData.eqvAll, PyData.eqv, e, ih]
    simp
theorem pap_plain : ∀ paper : List (Node × Int), PyData.plainAll (paper.map fun x => .tuple [nodeD x.1, .int x.2]) = true
  | [] => rfl
  | x :: paper => by
    have ih := pap_plain paper
    rw [List.map_cons]
    show ((PyData.tuple [nodeD x.1, .int x.2]).plain && PyData.plainAll (paper.map fun x => .tuple [nodeD x.1, .int x.2])) = true
    rw [ih] <;> rfl
theorem pap_depth : ∀ paper : List (Node × Int), PyData.depthAll (paper.map fun x => .tuple [nodeD x.1, .int x.2]) ≤ 3
  | [] => by show 0 ≤ 3; decide
  | x :: paper => by
    have ih := pap_depth paper
    rw [List.map_cons]
    show max (max (max 0 (max 0 (max 0 0)) + 1) (max 0 0) + 1) (PyData.depthAll (paper.map fun x => .tuple [nodeD x.1, .int x.2])) ≤ 3
    omega

theorem pap_any {paper : List (Node × Int)} {x : Node × Int} (h : x ∈ paper) : (paper.map fun x => PyData.tuple [nodeD x.1, .int x.2]).any (fun e => PyData.eqv e (.tuple [nodeD x.1, .int x.2])) = true := by
  refine List.any_eq_true.mpr ⟨_, List.mem_map.mpr ⟨x, h, rfl⟩, ?_⟩
  have e := nodeD_eq x.1 x.1
  rw [decide_eq_true rfl] at e
  simp [PyData.eqv, PyData.eqvAll, e]
theorem runs_mem {R : RowM} {home : Int} (j : Judge R home R.paper) {p : List Ev} {n : Node} {h : Int} (hl : Life R p n h) {x : Node × Int} (hx : x ∈ R.runs p) : x ∈ R.paper := by
  obtain ⟨i, _, rfl⟩ := List.mem_map.mp hx
  exact j.life (hl.take i)
def sp__law_held (K : PySem.W.Frag) : Sp := fun vs H Q _ => ∃ (d r s l : Addr) (ds : List Int) (R : RowM) (home : Int), vs = [.ref d, .ref r, .ref s, .int home] ∧ H d = some (.lst (ds.map V.int)) ∧ RowV K H r R ∧ SpecV K H s l R ∧ HeldArgs R ∧ RuleOk R.rule ∧ Sound R home ∧
  ∀ (es : List Int) (H' : Hp), But d H H' → H' d = some (.lst (es.map V.int)) → Q (.bl true) H'
theorem c__law_held (T : Tx K mg) : C8.Cal P w K mg base 6 "_law_held" (sp__law_held K) [] := by
  have C__law_same_holds := c__law_same_holds (P := P) (w := w) (base := base) T
  have C_holdings := c_holdings (P := P) (w := w) (base := base) T
  have C__law_path := c__law_path (P := P) (w := w) (base := base) T
  have C__law_life := c__law_life (P := P) (w := w) (base := base) T
  have C__law_take := c__law_take (P := P) (w := w) (base := base) T
  have C_judge_holdings := c_judge_holdings (P := P) (w := w) (base := base) T
  have C__law_chart := c__law_chart (P := P) (w := w) (base := base) T
  refine c_mk T.d__law_held sc__law_held (fun vs H Q E h => ?_) (fun f cdv A outer s H vs Q E hr h => ?_)
  · first | (obtain ⟨rfl, _⟩ := h; rfl) | (obtain ⟨_, rfl, _⟩ := h; rfl) | (obtain ⟨_, _, rfl, _⟩ := h; rfl) | (obtain ⟨_, _, _, rfl, _⟩ := h; rfl) | (obtain ⟨_, _, _, _, rfl, _⟩ := h; rfl) | (obtain ⟨_, _, _, _, _, rfl, _⟩ := h; rfl) | (obtain ⟨_, _, _, _, _, _, rfl, _⟩ := h; rfl) | (obtain ⟨_, _, _, _, _, _, _, rfl, _⟩ := h; rfl) | (obtain ⟨_, _, _, _, _, _, _, _, rfl, _⟩ := h; rfl) | (obtain ⟨_, _, _, _, _, _, _, _, _, rfl, _⟩ := h; rfl) | (obtain ⟨_, _, _, _, _, _, _, _, _, _, rfl, _⟩ := h; rfl) | (obtain ⟨_, _, _, _, _, _, _, _, _, _, _, rfl, _⟩ := h; rfl) | (obtain ⟨_, _, _, _, _, _, _, _, _, _, _, _, rfl, _⟩ := h; rfl) | (obtain ⟨_, _, _, _, _, _, _, _, _, _, _, _, _, rfl, _⟩ := h; rfl)
  have hu := hu_of hr
  refine ⟨_, (pss_cons (ps_setLc (i := 5) (own := [("pair", 4)]) (g := gName 4) rfl sc__law_held.nd rfl rfl (sw_true rfl rfl rfl (by decide +kernel)) (pi_list (C8.pe_c (C__law_chart) hr (by decide) rfl (pa_cons (pv 2) pa_nil))) (blkOk_by (own := [("pair", 4)]) (N := N__law_held) (sc := defScope s__law_held) (by decide +kernel)) (fun _ _ _ _ _ => (pg_name (i := 4) sc__law_held.nd rfl (by first | exact Or.inl rfl | exact Or.inr rfl))) (fun _ _ _ _ _ => pts_nil) (fun _ _ _ _ _ => (pe_tup (pa_cons (pe_ix (ix_tupK (K := K) rfl) (pv 4) pe_int (fun _ _ => rfl)) (pa_cons (pe_ix (ix_tupK (K := K) rfl) (pe_ix (ix_listK (K := K) rfl) (pe_ix (ix_tupK (K := K) rfl) (C8.pe_c (C__law_path) hr (by decide) rfl (pa_cons (pv 2) (pa_cons (pe_ix (ix_tupK (K := K) rfl) (pv 4) pe_int (fun _ _ => rfl)) pa_nil))) pe_int (fun _ _ => rfl)) (pe_un un_neg pe_int) (fun _ _ => rfl)) pe_int (fun _ _ => rfl)) pa_nil)))))
    (pss_cons (ps_set (i := 6) sc__law_held.nd rfl (by first | exact Or.inl rfl | exact Or.inr rfl) (C8.pe_c (C_holdings) hr (by decide) rfl (pa_cons (pv 1) (pa_cons (pv 3) pa_nil))))
    (pss_cons (ps_if (PW.pt (pw_or (pt_not (pt_val (C8.pe_c (C__law_same_holds) hr (by decide) rfl (pa_cons (pv 6) (pa_cons (pv 5) pa_nil))))) (pw_or1 (pt_cmpR op_notBl (C8.pe_c (C_judge_holdings) hr (by decide) rfl (pa_cons (pv 1) (pa_cons (pv 3) (pa_cons (pv 6) pa_nil)))) pe_bl (nomark _))))) (pss_one (ps_ret pe_bl)) pss_nil)
    (pss_cons (ps_asg (pe_tup (pa_cons (pe_tup (pa_cons pe_int (pa_cons pe_bl (pa_cons pe_str pa_nil)))) (pa_cons pe_int pa_nil))) (pg_sub (pv 6) pe_int set_list))
    (pss_cons (ps_expr (pe_bm PySem.F.plainAttrs_list PySem.F.slot_list_append PySem.F.type_list_append mt_append (pv 6) (pa_cons (pe_tup (pa_cons (pe_tup (pa_cons pe_int (pa_cons pe_bl (pa_cons pe_str pa_nil)))) (pa_cons pe_int pa_nil))) pa_nil)))
    (pss_cons (ps_for PassesOwn.never rfl (pi_range1 rfl T.b_range (pa_cons pe_int pa_nil)) (pg_name (i := 7) sc__law_held.nd rfl (by first | exact Or.inl rfl | exact Or.inr rfl)) (pss_cons (ps_set (i := 8) sc__law_held.nd rfl (by first | exact Or.inl rfl | exact Or.inr rfl) (C8.pe_c (C__law_life) hr (by decide) rfl (pa_cons (pv 0) (pa_cons (pv 2) (pa_cons (C8.pe_c (C__law_take) hr (by decide) rfl (pa_cons (pv 0) (pa_cons pe_int pa_nil))) pa_nil)))))
    (pss_one (ps_for PassesOwn.never rfl (pi_list (pe_ix ix_tup (C8.pe_c (C__law_path) hr (by decide) rfl (pa_cons (pv 2) (pa_cons (pv 8) pa_nil))) pe_int (fun _ _ => rfl))) (pg_name (i := 4) sc__law_held.nd rfl (by first | exact Or.inl rfl | exact Or.inr rfl)) (pss_one (ps_if (pt_cmpR (op_notInP hr.units) (pv 4) (pv 5) (by with_unfolding_all rfl)) (pss_one (ps_ret pe_bl)) pss_nil))))))
    (pss_one (ps_ret (C8.pe_c (C__law_same_holds) hr (by decide) rfl (pa_cons (C8.pe_c (C_holdings) hr (by decide) rfl (pa_cons (pv 1) (pa_cons (pv 3) pa_nil))) (pa_cons (pv 5) pa_nil))))))))))), ?_⟩
  obtain ⟨d, r, s, l, ds, R, home, rfl, hd, hRo, hR, hargs, hok, hsnd, k⟩ := h
  have hjd := hsnd.paper hok hargs.1
  have plen := (paper_len hok).1
  have plen1 := (paper_len hok).2
  refine ⟨_, rfl, s, l, R, rfl, hR, hargs, hok, fun c us H1 s1 _ hc hus => ?_⟩
  have elen := Paired.length hus
  have l24 : R.chart.length ≤ 24 := (cq_ok hok 24).len hok
  have clif : ∀ x ∈ R.chart, ∃ p h, x.life = evS p ∧ Life R p x.n h ∧ p.length ≤ 24 := fun x hx => chart_life hok hx
  have pt := paper_take R
  have pl : R.paper = R.paper.take R.chart.length := by
    rw [List.take_of_length_le]
    unfold RowM.paper
    rw [List.length_map]
    exact Nat.le_refl _
  refine ⟨c, rfl, ⟨_, SqL.of hc⟩, fun D hD => ?_⟩
  have hDH : H D = none := s1.free hD
  generalize R.chart = C at *
  refine lc_list (xs := us) (fun i H2 => ∃ ms, Same H1 H2 ∧ H2 D = some (.lst ms) ∧ Paired (PEV K H2) ms (R.paper.take i)) ⟨[], same_new hD, upd_same, .nil⟩ (fun i H2 _ ⟨_, s2, _⟩ => SqL.of (s2 _ _ hc)) ?_ ?_
  · rintro i y H2 hi ⟨ms, s2, h2, hms⟩
    have hil := (List.getElem?_eq_some_iff.mp hi).1
    obtain ⟨y', x, e1, e2, b, u, rfl, hb, hu⟩ := pr_get (Paired.mapP hus fun _ _ z => z.mono (keep_same s2)) i (by omega)
    rw [hi] at e1
    cases e1
    obtain ⟨p, h, ex, hl, hlen⟩ := clif x (List.mem_of_getElem? e2)
    rw [ex] at hb
    refine ⟨rfl, ?_⟩
    unfold tYes
    have tk : R.paper.take (i + 1) = R.paper.take i ++ [(x.n, h)] := by
      rw [pt, pt, take_snoc e2, List.map_append, List.map_singleton, paper_at ex hl]
    have lms : ms.length ≤ 24 := by
      have := Paired.length hms
      rw [this, pt, List.length_map]
      exact Nat.le_trans (List.length_take_le' _ _) l24
    refine iteT ⟨_, rfl, b, _, _, _, rfl, rfl, hb, rfl, _, rfl, _, rfl, b, _, _, _, rfl, rfl, hb, rfl, s, l, R, p, x.n, h, rfl, (hR.same s1).same s2, hargs, hok, hl, by omega, fun t q us2 H3 s3 ht hq hus2 => ?_⟩
    obtain ⟨b2, u2, at2, hb2, hu2⟩ := runs_end hl hus2
    refine ⟨t, _, _, _, rfl, rfl, SqT.of ht, rfl, _, rfl, q, _, _, _, rfl, rfl, SqL.of hq, at2, b2, _, _, _, rfl, rfl, hb2, rfl, (by show 2 ≤ sizeLine; decide), fun z hz => ?_⟩
    have s4 := same_new (o := .tup [u, .int h]) hz
    have h4 := s4 _ _ (s3 _ _ h2)
    have b5 : But D (upd H3 z (.tup [u, .int h])) (upd (upd H3 z (.tup [u, .int h])) D (.lst (ms ++ [.ref z]))) := But.upd
    have k5 := keep_lst (K := K) b5 h4
    have k35 : KeepT K H2 _ := fun a' xs' h' => k5 _ _ (keep_same (s3.trans s4) _ _ h')
    refine ⟨ms, h4, Nat.lt_of_le_of_lt lms (by decide), ms ++ [.ref z], fun b' o hb' => b5 _ _ (s4 _ _ (s3 _ _ (s2 _ _ hb'))) (ne_of_none hb' hD), upd_same, ?_⟩
    rw [tk]
    exact pr_app (PEV.keep k35 hms) (.cons ⟨z, u, rfl, k5 _ _ (SqT.of upd_same), hu.mono k35⟩ .nil)
  rintro H2 ⟨ms, s2, h2, hms⟩
  rw [elen, ← pl] at hms
  have s02 := s1.trans s2
  refine ⟨_, rfl, _, rfl, r, R, home, rfl, hRo.same s02, hok, hsnd, fun q us3 H3 s3 hqn hq hus3 => ?_⟩
  have nqD : q ≠ D := fun e => by rw [e, h2] at hqn; cases hqn
  have hqH : H q = none := s02.free hqn
  have eu3 := Paired.length hus3
  refine ⟨_, rfl, _, rfl, q, D, us3, ms, R.paper, rfl, hq, s3 _ _ h2, hus3, PEV.same s3 hms, by omega, fun H4 s4 => ⟨_, rfl, iteF ?_⟩⟩
  have s24 := s3.trans s4
  refine ⟨_, rfl, _, rfl, _, rfl, r, q, R, home, us3, R.paper, rfl, (hRo.same s02).same s24, hok, SqL.of (s4 _ _ hq), PEV.same s4 hus3, by omega, fun bb H5 s5 hbb => ?_⟩
  have ebb := hbb.mpr hjd
  subst ebb
  have s25 := s24.trans s5
  refine ⟨_, _, rfl, rfl, _, rfl, iteF ?_⟩
  have hq5 := s5 _ _ (s4 _ _ hq)
  have hD5 := s25 _ _ h2
  have hms5 := PEV.same s25 hms
  have s05 := s02.trans s25
  clear hms hus3 hus s2 s24 s25 s3 s4 s5
  refine ⟨(by show 3 ≤ sizeLine; decide), fun t1 ht1 => ⟨(by show 2 ≤ sizeLine; decide), fun z1 hz1 => ?_⟩⟩
  have s6 := (same_new (o := .tup [.int 0, .bl false, .str "shut"]) ht1).trans (same_new (o := .tup [.ref t1, .int 1]) hz1)
  have hq6 := s6 _ _ hq5
  have hD6 := s6 _ _ hD5
  have hms6 := PEV.same s6 hms5
  have s06 := s05.trans s6
  generalize upd (upd H5 t1 (.tup [.int 0, .bl false, .str "shut"])) z1 (.tup [.ref t1, .int 1]) = H6 at *
  have ix : ixN us3.length 0 = some 0 := by
    unfold ixN
    rw [if_pos (by decide), if_pos (by omega)]
    rfl
  refine ⟨_, rfl, q, _, _, _, rfl, rfl, hq6, ix, ?_⟩
  have b7 : But q H6 (upd H6 q (.lst (us3.set 0 (.ref z1)))) := But.upd
  have hq7 : upd H6 q (.lst (us3.set 0 (.ref z1))) q = some (.lst (us3.set 0 (.ref z1))) := upd_same
  have hD7 := b7 _ _ hD6 (Ne.symm nqD)
  have hms7 := PEV.keep (keep_lst (K := K) b7 hq6) hms6
  have s07 : Same H (upd H6 q (.lst (us3.set 0 (.ref z1)))) := fun b o hb => b7 _ _ (s06 _ _ hb) (ne_of_none hb hqH)
  generalize upd H6 q (.lst (us3.set 0 (.ref z1))) = H7 at *
  refine ⟨_, rfl, .inl ⟨rfl, _, .inl (.inl hq7)⟩, (by show 3 ≤ sizeLine; decide), fun t2 ht2 => ⟨(by show 2 ≤ sizeLine; decide), fun z2 hz2 => ?_⟩⟩
  have s8 := (same_new (o := .tup [.int 0, .bl true, .str "open"]) ht2).trans (same_new (o := .tup [.ref t2, .int 1]) hz2)
  have hq8 := s8 _ _ hq7
  have hD8 := s8 _ _ hD7
  have hms8 := PEV.same s8 hms7
  have s08 := s07.trans s8
  generalize upd (upd H7 t2 (.tup [.int 0, .bl true, .str "open"])) z2 (.tup [.ref t2, .int 1]) = H8 at *
  refine ⟨q, _, _, rfl, rfl, hq8, ?_, ?_⟩
  · rw [List.length_set]
    exact Nat.lt_of_le_of_lt (show us3.length ≤ 24 by omega) (by decide)
  have b9 : But q H8 (upd H8 q (.lst (us3.set 0 (.ref z1) ++ [.ref z2]))) := But.upd
  have hD9 := b9 _ _ hD8 (Ne.symm nqD)
  have hms9 := PEV.keep (keep_lst (K := K) b9 hq8) hms8
  have s09 : Same H (upd H8 q (.lst (us3.set 0 (.ref z1) ++ [.ref z2]))) := fun b o hb => b9 _ _ (s08 _ _ hb) (ne_of_none hb hqH)
  generalize upd H8 q (.lst (us3.set 0 (.ref z1) ++ [.ref z2])) = H9 at *
  have nDd : D ≠ d := fun e => by rw [e, hd] at hDH; cases hDH
  clear b9 b7 hms8 hms7 hms6 hms5 hD8 hD7 hD6 hD5 hq8 hq7 hq6 hq5 s8 s6 s08 s07 s06 s05 ht1 hz1 ht2 hz2
  refine ⟨3, rfl, by decide, by decide, for_range (lo := 0) (n := 3) (fun i σ H' => ∃ (es : List Int) (x4 x7 x8 : Option V), σ = [some (.ref d), some (.ref r), some (.ref s), some (.int home), x4, some (.ref D), some (.ref q), x7, x8] ∧ But d H H' ∧ H' d = some (.lst (es.map V.int)) ∧ H' D = some (.lst ms) ∧ Paired (PEV K H') ms R.paper) ⟨ds, _, _, _, rfl, Same.but s09, s09 _ _ hd, hD9, hms9⟩ ?_ ?_⟩
  · rintro i σ H10 hi ⟨es, x4, x7, x8, rfl, b10, hd10, hD10, hms10⟩
    refine ⟨_, rfl, _, rfl, _, rfl, d, es, 51, rfl, hd10, by decide, fun m e2 m0 m1 => ?_⟩
    have b11 : But d H10 (upd H10 d (.lst (e2.map V.int))) := But.upd
    have hd11 : upd H10 d (.lst (e2.map V.int)) d = some (.lst (e2.map V.int)) := upd_same
    have hD11 := b11 _ _ hD10 nDd
    have hms11 := PEV.keep (keep_lst (K := K) b11 hd10) hms10
    generalize upd H10 d (.lst (e2.map V.int)) = H11 at *
    have b0 := b10.trans b11
    refine ⟨d, s, l, e2, R, m, rfl, hd11, hR.but b0 hd hok, hargs, hok, m0, by omega, fun p n h e3 H12 b12 hd12 hl hlen => ?_⟩
    have hD12 := b12 _ _ hD11 nDd
    have hms12 := PEV.keep (keep_lst (K := K) b12 hd11) hms11
    have b02 := b0.trans b12
    refine ⟨_, rfl, _, rfl, s, l, R, p, n, h, rfl, hR.but b02 hd hok, hargs, hok, hl, by omega, fun t q2 us2 H13 s13 ht hq2 hus2 => ?_⟩
    have hD13 := s13 _ _ hD12
    have hms13 := PEV.same s13 hms12
    have hd13 := s13 _ _ hd12
    have b03 := b02.trans (Same.but s13)
    refine ⟨t, _, _, _, rfl, rfl, SqT.of ht, rfl, q2, rfl, ⟨_, SqL.of hq2⟩, for_list (xs := us2) (fun j σ H' => ∃ (x4 : Option V), σ = [some (.ref d), some (.ref r), some (.ref s), some (.int home), x4, some (.ref D), some (.ref q), some (.int (0 + i)), some (.str (evS p))] ∧ Same H13 H') ⟨_, rfl, Same.refl _⟩ (fun j σ H' _ ⟨_, _, s14⟩ => SqL.of (s14 _ _ hq2)) ?_ ?_⟩
    · rintro j y σ H14 hj ⟨x4, rfl, s14⟩
      have hjl := (List.getElem?_eq_some_iff.mp hj).1
      have eu2 := Paired.length hus2
      obtain ⟨y', x, e1, e5, pe⟩ := pr_get (PEV.same s14 hus2) j (by omega)
      rw [hj] at e1
      cases e1
      have mem := runs_mem hjd hl (List.mem_of_getElem? e5)
      obtain ⟨b, u, rfl, hb, hu⟩ := pe
      have dz : Dp K H14 (.ref b) (.tuple [nodeD x.1, .int x.2]) := .tup hb (.cons hu.dp (.cons (.int _) .nil))
      refine ⟨_, rfl, _, rfl, .tuple [nodeD x.1, .int x.2], _, true, dz, .inl (.lst (SqL.of (s14 _ _ hD13)) (pap_dps (PEV.same s14 hms13))), rfl, pap_plain _, by show 2 ≤ 60; decide, pap_any mem, _, rfl, iteF ?_⟩
      exact ⟨_, rfl, s14⟩
    · rintro σ H14 ⟨x4, rfl, s14⟩
      exact ⟨e3, _, _, _, rfl, b03.trans (Same.but s14), s14 _ _ hd13, s14 _ _ hD13, PEV.same s14 hms13⟩
  · rintro σ H10 ⟨es, x4, x7, x8, rfl, b10, hd10, hD10, hms10⟩
    refine ⟨_, rfl, _, rfl, r, R, home, rfl, hRo.but b10 hd, hok, hsnd, fun q5 us5 H12 s12 _ hq5 hus5 => ?_⟩
    refine ⟨_, rfl, q5, D, us5, ms, R.paper, rfl, hq5, s12 _ _ hD10, hus5, PEV.same s12 hms10, by omega, fun H13 s13 => ?_⟩
    exact k es H13 (b10.trans (Same.but (s12.trans s13))) (s13 _ _ (s12 _ _ hd10))

theorem plain_sound {mode : Str} (hm : mode = "copied" ∨ mode = "refused") {home : Int} : Sound (plainR mode) home := by
  have nh : ¬ (plainR mode).mode = "held" := by
    show ¬ mode = "held"
    rcases hm with h | h <;> rw [h] <;> decide +kernel
  have e : ∀ n f, (plainR mode).evs n f = [] := fun n f => by
    unfold RowM.evs
    refine List.filter_eq_nil_iff.mpr fun e _ => ?_
    unfold RowM.can
    rw [if_neg nh]
    decide
  intro p n h hl hp
  cases hl with
  | nil => exact absurd rfl hp
  | snoc a b =>
    rw [e] at b
    cases b
theorem plain_paper {mode : Str} (hm : mode = "copied" ∨ mode = "refused") : (plainR mode).paper = [(start, 0)] := by
  rcases hm with h | h <;> rw [h] <;> decide +kernel
def sp_law (K : PySem.W.Frag) : Sp := fun vs H Q _ => ∃ (a : Addr) (ns : List Int), vs = [.ref a] ∧ SqL K H a (ns.map V.int) ∧ ns.length ≤ 63 ∧ ∀ H', Q (.bl true) H'
theorem ok_law {f : Addr} {fd : FuncData} (F : FnP K "law" "law" s_law f fd) (T : Tx K mg) : FnOk P w K mg base C8.CX0 7 f fd ["script"] (sp_law K) := by
  have C__law_same_holds := c__law_same_holds (P := P) (w := w) (base := base) T
  have C_holdings := c_holdings (P := P) (w := w) (base := base) T
  have C_plain_row := c_plain_row (P := P) (w := w) (base := base) T
  have C__law_held := c__law_held (P := P) (w := w) (base := base) T
  have C__law_refused := c__law_refused (P := P) (w := w) (base := base) T
  have C__law_first_flaw := c__law_first_flaw (P := P) (w := w) (base := base) T
  have C__law_row := c__law_row (P := P) (w := w) (base := base) T
  have C__law_spec := c__law_spec (P := P) (w := w) (base := base) T
  have C__law_deck := c__law_deck (P := P) (w := w) (base := base) T
  refine law_mk F sc_law (fun vs H Q E h => ?_) (fun f cdv A outer s H vs Q E hr h => ?_)
  · first | (obtain ⟨rfl, _⟩ := h; rfl) | (obtain ⟨_, rfl, _⟩ := h; rfl) | (obtain ⟨_, _, rfl, _⟩ := h; rfl) | (obtain ⟨_, _, _, rfl, _⟩ := h; rfl) | (obtain ⟨_, _, _, _, rfl, _⟩ := h; rfl) | (obtain ⟨_, _, _, _, _, rfl, _⟩ := h; rfl) | (obtain ⟨_, _, _, _, _, _, rfl, _⟩ := h; rfl) | (obtain ⟨_, _, _, _, _, _, _, rfl, _⟩ := h; rfl) | (obtain ⟨_, _, _, _, _, _, _, _, rfl, _⟩ := h; rfl) | (obtain ⟨_, _, _, _, _, _, _, _, _, rfl, _⟩ := h; rfl) | (obtain ⟨_, _, _, _, _, _, _, _, _, _, rfl, _⟩ := h; rfl) | (obtain ⟨_, _, _, _, _, _, _, _, _, _, _, rfl, _⟩ := h; rfl) | (obtain ⟨_, _, _, _, _, _, _, _, _, _, _, _, rfl, _⟩ := h; rfl) | (obtain ⟨_, _, _, _, _, _, _, _, _, _, _, _, _, rfl, _⟩ := h; rfl)
  have hu := hu_of hr
  refine ⟨_, (pss_cons (ps_set (i := 1) sc_law.nd rfl (by first | exact Or.inl rfl | exact Or.inr rfl) (C8.pe_c (C__law_deck) hr (by decide) rfl (pa_cons (pv 0) (pa_cons pe_int (pa_cons pe_int pa_nil)))))
    (pss_cons (ps_for PassesOwn.never rfl (pi_range1 rfl T.b_range (pa_cons pe_int pa_nil)) (pg_name (i := 2) sc_law.nd rfl (by first | exact Or.inl rfl | exact Or.inr rfl)) (pss_cons (ps_set (i := 3) sc_law.nd rfl (by first | exact Or.inl rfl | exact Or.inr rfl) (C8.pe_c (C__law_spec) hr (by decide) rfl (pa_cons (pv 1) pa_nil)))
    (pss_cons (ps_set (i := 4) sc_law.nd rfl (by first | exact Or.inl rfl | exact Or.inr rfl) (C8.pe_c (C__law_row) hr (by decide) rfl (pa_cons (pv 3) pa_nil)))
    (pss_one (ps_for PassesOwn.never rfl (pi_range1 rfl T.b_range (pa_cons pe_int pa_nil)) (pg_name (i := 5) sc_law.nd rfl (by first | exact Or.inl rfl | exact Or.inr rfl)) (pss_cons (ps_set (i := 6) sc_law.nd rfl (by first | exact Or.inl rfl | exact Or.inr rfl) (C8.pe_c (C__law_first_flaw) hr (by decide) rfl (pa_cons (pv 3) (pa_cons (pv 5) pa_nil))))
    (pss_cons (ps_if (PW.pt (pw_and (pt_cmpR op_notN (pv 6) pe_non (nomark _)) (pw_and1 (pt_not (pt_val (C8.pe_c (C__law_refused) hr (by decide) rfl (pa_cons (pv 4) (pa_cons (pv 5) (pa_cons (pv 6) pa_nil))))))))) (pss_one (ps_ret pe_bl)) pss_nil)
    (pss_one (ps_if (PW.pt (pw_and (pt_cmpR op_isN (pv 6) pe_non (nomark _)) (pw_and1 (pt_not (pt_val (C8.pe_c (C__law_held) hr (by decide) rfl (pa_cons (pv 1) (pa_cons (pv 4) (pa_cons (pv 3) (pa_cons (pv 5) pa_nil)))))))))) (pss_one (ps_ret pe_bl)) pss_nil)))))))))
    (pss_cons (ps_for PassesOwn.never rfl (pi_tup (pe_tup (pa_cons pe_str (pa_cons pe_str pa_nil)))) (pg_name (i := 7) sc_law.nd rfl (by first | exact Or.inl rfl | exact Or.inr rfl)) (pss_one (ps_if (pt_not (pt_val (C8.pe_c (C__law_same_holds) hr (by decide) rfl (pa_cons (C8.pe_c (C_holdings) hr (by decide) rfl (pa_cons (C8.pe_c (C_plain_row) hr (by decide) rfl (pa_cons (pv 7) pa_nil)) (pa_cons pe_int pa_nil))) (pa_cons (pe_lst (pa_cons (pe_tup (pa_cons (pe_tup (pa_cons pe_int (pa_cons pe_bl (pa_cons pe_str pa_nil)))) (pa_cons pe_int pa_nil))) pa_nil)) pa_nil))))) (pss_one (ps_ret pe_bl)) pss_nil)))
    (pss_one (ps_ret pe_bl))))), ?_⟩
  obtain ⟨a, ns, rfl, hS, hl, k⟩ := h
  refine ⟨_, rfl, a, ns, 32, 14, rfl, hS, hl, by decide, by decide, by decide, by decide, fun d H1 ds hdn s1 hd1 => ?_⟩
  refine ⟨2, rfl, by decide, by decide, for_range (lo := 0) (n := 2) (fun i σ H2 => ∃ (es : List Int) (x2 x3 x4 x5 x6 : Option V), σ = [some (.ref a), some (.ref d), x2, x3, x4, x5, x6, none] ∧ H2 d = some (.lst (es.map V.int))) ⟨ds, _, _, _, _, _, rfl, hd1⟩ ?_ ?_⟩
  · rintro i σ H2 hi ⟨es, x2, x3, x4, x5, x6, rfl, hd⟩
    refine ⟨_, rfl, d, es, rfl, hd, fun s l R es' H3 hs nsd b3 hd3 hSp hA hOk => ?_⟩
    refine ⟨_, rfl, s, l, R, rfl, hSp, hA, hOk, fun r H4 s4 hR => ?_⟩
    have hSp4 := hSp.same s4
    have hd4 := s4 _ _ hd3
    refine ⟨2, rfl, by decide, by decide, for_range (lo := 0) (n := 2) (fun j σ H5 => ∃ (es : List Int) (x5 x6 : Option V), σ = [some (.ref a), some (.ref d), some (.int (0 + i)), some (.ref s), some (.ref r), x5, x6, none] ∧ But d H4 H5 ∧ H5 d = some (.lst (es.map V.int))) ⟨es', _, _, rfl, But.refl _ _, hd4⟩ ?_ ?_⟩
    · rintro j σ H5 hj ⟨e5, x5, x6, rfl, b5, hd5⟩
      have hSp5 := hSp4.but b5 hd4 hOk
      have hR5 := hR.but b5 hd4
      refine ⟨_, rfl, _, rfl, s, l, R, 0 + (j : Int), rfl, hSp5, hA, hOk, fun res v H6 s6 hF hV => ?_⟩
      have b6 := b5.trans (Same.but (d := d) s6)
      have hd6 := s6 _ _ hd5
      cases res with
      | none =>
        cases (show v = .non from hV)
        refine ⟨_, rfl, rfl, _, rfl, iteF ?_⟩
        refine ⟨_, rfl, rfl, _, rfl, iteT ?_⟩
        refine ⟨_, rfl, _, rfl, _, rfl, _, rfl, d, r, s, l, e5, R, 0 + (j : Int), rfl, hd6, hR5.same s6, hSp5.same s6, hA, hOk, hF.least hOk, fun e7 H7 b7 hd7 => ?_⟩
        exact ⟨_, rfl, iteF ⟨e7, _, _, rfl, b6.trans b7, hd7⟩⟩
      | some z =>
        obtain ⟨lf, wh⟩ := z
        obtain ⟨p, rfl, hp⟩ := id hV
        refine ⟨_, rfl, rfl, _, rfl, iteT ?_⟩
        refine ⟨_, rfl, _, rfl, _, rfl, r, p, R, 0 + (j : Int), lf, wh, rfl, hR5.same s6, hOk, hF, SqT.of hp, fun H7 s7 => ⟨_, rfl, iteF ?_⟩⟩
        exact ⟨_, rfl, rfl, _, rfl, iteF ⟨e5, _, _, rfl, b6.trans (Same.but s7), s7 _ _ hd6⟩⟩
    · rintro σ H5 ⟨e5, x5, x6, rfl, b5, hd5⟩
      exact ⟨e5, _, _, _, _, _, rfl, hd5⟩
  · rintro σ H2 ⟨es, x2, x3, x4, x5, x6, rfl, hd⟩
    refine ⟨(by show 2 ≤ sizeLine; decide), fun t ht => ?_⟩
    have ht5 : upd H2 t (.tup [.str "copied", .str "refused"]) t = some (.tup [.str "copied", .str "refused"]) := upd_same
    refine ⟨t, rfl, ⟨_, SqT.of ht5⟩, for_tup (xs := [.str "copied", .str "refused"]) (fun j σ H5 => ∃ x7 : Option V, σ = [some (.ref a), some (.ref d), x2, x3, x4, x5, x6, x7] ∧ Same (upd H2 t (.tup [.str "copied", .str "refused"])) H5) ⟨_, rfl, Same.refl _⟩ (fun j σ H5 _ ⟨_, _, s6⟩ => SqT.of (s6 _ _ ht5)) ?_ ?_⟩
    · rintro j y σ H5 hj ⟨x7, rfl, s6⟩
      obtain ⟨mode, rfl, hm⟩ : ∃ mode : Str, y = .str mode ∧ (mode = "copied" ∨ mode = "refused") := by
        have hm := List.mem_of_getElem? hj
        simp only [List.mem_cons, List.not_mem_nil, or_false] at hm
        rcases hm with rfl | rfl
        · exact ⟨_, rfl, .inl rfl⟩
        · exact ⟨_, rfl, .inr rfl⟩
      refine ⟨_, rfl, mode, rfl, hm, fun r2 H6 s7 hR2 => ?_⟩
      refine ⟨r2, plainR mode, 1, rfl, hR2, still_ok, plain_sound hm, fun q us H7 s8 _ hq hus => ?_⟩
      rw [plain_paper hm] at hus
      refine ⟨(by show 3 ≤ sizeLine; decide), fun t1 ht1 => ⟨(by show 2 ≤ sizeLine; decide), fun z1 hz1 => ⟨(by show 1 ≤ sizeLine; decide), fun L hL => ?_⟩⟩⟩
      have s9 := same_new (o := .tup [.int 0, .bl false, .str "shut"]) ht1
      have s10 := same_new (o := .tup [.ref t1, .int 0]) hz1
      have s11 := same_new (o := .lst [.ref z1]) hL
      have s911 := (s9.trans s10).trans s11
      refine ⟨q, L, us, [.ref z1], [(start, 0)], rfl, s911 _ _ hq, upd_same, PEV.same s911 hus, .cons ⟨z1, .ref t1, rfl, SqT.of (s11 _ _ upd_same), t1, rfl, SqT.of (s11 _ _ (s10 _ _ upd_same))⟩ .nil, by show 1 ≤ 1000; decide, fun H8 s12 => ⟨_, rfl, iteF ?_⟩⟩
      exact ⟨_, rfl, (((s6.trans s7).trans s8).trans s911).trans s12⟩
    · rintro σ H5 ⟨x7, rfl, s6⟩
      exact k H5

end
def fa : List He.Fa := [.glo "UnsoundRow", .glo "is_mark", .glo "is_rule", .glo "Row", .mkr "Row", .glo "plain_row", .glo "is_usable", .glo "is_finished", .glo "can_happen", .glo "possible", .glo "step", .glo "walk", .glo "chart", .glo "fault", .glo "first_flaw", .glo "holdings", .glo "steps_agree", .glo "judge_holdings", .glo "_law_deck", .glo "_law_take", .glo "_law_living_rule", .glo "_law_call_rule", .glo "_law_wild_rule", .glo "_law_spoil", .glo "_law_spec", .glo "_law_usable", .glo "_law_events", .glo "_law_next", .glo "_law_fault", .glo "_law_row", .glo "_law_whole", .glo "_law_same_node", .glo "_law_life", .glo "_law_path", .glo "_law_chart", .glo "_law_first_flaw", .glo "_law_refused", .glo "_law_same_holds", .glo "_law_held", .glo "law", .cls "Row", .noat "Row" "mode", .noat "Row" "sharing", .noat "Row" "lease", .noat "Row" "grip", .noat "Row" "rule", .glo "BridgeError", .glo "ImpossibleLife", .free "abs", .int "MOST_CHANGE" 3, .free "len", .str "EVENTS" "LGHRFD", .int "MOST_MARKS" 4, .free "tuple", .glo "STILL", .glo "GRIPS", .glo "LEASES", .glo "SHARINGS", .glo "MODES", .free "range", .glo "START", .free "int", .free "min", .free "max", .free "list", .free "isinstance", .free "bool", .free "str", .free "ValueError"]
def fn0 : He.DefD := ⟨("UnsoundRow", some "__init__"), "__init__", "UnsoundRow.__init__", defArgs s_UnsoundRow___init__, defBody s_UnsoundRow___init__, defScope s_UnsoundRow___init__, [], []⟩
def fn1 : He.DefD := ⟨("is_mark", none), "is_mark", "is_mark", defArgs s_is_mark, defBody s_is_mark, defScope s_is_mark, [], []⟩
def fn2 : He.DefD := ⟨("is_rule", none), "is_rule", "is_rule", defArgs s_is_rule, defBody s_is_rule, defScope s_is_rule, [], []⟩
def fn3 : He.DefD := ⟨("Row", some "__init__"), "__init__", "Row.__init__", defArgs s_Row___init__, defBody s_Row___init__, defScope s_Row___init__, [], []⟩
def fn4 : He.DefD := ⟨("plain_row", none), "plain_row", "plain_row", defArgs s_plain_row, defBody s_plain_row, defScope s_plain_row, [], []⟩
def fn5 : He.DefD := ⟨("is_usable", none), "is_usable", "is_usable", defArgs s_is_usable, defBody s_is_usable, defScope s_is_usable, [], []⟩
def fn6 : He.DefD := ⟨("is_finished", none), "is_finished", "is_finished", defArgs s_is_finished, defBody s_is_finished, defScope s_is_finished, [], []⟩
def fn7 : He.DefD := ⟨("can_happen", none), "can_happen", "can_happen", defArgs s_can_happen, defBody s_can_happen, defScope s_can_happen, [], []⟩
def fn8 : He.DefD := ⟨("possible", none), "possible", "possible", defArgs s_possible, defBody s_possible, defScope s_possible, [], []⟩
def fn9 : He.DefD := ⟨("step", none), "step", "step", defArgs s_step, defBody s_step, defScope s_step, [], []⟩
def fn10 : He.DefD := ⟨("walk", none), "walk", "walk", defArgs s_walk, defBody s_walk, defScope s_walk, [], []⟩
def fn11 : He.DefD := ⟨("chart", none), "chart", "chart", defArgs s_chart, defBody s_chart, defScope s_chart, [], []⟩
def fn12 : He.DefD := ⟨("fault", none), "fault", "fault", defArgs s_fault, defBody s_fault, defScope s_fault, [], []⟩
def fn13 : He.DefD := ⟨("first_flaw", none), "first_flaw", "first_flaw", defArgs s_first_flaw, defBody s_first_flaw, defScope s_first_flaw, [], []⟩
def fn14 : He.DefD := ⟨("holdings", none), "holdings", "holdings", defArgs s_holdings, defBody s_holdings, defScope s_holdings, [], []⟩
def fn15 : He.DefD := ⟨("steps_agree", none), "steps_agree", "steps_agree", defArgs s_steps_agree, defBody s_steps_agree, defScope s_steps_agree, [], []⟩
def fn16 : He.DefD := ⟨("judge_holdings", none), "judge_holdings", "judge_holdings", defArgs s_judge_holdings, defBody s_judge_holdings, defScope s_judge_holdings, [], []⟩
def fn17 : He.DefD := ⟨("_law_deck", none), "_law_deck", "_law_deck", defArgs s__law_deck, defBody s__law_deck, defScope s__law_deck, [], []⟩
def fn18 : He.DefD := ⟨("_law_take", none), "_law_take", "_law_take", defArgs s__law_take, defBody s__law_take, defScope s__law_take, [], []⟩
def fn19 : He.DefD := ⟨("_law_living_rule", none), "_law_living_rule", "_law_living_rule", defArgs s__law_living_rule, defBody s__law_living_rule, defScope s__law_living_rule, [], []⟩
def fn20 : He.DefD := ⟨("_law_call_rule", none), "_law_call_rule", "_law_call_rule", defArgs s__law_call_rule, defBody s__law_call_rule, defScope s__law_call_rule, [], []⟩
def fn21 : He.DefD := ⟨("_law_wild_rule", none), "_law_wild_rule", "_law_wild_rule", defArgs s__law_wild_rule, defBody s__law_wild_rule, defScope s__law_wild_rule, [], []⟩
def fn22 : He.DefD := ⟨("_law_spoil", none), "_law_spoil", "_law_spoil", defArgs s__law_spoil, defBody s__law_spoil, defScope s__law_spoil, [], []⟩
def fn23 : He.DefD := ⟨("_law_spec", none), "_law_spec", "_law_spec", defArgs s__law_spec, defBody s__law_spec, defScope s__law_spec, [], []⟩
def fn24 : He.DefD := ⟨("_law_usable", none), "_law_usable", "_law_usable", defArgs s__law_usable, defBody s__law_usable, defScope s__law_usable, [], []⟩
def fn25 : He.DefD := ⟨("_law_events", none), "_law_events", "_law_events", defArgs s__law_events, defBody s__law_events, defScope s__law_events, [], []⟩
def fn26 : He.DefD := ⟨("_law_next", none), "_law_next", "_law_next", defArgs s__law_next, defBody s__law_next, defScope s__law_next, [], []⟩
def fn27 : He.DefD := ⟨("_law_fault", none), "_law_fault", "_law_fault", defArgs s__law_fault, defBody s__law_fault, defScope s__law_fault, [], []⟩
def fn28 : He.DefD := ⟨("_law_row", none), "_law_row", "_law_row", defArgs s__law_row, defBody s__law_row, defScope s__law_row, [], []⟩
def fn29 : He.DefD := ⟨("_law_whole", none), "_law_whole", "_law_whole", defArgs s__law_whole, defBody s__law_whole, defScope s__law_whole, [], []⟩
def fn30 : He.DefD := ⟨("_law_same_node", none), "_law_same_node", "_law_same_node", defArgs s__law_same_node, defBody s__law_same_node, defScope s__law_same_node, [], []⟩
def fn31 : He.DefD := ⟨("_law_life", none), "_law_life", "_law_life", defArgs s__law_life, defBody s__law_life, defScope s__law_life, [], []⟩
def fn32 : He.DefD := ⟨("_law_path", none), "_law_path", "_law_path", defArgs s__law_path, defBody s__law_path, defScope s__law_path, [], []⟩
def fn33 : He.DefD := ⟨("_law_chart", none), "_law_chart", "_law_chart", defArgs s__law_chart, defBody s__law_chart, defScope s__law_chart, [], []⟩
def fn34 : He.DefD := ⟨("_law_first_flaw", none), "_law_first_flaw", "_law_first_flaw", defArgs s__law_first_flaw, defBody s__law_first_flaw, defScope s__law_first_flaw, [], []⟩
def fn35 : He.DefD := ⟨("_law_refused", none), "_law_refused", "_law_refused", defArgs s__law_refused, defBody s__law_refused, defScope s__law_refused, [], []⟩
def fn36 : He.DefD := ⟨("_law_same_holds", none), "_law_same_holds", "_law_same_holds", defArgs s__law_same_holds, defBody s__law_same_holds, defScope s__law_same_holds, [], []⟩
def fn37 : He.DefD := ⟨("_law_held", none), "_law_held", "_law_held", defArgs s__law_held, defBody s__law_held, defScope s__law_held, [], []⟩
def fn38 : He.DefD := ⟨("law", none), "law", "law", defArgs s_law, defBody s_law, defScope s_law, [], []⟩
def fn : List He.DefD := [fn0, fn1, fn2, fn3, fn4, fn5, fn6, fn7, fn8, fn9, fn10, fn11, fn12, fn13, fn14, fn15, fn16, fn17, fn18, fn19, fn20, fn21, fn22, fn23, fn24, fn25, fn26, fn27, fn28, fn29, fn30, fn31, fn32, fn33, fn34, fn35, fn36, fn37, fn38]
def ex (K : PySem.W.Frag) : Bool := mkeB K "UnsoundRow" && (ownEB K "UnsoundRow" && (binitB K "BridgeError" && (He.eqO (PySem.W.findIn K (.ref (He.ga K "UnsoundRow")) "life") (some none) && (He.eqO (PySem.W.findIn K (.ref (He.ga K "UnsoundRow")) "what") (some none) && (decide (PySem.W.kitOne K (.ref (He.ga K "UnsoundRow")) (.ref (He.ga K "UnsoundRow")) = some true) && (decide (PySem.W.kitOne K (.ref (He.ga K "UnsoundRow")) (.ref (He.ga K "ImpossibleLife")) = some false) && (decide (PySem.W.kitOne K (.ref (He.ga K "UnsoundRow")) (.type "ValueError") = some true) && (decide (PySem.W.exmOne K (.ref (He.ga K "UnsoundRow")) (.ref (He.ga K "BridgeError")) = some true) && (datB K 5 (.tuple (List.replicate 6 (.tuple [.int 0, .int 0]))) (.ref (He.ga K "STILL")) && (datB K 5 (.tuple (([("slot" : Str), "place", "pin"] : List Str).map PyData.str)) (.ref (He.ga K "GRIPS")) && (datB K 5 (.tuple (([("always" : Str), "call"] : List Str).map PyData.str)) (.ref (He.ga K "LEASES")) && (datB K 5 (.tuple (([("one" : Str), "each"] : List Str).map PyData.str)) (.ref (He.ga K "SHARINGS")) && (datB K 5 (.tuple (([("held" : Str), "copied", "refused"] : List Str).map PyData.str)) (.ref (He.ga K "MODES")) && (datB K 5 (.tuple [.int 0, .bool false, .str "shut"]) (.ref (He.ga K "START"))))))))))))))))
def loose : List Str := (["BridgeError", "InvalidRow", "ImpossibleLife", "UnsoundRow", "EVENTS", "MODES", "SHARINGS", "LEASES", "GRIPS", "MOST_MARKS", "MOST_CHANGE", "STILL", "is_mark", "is_rule", "Row", "plain_row", "START", "is_usable", "is_finished", "can_happen"] : List Str) ++ (["possible", "step", "walk", "chart", "fault", "first_flaw", "holdings", "steps_agree", "judge_holdings", "_law_deck", "_law_take", "_law_living_rule", "_law_call_rule", "_law_wild_rule", "_law_spoil", "_law_spec", "_law_usable", "_law_events", "_law_next", "_law_fault"] : List Str) ++ (["_law_row", "_law_whole", "_law_same_node", "_law_life", "_law_path", "_law_chart", "_law_first_flaw", "_law_refused", "_law_same_holds", "_law_held"] : List Str)
theorem tx_of {K : PySem.W.Frag} {h : Heap} {mg : Str → Option Value} (X : K.In h) (G : h.Ns mainGlobals mg) (c : SaysX fa fn ex K) : Tx K mg where
  d_UnsoundRow___init__ := makE_of X G (c.d.fact 0 rfl) (c.d.def_ 0 rfl) (fun _ _ _ _ _ _ us hl => match us, hl with | [_, _, _], _ => rfl) ((He.ba c.e).1)
  d_is_mark := defAt_of X G (c.d.fact 1 rfl) (c.d.def_ 1 rfl) (fun _ _ _ _ _ _ us hl => match us, hl with | [_, _], _ => rfl)
  d_is_rule := defAt_of X G (c.d.fact 2 rfl) (c.d.def_ 2 rfl) (fun _ _ _ _ _ _ us hl => match us, hl with | [_], _ => rfl)
  d_Row___init__ := makAt_of X G (c.d.fact 3 rfl) (c.d.fact 4 rfl) (c.d.def_ 3 rfl) (fun _ _ _ _ _ _ us hl => match us, hl with | [_, _, _, _, _, _], _ => rfl)
  d_plain_row := defAt_of X G (c.d.fact 5 rfl) (c.d.def_ 4 rfl) (fun _ _ _ _ _ _ us hl => match us, hl with | [_], _ => rfl)
  d_is_usable := defAt_of X G (c.d.fact 6 rfl) (c.d.def_ 5 rfl) (fun _ _ _ _ _ _ us hl => match us, hl with | [_, _], _ => rfl)
  d_is_finished := defAt_of X G (c.d.fact 7 rfl) (c.d.def_ 6 rfl) (fun _ _ _ _ _ _ us hl => match us, hl with | [_], _ => rfl)
  d_can_happen := defAt_of X G (c.d.fact 8 rfl) (c.d.def_ 7 rfl) (fun _ _ _ _ _ _ us hl => match us, hl with | [_, _, _, _], _ => rfl)
  d_possible := defAt_of X G (c.d.fact 9 rfl) (c.d.def_ 8 rfl) (fun _ _ _ _ _ _ us hl => match us, hl with | [_, _, _], _ => rfl)
  d_step := defAt_of X G (c.d.fact 10 rfl) (c.d.def_ 9 rfl) (fun _ _ _ _ _ _ us hl => match us, hl with | [_, _, _], _ => rfl)
  d_walk := defAt_of X G (c.d.fact 11 rfl) (c.d.def_ 10 rfl) (fun _ _ _ _ _ _ us hl => match us, hl with | [_, _], _ => rfl)
  d_chart := defAt_of X G (c.d.fact 12 rfl) (c.d.def_ 11 rfl) (fun _ _ _ _ _ _ us hl => match us, hl with | [_], _ => rfl)
  d_fault := defAt_of X G (c.d.fact 13 rfl) (c.d.def_ 12 rfl) (fun _ _ _ _ _ _ us hl => match us, hl with | [_, _, _, _], _ => rfl)
  d_first_flaw := defAt_of X G (c.d.fact 14 rfl) (c.d.def_ 13 rfl) (fun _ _ _ _ _ _ us hl => match us, hl with | [_, _], _ => rfl)
  d_holdings := defAt_of X G (c.d.fact 15 rfl) (c.d.def_ 14 rfl) (fun _ _ _ _ _ _ us hl => match us, hl with | [_, _], _ => rfl)
  d_steps_agree := defAt_of X G (c.d.fact 16 rfl) (c.d.def_ 15 rfl) (fun _ _ _ _ _ _ us hl => match us, hl with | [_, _, _], _ => rfl)
  d_judge_holdings := defAt_of X G (c.d.fact 17 rfl) (c.d.def_ 16 rfl) (fun _ _ _ _ _ _ us hl => match us, hl with | [_, _, _], _ => rfl)
  d__law_deck := defAt_of X G (c.d.fact 18 rfl) (c.d.def_ 17 rfl) (fun _ _ _ _ _ _ us hl => match us, hl with | [_, _, _], _ => rfl)
  d__law_take := defAt_of X G (c.d.fact 19 rfl) (c.d.def_ 18 rfl) (fun _ _ _ _ _ _ us hl => match us, hl with | [_, _], _ => rfl)
  d__law_living_rule := defAt_of X G (c.d.fact 20 rfl) (c.d.def_ 19 rfl) (fun _ _ _ _ _ _ us hl => match us, hl with | [_], _ => rfl)
  d__law_call_rule := defAt_of X G (c.d.fact 21 rfl) (c.d.def_ 20 rfl) (fun _ _ _ _ _ _ us hl => match us, hl with | [_], _ => rfl)
  d__law_wild_rule := defAt_of X G (c.d.fact 22 rfl) (c.d.def_ 21 rfl) (fun _ _ _ _ _ _ us hl => match us, hl with | [_], _ => rfl)
  d__law_spoil := defAt_of X G (c.d.fact 23 rfl) (c.d.def_ 22 rfl) (fun _ _ _ _ _ _ us hl => match us, hl with | [_, _], _ => rfl)
  d__law_spec := defAt_of X G (c.d.fact 24 rfl) (c.d.def_ 23 rfl) (fun _ _ _ _ _ _ us hl => match us, hl with | [_], _ => rfl)
  d__law_usable := defAt_of X G (c.d.fact 25 rfl) (c.d.def_ 24 rfl) (fun _ _ _ _ _ _ us hl => match us, hl with | [_, _], _ => rfl)
  d__law_events := defAt_of X G (c.d.fact 26 rfl) (c.d.def_ 25 rfl) (fun _ _ _ _ _ _ us hl => match us, hl with | [_, _, _], _ => rfl)
  d__law_next := defAt_of X G (c.d.fact 27 rfl) (c.d.def_ 26 rfl) (fun _ _ _ _ _ _ us hl => match us, hl with | [_, _, _], _ => rfl)
  d__law_fault := defAt_of X G (c.d.fact 28 rfl) (c.d.def_ 27 rfl) (fun _ _ _ _ _ _ us hl => match us, hl with | [_, _, _, _], _ => rfl)
  d__law_row := defAt_of X G (c.d.fact 29 rfl) (c.d.def_ 28 rfl) (fun _ _ _ _ _ _ us hl => match us, hl with | [_], _ => rfl)
  d__law_whole := defAt_of X G (c.d.fact 30 rfl) (c.d.def_ 29 rfl) (fun _ _ _ _ _ _ us hl => match us, hl with | [_], _ => rfl)
  d__law_same_node := defAt_of X G (c.d.fact 31 rfl) (c.d.def_ 30 rfl) (fun _ _ _ _ _ _ us hl => match us, hl with | [_, _], _ => rfl)
  d__law_life := defAt_of X G (c.d.fact 32 rfl) (c.d.def_ 31 rfl) (fun _ _ _ _ _ _ us hl => match us, hl with | [_, _, _], _ => rfl)
  d__law_path := defAt_of X G (c.d.fact 33 rfl) (c.d.def_ 32 rfl) (fun _ _ _ _ _ _ us hl => match us, hl with | [_, _], _ => rfl)
  d__law_chart := defAt_of X G (c.d.fact 34 rfl) (c.d.def_ 33 rfl) (fun _ _ _ _ _ _ us hl => match us, hl with | [_], _ => rfl)
  d__law_first_flaw := defAt_of X G (c.d.fact 35 rfl) (c.d.def_ 34 rfl) (fun _ _ _ _ _ _ us hl => match us, hl with | [_, _], _ => rfl)
  d__law_refused := defAt_of X G (c.d.fact 36 rfl) (c.d.def_ 35 rfl) (fun _ _ _ _ _ _ us hl => match us, hl with | [_, _, _], _ => rfl)
  d__law_same_holds := defAt_of X G (c.d.fact 37 rfl) (c.d.def_ 36 rfl) (fun _ _ _ _ _ _ us hl => match us, hl with | [_, _], _ => rfl)
  d__law_held := defAt_of X G (c.d.fact 38 rfl) (c.d.def_ 37 rfl) (fun _ _ _ _ _ _ us hl => match us, hl with | [_, _, _, _], _ => rfl)
  cl_Row := He.cls_ok (c.d.fact 40 rfl)
  g_Row := He.glo_ok X G (c.d.fact 3 rfl)
  n_Row_mode := He.noat_ok (c.d.fact 41 rfl)
  n_Row_sharing := He.noat_ok (c.d.fact 42 rfl)
  n_Row_lease := He.noat_ok (c.d.fact 43 rfl)
  n_Row_grip := He.noat_ok (c.d.fact 44 rfl)
  n_Row_rule := He.noat_ok (c.d.fact 45 rfl)
  g_BridgeError := He.glo_ok X G (c.d.fact 46 rfl)
  g_UnsoundRow := He.glo_ok X G (c.d.fact 0 rfl)
  g_ImpossibleLife := He.glo_ok X G (c.d.fact 47 rfl)
  u_own := ownEB_ok ((He.ba (He.ba c.e).2).1)
  u_bi := binitB_ok ((He.ba (He.ba (He.ba c.e).2).2).1)
  u_life := He.eqO_ok ((He.ba (He.ba (He.ba (He.ba c.e).2).2).2).1)
  u_what := He.eqO_ok ((He.ba (He.ba (He.ba (He.ba (He.ba c.e).2).2).2).2).1)
  u_un := of_decide_eq_true ((He.ba (He.ba (He.ba (He.ba (He.ba (He.ba c.e).2).2).2).2).2).1)
  u_im := of_decide_eq_true ((He.ba (He.ba (He.ba (He.ba (He.ba (He.ba (He.ba c.e).2).2).2).2).2).2).1)
  u_ve := of_decide_eq_true ((He.ba (He.ba (He.ba (He.ba (He.ba (He.ba (He.ba (He.ba c.e).2).2).2).2).2).2).2).1)
  u_ex := of_decide_eq_true ((He.ba (He.ba (He.ba (He.ba (He.ba (He.ba (He.ba (He.ba (He.ba c.e).2).2).2).2).2).2).2).2).1)
  b_abs := He.free_ok X G (c.d.fact 48 rfl)
  g_MOST_CHANGE := of_int (He.int_ok X G (c.d.fact 49 rfl))
  b_len := He.free_ok X G (c.d.fact 50 rfl)
  g_EVENTS := of_str (He.str_ok X G (c.d.fact 51 rfl))
  g_MOST_MARKS := of_int (He.int_ok X G (c.d.fact 52 rfl))
  b_tuple := He.free_ok X G (c.d.fact 53 rfl)
  g_STILL := He.glo_ok X G (c.d.fact 54 rfl)
  v_STILL := datB_ok ((He.ba (He.ba (He.ba (He.ba (He.ba (He.ba (He.ba (He.ba (He.ba (He.ba c.e).2).2).2).2).2).2).2).2).2).1)
  g_GRIPS := He.glo_ok X G (c.d.fact 55 rfl)
  v_GRIPS := datB_ok ((He.ba (He.ba (He.ba (He.ba (He.ba (He.ba (He.ba (He.ba (He.ba (He.ba (He.ba c.e).2).2).2).2).2).2).2).2).2).2).1)
  g_LEASES := He.glo_ok X G (c.d.fact 56 rfl)
  v_LEASES := datB_ok ((He.ba (He.ba (He.ba (He.ba (He.ba (He.ba (He.ba (He.ba (He.ba (He.ba (He.ba (He.ba c.e).2).2).2).2).2).2).2).2).2).2).2).1)
  g_SHARINGS := He.glo_ok X G (c.d.fact 57 rfl)
  v_SHARINGS := datB_ok ((He.ba (He.ba (He.ba (He.ba (He.ba (He.ba (He.ba (He.ba (He.ba (He.ba (He.ba (He.ba (He.ba c.e).2).2).2).2).2).2).2).2).2).2).2).2).1)
  g_MODES := He.glo_ok X G (c.d.fact 58 rfl)
  v_MODES := datB_ok ((He.ba (He.ba (He.ba (He.ba (He.ba (He.ba (He.ba (He.ba (He.ba (He.ba (He.ba (He.ba (He.ba (He.ba c.e).2).2).2).2).2).2).2).2).2).2).2).2).2).1)
  b_range := He.free_ok X G (c.d.fact 59 rfl)
  g_START := He.glo_ok X G (c.d.fact 60 rfl)
  v_START := datB_ok ((He.ba (He.ba (He.ba (He.ba (He.ba (He.ba (He.ba (He.ba (He.ba (He.ba (He.ba (He.ba (He.ba (He.ba c.e).2).2).2).2).2).2).2).2).2).2).2).2).2).2)
  b_int := He.free_ok X G (c.d.fact 61 rfl)
  b_min := He.free_ok X G (c.d.fact 62 rfl)
  b_max := He.free_ok X G (c.d.fact 63 rfl)
  b_list := He.free_ok X G (c.d.fact 64 rfl)
  b_isinstance := He.free_ok X G (c.d.fact 65 rfl)
  b_bool := He.free_ok X G (c.d.fact 66 rfl)
  b_str := He.free_ok X G (c.d.fact 67 rfl)
  b_ValueError := He.free_ok X G (c.d.fact 68 rfl)
theorem facts {P : Program} {w : World} {K : PySem.W.Frag} {h : Heap} {mg : Str → Option Value} {f : Addr} (X : K.In h) (G : h.Ns mainGlobals mg) (hfa : mg ("law" : Str) = some (.ref f)) (c : SaysX fa fn ex K) :
    ∃ fd : FuncData, (∀ (s : Shared) (v : Value), BindsTo s fd ⟨[v], []⟩ [("script", v)]) ∧ ∀ base : Heap, K.In base → base.Ns mainGlobals mg → FnOk P w K mg base C8.CX0 7 f fd ["script"] (sp_law K) := by
  obtain ⟨fd, F⟩ := c.d.def_ 38 rfl
  have e := hfa.symm.trans (He.glo_ok X G (c.d.fact 39 rfl))
  cases e
  have b := FunD.bindsA (ps := ["script"]) F fun _ _ _ _ _ _ us hl => match us, hl with | [_], _ => rfl
  exact ⟨fd, fun s v => b s [v] rfl, fun base _ _ => ok_law F (tx_of X G c)⟩

end K24
open PySem PySem.W PyProof.Rows
set_option maxRecDepth 100000 in
set_option maxHeartbeats 0 in
theorem PySem.Challenge.cw_surebridge_k24_holdings_holds : PySem.Challenge.rw_surebridge_k24_holdings.Holds := by
  w_on; o_law; k_head; (case hw => w_witness2)
  k_fill
  refine L2.walk_ofK (l := PySem.Challenge.rw_surebridge_k24_holdings) (n := 63) (k := 7) (x := "script") (CX := C8.CX0) (sp := K24.sp_law) rfl (by decide) rfl ⟨rfl, by decide, by decide⟩ (fun w h Y => PySem.W.kIn_of Y) ?F (fun _ _ a ns hl _ hS => ⟨a, ns, rfl, hS, hl, fun _ => rfl⟩) (fun _ _ _ _ z => z)
  case F =>
    intro w mg fa h KX G hmg
    exact K24.facts KX G hmg (by unfold Pr.SaysX; kernel_rfl)

