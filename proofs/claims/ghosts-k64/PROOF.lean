import PyProof.Rows.All
import Wide.All
import OpenK.AllK
import Wide.FinOn
import KE.KStateDown
import HandS.ForMost
import HandS.Slots
import HandS.SlotsOwn
import HandS.Defaults
import HandS.MakeKwOnly
import HandS.IsInst
import HandS.Gcd
import HandS.TupMul
import HandS.Wide
import HandS.WideMore
import HandS.SortInts
import HandS.FStr
import HandS.Style
import HandS.Star
import HandS.Walk
import HandS.Evl
import HandS.AnyAll
import HandS.Zip
import HandS.HeadHook2
import HandS.Head2
import HandS.HeadWalk
import HandS.EndTab
import KE.DataMinMax
import PySem.Challenge.RW_lawseries_k64_whole_tests_of_ghosts
import KE.KNestM
import HandS.Head0
import HandS.Head1
import HandS.Head3
import HandS.HeadEnd
import HandS.HeadHook1
import HandS.SortKw
import KE.GoesEnum
import KE.KDictIter
set_option Elab.async false
set_option linter.all false
set_option maxRecDepth 100000
namespace G
open PySem PySem.Spec PyProof.Rows L2
def top (i : Nat) : Stmt := PySem.Challenge.pw_lawseries_k64_whole_tests_of_ghosts.main.body.getD i (.Pass ⟨0, 0, 0, 0⟩)
/-! ### what the module's names stand for -/
structure Bt (mg : Str → Option Value) : Prop where
  abs : mg "abs" = none
  all : mg "all" = none
  bool : mg "bool" = none
  enumerate : mg "enumerate" = none
  int : mg "int" = none
  isinstance : mg "isinstance" = none
  len : mg "len" = none
  list : mg "list" = none
  max : mg "max" = none
  min : mg "min" = none
  next : mg "next" = none
  range : mg "range" = none
  sorted : mg "sorted" = none
  str : mg "str" = none
  sum : mg "sum" = none
  tuple : mg "tuple" = none
  gcd : mg "gcd" = some (.builtin "math.gcd")
  FAR : ∃ t, mg "FAR" = some (.int 1000000000000000000000000000000000000000000000000000000000000 t)
  MAX_GHOSTS : ∃ t, mg "MAX_GHOSTS" = some (.int 24 t)
  MAX_FACTORED : ∃ t, mg "MAX_FACTORED" = some (.int 1000000000 t)
theorem pe_gint {X : Cx} {x : Str} {i : Int} {pos : Pos} (hg : Gl X x) (h : ∃ t, X.mg x = some (.int i t)) (hd : (x == ("__debug__" : Str)) = false := by decide) : PE X (.Name x pos) (tC (.int i)) := by
  obtain ⟨t, h⟩ := h
  exact pe_glob hg h ⟨t, rfl⟩ hd
/-! ### a def of the module, called by position -/
def Cal (P : Program) (w : World) (K : PySem.W.Frag) (mg : Str → Option Value) (base : Heap) (x : Str) (k : Nat) (sp : Sp) : Prop :=
  ∃ f : Addr, mg x = some (.ref f) ∧ PySem.W.keepIn K (.ref f) = true ∧ FnR P w K mg base CX0 k f sp
theorem Cal.imp {P : Program} {w : World} {K : PySem.W.Frag} {mg : Str → Option Value} {base : Heap} {x : Str} {k : Nat} {sp sp' : Sp} (c : Cal P w K mg base x k sp) (h : ∀ vs H Q E, sp' vs H Q E → sp vs H Q E) : Cal P w K mg base x k sp' :=
  let ⟨f, a, b, F⟩ := c; ⟨f, a, b, F.imp h⟩
def tCal (sp : Sp) (t : TA) : TE := fun σ H Q => t σ H fun vs H1 => sp vs H1 Q E0
theorem pe_cal {X : Cx} {x : Str} {p pos : Pos} {e : Expr} {es : List Expr} {t : TA} {k : Nat} {sp : Sp} (c : Cal X.prog X.w X.K X.mg X.base x k sp) (hr : Room k X.A) (hg : Gl X x) (ha : PA X (e :: es) t)
    (hdb : (x == ("__debug__" : Str)) = false := by decide) (he : starEach (e :: es) X.env = (false, eval e X.env) :: starEach es X.env := by rfl) (hpl : (backTo pos (starEach es X.env)).any (·.1) = false := by rfl) :
    PE X (.Call (.Name x p) (e :: es) [] pos) (tCal sp t) := by
  obtain ⟨f, hm, hk, F⟩ := c
  constructor
  intro pins s σ H Q I h
  refine wpAny_Call_Name_kw (ld_glob I hg hm ?_ hdb)
  exact PySem.W.callWith_K (h₀ := X.base) I.ok.mod.kin hk (thn (ha.run pos pins s σ H _ I h) fun us s1 ⟨vs, H1, I1, r, q⟩ => ⟨I1.kIn, wpAny_call (run_fnR F hr pass0 I1 r q)⟩) he hpl
/-- a def of the top, without defaults -/
def DefAt (K : PySem.W.Frag) (mg : Str → Option Value) (x : Str) (st : Stmt) : Prop :=
  ∃ (f : Addr) (fd : FuncData), mg x = some (.ref f) ∧ FunD K x x (defArgs st) (defBody st) (defScope st) [] [] f fd
/-- a def's promise from its body -/
theorem DefAt.cal {P : Program} {w : World} {K : PySem.W.Frag} {mg : Str → Option Value} {base : Heap} {x : Str} {st : Stmt} {N ps : List Str} {k : Nat} {sp : Sp} (D : DefAt K mg x st) (S : FnScope N ps (defScope st)) (len : ∀ vs H Q E, sp vs H Q E → vs.length = ps.length)
    (hb : ∀ (kV doc pm : Value) (an : Option Addr) (cdv ct : Value) (us : List Value), us.length = ps.length → bindArgs (PySem.W.fnOf x x (defArgs st) (defBody st) (defScope st) .none kV doc pm an cdv ct) ⟨us, []⟩ = pure (ps.zip us))
    (hbody : ∀ (f : Addr) (cdv : Value) (A : Around) (outer : List Env) (s : Shared) (H : Hp) (vs : List V) (Q : VK) (E : XK), Room k (A.deeper (envOfC x (defScope st) s.heap.objs.size f cdv)) → sp vs H Q E →
      ∃ t, PSs (cxOf CX0 P w K mg base N x (defScope st) f cdv A outer s H E).nox (defBody st) t ∧ t { nx := fun _ H' => Q .non H', rt := Q } (start N vs) H) : Cal P w K mg base x (k + 1) sp := by
  obtain ⟨f, fd, hm, F⟩ := D
  refine ⟨f, hm, F.kp, ?_⟩
  have B : Binds K fd ps [] := F.bindsN hb
  have G : FnOk P w K mg base CX0 (k + 1) f fd ps sp := F.ok S len fun cdv A outer s H vs Q E hr h => by
    obtain ⟨t, h1, h2⟩ := hbody f cdv A outer s H vs Q E hr h
    exact ⟨t, h1.nox, h2⟩
  exact (G.raw B .nil).imp fun vs H Q E h => by
    rw [List.append_nil]
    exact h
/-! ### named relations -/
def rAbs : List V → Hp → VK → Prop := fun xs H Q => ∃ i, xs = [.int i] ∧ Q (.int (if i < 0 then -i else i)) H
def rMax2 : List V → Hp → VK → Prop := fun xs H Q => ∃ i j, xs = [.int i, .int j] ∧ Q (.int (if j > i then j else i)) H
def rMin2 : List V → Hp → VK → Prop := fun xs H Q => ∃ i j, xs = [.int i, .int j] ∧ Q (.int (if j < i then j else i)) H
def rInt1 : List V → Hp → VK → Prop := fun xs H Q => (∃ i, xs = [.int i] ∧ Q (.int i) H) ∨ ∃ k, xs = [.bl k] ∧ Q (.int (if k then 1 else 0)) H
def rLenS (K : PySem.W.Frag) : List V → Hp → VK → Prop := fun xs H Q => ∃ p ys, xs = [.ref p] ∧ (SqL K H p ys ∨ SqT K H p ys) ∧ Q (.int ys.length) H
def rTupOf (K : PySem.W.Frag) : List V → Hp → VK → Prop := fun xs H Q => ∃ p ys, xs = [.ref p] ∧ ((SqL K H p ys ∧ ∀ l, H l = none → Q (.ref l) (upd H l (.tup ys))) ∨ (SqT K H p ys ∧ Q (.ref p) H))
def rListOf (K : PySem.W.Frag) : List V → Hp → VK → Prop := fun xs H Q => ∃ p ys, xs = [.ref p] ∧ (SqL K H p ys ∨ SqT K H p ys) ∧ ∀ l, H l = none → Q (.ref l) (upd H l (.lst ys))
def rIsN : R2 := fun x y H Q => y = .non ∧ Q (.bl (decide (x = .non))) H
def rNotN : R2 := fun x y H Q => y = .non ∧ Q (.bl (!decide (x = .non))) H
section
variable {X : Cx}
theorem k_abs : CallR X (.builtin "abs") rAbs := call_abs
theorem k_max2 (hc : X.calm = true) : CallR X (.builtin "max") rMax2 := call_max2 hc
theorem k_min2 (hc : X.calm = true) : CallR X (.builtin "min") rMin2 := call_min2 hc
theorem k_int1 : CallR X (.type "int") rInt1 := call_int1
theorem k_len : CallR X (.builtin "len") (rLenS X.K) := call_len_seq
theorem k_tupOf : CallR X (.type "tuple") (rTupOf X.K) := call_tuple_of
theorem k_listOf : CallR X (.type "list") (rListOf X.K) := call_list_of
theorem o_isN : OpR X (compareOp .Is) rIsN := op_isN
theorem o_notN : OpR X (compareOp .IsNot) rNotN := op_notN
end
/-! ### readings, step by step -/
section
variable {σ : L2.St} {H : Hp} {Q : VK} {D : Ends} {t u : TS} {te ta tb tc : TE} {tt tu : TT} {i j : Nat} {v x y : V} {r r' : R2} {tl : TA} {g : TG} {K : PySem.W.Frag}
theorem r_seq (q : t { D with nx := u D } σ H) : tSeq t u D σ H := q
theorem r_next (q : D.nx σ H) : tNext D σ H := q
theorem r_asg (q : te σ H fun x H1 => g x σ H1 D.nx) : tAsg te g D σ H := q
theorem r_gname {R : L2.St → Hp → Prop} (q : R (σ.set i (some v)) H) : gName i v σ H R := q
theorem r_drop (q : te σ H fun _ H1 => D.nx σ H1) : tDrop te D σ H := q
theorem r_ret (q : te σ H D.rt) : tRet te D σ H := q
theorem r_ifs (q : tt σ H fun b H1 => if b = true then t D σ H1 else u D σ H1) : tIfS tt t u D σ H := q
theorem r_var (h : σ[i]? = some (some v)) (q : Q v H) : tVar i σ H Q := ⟨v, h, q⟩
theorem r_c (q : Q v H) : tC v σ H Q := q
theorem r_op (q : ta σ H fun x H1 => tb σ H1 fun y H2 => r x y H2 Q) : tOp r ta tb σ H Q := q
theorem r_un {s : V → Hp → VK → Prop} (q : ta σ H fun x H1 => s x H1 Q) : tUn s ta σ H Q := q
theorem r_cons {tr : TA} {R : List V → Hp → Prop} (q : ta σ H fun x H1 => tr σ H1 fun xs H2 => R (x :: xs) H2) : tCons ta tr σ H R := q
theorem r_nil {R : List V → Hp → Prop} (q : R [] H) : tNil σ H R := q
theorem r_cb {s : List V → Hp → VK → Prop} (q : tl σ H fun vs H1 => s vs H1 Q) : tCB s tl σ H Q := q
theorem r_cal {sp : Sp} (q : tl σ H fun vs H1 => sp vs H1 Q E0) : tCal sp tl σ H Q := q
theorem r_test {R : Bool → Hp → Prop} (q : te σ H fun x H' => ∃ k, x = .bl k ∧ R k H') : tTest te σ H R := q
theorem r_B {R : Bool → Hp → Prop} (q : te σ H fun x H' => ∃ k, x = .bl k ∧ R k H') : tB te σ H R := q
theorem r_k {R : Bool → Prop} {b : Bool} (q : R b) : ∃ k, V.bl b = .bl k ∧ R k := ⟨b, rfl, q⟩
theorem ite_d {c A B : Prop} [Decidable c] (h1 : c → A) (h2 : ¬ c → B) : if decide c = true then A else B := by
  by_cases h : c
  · rw [decide_eq_true h]; exact h1 h
  · rw [decide_eq_false h]; exact h2 h
theorem ite_nd {c A B : Prop} [Decidable c] (h1 : ¬ c → A) (h2 : c → B) : if (!decide c) = true then A else B := by
  by_cases h : c
  · rw [decide_eq_true h]; exact h2 h
  · rw [decide_eq_false h]; exact h1 h
theorem r_not {R : Bool → Hp → Prop} (q : tt σ H fun c H1 => R (!c) H1) : tNot tt σ H R := q
theorem r_and {R : Bool → Hp → Prop} (q : tt σ H fun c H1 => if c = true then tu σ H1 R else R false H1) : tAnd tt tu σ H R := q
theorem r_or {R : Bool → Hp → Prop} (q : tt σ H fun c H1 => if c = true then R true H1 else tu σ H1 R) : tOr tt tu σ H R := q
theorem r_if (q : tt σ H fun c H1 => if c = true then ta σ H1 Q else tb σ H1 Q) : tIf tt ta tb σ H Q := q
theorem r_chain (q : ta σ H fun x H1 => tb σ H1 fun y H2 => r x y H2 fun z H3 => ∃ k, z = .bl k ∧ (if k = true then tc σ H3 fun w' H4 => r' y w' H4 Q else Q (.bl false) H3)) : tChain r r' ta tb tc σ H Q := q
theorem r_I0 {f : Int → Int → V} {a b : Int} (q : Q (f a b) H) : rI0 f (.int a) (.int b) H Q := ⟨a, b, rfl, rfl, q⟩
theorem r_I {C : Int → Int → Prop} {f : Int → Int → V} {a b : Int} (c : C a b) (q : Q (f a b) H) : rI C f (.int a) (.int b) H Q := ⟨a, b, rfl, rfl, c, q⟩
theorem r_U {f : Int → V} {a : Int} (q : Q (f a) H) : rU f (.int a) H Q := ⟨a, rfl, q⟩
theorem r_eqI {a b : Int} (q : Q (.bl (decide (a = b))) H) : rEq (.int a) (.int b) H Q := ⟨rfl, by
  have e : decide (V.int a = V.int b) = decide (a = b) := by by_cases h : a = b <;> simp [h]
  rw [e]; exact q⟩
theorem r_neI {a b : Int} (q : Q (.bl (!decide (a = b))) H) : rNe (.int a) (.int b) H Q := ⟨rfl, by
  have e : decide (V.int a = V.int b) = decide (a = b) := by by_cases h : a = b <;> simp [h]
  rw [e]; exact q⟩
theorem r_eqB {a b : Bool} (q : Q (.bl (decide (a = b))) H) : rEq (.bl a) (.bl b) H Q := ⟨rfl, by
  have e : decide (V.bl a = V.bl b) = decide (a = b) := by by_cases h : a = b <;> simp [h]
  rw [e]; exact q⟩
theorem r_neB {a b : Bool} (q : Q (.bl (!decide (a = b))) H) : rNe (.bl a) (.bl b) H Q := ⟨rfl, by
  have e : decide (V.bl a = V.bl b) = decide (a = b) := by by_cases h : a = b <;> simp [h]
  rw [e]; exact q⟩
theorem r_par (q : tl σ H fun vs H1 => ∃ v w, vs = [v, w] ∧ D.nx ((σ.set i (some v)).set j (some w)) H1) : tPar i j tl D σ H := q
theorem r_vw {R : V → V → Prop} (q : R v x) : ∃ a b, [v, x] = [a, b] ∧ R a b := ⟨v, x, rfl, q⟩
theorem r_aug {s : TIp} (h : σ[i]? = some (some x)) (q : te σ H fun y H1 => s x y H1 fun z H2 => D.nx (σ.set i (some z)) H2) : tAug i te s D σ H := ⟨x, h, q⟩
theorem r_ipI {f : Int → Int → Int} {a b : Int} (q : Q (.int (f a b)) H) : ipI f (.int a) (.int b) H Q := ⟨a, b, rfl, rfl, q⟩
theorem r_abs {a : Int} (q : Q (.int (if a < 0 then -a else a)) H) : rAbs [.int a] H Q := ⟨a, rfl, q⟩
theorem r_max2 {a b : Int} (q : Q (.int (if b > a then b else a)) H) : rMax2 [.int a, .int b] H Q := ⟨a, b, rfl, q⟩
theorem r_min2 {a b : Int} (q : Q (.int (if b < a then b else a)) H) : rMin2 [.int a, .int b] H Q := ⟨a, b, rfl, q⟩
theorem r_int1 {a : Int} (q : Q (.int a) H) : rInt1 [.int a] H Q := .inl ⟨a, rfl, q⟩
theorem r_int1b {a : Bool} (q : Q (.int (if a then 1 else 0)) H) : rInt1 [.bl a] H Q := .inr ⟨a, rfl, q⟩
theorem r_lenL {p : Addr} {ys : List V} (h : SqL K H p ys) (q : Q (.int ys.length) H) : rLenS K [.ref p] H Q := ⟨p, ys, rfl, .inl h, q⟩
theorem r_lenT {p : Addr} {ys : List V} (h : SqT K H p ys) (q : Q (.int ys.length) H) : rLenS K [.ref p] H Q := ⟨p, ys, rfl, .inr h, q⟩
theorem r_sum {a : Addr} {ns : List Int} (h : SqL K H a (ns.map V.int)) (q : Q (.int ns.sum) H) : rSum K [.ref a] H Q := ⟨a, ns, rfl, h, q⟩
theorem r_tupOf {p : Addr} {ys : List V} (h : SqL K H p ys) (q : ∀ l, H l = none → Q (.ref l) (upd H l (.tup ys))) : rTupOf K [.ref p] H Q := ⟨p, ys, rfl, .inl ⟨h, q⟩⟩
theorem r_tupOfT {p : Addr} {ys : List V} (h : SqT K H p ys) (q : Q (.ref p) H) : rTupOf K [.ref p] H Q := ⟨p, ys, rfl, .inr ⟨h, q⟩⟩
theorem r_listOf {p : Addr} {ys : List V} (h : SqL K H p ys ∨ SqT K H p ys) (q : ∀ l, H l = none → Q (.ref l) (upd H l (.lst ys))) : rListOf K [.ref p] H Q := ⟨p, ys, rfl, h, q⟩
theorem r_gcd {a b : Int} (q : Q (.int ((Nat.gcd a.natAbs b.natAbs : Nat) : Int)) H) : rGcd [.int a, .int b] H Q := ⟨a, b, rfl, q⟩
theorem r_isN {x : V} (q : Q (.bl (decide (x = .non))) H) : rIsN x .non H Q := ⟨rfl, q⟩
theorem r_notN {x : V} (q : Q (.bl (!decide (x = .non))) H) : rNotN x .non H Q := ⟨rfl, q⟩
theorem r_ixL {p : Addr} {xs : List V} {i : Int} {v : V} (h : SqL K H p xs) (a : atI xs i = some v) (q : Q v H) : rIxL K (.ref p) (.int i) H Q := ⟨p, xs, i, v, rfl, rfl, h, a, q⟩
theorem r_ixT {p : Addr} {xs : List V} {i : Int} {v : V} (h : SqT K H p xs) (a : atI xs i = some v) (q : Q v H) : rIxT K (.ref p) (.int i) H Q := ⟨p, xs, i, v, rfl, rfl, h, a, q⟩
theorem r_tup {R : TA} (q : R σ H fun xs H1 => xs.length ≤ sizeLine ∧ ∀ p, H1 p = none → Q (.ref p) (upd H1 p (.tup xs))) : tTup R σ H Q := q
theorem r_lst {R : TA} (q : R σ H fun xs H1 => xs.length ≤ sizeLine ∧ ∀ p, H1 p = none → Q (.ref p) (upd H1 p (.lst xs))) : tLst R σ H Q := q
theorem r_bm {T : String} {s : V → List V → Hp → VK → Prop} (q : ta σ H fun x H1 => tyV K T x H1 ∧ tl σ H1 fun xs H2 => s x xs H2 Q) : tBM K T s ta tl σ H Q := q
theorem r_app {l : Addr} {xs : List V} {y : V} (h : H l = some (.lst xs)) (z : xs.length < sizeLine) (q : Q .non (upd H l (.lst (xs ++ [y])))) : rAppend (.ref l) [y] H Q := ⟨l, xs, y, rfl, rfl, h, z, q⟩
theorem ty_lst {l : Addr} {xs : List V} (h : H l = some (.lst xs)) : tyV K "list" (.ref l) H := .inl ⟨rfl, _, .inl (.inl h)⟩
theorem r_for {wi : TI} (q : wi σ H fun J H1 => ∃ W : Nat → Nat → L2.St → Hp → Prop, (∃ m, W 0 m σ H1) ∧ ∀ i m σ H, W i m σ H →
    (J.stop i H ∧ D.nx σ H) ∨ (J.go i H ∧ ∃ N : L2.St → Hp → Prop, (∀ σ' H', N σ' H' → ∃ m', m' < m ∧ W (i + 1) m' σ' H') ∧ ∀ x H', J.yld i H x H' → g x σ H' fun σ2 H2 => t { D with nx := N, ct := N, bk := D.nx } σ2 H2)) : tFor wi g t D σ H := q
theorem r_rng1 {R : It → Hp → Prop} (q : tl σ H fun vs H1 => ∃ j : Int, vs = [.int j] ∧ -(2 ^ 62) ≤ j ∧ j < 2 ^ 62 ∧ R (Itr 0 j.toNat) H1) : iRng1 tl σ H R := q
theorem r_rng2 {R : It → Hp → Prop} (q : tl σ H fun vs H1 => ∃ i j : Int, vs = [.int i, .int j] ∧ (-(2 ^ 62) ≤ i ∧ i < 2 ^ 62 ∧ -(2 ^ 62) ≤ j ∧ j < 2 ^ 62) ∧ R (Itr i (j - i).toNat) H1) : iRng2 tl σ H R := q
theorem r_ilist {R : It → Hp → Prop} (q : ta σ H fun x H1 => ∃ a, x = .ref a ∧ (∃ xs, SqL K H1 a xs) ∧ R (Itl K a) H1) : iList K ta σ H R := q
theorem r_itup {R : It → Hp → Prop} (q : ta σ H fun x H1 => ∃ a, x = .ref a ∧ (∃ xs, SqT K H1 a xs) ∧ R (Itt K a) H1) : iTup K ta σ H R := q
theorem r_yes {R : Bool → Hp → Prop} (q : R true H) : tYes σ H R := q
theorem r_sub {s : TSet} {R : L2.St → Hp → Prop} (q : ta σ H fun o H1 => tb σ H1 fun i H2 => s o i v H2 fun H3 => R σ H3) : gSub ta tb s v σ H R := q
theorem r_setL {p : Addr} {xs : List V} {k : Int} {j : Nat} {v : V} {R : Hp → Prop} (h : H p = some (.lst xs)) (e : ixN xs.length k = some j) (q : R (upd H p (.lst (xs.set j v)))) : rSetL (.ref p) (.int k) v H R := ⟨p, xs, k, j, rfl, rfl, h, e, q⟩
theorem r_gtup {n : Nat} {ts : TGs} {a : Addr} {xs : List V} {R : L2.St → Hp → Prop} (h : SqT K H a xs) (hl : xs.length = n) (q : ts xs σ H R) : gTup K n ts (.ref a) σ H R := ⟨a, xs, rfl, h, hl, q⟩
theorem r_gcons {ts : TGs} {xs : List V} {R : L2.St → Hp → Prop} (q : g v σ H fun σ' H' => ts xs σ' H' R) : gCons g ts (v :: xs) σ H R := ⟨v, xs, rfl, q⟩
theorem r_gnil {R : L2.St → Hp → Prop} (q : R σ H) : gNil [] σ H R := ⟨rfl, q⟩
theorem r_cat {l b : Addr} {xs zs : List V} (h : H l = some (.lst xs)) (h2 : H b = some (.lst zs)) (z : xs.length + zs.length ≤ sizeLine) (q : ∀ p, H p = none → Q (.ref p) (upd H p (.lst (xs ++ zs)))) : rCat (.ref l) (.ref b) H Q := ⟨l, b, xs, zs, rfl, rfl, h, h2, z, q⟩
theorem r_orV {a : Bool} (q : if a = true then Q (.bl true) H else tb σ H Q) (h : ∀ Q' : VK, Q' (.bl a) H → ta σ H Q') : tOrV ta tb σ H Q := h _ ⟨a, rfl, q⟩
theorem r_andV0 (q : ta σ H fun x H1 => ∃ c, x = .bl c ∧ if c = true then tb σ H1 Q else Q (.bl false) H1) : tAndV ta tb σ H Q := q
theorem r_orV0 (q : ta σ H fun x H1 => ∃ c, x = .bl c ∧ if c = true then Q (.bl true) H1 else tb σ H1 Q) : tOrV ta tb σ H Q := q
theorem r_notV (q : ta σ H fun x H1 => ∃ c, x = .bl c ∧ Q (.bl (!c)) H1) : tNotV ta σ H Q := q
theorem r_lc {wi : TI} {vs : List Nat} (q : wi σ H fun J H1 => ∀ D, H1 D = none → ∃ W : Nat → Nat → Hp → Prop, (∃ m, W 0 m (upd H1 D (.lst []))) ∧ ∀ i m H, W i m H →
    (J.stop i H ∧ Q (.ref D) H) ∨ (J.go i H ∧ ∃ Nx : Hp → Prop, (∀ H', Nx H' → ∃ m', m' < m ∧ W (i + 1) m' H') ∧ ∀ x H', J.yld i H x H' → g x (wipe σ vs) H' fun σ2 H2 => wipe σ2 vs = wipe σ vs ∧ tt σ2 H2 fun b H3 =>
      if b = true then te σ2 H3 fun y H4 => ∃ acc, H4 D = some (.lst acc) ∧ acc.length < sizeLine ∧ Nx (upd H4 D (.lst (acc ++ [y]))) else Nx H3)) : tLc wi g tt te vs σ H Q := q
theorem cw_put {H1 H4 : Hp} {D : Addr} {a P : List V} {y : V} (e : Evl.Ex H1 H4) (hD : H1 D = none) (h : H4 D = some (.lst a)) (hP : P = a ++ [y]) (hz : a.length ≤ 100000) :
    ∃ acc, H4 D = some (.lst acc) ∧ acc.length < sizeLine ∧ (Evl.Ex H1 (upd H4 D (.lst (acc ++ [y]))) ∧ upd H4 D (.lst (acc ++ [y])) D = some (.lst P)) := by
  subst hP
  exact ⟨a, h, Nat.lt_of_le_of_lt hz (by decide), e.mut hD, upd_same⟩
theorem r_par3 {l : Nat} (q : tl σ H fun vs H1 => ∃ v w z, vs = [v, w, z] ∧ D.nx (((σ.set i (some v)).set j (some w)).set l (some z)) H1) : tPar3 i j l tl D σ H := q
theorem r_vwz {R : V → V → V → Prop} {z : V} (q : R v x z) : ∃ a b c, [v, x, z] = [a, b, c] ∧ R a b c := ⟨v, x, z, rfl, q⟩
end
theorem pe_ty {X : Cx} {x : Str} {n : String} {pos : Pos} (hg : Gl X x) (hm : X.mg x = none) (hv : bootBuiltins x = some (.type n)) (hn : x ≠ "__name__" := by decide) (hd : (x == ("__debug__" : Str)) = false := by decide) : PE X (.Name x pos) (tC (.ty n)) := pe_bltn hg hm hv rfl hn hd
theorem r_isi {K : PySem.W.Frag} {H : Hp} {Q : VK} {x : V} {t T : String} {r : Bool} (h : TyX K H x (.type t)) (k : kitB t T = some r) (q : Q (.bl r) H) : rIsi K [x, .ty T] H Q := ⟨x, .ty T, .type t, .type T, r, rfl, .ty T, h, kit_ty k, q⟩
/-! ### small facts -/
theorem geti {ns : List Int} {j : Nat} {x : V} (h : (ns.map V.int)[j]? = some x) : ∃ n, ns[j]? = some n ∧ x = .int n := by
  rw [List.getElem?_map] at h
  cases e : ns[j]? with
  | none => rw [e] at h; cases h
  | some n => rw [e] at h; exact ⟨n, rfl, (Option.some.inj h).symm⟩
theorem getm {α : Type} {f : α → V} {ns : List α} {j : Nat} {x : V} (h : (ns.map f)[j]? = some x) : ∃ n, ns[j]? = some n ∧ x = f n := by
  rw [List.getElem?_map] at h
  cases e : ns[j]? with
  | none => rw [e] at h; cases h
  | some n => rw [e] at h; exact ⟨n, rfl, (Option.some.inj h).symm⟩
theorem take_yes {α : Type} {ns : List α} {f : α → Bool} {j : Nat} {x : α} (h : ns[j]? = some x) (hf : f x = true) : (ns.take (j + 1)).filter f = (ns.take j).filter f ++ [x] := by
  rw [List.take_add_one, h, List.filter_append]
  simp [hf]
theorem take_no {α : Type} {ns : List α} {f : α → Bool} {j : Nat} {x : α} (h : ns[j]? = some x) (hf : f x = false) : (ns.take (j + 1)).filter f = (ns.take j).filter f := by
  rw [List.take_add_one, h, List.filter_append]
  simp [hf]
theorem take_map {α β : Type} {ns : List α} {f : α → β} {j : Nat} {x : α} (h : ns[j]? = some x) : (ns.take (j + 1)).map f = (ns.take j).map f ++ [f x] := by
  rw [List.take_add_one, h, List.map_append]
  rfl
theorem lt_of_get {α : Type} {ns : List α} {j : Nat} {x : α} (h : ns[j]? = some x) : j < ns.length := (List.getElem?_eq_some_iff.mp h).1
theorem take_all {α : Type} (ns : List α) : ns.take ns.length = ns := List.take_length
theorem sqL {K : PySem.W.Frag} {H : Hp} {a : Addr} {xs : List V} (h : H a = some (.lst xs)) : SqL K H a xs := .inl (.inl h)
theorem sqT {K : PySem.W.Frag} {H : Hp} {a : Addr} {xs : List V} (h : H a = some (.tup xs)) : SqT K H a xs := .inl (.inl h)
theorem dp_ints {K : PySem.W.Frag} {H : Hp} : ∀ ns : List Int, DpAll K H (ns.map V.int) (ns.map PyData.int)
  | [] => .nil
  | n :: ns => .cons (.int n) (dp_ints ns)
theorem eqv_ints_nil : ∀ ns : List Int, PyData.eqv (.list (ns.map PyData.int)) (.list []) = ns.isEmpty
  | [] => by simp [PyData.eqv, PyData.eqvAll]
  | n :: ns => by simp [PyData.eqv, PyData.eqvAll]
theorem r_eqNil {K : PySem.W.Frag} {H : Hp} {Q : VK} {a b : Addr} {ns : List Int} (h1 : SqL K H a (ns.map V.int)) (h2 : SqL K H b []) (q : Q (.bl ns.isEmpty) H) : rEqD K (.ref a) (.ref b) H Q :=
  ⟨.list (ns.map PyData.int), .list [], .lst h1 (dp_ints ns), .lst h2 .nil, PySem.W.ke_shaped_ints ns, by decide, by rw [eqv_ints_nil]; exact q⟩
theorem r_neNil {K : PySem.W.Frag} {H : Hp} {Q : VK} {a b : Addr} {ns : List Int} (h1 : SqL K H a (ns.map V.int)) (h2 : SqL K H b []) (q : Q (.bl (!ns.isEmpty)) H) : rNeD K (.ref a) (.ref b) H Q :=
  ⟨.list (ns.map PyData.int), .list [], .lst h1 (dp_ints ns), .lst h2 .nil, PySem.W.ke_shaped_ints ns, by decide, by rw [eqv_ints_nil]; exact q⟩
end G
set_option Elab.async false
set_option linter.all false
set_option maxRecDepth 100000
set_option maxHeartbeats 4000000
namespace GH
open PySem PySem.Spec PyProof.Rows L2 SlX He
abbrev Fr := PySem.W.Frag
/-! ### a def as it stands, found by an own path -/
structure DefE where
  ad : Fr → Addr
  name : Str
  qual : Str
  params : Arguments
  body : List Stmt
  scope : Scope
  dfl : List V := []
  kwd : List (Str × V) := []
def fnE (K : Fr) (a : Addr) : FnW := match K.lookup a with
  | some ⟨_, _, .func fd, _⟩ => some (fd.name, fd.qualname, fd.params, fd.body, fd.scope, fd.globals, fd.closure, fd.builtins)
  | _ => none
def DefE.val (d : DefE) : FnW := some (d.name, d.qual, d.params, .stmts d.body, d.scope, mainGlobals, [], builtinsNs)
def DefE.ok (K : Fr) (d : DefE) : Bool := PySem.W.keepIn K (.ref (d.ad K)) && (match K.lookup (d.ad K) with
  | some ⟨_, _, .func fd, _⟩ => PySem.W.codeIn K fd.code d.qual && (dflB K fd.defaults d.dfl && kwdB K fd.kwdefaults d.kwd)
  | _ => false)
theorem DefE.funD {K : Fr} {d : DefE} (e : fnE K (d.ad K) = d.val) (c : d.ok K = true) : ∃ fd, FunD K d.name d.qual d.params d.body d.scope d.dfl d.kwd (d.ad K) fd := by
  obtain ⟨kp, c2⟩ := ba c
  unfold fnE at e
  cases q : K.lookup (d.ad K) with
  | none =>
    rw [q] at c2
    cases c2
  | some o =>
    obtain ⟨oc, od, dt, osl⟩ := o
    rw [q] at c2 e
    cases dt with
    | func fd =>
      obtain ⟨n1, n2, n3, n4, n5, n6, n7, n8, n9, n10, n11, n12, n13, n14, n15⟩ := fd
      have e2 : (some (n1, n2, n3, n4, n5, n6, n7, n15) : FnW) = some (d.name, d.qual, d.params, .stmts d.body, d.scope, mainGlobals, [], builtinsNs) := e
      simp only [Option.some.injEq, Prod.mk.injEq] at e2
      obtain ⟨h1, h2, h3, h4, h5, h6, h7, h8⟩ := e2
      subst h1 h2 h3 h4 h5 h6 h7 h8
      have c3 : (PySem.W.codeIn K n13 d.qual && (dflB K n8 d.dfl && kwdB K n9 d.kwd)) = true := c2
      obtain ⟨k1, k2⟩ := ba c3
      obtain ⟨k3, k4⟩ := ba k2
      exact ⟨_, ⟨oc, od, n8, n9, n10, n11, n12, n13, n14, osl, rfl, q, k1, dflB_ok k3, kwdB_ok k4⟩, kp⟩
    | _ => cases c2
/-! ### the code object of a def, its table -/
def codeOf (K : Fr) (f : Addr) : Addr := match K.lookup f with
  | some ⟨_, _, .func fd, _⟩ => (match fd.code with
    | .ref c => c
    | _ => 0)
  | _ => 0
def tabOf (K : Fr) (c : Addr) : Addr := match K.lookup c with
  | some ⟨_, _, .fields vs, _⟩ => (match (vs[11]? : Option Value) with
    | some (.ref P) => P
    | _ => 0)
  | _ => 0
def isTab (o : Option Obj) : Bool := match o with
  | some ⟨.none, Option.none, .fields ⟨[]⟩, ⟨[]⟩⟩ => true
  | _ => false
theorem isTab_ok {o : Option Obj} (h : isTab o = true) : o = some { cls := .none, data := .fields #[] } := by
  unfold isTab at h
  split at h
  · rfl
  · cases h
def cut (K : Fr) (P : Addr) : Fr := K.filter fun q => !(q.1 == P)
theorem cut_lookup (P : Addr) : ∀ K : Fr, (cut K P).lookup P = none
  | [] => rfl
  | (a, o) :: K => by
    unfold cut
    rw [List.filter_cons]
    by_cases h : (a == P) = true
    · rw [if_neg (by simp [h])]; exact cut_lookup P K
    · rw [if_pos (by simp [h])]
      have h2 : (P == a) = false := by
        rw [beq_eq_false_iff_ne]
        exact fun z => h (by rw [z]; exact beq_self_eq_true a)
      rw [List.lookup_cons, h2]
      exact cut_lookup P K
theorem cut_mem {P a : Addr} {o : Obj} : ∀ {K : Fr}, (cut K P).lookup a = some o → K.lookup a = some o
  | [], h => by cases h
  | (b, u) :: K, h => by
    unfold cut at h
    rw [List.filter_cons] at h
    by_cases hb : (b == P) = true
    · rw [if_neg (by simp [hb])] at h
      by_cases ha : (a == b) = true
      · have e : a = P := by rw [beq_iff_eq.mp ha, beq_iff_eq.mp hb]
        rw [e] at h
        have := cut_lookup P K
        unfold cut at this
        rw [this] at h
        cases h
      · rw [List.lookup_cons, show (a == b) = false by simpa using ha]
        exact cut_mem (K := K) h
    · rw [if_pos (by simp [hb])] at h
      rw [List.lookup_cons] at h ⊢
      by_cases ha : (a == b) = true
      · rw [ha] at h ⊢; exact h
      · rw [show (a == b) = false by simpa using ha] at h ⊢
        exact cut_mem (K := K) h
/-! ### the addresses looked at -/
def rfO (o : Obj) : List Addr := match o.data with
  | .dict es _ => es.toList.flatMap fun e => refV e.val
  | .func fd => refV fd.code ++ (refV fd.defaults ++ refV fd.kwdefaults)
  | .cls cd => [cd.ns]
  | .fields vs => if o.cls == .type "property" then vs.toList.flatMap refV else []
  | _ => []
def rfs (g : Addr → Option Obj) (l : List Addr) : List Addr := l.flatMap fun a => match g a with
  | some o => rfO o
  | none => []
def asP (g : Addr → Option Obj) : Nat → List Addr → List Addr
  | 0, l => l
  | n + 1, l => l ++ asP g n (rfs g l)
/-! ### the Hook -/
abbrev Al : Type := Bool × List FnW
/-- m: the method whose table is wanted (its def's address) -/
def obsF (m : Fr → Addr) (fa : List (Fr → Bool)) (fn : List DefE) (g : Addr → Option Obj) (as : List Addr) : Al :=
  let K0 := frG g as
  let P := tabOf K0 (codeOf K0 (m K0))
  let K := cut K0 P
  ((isTab (g P) && (tabOf K (codeOf K (m K)) == P)) && ((fa.all fun f => f K) && fn.all fun d => d.ok K), fn.map fun d => fnE K (d.ad K))
def Says (m : Fr → Addr) (fa : List (Fr → Bool)) (fn : List DefE) (K : Fr) : Prop := (fa.all fun f => f K) = true ∧ (fn.all fun d => d.ok K) = true ∧ (fn.map fun d => fnE K (d.ad K)) = fn.map DefE.val
def hookF (n : Nat) (m : Fr → Addr) (fa : List (Fr → Bool)) (fn : List DefE) : PySem.W.Hook where
  α := Al
  obs := fun s => obsF m fa fn s.heap.get? (asP s.heap.get? n [mainGlobals])
  val := fun _ => (true, fn.map DefE.val)
  says := fun _ h => ∃ K : Fr, K.In h ∧ Says m fa fn K ∧ K.lookup (tabOf K (codeOf K (m K))) = none ∧ h.get? (tabOf K (codeOf K (m K))) = some { cls := .none, data := .fields #[] }
  of := fun w s e => by
    have e1 := congrArg (fun z : Al => z.1) e
    have e2 := congrArg (fun z : Al => z.2) e
    simp only [obsF] at e1 e2
    obtain ⟨a, b⟩ := ba e1
    obtain ⟨a1, a2⟩ := ba a
    obtain ⟨b1, b2⟩ := ba b
    refine ⟨_, fun x o h => frG_in x o (cut_mem h), ⟨b1, b2, e2⟩, ?_, ?_⟩
    · rw [beq_iff_eq.mp a2]
      exact cut_lookup _ _
    · rw [beq_iff_eq.mp a2]
      exact isTab_ok a1
  keeps := fun _ _ _ ⟨K, hK, c, c2, c3⟩ k => ⟨K, PySem.W.Frag.In.keeps hK k, c, c2, k _ _ c3⟩
def obsFG (n : Nat) (m : Fr → Addr) (fa : List (Fr → Bool)) (fn : List DefE) (g : Addr → Option Obj) : Al := obsF m fa fn g (asP g n [mainGlobals])
theorem obsFG_eq {n : Nat} {m : Fr → Addr} {fa : List (Fr → Bool)} {fn : List DefE} {g : Addr → Option Obj} {s : Shared} (h : ∀ a, g a = s.heap.get? a) : obsFG n m fa fn g = (hookF n m fa fn).obs s := by
  have e : g = s.heap.get? := funext h
  rw [e]
  rfl
section
variable {m : Fr → Addr} {fa : List (Fr → Bool)} {fn : List DefE} {K : Fr}
theorem Says.fact (c : Says m fa fn K) (i : Nat) {f : Fr → Bool} (h : fa[i]? = some f := by rfl) : f K = true := List.all_eq_true.mp c.1 f (List.mem_of_getElem? h)
theorem Says.def_ (c : Says m fa fn K) (i : Nat) {d : DefE} (h : fn[i]? = some d := by rfl) : ∃ fd, FunD K d.name d.qual d.params d.body d.scope d.dfl d.kwd (d.ad K) fd := by
  have e2 : (fn.map fun d => fnE K (d.ad K))[i]? = (fn.map DefE.val)[i]? := by rw [c.2.2]
  rw [List.getElem?_map, List.getElem?_map, h] at e2
  exact DefE.funD (Option.some.inj e2) (List.all_eq_true.mp c.2.1 d (List.mem_of_getElem? h))
end
/-! ### the facts -/
def fGlo (x : Str) (K : Fr) : Bool := (Fa.glo x).ok K
def fFree (x : Str) (K : Fr) : Bool := (Fa.free x).ok K
def fInt (x : Str) (i : Int) (K : Fr) : Bool := (Fa.int x i).ok K
def fBlt (x : Str) (b : String) (K : Fr) : Bool := eqO (PySem.W.nsIn K mainGlobals x) (some (some (.builtin b)))
theorem blt_ok {K : Fr} {h : Heap} {mg : Str → Option Value} (X : K.In h) (G : h.Ns mainGlobals mg) {x : Str} {b : String} (c : fBlt x b K = true) : mg x = some (.builtin b) := PySem.W.mg_of X G (eqO_ok c)
def fCls (x : Str) (K : Fr) : Bool := let C := ga K x
  PySem.W.plainGet K C Str.empty && (PySem.W.isClsIn K C && (PySem.W.plainOver K C && eqO (PySem.W.findIn K (.ref C) "__setattr__") (some (some (.builtin "object.__setattr__")))))
theorem cls_ok {K : Fr} {x : Str} (c : fCls x K = true) : SCls K (ga K x) := by
  obtain ⟨a, c⟩ := ba c
  obtain ⟨b, c⟩ := ba c
  obtain ⟨d, c⟩ := ba c
  exact ⟨a, b, d, eqO_ok c⟩
def fIsi (x : Str) (K : Fr) : Bool := let C := ga K x
  eqO (PySem.W.findIn K (.ref C) "__class__") (some (some (.builtin "object.__class__"))) && (eqO (PySem.W.specialIn K (.builtin "object.__class__") "__get__") (some (some (.builtin "getset_descriptor.__get__"))) &&
    (decide (PySem.W.takesIn K (.builtin "object.__class__") = some true) && (decide (PySem.W.mroIn K C (.type "object") = some true) && decide (PySem.W.kitOne K (.ref C) (.ref C) = some true))))
theorem isi_ok {K : Fr} {x : Str} (c : fIsi x K = true) : SIsi K (ga K x) ∧ PySem.W.kitOne K (.ref (ga K x)) (.ref (ga K x)) = some true := by
  obtain ⟨a, c⟩ := ba c
  obtain ⟨b, c⟩ := ba c
  obtain ⟨d, c⟩ := ba c
  obtain ⟨e, c⟩ := ba c
  exact ⟨⟨eqO_ok a, eqO_ok b, of_decide_eq_true d, of_decide_eq_true e⟩, of_decide_eq_true c⟩
def fSlot (x f : Str) (i : Nat) (K : Fr) : Bool := let C := ga K x; let p := ma K C f
  eqO (PySem.W.findIn K (.ref C) f) (some (some (.ref p))) && (eqO (PySem.W.specialIn K (.ref p) "__get__") (some (some (.builtin "member_descriptor.__get__"))) &&
    (decide (PySem.W.takesIn K (.ref p) = some true) && (decide (PySem.W.typeIn K (.ref p) = some (.type "member_descriptor")) && (decide (PySem.W.slotIn K p C = some i) && decide (i < 1000)))))
theorem slot_ok {K : Fr} {x f : Str} {i : Nat} (c : fSlot x f i K = true) : ∃ p, Slot1 K (ga K x) f p i := by
  obtain ⟨a, c⟩ := ba c
  obtain ⟨b, c⟩ := ba c
  obtain ⟨d, c⟩ := ba c
  obtain ⟨e, c⟩ := ba c
  obtain ⟨g, c⟩ := ba c
  exact ⟨_, eqO_ok a, eqO_ok b, of_decide_eq_true d, of_decide_eq_true e, of_decide_eq_true g, of_decide_eq_true c⟩
/-- a property's getter -/
def pgA (x f : Str) (K : Fr) : Addr := match PySem.W.recIn K (ma K (ga K x) f) "property" with
  | some (.ref g :: _) => g
  | _ => 0
def fProp (x f : Str) (K : Fr) : Bool := let C := ga K x; let p := ma K C f
  eqO (PySem.W.findIn K (.ref C) f) (some (some (.ref p))) && (eqO (PySem.W.specialIn K (.ref p) "__get__") (some (some (.builtin "property.__get__"))) &&
    (decide (PySem.W.takesIn K (.ref p) = some true) && (match PySem.W.recIn K p "property" with
      | some (.ref _ :: _) => true
      | _ => false)))
def fMkr (x : Str) (K : Fr) : Bool := (Fa.mkr x).ok K
def fMeth (x m : Str) (K : Fr) : Bool := (Fa.meth x m).ok K
/-- the code object of x's maker, its table -/
def fCode (x : Str) (K : Fr) : Bool := let f := ma K (ga K x) "__init__"
  (match K.lookup f with
  | some ⟨_, _, .func fd, _⟩ => decide (fd.code = .ref (codeOf K f))
  | _ => false) && PySem.W.codeHdIn K (codeOf K f) (tabOf K (codeOf K f))
theorem code_ok {K : Fr} {x : Str} {qual : Str} {params : Arguments} {body : List Stmt} {scope : Scope} {dvs : List V} {kws : List (Str × V)} {fd : FuncData} (c : fCode x K = true) (F : FunD K "__init__" qual params body scope dvs kws (ma K (ga K x) "__init__") fd) :
    fd.code = .ref (codeOf K (ma K (ga K x) "__init__")) := by
  obtain ⟨a, _⟩ := ba c
  obtain ⟨oc, od, dV, kV, doc, pm, an, cdv, ct, osl, e, lk, _⟩ := F.ex
  rw [lk] at a
  exact of_decide_eq_true a
theorem codeHd_ok {K : Fr} {x : Str} {h : Heap} (X : K.In h) (c : fCode x K = true) : PySem.W.CodeHd h (codeOf K (ma K (ga K x) "__init__")) (tabOf K (codeOf K (ma K (ga K x) "__init__"))) := PySem.W.codeHd_of_K X (ba c).2
end GH
set_option Elab.async false
set_option linter.all false
set_option maxRecDepth 100000
set_option maxHeartbeats 0
namespace GH
open PySem PySem.Spec PyProof.Rows L2 SlX He
def d0 : DefE := ⟨fun K => ga K "_law_gcd", "_law_gcd", "_law_gcd", defArgs (G.top 67), defBody (G.top 67), defScope (G.top 67), [], []⟩
def d1 : DefE := ⟨fun K => ga K "_law_ratio", "_law_ratio", "_law_ratio", defArgs (G.top 69), defBody (G.top 69), defScope (G.top 69), [], []⟩
def d2 : DefE := ⟨fun K => ga K "_law_ratio_sum", "_law_ratio_sum", "_law_ratio_sum", defArgs (G.top 70), defBody (G.top 70), defScope (G.top 70), [], []⟩
def d3 : DefE := ⟨fun K => ga K "_law_gh_power", "_law_gh_power", "_law_gh_power", defArgs (G.top 76), defBody (G.top 76), defScope (G.top 76), [], []⟩
def d4 : DefE := ⟨fun K => ga K "_law_gh_divisors", "_law_gh_divisors", "_law_gh_divisors", defArgs (G.top 75), defBody (G.top 75), defScope (G.top 75), [], []⟩
def d5 : DefE := ⟨fun K => ga K "_law_primes_to", "_law_primes_to", "_law_primes_to", defArgs (G.top 68), defBody (G.top 68), defScope (G.top 68), [], []⟩
def d6 : DefE := ⟨fun K => ga K "is_plain", "is_plain", "is_plain", defArgs (G.top 16), defBody (G.top 16), defScope (G.top 16), [], []⟩
def d7 : DefE := ⟨fun K => ga K "is_short", "is_short", "is_short", defArgs (G.top 17), defBody (G.top 17), defScope (G.top 17), [], []⟩
def d8 : DefE := ⟨fun K => ga K "is_integer", "is_integer", "is_integer", defArgs (G.top 28), defBody (G.top 28), defScope (G.top 28), [], []⟩
def d9 : DefE := ⟨fun K => ga K "require_least", "require_least", "require_least", defArgs (G.top 31), defBody (G.top 31), defScope (G.top 31), [], []⟩
def d10 : DefE := ⟨fun K => ga K "require_factored", "require_factored", "require_factored", defArgs (G.top 34), defBody (G.top 34), defScope (G.top 34), [], []⟩
def d11 : DefE := ⟨fun K => ga K "_law_dice", "_law_dice", "_law_dice", defArgs (G.top 64), defBody (G.top 64), defScope (G.top 64), [], []⟩
def d12 : DefE := ⟨fun K => ga K "_law_roll", "_law_roll", "_law_roll", defArgs (G.top 65), defBody (G.top 65), defScope (G.top 65), [], []⟩
def d13 : DefE := ⟨fun K => ga K "_law_pick", "_law_pick", "_law_pick", defArgs (G.top 66), defBody (G.top 66), defScope (G.top 66), [], []⟩
def d14 : DefE := ⟨fun K => ga K "powers_in", "powers_in", "powers_in", defArgs (G.top 29), defBody (G.top 29), defScope (G.top 29), [], []⟩
def d15 : DefE := ⟨fun K => ga K "divisors_in", "divisors_in", "divisors_in", defArgs (G.top 32), defBody (G.top 32), defScope (G.top 32), [], []⟩
def d16 : DefE := ⟨fun K => ga K "moebius_in", "moebius_in", "moebius_in", defArgs (G.top 33), defBody (G.top 33), defScope (G.top 33), [], []⟩
def d17 : DefE := ⟨fun K => ga K "moebius", "moebius", "moebius", defArgs (G.top 35), defBody (G.top 35), defScope (G.top 35), [], []⟩
def d18 : DefE := ⟨fun K => ga K "test_total", "test_total", "test_total", defArgs (G.top 57), defBody (G.top 57), defScope (G.top 57), [], []⟩
def d19 : DefE := ⟨fun K => ga K "fault_in", "fault_in", "fault_in", defArgs (G.top 58), defBody (G.top 58), defScope (G.top 58), [], []⟩
def d20 : DefE := ⟨fun K => ga K "are_numbers", "are_numbers", "are_numbers", defArgs (G.top 55), defBody (G.top 55), defScope (G.top 55), [], []⟩
def d21 : DefE := ⟨fun K => ga K "require_numbers", "require_numbers", "require_numbers", defArgs (G.top 56), defBody (G.top 56), defScope (G.top 56), [], []⟩
def d22 : DefE := ⟨fun K => ga K "are_ghosts", "are_ghosts", "are_ghosts", defArgs (G.top 59), defBody (G.top 59), defScope (G.top 59), [], []⟩
def d23 : DefE := ⟨fun K => ga K "ghost_fault", "ghost_fault", "ghost_fault", defArgs (G.top 60), defBody (G.top 60), defScope (G.top 60), [], []⟩
def d24 : DefE := ⟨fun K => ga K "_law_by_signs", "_law_by_signs", "_law_by_signs", defArgs (G.top 80), defBody (G.top 80), defScope (G.top 80), [], []⟩
def d25 : DefE := ⟨fun K => ga K "_law_by_primes", "_law_by_primes", "_law_by_primes", defArgs (G.top 81), defBody (G.top 81), defScope (G.top 81), [], []⟩
def d26 : DefE := ⟨fun K => ga K "_law_gh_of", "_law_gh_of", "_law_gh_of", defArgs (G.top 77), defBody (G.top 77), defScope (G.top 77), [], []⟩
def d27 : DefE := ⟨fun K => ga K "_law_gh_drawn", "_law_gh_drawn", "_law_gh_drawn", defArgs (G.top 79), defBody (G.top 79), defScope (G.top 79), [], []⟩
def d28 : DefE := ⟨fun K => ga K "_law_gh_row", "_law_gh_row", "_law_gh_row", defArgs (G.top 78), defBody (G.top 78), defScope (G.top 78), [], []⟩
def d29 : DefE := ⟨fun K => ga K "_law_by_row", "_law_by_row", "_law_by_row", defArgs (G.top 82), defBody (G.top 82), defScope (G.top 82), [], []⟩
def d30 : DefE := ⟨fun K => ga K "_law_drawn", "_law_drawn", "_law_drawn", defArgs (G.top 83), defBody (G.top 83), defScope (G.top 83), [], []⟩
def d31 : DefE := ⟨fun K => ma K (ga K "Terms") "__init__", "__init__", "Terms.__init__", defArgs (inClass (G.top 18) 1), defBody (inClass (G.top 18) 1), defScope (inClass (G.top 18) 1), [], []⟩
def d32 : DefE := ⟨fun K => ga K "terms_of", "terms_of", "terms_of", defArgs (G.top 19), defBody (G.top 19), defScope (G.top 19), [], []⟩
def d33 : DefE := ⟨fun K => ga K "told_terms", "told_terms", "told_terms", defArgs (G.top 20), defBody (G.top 20), defScope (G.top 20), [], []⟩
def d34 : DefE := ⟨fun K => ma K (ga K "Ratio") "__init__", "__init__", "Ratio.__init__", defArgs (inClass (G.top 21) 1), defBody (inClass (G.top 21) 1), defScope (inClass (G.top 21) 1), [.int 1], []⟩
def d35 : DefE := ⟨fun K => ga K "ratio_of", "ratio_of", "ratio_of", defArgs (G.top 22), defBody (G.top 22), defScope (G.top 22), [.int 1], []⟩
def d36 : DefE := ⟨pgA "Ratio" "top", "top", "Ratio.top", defArgs (inClass (G.top 21) 3), defBody (inClass (G.top 21) 3), defScope (inClass (G.top 21) 3), [], []⟩
def d37 : DefE := ⟨pgA "Ratio" "bottom", "bottom", "Ratio.bottom", defArgs (inClass (G.top 21) 4), defBody (inClass (G.top 21) 4), defScope (inClass (G.top 21) 4), [], []⟩
def d38 : DefE := ⟨fun K => ga K "line_of", "line_of", "line_of", defArgs (G.top 37), defBody (G.top 37), defScope (G.top 37), [], []⟩
def d39 : DefE := ⟨fun K => ga K "line_of_pairs", "line_of_pairs", "line_of_pairs", defArgs (G.top 38), defBody (G.top 38), defScope (G.top 38), [], []⟩
def d40 : DefE := ⟨fun K => ga K "line_exp", "line_exp", "line_exp", defArgs (G.top 39), defBody (G.top 39), defScope (G.top 39), [], []⟩
def d41 : DefE := ⟨fun K => ma K (ga K "Made") "__init__", "__init__", "Made.__init__", defArgs (inClass (G.top 47) 1), defBody (inClass (G.top 47) 1), defScope (inClass (G.top 47) 1), [], []⟩
def d42 : DefE := ⟨fun K => ga K "line_told", "line_told", "line_told", defArgs (G.top 48), defBody (G.top 48), defScope (G.top 48), [], []⟩
def d43 : DefE := ⟨fun K => ma K (ga K "Row") "__init__", "__init__", "Row.__init__", defArgs (inClass (G.top 51) 1), defBody (inClass (G.top 51) 1), defScope (inClass (G.top 51) 1), [], [("modulus", .int 0)]⟩
def d44 : DefE := ⟨fun K => ga K "row_with", "row_with", "row_with", defArgs (G.top 52), defBody (G.top 52), defScope (G.top 52), [.bl true], []⟩
def d45 : DefE := ⟨fun K => ga K "row_in", "row_in", "row_in", defArgs (G.top 61), defBody (G.top 61), defScope (G.top 61), [], []⟩
def d46 : DefE := ⟨fun K => ga K "ghost_row", "ghost_row", "ghost_row", defArgs (G.top 62), defBody (G.top 62), defScope (G.top 62), [], []⟩
def d47 : DefE := ⟨pgA "Row" "entries", "entries", "Row.entries", defArgs (inClass (G.top 51) 3), defBody (inClass (G.top 51) 3), defScope (inClass (G.top 51) 3), [], []⟩
def d48 : DefE := ⟨pgA "Row" "degree", "degree", "Row.degree", defArgs (inClass (G.top 51) 4), defBody (inClass (G.top 51) 4), defScope (inClass (G.top 51) 4), [], []⟩
def d49 : DefE := ⟨pgA "Row" "modulus", "modulus", "Row.modulus", defArgs (inClass (G.top 51) 5), defBody (inClass (G.top 51) 5), defScope (inClass (G.top 51) 5), [], []⟩
def d50 : DefE := ⟨fun K => ma K (ga K "Row") "whole", "whole", "Row.whole", defArgs (inClass (G.top 51) 9), defBody (inClass (G.top 51) 9), defScope (inClass (G.top 51) 9), [], []⟩
def d51 : DefE := ⟨fun K => ga K "term_text", "term_text", "term_text", defArgs (G.top 49), defBody (G.top 49), defScope (G.top 49), [], []⟩
def d52 : DefE := ⟨fun K => ga K "row_text", "row_text", "row_text", defArgs (G.top 50), defBody (G.top 50), defScope (G.top 50), [], []⟩
def d53 : DefE := ⟨fun K => ma K (ga K "Row") "__str__", "__str__", "Row.__str__", defArgs (inClass (G.top 51) 26), defBody (inClass (G.top 51) 26), defScope (inClass (G.top 51) 26), [], []⟩
def d54 : DefE := ⟨fun K => ga K "_law_pairs_of", "_law_pairs_of", "_law_pairs_of", defArgs (G.top 73), defBody (G.top 73), defScope (G.top 73), [], []⟩
def d55 : DefE := ⟨fun K => ga K "_law_dd_is_row", "_law_dd_is_row", "_law_dd_is_row", defArgs (G.top 74), defBody (G.top 74), defScope (G.top 74), [], []⟩
def d56 : DefE := ⟨fun K => ga K "_law_right", "_law_right", "_law_right", defArgs (G.top 84), defBody (G.top 84), defScope (G.top 84), [], []⟩
def d57 : DefE := ⟨fun K => ga K "law", "law", "law", defArgs (G.top 85), defBody (G.top 85), defScope (G.top 85), [], []⟩
def fn0 : List DefE := [d0, d1, d2, d3, d4, d5, d6, d7, d8, d9, d10, d11, d12, d13, d14, d15, d16, d17, d18, d19, d20, d21, d22, d23, d24, d25, d26, d27, d28, d29]
def fn1 : List DefE := [d30, d31, d32, d33, d34, d35, d36, d37, d38, d39, d40, d41, d42, d43, d44, d45, d46, d47, d48, d49, d50, d51, d52, d53, d54, d55, d56, d57]
def fn : List DefE := fn0 ++ (fn1)
def fa0 : List (Fr → Bool) := [fFree "abs", fFree "all", fFree "bool", fFree "enumerate", fFree "int", fFree "isinstance", fFree "len", fFree "list", fFree "max", fFree "min", fFree "next", fFree "range", fFree "sorted", fFree "str", fFree "sum", fFree "tuple", fBlt "gcd" "math.gcd", fInt "FAR" 1000000000000000000000000000000000000000000000000000000000000, fInt "MAX_GHOSTS" 24, fInt "MAX_FACTORED" 1000000000, fGlo "Terms", fCls "Terms", fIsi "Terms", fMkr "Terms", fGlo "Ratio", fCls "Ratio", fIsi "Ratio", fMkr "Ratio", fGlo "Made", fCls "Made"]
def fa1 : List (Fr → Bool) := [fIsi "Made", fMkr "Made", fGlo "Row", fCls "Row", fIsi "Row", fMkr "Row", fSlot "Terms" "own_bottom" 0, fSlot "Terms" "own_top" 1, fSlot "Ratio" "own_bottom" 0, fSlot "Ratio" "own_top" 1, fSlot "Made" "own_line" 0, fSlot "Row" "own_bottom" 0, fSlot "Row" "own_entries" 1, fSlot "Row" "own_modulus" 2, fSlot "Row" "own_order" 3, fSlot "Row" "own_tops" 4, fCode "Row", fGlo "_law_gcd", fGlo "_law_ratio", fGlo "_law_ratio_sum", fGlo "_law_gh_power", fGlo "_law_gh_divisors", fGlo "_law_primes_to", fGlo "is_plain", fGlo "is_short", fGlo "is_integer", fGlo "require_least", fGlo "require_factored", fGlo "_law_dice", fGlo "_law_roll"]
def fa2 : List (Fr → Bool) := [fGlo "_law_pick", fGlo "powers_in", fGlo "divisors_in", fGlo "moebius_in", fGlo "moebius", fGlo "test_total", fGlo "fault_in", fGlo "are_numbers", fGlo "require_numbers", fGlo "are_ghosts", fGlo "ghost_fault", fGlo "_law_by_signs", fGlo "_law_by_primes", fGlo "_law_gh_of", fGlo "_law_gh_drawn", fGlo "_law_gh_row", fGlo "_law_by_row", fGlo "_law_drawn", fGlo "terms_of", fGlo "told_terms", fGlo "ratio_of", fProp "Ratio" "top", fProp "Ratio" "bottom", fGlo "line_of", fGlo "line_of_pairs", fGlo "line_exp", fGlo "line_told", fGlo "row_with", fGlo "row_in", fGlo "ghost_row"]
def fa3 : List (Fr → Bool) := [fProp "Row" "entries", fProp "Row" "degree", fProp "Row" "modulus", fMeth "Row" "whole", fGlo "term_text", fGlo "row_text", fMeth "Row" "__str__", fGlo "_law_pairs_of", fGlo "_law_dd_is_row", fGlo "_law_right", fGlo "law"]
def fa : List (Fr → Bool) := fa0 ++ (fa1 ++ (fa2 ++ (fa3)))
def mm (K : Fr) : Addr := ma K (ga K "Row") "__init__"
abbrev R : PySem.W.OpenRow := PySem.W.OpenLaw.row PySem.Challenge.rw_lawseries_k64_whole_tests_of_ghosts
abbrev qv : Program := PySem.W.view R.prog [0, 85]
abbrev hk : PySem.W.Hook := hookF 5 mm fa fn
def ob (s : PySem.W.SharedT) : Al := obsFG 5 mm fa fn (HandSHeadRun.getT s)
theorem ob_eq (s : PySem.W.SharedT) : ob s = hk.obs s.abs := obsFG_eq (HandSHeadRun.getT_eq s)
def nm0 : List PySem.Str := ["_wall", "SeriesError", "InvalidRatio", "InvalidModulus", "InvalidRow", "InvalidGhosts", "InvalidOperation", "ParseError", "InvalidCount", "TooMany", "MAX_FIGURES", "FIGURES", "FAR", "is_plain", "is_short", "Terms", "terms_of", "told_terms", "Ratio", "ratio_of", "pair_of", "figures_of", "parts_of", "MAX_FACTORED", "is_integer", "powers_in", "require_count", "require_least", "divisors_in"]
def nm1 : List PySem.Str := ["moebius_in", "require_factored", "moebius", "line_of", "line_of_pairs", "line_exp", "MAX_ROW", "MOST_MODULUS", "require_modulus", "is_number", "number_pair", "is_number_of", "Made", "line_told", "term_text", "row_text", "Row", "row_with", "MAX_GHOSTS", "are_numbers", "require_numbers", "test_total", "fault_in", "are_ghosts", "ghost_fault", "row_in", "ghost_row", "_law_dice", "_law_roll", "_law_pick"]
def nm2 : List PySem.Str := ["_law_gcd", "_law_primes_to", "_law_ratio", "_law_ratio_sum", "_law_inverse", "_law_left", "_law_pairs_of", "_law_dd_is_row", "_law_gh_divisors", "_law_gh_power", "_law_gh_of", "_law_gh_row", "_law_gh_drawn", "_law_by_signs", "_law_by_primes", "_law_by_row", "_law_drawn", "_law_right"]
def names : List PySem.Str := nm0 ++ nm1 ++ nm2
theorem run (w : World) : HandSHeadRun.RunEqI R qv hk ob 7800 names w := by
  unfold HandSHeadRun.RunEqI
  kernel_rfl
end GH
set_option Elab.async false
set_option linter.all false
set_option maxRecDepth 100000
set_option maxHeartbeats 4000000
namespace G
open PySem PySem.Spec PyProof.Rows L2
section
variable {X : Cx}
/-! ### d.values(), and max over it -/
def ValsO (v d : Addr) : HO := .ext fun h => h.IsValuesView v d
def tVals (td : TE) : TE := fun σ H Q => td σ H fun x H1 => ∃ d kvs, x = .ref d ∧ H1 d = some (.dK kvs) ∧ ∀ p, H1 p = none → Q (.ref p) (upd H1 p (ValsO p d))
theorem pe_vals {e : Expr} {td : TE} {apos cpos : Pos} (he : PE X e td) (hbase : attributeBase e "values" X.env (eval e X.env) = eval e X.env := by rfl) (hline : (apos.endLine == cpos.line) = true := by rfl) :
    PE X (.Call (.Attribute e "values" apos) [] [] cpos) (tVals td) := by
  constructor
  intro pins s σ H Q I h
  refine wpAny_Call_method (T := "dict") (id := "dict.values") hbase rfl hline F.plainAttrs_dict F.slot_dict_values F.type_dict_values (thn (he.run pins s σ H _ I h) fun u s1 z => ?_)
  obtain ⟨x, H1, I1, rx, d, kvs, ex, hd, q⟩ := z
  subst ex
  obtain rfl : u = Value.ref d := rx
  obtain ⟨od, I0⟩ := I1.lock hd trivial
  obtain ⟨hs, hgd, hx, es, ep, vs, hdt, hsz, kv, hm⟩ := I0.frzK upd_same
  refine ⟨hm.dictOf.typeIs, hm.dictOf.mapOf.noDict, ?_⟩
  have hf : H1 s1.heap.objs.size = none := I1.hok.fresh (Nat.le_refl _)
  have hv : (s1.heap.push { cls := .type "dict_values", data := .fields #[.ref d] }).IsValuesView s1.heap.objs.size d := ⟨_, Heap.get?_push_size _ rfl, rfl, rfl⟩
  have I2 : Inv X pins σ (upd H1 s1.heap.objs.size (ValsO s1.heap.objs.size d)) { s1 with heap := s1.heap.push { cls := .type "dict_values", data := .fields #[.ref d] } } := by
    refine I1.laid (t' := s1.toks) (fun b ob q => Heap.get?_push_of_some _ q) (Nat.le_refl _) ⟨hv, ⟨_, Heap.get?_push_size _ rfl⟩, ?_⟩
    intro h1 h2 p st
    obtain ⟨o, ho, r⟩ := p
    exact ⟨o, st o ho, r⟩
  show wpAny _ _ (callWith cpos (.builtin "dict.values") [.ref d] [] []) _ X.xe s1
  exact method_meetsIn F.slot_dict_values F.entry_dict_values rfl (PySem.evalArgs_none ⟨rfl, hm.dictOf.typeIs, F.args_dict_values_1 _, _, meets_dict_values (mixKind X.prog X.w) d hs, ⟨vs, hm.dictOf⟩, .ref s1.heap.objs.size, _, I2, rfl, q _ hf⟩)
/-- max(v, default=n), v the values of a dict whose values are ints -/
def rMaxD : List V → List V → Hp → VK → Prop := fun xs zs H Q => ∃ (v d : Addr) (kvs : List (Key × V)) (ms : List Int) (n : Int), xs = [.ref v] ∧ zs = [.int n] ∧ H v = some (ValsO v d) ∧ H d = some (.dK kvs) ∧ kvs.map (·.2) = ms.map V.int ∧
  (ms = [] → Q (.int n) H) ∧ ∀ m, m ∈ ms → (∀ y, y ∈ ms → y ≤ m) → Q (.int m) H
theorem cr_maxD (hc : X.calm = true) : CallRK X (.builtin "max") ["default"] rMaxD := by
  intro pins s σ H xs zs us ws Q I r rz h
  obtain ⟨v, d, kvs, ms, n, rfl, rfl, hv, hd, hm, q0, q1⟩ := h
  obtain ⟨u, rfl, ru⟩ := r.one
  obtain rfl : u = Value.ref v := ru
  obtain ⟨u, rfl, rn⟩ := rz.one
  obtain ⟨tn, rfl⟩ := rn
  have hview : s.heap.IsValuesView v d := (I.hok v _ hv).1
  obtain ⟨od, I0⟩ := I.lock hd trivial
  obtain ⟨hs, hgd, hx, es, ep, vs, hdt, hsz, kv, hm2⟩ := I0.frzK upd_same
  have hl : kvs.length = vs.length := Paired.length kv
  have hms : ms.length = vs.length := by rw [← hl, ← List.length_map (f := V.int), ← hm, List.length_map]
  have hlt : d < s.heap.objs.size := Heap.lt_size hgd
  -- the i-th value
  have hval : ∀ (i : Nat) (w : Value), (∃ k, vs[i]? = some (k, w)) → ∃ t, w = .int (ms.getD i 0) t := by
    intro i w hw
    obtain ⟨k, hk⟩ := hw
    have hi : i < vs.length := lt_of_get hk
    obtain ⟨⟨k', y⟩, hy⟩ : ∃ p, kvs[i]? = some p := ⟨kvs[i], List.getElem?_eq_getElem (by omega)⟩
    obtain ⟨u, hu, ru⟩ := kv_get kv hy
    rw [hu] at hk
    have hkw : u = w := (Prod.mk.inj (Option.some.inj hk)).2
    subst hkw
    have e1 : (kvs.map (·.2))[i]? = some y := by rw [List.getElem?_map, hy]; rfl
    rw [hm] at e1
    obtain ⟨m, hm3, rfl⟩ := geti e1
    obtain ⟨t, rfl⟩ := ru
    refine ⟨t, ?_⟩
    rw [List.getD_eq_getElem?_getD, hm3]
    rfl
  show wpAny _ _ (call (.builtin "max") [.ref v] [(Str.ofString "default", .int n tn)]) _ _ s
  refine call_max_walkD ?_
  refine wpAny_pyIter_values (d := d) (knd := mixKind X.prog X.w) hview hm2 ?_
  have W := (Walks.dictValues (prog := X.prog) (w := X.w) (knd := mixKind X.prog X.w) (A := X.A.in1) (I.ok.hd hc) s.heap.objs.size d (Nat.ne_of_lt hlt) vs ep).toS
  refine ⟨s.heap.objs.size, _, _, _, _, _, _, s.heap, (fun i j => decide (ms.getD i 0 > ms.getD j 0)), rfl, W, ⟨⟨_, Heap.get?_push_size _ rfl, rfl, rfl⟩, hm2.push _⟩, ?_, ?_, fun b o e => Heap.get?_push_of_some _ e, fun hz s' m => ?_, fun hp => ⟨?_, fun w s' hP m => ?_⟩⟩
  · intro b hb
    show b < (s.heap.push _).objs.size
    rw [Heap.size_push]
    rcases List.mem_cons.mp hb with rfl | hb
    · exact Nat.lt_succ_self _
    · rw [List.mem_singleton.mp hb]
      exact Nat.lt_succ_of_lt hlt
  · intro b o e hb
    exact absurd (Heap.lt_size e) ((List.mem_singleton.mp hb) ▸ Nat.lt_irrefl _)
  · obtain ⟨h', tk, rfl, hk'⟩ := PySem.W.moved_old rfl rfl m
    exact ⟨.int n, H, I.kept hk', ⟨_, rfl⟩, q0 (List.eq_nil_of_length_eq_zero (by omega))⟩
  · intro i j vi vj s2 Q2 E2 _ hi hj hq
    obtain ⟨ti, rfl⟩ := hval i vi hi
    obtain ⟨tj, rfl⟩ := hval j vj hj
    exact gt_int (a := ms.getD i 0) (b := ms.getD j 0) (t := ti) (u := tj) hq
  · obtain ⟨h', tk, rfl, hk'⟩ := PySem.W.moved_old rfl rfl m
    obtain ⟨t, rfl⟩ := hval _ w hP
    obtain ⟨b1, b2⟩ := argBest_gt (fun i => ms.getD i 0) (vs.length - 1)
    refine ⟨.int _, H, I.kept hk', ⟨t, rfl⟩, q1 _ ?_ fun y hy => ?_⟩
    · exact PySem.getD_mem (by omega)
    · obtain ⟨j, hj, rfl⟩ := mem_getD hy
      exact b2 j (by omega)
/-! ### for k, v in d.items(), the dict locked from there on -/
def iItemsL (td : TE) : TI := fun σ H R => td σ H fun x H1 => ∃ d kvs, x = .ref d ∧ H1 d = some (.dK kvs) ∧ ∀ o, R (Iti d o kvs) (upd H1 d (.frz o (.dK kvs)))
theorem pi_itemsL {e : Expr} {td : TE} {apos cpos tpos : Pos} {elts : List Expr} {kk : Nat} (he : PE X e td) (hbase : attributeBase e "items" X.env (eval e X.env) = eval e X.env := by rfl) (hline : (apos.endLine == cpos.line) = true := by rfl) :
    PI X (.Tuple elts kk tpos) (.Call (.Attribute e "items" apos) [] [] cpos) (iItemsL td) := by
  constructor
  intro pins s σ H R I h
  refine wpAny_Call_method (T := "dict") (id := "dict.items") hbase rfl hline F.plainAttrs_dict F.slot_dict_items F.type_dict_items (thn (he.run pins s σ H _ I h) fun u s1 z => ?_)
  obtain ⟨x, H1, I0, rx, d, kvs, ex, hd, q⟩ := z
  subst ex
  obtain rfl : u = Value.ref d := rx
  obtain ⟨od, I1⟩ := I0.lock hd trivial
  obtain ⟨hs, hgd, hx, es, ep, vs, hdt, hsz, kv, hm⟩ := I1.frzK upd_same
  have hl : kvs.length = vs.length := Paired.length kv
  refine ⟨hm.dictOf.typeIs, hm.dictOf.mapOf.noDict, ?_⟩
  have I2 : Inv X pins σ (upd H1 d (.frz od (.dK kvs))) { s1 with heap := s1.heap.push { cls := .type "dict_items", data := .fields #[.ref d] } } := I1.kept (t' := s1.toks) fun b ob q => Heap.get?_push_of_some _ q
  have fin : wpAny (model X.prog X.w) X.A (pyIter (.ref s1.heap.objs.size)) (PIE X pins σ (.Tuple elts kk tpos) R) X.xe { s1 with heap := s1.heap.push { cls := .type "dict_items", data := .fields #[.ref d] } } := by
    refine wpAny_pyIter_items (d := d) (knd := mixKind X.prog X.w) ⟨_, Heap.get?_push_size _ rfl, rfl, rfl⟩ (hm.push _) (pi_one (tk := s1.toks) I2 _ (turn_items _ hdt) ⟨.none, .none, ?_⟩ (q od))
    rw [hl]
    exact Heap.get?_push_size _ rfl
  show wpAny _ _ (callWith cpos (.builtin "dict.items") [.ref d] [] []) _ X.xe s1
  exact method_meetsIn F.slot_dict_items F.entry_dict_items rfl (PySem.evalArgs_none ⟨rfl, hm.dictOf.typeIs, F.args_dict_items_1 _, _, meets_dict_items (mixKind X.prog X.w) d hs, ⟨vs, hm.dictOf⟩, fin⟩)
/-! ### enumerate of a tuple -/
theorem meets_enumT (l : Addr) (items : Array Value) :
    Meets (Builtin.«enumerate.__new__» ⟨[.type "enumerate", .ref l], []⟩) (fun _ R s => s.heap.IsTuple l items ∧
      R (.ok (.ret (.ref (s.heap.push { cls := .type "tuple_iterator", data := .fields #[.ref l, .int 0 0] }).objs.size)))
        { s with heap := (s.heap.push { cls := .type "tuple_iterator", data := .fields #[.ref l, .int 0 0] }).push { cls := .type "enumerate", data := .fields #[.none, .bool false, .ref s.heap.objs.size, rawInt 0, .none, .none] } }) :=
  .of_wp fun prog w A R s h => by
    obtain ⟨hp, g, d, tk, os⟩ := s
    obtain ⟨hl, h⟩ := h
    have hsub := sub_enumerate
    have q1 : ∀ {A' : Around} {E : Value → Shared → Prop} {Q : Value → Shared → Prop}, Q (.ref hp.objs.size) ⟨hp.push { cls := .type "tuple_iterator", data := .fields #[.ref l, .int 0 0] }, g, d, tk, os⟩ → wpAny (model prog w) A' (pyIter (.ref l)) Q E ⟨hp, g, d, tk, os⟩ :=
      fun q => wpAny_pyIter_tuple hl q
    wp_walk using q1
    refine wpAny_stack_any fun st => wpAny_pure ?_
    split
    · rename_i c _ _ _ _ _
      cases (c == Value.type "enumerate")
      · wp_walk using q1
        exact ⟨_, rfl, h⟩
      · wp_walk using q1
        exact ⟨_, rfl, h⟩
    · wp_walk using q1
      exact ⟨_, rfl, h⟩
theorem call_enumT {prog : Program} {w : World} {A : Around} {E : Value → Shared → Prop} {s : Shared} {l : Addr} {items : Array Value} {Q : Value → Shared → Prop} (hL : s.heap.IsTuple l items)
    (h : ∀ h', IsEnum h' (s.heap.objs.size + 1) s.heap.objs.size 0 .none → h'.IsTupleIter s.heap.objs.size l 0 → h'.objs.size = s.heap.objs.size + 2 →
      (∀ b o, s.heap.get? b = some o → h'.get? b = some o) → Q (.ref (s.heap.objs.size + 1)) { s with heap := h' }) :
    wpAny (model prog w) A (call (.type "enumerate") [.ref l]) Q E s := by
  refine callType_new F.called_enumerate (by decide) (F.typeCall_enumerate_1 _) (F.newCall_enumerate_1 _) (fun obj => F.args_object_init_2 obj _) F.entry_enumerate_new (meets_enumT l items) ⟨hL, ?_⟩
  have hz : (s.heap.push { cls := .type "tuple_iterator", data := .fields #[.ref l, .int 0 0] }).objs.size = s.heap.objs.size + 1 := Heap.size_push ..
  show _ ∧ _
  rw [hz]
  have he : IsEnum ((s.heap.push { cls := .type "tuple_iterator", data := .fields #[.ref l, .int 0 0] }).push
      { cls := .type "enumerate", data := .fields #[.none, .bool false, .ref s.heap.objs.size, rawInt 0, .none, .none] }) (s.heap.objs.size + 1) s.heap.objs.size 0 .none := by
    have z := Heap.get?_push_size (s.heap.push { cls := .type "tuple_iterator", data := .fields #[.ref l, .int 0 0] })
      (o := { cls := .type "enumerate", data := .fields #[.none, .bool false, .ref s.heap.objs.size, rawInt 0, .none, .none] }) rfl
    rw [hz] at z
    exact z
  refine ⟨⟨_, he, rfl⟩, h _ he ⟨_, Heap.get?_push_of_some _ (Heap.get?_push_size _ rfl), rfl, rfl⟩ (by rw [Heap.size_push, hz]) fun b o x => Heap.get?_push_of_some _ (Heap.get?_push_of_some _ x)⟩
def IteT (K : PySem.W.Frag) (a : Addr) : It :=
  ⟨fun i H => ∃ (xs : List V) (x : V), SqT K H a xs ∧ xs[i]? = some x, fun i H v H' => ∃ T x, v = .ref T ∧ H T = none ∧ H' = upd H T (.tup [.int (i : Nat), x]) ∧ ∀ xs, SqT K H a xs → xs[i]? = some x, fun i H => ∃ xs : List V, SqT K H a xs ∧ xs.length = i⟩
theorem turn_enumT {P : Program} {w : World} {K : PySem.W.Frag} {elts : List Expr} {kk : Nat} {tpos : Pos} (a e it : Addr) :
    Turn P w K (.Tuple elts kk tpos) (IteT K a) [e, it] e (fun i h => (∃ old, IsEnum h e it (0 + ((i : Nat) : Int)) old) ∧ h.IsTupleIter it a i ∧ e ≠ it ∧ e ≠ a ∧ a ≠ it) where
  mem := by simp
  obj := fun i h st b hb => by
    obtain ⟨⟨old, he⟩, ⟨o, ho, hc, hd⟩, _⟩ := st
    have e' : b = e ∨ b = it := by simpa using hb
    rcases e' with z | z
    · rw [z]; exact ⟨_, he, fun v q => nomatch q⟩
    · rw [z]; exact ⟨o, ho, fun v q => by rw [hd] at q; cases q⟩
  keep := fun i h h' st k => let ⟨⟨old, he⟩, hi, hne⟩ := st; ⟨⟨old, k e (by simp) _ he⟩, hi.at fun o q => k it (by simp) o q, hne⟩
  item := by
    intro X hP hw hK hc i pins s σ H E I hf st hg
    subst hP hw hK
    obtain ⟨⟨old, he⟩, hit, hne, hea, hai⟩ := st
    obtain ⟨xs, x, hq, hx⟩ := hg
    obtain ⟨its, rv, p, hz⟩ := I.tuple hq
    obtain ⟨u, hu, ru⟩ := rv.get hx
    have hel : e < s.heap.objs.size := Heap.lt_size he
    have hil : it < s.heap.objs.size := by obtain ⟨_, q, _⟩ := hit; exact Heap.lt_size q
    have W := WalksT.enumFrom (prog := X.prog) (w := X.w) (A := X.A) 0 (Draws.tuple (A := X.A.in1) (I.ok.hd hc) it a hai its.toArray) e hne (by simp [hne, hea]) (by simp)
    refine W.item i s _ E (by have := lt_of_get hu; simpa using this) ⟨⟨old, he⟩, hit, p⟩ fun T vals h' tk hP hT hTu hM hk => ?_
    obtain ⟨t, y, hy, hvals⟩ := hP
    have hyu : y = u := by
      have q : its[i]? = some y := by simpa using hy
      rw [hu] at q
      exact (Option.some.inj q).symm
    subst hyu
    refine ⟨_, rfl, W.go elts kk tpos i T { s with heap := h', toks := tk } _ E hM fun h'' hS hk2 => ?_⟩
    have hTn := W.apart i T h' hM
    obtain ⟨oT, hoT, hcT, nT, hdT⟩ := hTu
    have hoT2 : h''.get? T = some oT := hk2 T oT hTn hoT
    have new : ObjOk X.prog X.w (upd H T (.tup [.int (i : Nat), x])) h'' T (.tup [.int (i : Nat), x]) :=
      ⟨by show 2 ≤ sizeLine; decide, [.int (0 + (i : Int)) t, y], .cons ⟨t, by rw [Int.zero_add]⟩ (.cons ru .nil), ⟨oT, hoT2, hcT, nT, by rw [hdT, hvals]⟩⟩
    have I1 : Inv X pins σ (upd H T (.tup [.int (i : Nat), x])) { s with heap := h'', toks := tk } :=
      I.turnedNew (ch := [e, it]) (fun b ob hb q => hk2 b ob hb (hk b ob hb q)) hf hT new
    refine ⟨.ref T, _, I1, rfl, ⟨T, x, rfl, I.hok.fresh hT, rfl, fun ys hy => by rw [I.tuple_inj hy hq]; exact hx⟩, ⟨?_, hS.2.1, hne, hea, hai⟩, fun b hb => ?_⟩
    · exact hS.1
    · have hb' : b < s.heap.objs.size := by
        have e' : b = e ∨ b = it := by simpa using hb
        rcases e' with z | z
        · rw [z]; exact hel
        · rw [z]; exact hil
      rw [upd_ne (Nat.ne_of_lt (Nat.lt_of_lt_of_le hb' hT))]
      exact (hf b hb).1
  done := by
    intro X hP hw hK hc i pins s σ H E I hf st hg
    subst hP hw hK
    obtain ⟨⟨old, he⟩, hit, hne, hea, hai⟩ := st
    obtain ⟨xs, hq, hx⟩ := hg
    obtain ⟨its, rv, p, hz⟩ := I.tuple hq
    have hl := rv.length
    have hi : i = its.toArray.size := by
      rw [List.size_toArray]
      omega
    subst hi
    have W := WalksT.enumFrom (prog := X.prog) (w := X.w) (A := X.A) 0 (Draws.tuple (A := X.A.in1) (I.ok.hd hc) it a hai its.toArray) e hne (by simp [hne, hea]) (by simp)
    refine W.done s _ E ⟨⟨old, he⟩, hit, p⟩ fun h' tk hk => ⟨rfl, ?_⟩
    exact I.turnedL (t' := tk) (ch := [e, it]) (fun b o hb q => hk b o hb q) hf
  self := fun A i s Q E st h => let ⟨⟨_, he⟩, _⟩ := st; wpAny_pyIter_enum he h
def iEnumT (K : PySem.W.Frag) (ta : TA) : TI := fun σ H R => ta σ H fun vs H1 => ∃ a xs, vs = [.ref a] ∧ SqT K H1 a xs ∧ R (IteT K a) H1
theorem pi_enumT {e : Expr} {ta : TA} {p pos tpos : Pos} {elts : List Expr} {kk : Nat} (hg : Gl X "enumerate") (hm : X.mg "enumerate" = none) (ha : PA X [e] ta) (hs : starEach [e] X.env = [(false, eval e X.env)] := by rfl) :
    PI X (.Tuple elts kk tpos) (.Call (.Name "enumerate" p) [e] [] pos) (iEnumT X.K ta) := by
  constructor
  intro pins s σ H R I h
  refine Call_ (ld_blt I hg hm boot_enumerate (PyProof.Rows.callWith_type1 (thn (ha.run pos pins s σ H _ I h) fun us s1 z => ?_) hs rfl))
  obtain ⟨vs, H1, I1, r1, a, xs, ex, hq, q⟩ := z
  subst ex
  obtain ⟨u, rfl, ru⟩ := r1.one
  obtain rfl : u = Value.ref a := ru
  obtain ⟨its, rv, p', hz⟩ := I1.tuple hq
  have hal : a < s1.heap.objs.size := by obtain ⟨_, q, _⟩ := p'; exact Heap.lt_size q
  refine call_enumT p' fun h' he hit hsz hk => wpAny_pyIter_enum he ?_
  have I2 : Inv X pins σ H1 { s1 with heap := h' } := I1.kept (t' := s1.toks) hk
  refine ⟨s1.heap.objs.size + 1, [s1.heap.objs.size + 1, s1.heap.objs.size], _, _, H1, rfl, I2, turn_enumT a (s1.heap.objs.size + 1) s1.heap.objs.size, ⟨⟨.none, he⟩, hit, Nat.succ_ne_self _, (Nat.ne_of_lt (Nat.lt_succ_of_lt hal)).symm, Nat.ne_of_lt hal⟩, fun b hb => ?_, q⟩
  have e' : b = s1.heap.objs.size + 1 ∨ b = s1.heap.objs.size := by simpa using hb
  have hle : s1.heap.objs.size ≤ b := by
    rcases e' with z | z
    · rw [z]; exact Nat.le_add_right _ _
    · rw [z]; exact Nat.le_refl _
  exact I1.fpOk hle (I1.hok.fresh hle)
theorem walk_enumT {K : PySem.W.Frag} {a : Addr} {xs : List V} : Walk (IteT K a) xs.length (fun H => SqT K H a xs) (YPair (fun i => some (.int (i : Nat))) (fun i => xs[i]?)) := by
  refine ⟨fun i _ hi q => ⟨xs, xs[i], q, by simp [hi]⟩, fun _ q => ⟨xs, q, rfl⟩, fun i H v H' _ q y => ?_⟩
  obtain ⟨T, x, h1, h2, h3, h4⟩ := y
  exact ⟨T, .int (i : Nat), x, h1, h2, h3, rfl, h4 xs q⟩
end
end G
set_option linter.all false
namespace G
/-- a fraction in lowest terms -/
def redu (a b : Int) : Int × Int := (a / ((Nat.gcd a.natAbs b.natAbs : Nat) : Int), b / ((Nat.gcd a.natAbs b.natAbs : Nat) : Int))
theorem nat_redu {A B C D : Nat} (hB : 0 < B) (hD : 0 < D) (h : A * D = C * B) : A / Nat.gcd A B = C / Nat.gcd C D ∧ B / Nat.gcd A B = D / Nat.gcd C D := by
  have g1 : 0 < Nat.gcd A B := Nat.gcd_pos_of_pos_right _ hB
  have g2 : 0 < Nat.gcd C D := Nat.gcd_pos_of_pos_right _ hD
  have ea : Nat.gcd A B * (A / Nat.gcd A B) = A := Nat.mul_div_cancel' (Nat.gcd_dvd_left A B)
  have eb : Nat.gcd A B * (B / Nat.gcd A B) = B := Nat.mul_div_cancel' (Nat.gcd_dvd_right A B)
  have ec : Nat.gcd C D * (C / Nat.gcd C D) = C := Nat.mul_div_cancel' (Nat.gcd_dvd_left C D)
  have ed : Nat.gcd C D * (D / Nat.gcd C D) = D := Nat.mul_div_cancel' (Nat.gcd_dvd_right C D)
  have k1 : Nat.Coprime (A / Nat.gcd A B) (B / Nat.gcd A B) := Nat.coprime_div_gcd_div_gcd g1
  have k2 : Nat.Coprime (C / Nat.gcd C D) (D / Nat.gcd C D) := Nat.coprime_div_gcd_div_gcd g2
  generalize hg : Nat.gcd A B = g at *
  generalize hk : Nat.gcd C D = k at *
  generalize A / g = a at *
  generalize B / g = b at *
  generalize C / k = c at *
  generalize D / k = d at *
  have h2 : a * d = c * b := by
    rw [← ea, ← eb, ← ec, ← ed] at h
    have h3 : (g * k) * (a * d) = (g * k) * (c * b) := by
      calc (g * k) * (a * d) = g * a * (k * d) := by ac_rfl
        _ = k * c * (g * b) := h
        _ = (g * k) * (c * b) := by ac_rfl
    exact Nat.eq_of_mul_eq_mul_left (Nat.mul_pos g1 g2) h3
  have hb : 0 < b := by
    rcases Nat.eq_zero_or_pos b with z | z
    · rw [z, Nat.mul_zero] at eb; omega
    · exact z
  have hd : 0 < d := by
    rcases Nat.eq_zero_or_pos d with z | z
    · rw [z, Nat.mul_zero] at ed; omega
    · exact z
  have d1 : b ∣ d := Nat.Coprime.dvd_of_dvd_mul_left k1.symm (by rw [h2]; exact Nat.dvd_mul_left b c)
  have d2 : d ∣ b := Nat.Coprime.dvd_of_dvd_mul_left k2.symm (by rw [← h2]; exact Nat.dvd_mul_left d a)
  have e : b = d := Nat.dvd_antisymm d1 d2
  subst e
  exact ⟨Nat.eq_of_mul_eq_mul_right hb h2, rfl⟩
theorem redu_nn (A B : Nat) : redu (A : Int) (B : Int) = (((A / Nat.gcd A B : Nat) : Int), ((B / Nat.gcd A B : Nat) : Int)) := by
  unfold redu
  rw [Int.natAbs_natCast, Int.natAbs_natCast, Int.natCast_ediv, Int.natCast_ediv]
theorem redu_neg (A B : Nat) : redu (-(A : Int)) (B : Int) = (-((A / Nat.gcd A B : Nat) : Int), ((B / Nat.gcd A B : Nat) : Int)) := by
  unfold redu
  rw [Int.natAbs_neg, Int.natAbs_natCast, Int.natAbs_natCast, Int.natCast_ediv, Int.natCast_ediv, Int.neg_ediv_of_dvd (Int.natCast_dvd_natCast.mpr (Nat.gcd_dvd_left A B))]
theorem redu_eq {a b c d : Int} (hb : 0 < b) (hd : 0 < d) (h : a * d = c * b) : redu a b = redu c d := by
  obtain ⟨B, rfl⟩ := Int.eq_ofNat_of_zero_le (Int.le_of_lt hb)
  obtain ⟨D, rfl⟩ := Int.eq_ofNat_of_zero_le (Int.le_of_lt hd)
  have hB : 0 < B := by omega
  have hD : 0 < D := by omega
  rcases Int.le_total 0 a with ha | ha
  · have hc : 0 ≤ c := by
      rcases Int.lt_or_le c 0 with z | z
      · have h1 := Int.mul_neg_of_neg_of_pos z hb
        have h2 := Int.mul_nonneg ha (Int.le_of_lt hd)
        omega
      · exact z
    obtain ⟨A, rfl⟩ := Int.eq_ofNat_of_zero_le ha
    obtain ⟨C, rfl⟩ := Int.eq_ofNat_of_zero_le hc
    have hn : A * D = C * B := by
      have : ((A * D : Nat) : Int) = ((C * B : Nat) : Int) := by rw [Int.natCast_mul, Int.natCast_mul]; exact h
      omega
    obtain ⟨e1, e2⟩ := nat_redu hB hD hn
    show redu (A : Int) (B : Int) = redu (C : Int) (D : Int)
    rw [redu_nn, redu_nn, e1, e2]
  · have hc : c ≤ 0 := by
      rcases Int.lt_or_le 0 c with z | z
      · have h1 := Int.mul_pos z hb
        have h2 := Int.mul_nonpos_of_nonpos_of_nonneg ha (Int.le_of_lt hd)
        omega
      · exact z
    obtain ⟨A, hA⟩ := Int.eq_ofNat_of_zero_le (show 0 ≤ -a by omega)
    obtain ⟨C, hC⟩ := Int.eq_ofNat_of_zero_le (show 0 ≤ -c by omega)
    have ea : a = -(A : Int) := by omega
    have ec : c = -(C : Int) := by omega
    subst ea ec
    have hn : A * D = C * B := by
      have : ((A * D : Nat) : Int) = ((C * B : Nat) : Int) := by
        rw [Int.natCast_mul, Int.natCast_mul]
        rw [Int.neg_mul, Int.neg_mul] at h
        have := Int.neg_inj.mp h
        exact this
      omega
    obtain ⟨e1, e2⟩ := nat_redu hB hD hn
    show redu (-(A : Int)) (B : Int) = redu (-(C : Int)) (D : Int)
    rw [redu_neg, redu_neg, e1, e2]
theorem gcd_posI {a b : Int} (hb : 0 < b) : (0 : Int) < ((Nat.gcd a.natAbs b.natAbs : Nat) : Int) := by
  have : 0 < Nat.gcd a.natAbs b.natAbs := Nat.gcd_pos_of_pos_right _ (by omega)
  omega
theorem gcd_dl (a b : Int) : ((Nat.gcd a.natAbs b.natAbs : Nat) : Int) ∣ a := Int.dvd_natAbs.mp (Int.natCast_dvd_natCast.mpr (Nat.gcd_dvd_left _ _))
theorem gcd_dr (a b : Int) : ((Nat.gcd a.natAbs b.natAbs : Nat) : Int) ∣ b := Int.dvd_natAbs.mp (Int.natCast_dvd_natCast.mpr (Nat.gcd_dvd_right _ _))
theorem redu_cross {a b : Int} : (redu a b).1 * b = a * (redu a b).2 := by
  show a / _ * b = a * (b / _)
  obtain ⟨x, hx⟩ := gcd_dl a b
  obtain ⟨y, hy⟩ := gcd_dr a b
  generalize ((Nat.gcd a.natAbs b.natAbs : Nat) : Int) = g at *
  by_cases h0 : g = 0
  · subst h0
    rw [hx, hy]
    simp
  · rw [hx, hy, Int.mul_ediv_cancel_left _ h0, Int.mul_ediv_cancel_left _ h0]
    calc x * (g * y) = g * x * y := by ac_rfl
theorem redu_pos {a b : Int} (hb : 0 < b) : 0 < (redu a b).2 := by
  show 0 < b / _
  obtain ⟨y, hy⟩ := gcd_dr a b
  have hg := gcd_posI (a := a) hb
  generalize ((Nat.gcd a.natAbs b.natAbs : Nat) : Int) = g at *
  rw [hy, Int.mul_ediv_cancel_left _ (by omega)]
  rcases Int.lt_or_le 0 y with z | z
  · exact z
  · have := Int.mul_nonpos_of_nonneg_of_nonpos (Int.le_of_lt hg) z
    omega
theorem redu_le2 {a b : Int} (hb : 0 < b) : (redu a b).2 ≤ b := by
  show b / _ ≤ b
  exact Int.ediv_le_self _ (Int.le_of_lt hb)
theorem redu_abs1 {a b : Int} : (redu a b).1.natAbs ≤ a.natAbs := by
  show (a / _).natAbs ≤ _
  obtain ⟨x, hx⟩ := gcd_dl a b
  generalize ((Nat.gcd a.natAbs b.natAbs : Nat) : Int) = g at *
  by_cases h0 : g = 0
  · subst h0
    rw [Int.ediv_zero]
    simp
  · have e : a / g = x := by rw [hx, Int.mul_ediv_cancel_left _ h0]
    rw [e, hx, Int.natAbs_mul]
    have : 1 ≤ g.natAbs := by omega
    exact Nat.le_mul_of_pos_left _ this
/-- the bottom is 1 exactly if the quotient is whole -/
theorem redu_one {a b : Int} (hb : 0 < b) : (redu a b).2 = 1 ↔ b ∣ a := by
  show b / _ = 1 ↔ _
  obtain ⟨y, hy⟩ := gcd_dr a b
  have hg := gcd_posI (a := a) hb
  constructor
  · intro h
    have hl := gcd_dl a b
    generalize ((Nat.gcd a.natAbs b.natAbs : Nat) : Int) = g at hy hg h hl
    rw [hy, Int.mul_ediv_cancel_left _ (by omega)] at h
    rw [h, Int.mul_one] at hy
    rw [hy]
    exact hl
  · intro h
    have e : Nat.gcd a.natAbs b.natAbs = b.natAbs := Nat.gcd_eq_right (Int.natAbs_dvd_natAbs.mpr h)
    rw [e, Int.natAbs_of_nonneg (Int.le_of_lt hb)]
    exact Int.ediv_self (by omega)
/-! ### the row over factorials -/
def fac : Nat → Nat
  | 0 => 1
  | n + 1 => (n + 1) * fac n
theorem fac_pos : ∀ n, 0 < fac n
  | 0 => Nat.one_pos
  | n + 1 => Nat.mul_pos (Nat.succ_pos n) (fac_pos n)
theorem fac_dvd {k : Nat} : ∀ {n : Nat}, k ≤ n → fac k ∣ fac n
  | 0, h => by rw [Nat.le_zero.mp h]; exact Nat.dvd_refl _
  | n + 1, h => by
    rcases Nat.lt_or_ge k (n + 1) with z | z
    · exact Nat.dvd_trans (fac_dvd (Nat.le_of_lt_succ z)) (Nat.dvd_mul_left _ _)
    · rw [Nat.le_antisymm h z]; exact Nat.dvd_refl _
theorem fac_mono {k n : Nat} (h : k ≤ n) : fac k ≤ fac n := Nat.le_of_dvd (fac_pos n) (fac_dvd h)
theorem fac_quot {k n : Nat} (h : k ≤ n) : fac k * (fac n / fac k) = fac n := Nat.mul_div_cancel' (fac_dvd h)
def eTerm (ns E : List Int) (n k : Nat) : Int := ns.getD (k - 1) 0 * ((fac (n - 1) / fac (n - k) : Nat) : Int) * E.getD (n - k) 0
def eSum (ns E : List Int) (n k : Nat) : Int := ((List.range k).map fun j => eTerm ns E n (j + 1)).sum
def eL (ns : List Int) : Nat → List Int
  | 0 => [1]
  | n + 1 => eL ns n ++ [eSum ns (eL ns n) (n + 1) (n + 1)]
def eN (ns : List Int) (n : Nat) : Int := (eL ns n).getD n 0
theorem eL_len (ns : List Int) : ∀ n, (eL ns n).length = n + 1
  | 0 => rfl
  | n + 1 => by rw [eL, List.length_append, eL_len ns n]; rfl
theorem eL_get (ns : List Int) {j : Nat} : ∀ {n : Nat}, j ≤ n → (eL ns n).getD j 0 = eN ns j
  | 0, h => by rw [Nat.le_zero.mp h]; rfl
  | n + 1, h => by
    rcases Nat.lt_or_ge j (n + 1) with z | z
    · rw [eL, List.getD_eq_getElem?_getD, List.getElem?_append_left (by rw [eL_len]; exact z), ← List.getD_eq_getElem?_getD, eL_get ns (Nat.le_of_lt_succ z)]
    · rw [Nat.le_antisymm h z]; rfl
theorem eSum_succ (ns E : List Int) (n k : Nat) : eSum ns E n (k + 1) = eSum ns E n k + eTerm ns E n (k + 1) := by
  unfold eSum
  rw [List.range_succ, List.map_append, List.sum_append]
  simp
theorem eN_zero (ns : List Int) : eN ns 0 = 1 := rfl
theorem eN_succ (ns : List Int) (n : Nat) : eN ns (n + 1) = eSum ns (eL ns n) (n + 1) (n + 1) := by
  unfold eN
  rw [eL, List.getD_eq_getElem?_getD, List.getElem?_append_right (by rw [eL_len]; exact Nat.le_refl _), eL_len]
  simp
/-! ### bounds -/
theorem natAbs_sum_le {B : Nat} : ∀ l : List Int, (∀ x ∈ l, x.natAbs ≤ B) → l.sum.natAbs ≤ l.length * B
  | [], _ => by simp
  | x :: r, h => by
    rw [List.sum_cons, List.length_cons]
    have h1 := natAbs_sum_le r fun y hy => h y (List.mem_cons_of_mem _ hy)
    have h2 := h x List.mem_cons_self
    have h3 := Int.natAbs_add_le x r.sum
    rw [Nat.succ_mul]
    omega
theorem fac_small : fac 24 < 2 ^ 90 := by decide
end G
set_option Elab.async false
set_option linter.all false
set_option maxRecDepth 100000
set_option maxHeartbeats 4000000
namespace G
open PySem PySem.Spec PyProof.Rows L2
local macro_rules | `(tactic| walk_at "rd") => `(tactic| repeat (first
  | (with_reducible first
  | refine r_seq ?_ | refine r_asg ?_ | refine r_c ?_ | refine r_op ?_ | refine r_cons ?_ | refine r_nil ?_ | refine r_cb ?_ | refine r_cal ?_ | refine r_I0 ?_ | refine r_gname ?_
  | refine r_test ?_ | refine r_k ?_ | refine r_B ?_ | refine r_ifs ?_ | refine r_eqI ?_ | refine r_neI ?_ | refine r_un ?_ | refine r_U ?_ | refine r_par ?_ | refine r_vw ?_ | refine r_ret ?_ | refine r_drop ?_
  | refine r_next ?_ | refine r_not ?_ | refine r_and ?_ | refine r_or ?_ | refine r_if ?_ | refine r_chain ?_ | refine r_ipI ?_ | refine r_abs ?_ | refine r_int1 ?_ | refine r_int1b ?_ | refine r_eqB ?_ | refine r_neB ?_
  | refine r_max2 ?_ | refine r_min2 ?_ | refine r_gcd ?_ | refine r_tup ?_ | refine r_lst ?_ | refine r_bm ?_ | refine r_for ?_ | refine r_rng1 ?_ | refine r_rng2 ?_ | refine r_ilist ?_ | refine r_itup ?_ | refine r_yes ?_ | refine r_lc ?_ | refine r_sub ?_
  | refine r_gcons ?_ | refine r_gnil ?_ | refine r_andV0 ?_ | refine r_orV0 ?_ | refine r_notV ?_ | refine r_par3 ?_ | refine r_vwz ?_ | refine r_isN ?_ | refine r_notN ?_)
  | ((with_reducible refine' r_var ?k1 ?_); (case k1 => exact rfl))
  | ((with_reducible refine' r_aug ?k1 ?_); (case k1 => exact rfl))))
section
variable {P : Program} {w : World} {K : PySem.W.Frag} {mg : Str → Option Value} {base : Heap}
abbrev s_law_gcd : Stmt := top 67
abbrev N_law_gcd : List Str := ["_law_one", "_law_other"]
theorem sc_law_gcd : FnScope N_law_gcd ["_law_one", "_law_other"] (defScope s_law_gcd) := ⟨rfl, rfl, rfl, by decide +kernel, rfl, by decide +kernel, by decide +kernel⟩
def sp_law_gcd : Sp := fun vs H Q _ => ∃ a b : Int, vs = [.int a, .int b] ∧ Q (.int ((Nat.gcd a.natAbs b.natAbs : Nat) : Int)) H
theorem ok_law_gcd (B : Bt mg) (D : DefAt K mg "_law_gcd" s_law_gcd)  : Cal P w K mg base "_law_gcd" 1 sp_law_gcd := by
  refine D.cal sc_law_gcd (fun vs H Q E h => ?_) (fun _ _ _ _ _ _ us hl => match us, hl with | [_, _], _ => rfl) (fun cfa cdv cA cO cs H vs Q E hr h => ?_)
  · obtain ⟨a, b, rfl, q⟩ := h
    rfl
  obtain ⟨a, b, rfl, q⟩ := h
  refine ⟨_, (pss_cons (ps_par (i := 0) (j := 1) (by rfl) sc_law_gcd.nd rfl rfl (by decide) rfl rfl (pa_cons (pe_callB (k_abs) (by rfl) B.abs (by decide +kernel) (pa_cons (pv 0) pa_nil)) (pa_cons (pe_callB (k_abs) (by rfl) B.abs (by decide +kernel) (pa_cons (pv 1) pa_nil)) pa_nil)) (by rfl))
      (pss_cons (ps_while PassesOwn.never (pt_cmpR op_gt (pv 1) pe_int (nomark _)) (pss_one (ps_par (i := 0) (j := 1) (by rfl) sc_law_gcd.nd rfl rfl (by decide) rfl rfl (pa_cons (pv 1) (pa_cons (pe_op op_mod (pe_callTy (k_int1) (by rfl) B.int (by decide +kernel) (pa_cons (pv 0) pa_nil)) (pv 1)) pa_nil)) (by rfl))))
      (pss_one (ps_ret (pv 0))))), ?_⟩
  walk_at "rd"
  have ea : (if a < 0 then -a else a) = (a.natAbs : Int) := by split <;> omega
  have eb : (if b < 0 then -b else b) = (b.natAbs : Int) := by split <;> omega
  rw [ea, eb]
  refine ⟨fun m σ' H' => ∃ x y : Nat, σ' = [some (.int x), some (.int y)] ∧ H' = H ∧ m = y ∧ Nat.gcd x y = Nat.gcd a.natAbs b.natAbs, ⟨_, a.natAbs, b.natAbs, rfl, rfl, rfl, rfl⟩, fun m σ' H' hw => ?_⟩
  obtain ⟨x, y, rfl, rfl, rfl, hg⟩ := hw
  walk_at "rd"
  refine ite_d (fun e => ?_) (fun e => ?_)
  · have hy : 0 < m := by omega
    refine ⟨_, fun _ _ n => n, ?_⟩
    walk_at "rd"
    refine r_I (by show (0 : Int) < (m : Int); omega) ?_
    walk_at "rd"
    refine ⟨x % m, Nat.mod_lt _ hy, m, x % m, rfl, rfl, rfl, ?_⟩
    rw [Nat.gcd_comm m (x % m), ← Nat.gcd_rec m x, Nat.gcd_comm m x]
    exact hg
  · have hy : m = 0 := by omega
    walk_at "rd"
    rw [hy, Nat.gcd_zero_right] at hg
    rw [hg]
    exact q
theorem log2_le_of_lt {n k : Nat} (h : n < 2 ^ k) (h0 : 0 < k) : n.log2 < k := PySem.Flt.log2_lt_of h0 h
theorem gcd_pos_of {a b : Int} (hb : 0 < b) : (0 : Int) < ((Nat.gcd a.natAbs b.natAbs : Nat) : Int) := by
  have : 0 < Nat.gcd a.natAbs b.natAbs := Nat.gcd_pos_of_pos_right _ (by omega)
  omega
abbrev s_law_ratio : Stmt := top 69
abbrev N_law_ratio : List Str := ["_law_top", "_law_bottom", "_law_shared"]
theorem sc_law_ratio : FnScope N_law_ratio ["_law_top", "_law_bottom"] (defScope s_law_ratio) := ⟨rfl, rfl, rfl, by decide +kernel, rfl, by decide +kernel, by decide +kernel⟩
def sp_law_ratio : Sp := fun vs H Q _ => ∃ a b : Int, vs = [.int a, .int b] ∧ 0 < b ∧ b.natAbs < 2 ^ 9000 ∧ ∀ p, H p = none → Q (.ref p) (upd H p (.tup [.int (redu a b).1, .int (redu a b).2]))
theorem ok_law_ratio (B : Bt mg) (D : DefAt K mg "_law_ratio" s_law_ratio) (c_law_gcd : Cal P w K mg base "_law_gcd" 1 (sp_law_gcd)) : Cal P w K mg base "_law_ratio" 2 sp_law_ratio := by
  refine D.cal sc_law_ratio (fun vs H Q E h => ?_) (fun _ _ _ _ _ _ us hl => match us, hl with | [_, _], _ => rfl) (fun cfa cdv cA cO cs H vs Q E hr h => ?_)
  · obtain ⟨a, b, rfl, hb, hz, q⟩ := h
    rfl
  obtain ⟨a, b, rfl, hb, hz, q⟩ := h
  refine ⟨_, (pss_cons (ps_set (i := 2) sc_law_ratio.nd rfl (by first | exact .inl rfl | exact .inr rfl) (pe_cal c_law_gcd (hr.mono (by decide)) (by rfl) (pa_cons (pv 0) (pa_cons (pv 1) pa_nil))))
      (pss_cons (ps_if (pt_cmpR op_lt (pv 1) pe_int (nomark _)) (pss_one (ps_set (i := 2) sc_law_ratio.nd rfl (by first | exact .inl rfl | exact .inr rfl) (pe_un un_neg (pv 2)))) pss_nil)
      (pss_one (ps_ret (pe_tup (pa_cons (pe_op op_fdivW (pv 0) (pv 2)) (pa_cons (pe_op op_fdivW (pv 1) (pv 2)) pa_nil))))))), ?_⟩
  walk_at "rd"
  refine ⟨a, b, rfl, ?_⟩
  walk_at "rd"
  refine ite_d (fun e => absurd e (by omega)) (fun _ => ?_)
  walk_at "rd"
  have hc : ∀ k : Int, CDivW k ((Nat.gcd a.natAbs b.natAbs : Nat) : Int) := fun k => by
    refine wide_div (gcd_pos_of hb) (b := 9000) ?_ (by decide) (by decide)
    have h1 : Nat.gcd a.natAbs b.natAbs ≤ b.natAbs := Nat.gcd_le_right _ (by omega)
    rw [Int.natAbs_natCast]
    omega
  refine r_I (hc _) ?_
  walk_at "rd"
  refine r_I (hc _) ?_
  walk_at "rd"
  exact ⟨by show 2 ≤ sizeLine; decide, q⟩
end
end G
set_option Elab.async false
set_option linter.all false
set_option maxRecDepth 100000
set_option maxHeartbeats 4000000
namespace G
open PySem PySem.Spec PyProof.Rows L2
local macro_rules | `(tactic| walk_at "rd") => `(tactic| repeat (first
  | (with_reducible first
  | refine r_seq ?_ | refine r_asg ?_ | refine r_c ?_ | refine r_op ?_ | refine r_cons ?_ | refine r_nil ?_ | refine r_cb ?_ | refine r_cal ?_ | refine r_I0 ?_ | refine r_gname ?_
  | refine r_test ?_ | refine r_k ?_ | refine r_B ?_ | refine r_ifs ?_ | refine r_eqI ?_ | refine r_neI ?_ | refine r_un ?_ | refine r_U ?_ | refine r_par ?_ | refine r_vw ?_ | refine r_ret ?_ | refine r_drop ?_
  | refine r_next ?_ | refine r_not ?_ | refine r_and ?_ | refine r_or ?_ | refine r_if ?_ | refine r_chain ?_ | refine r_ipI ?_ | refine r_abs ?_ | refine r_int1 ?_ | refine r_int1b ?_ | refine r_eqB ?_ | refine r_neB ?_
  | refine r_max2 ?_ | refine r_min2 ?_ | refine r_gcd ?_ | refine r_tup ?_ | refine r_lst ?_ | refine r_bm ?_ | refine r_for ?_ | refine r_rng1 ?_ | refine r_rng2 ?_ | refine r_ilist ?_ | refine r_itup ?_ | refine r_yes ?_ | refine r_lc ?_ | refine r_sub ?_
  | refine r_gcons ?_ | refine r_gnil ?_ | refine r_andV0 ?_ | refine r_orV0 ?_ | refine r_notV ?_ | refine r_par3 ?_ | refine r_vwz ?_ | refine r_isN ?_ | refine r_notN ?_)
  | ((with_reducible refine' r_var ?k1 ?_); (case k1 => exact rfl))
  | ((with_reducible refine' r_aug ?k1 ?_); (case k1 => exact rfl))))
section
variable {P : Program} {w : World} {K : PySem.W.Frag} {mg : Str → Option Value} {base : Heap}
abbrev s_law_ratio_sum : Stmt := top 70
abbrev N_law_ratio_sum : List Str := ["_law_one", "_law_other", "_law_factor"]
theorem sc_law_ratio_sum : FnScope N_law_ratio_sum ["_law_one", "_law_other", "_law_factor"] (defScope s_law_ratio_sum) := ⟨rfl, rfl, rfl, by decide +kernel, rfl, by decide +kernel, by decide +kernel⟩
def sp_law_ratio_sum (K : PySem.W.Frag) : Sp := fun vs H Q _ => ∃ (p1 p2 : Addr) (t1 b1 t2 b2 f : Int), vs = [.ref p1, .ref p2, .int f] ∧ SqT K H p1 [.int t1, .int b1] ∧ SqT K H p2 [.int t2, .int b2] ∧ 0 < b1 ∧ 0 < b2 ∧ b1.natAbs < 2 ^ 400 ∧ b2.natAbs < 2 ^ 400 ∧
    t1.natAbs < 2 ^ 100000 ∧ t2.natAbs < 2 ^ 100000 ∧ f.natAbs < 2 ^ 100 ∧ ∀ p, H p = none → Q (.ref p) (upd H p (.tup [.int (redu (t1 * b2 + f * t2 * b1) (b1 * b2)).1, .int (redu (t1 * b2 + f * t2 * b1) (b1 * b2)).2]))
theorem ok_law_ratio_sum (B : Bt mg) (D : DefAt K mg "_law_ratio_sum" s_law_ratio_sum) (c_law_ratio : Cal P w K mg base "_law_ratio" 2 (sp_law_ratio)) : Cal P w K mg base "_law_ratio_sum" 3 (sp_law_ratio_sum K) := by
  refine D.cal sc_law_ratio_sum (fun vs H Q E h => ?_) (fun _ _ _ _ _ _ us hl => match us, hl with | [_, _, _], _ => rfl) (fun cfa cdv cA cO cs H vs Q E hr h => ?_)
  · obtain ⟨p1, p2, t1, b1, t2, b2, f, rfl, h1, h2, hb1, hb2, z1, z2, y1, y2, yf, q⟩ := h
    rfl
  obtain ⟨p1, p2, t1, b1, t2, b2, f, rfl, h1, h2, hb1, hb2, z1, z2, y1, y2, yf, q⟩ := h
  refine ⟨_, (pss_one (ps_ret (pe_cal c_law_ratio (hr.mono (by decide)) (by rfl) (pa_cons (pe_op op_add (pe_op op_mulW (pe_ix ix_tup (pv 0) pe_int (fun _ _ => rfl)) (pe_ix ix_tup (pv 1) pe_int (fun _ _ => rfl))) (pe_op op_mulW (pe_op op_mulW (pv 2) (pe_ix ix_tup (pv 1) pe_int (fun _ _ => rfl))) (pe_ix ix_tup (pv 0) pe_int (fun _ _ => rfl)))) (pa_cons (pe_op op_mulW (pe_ix ix_tup (pv 0) pe_int (fun _ _ => rfl)) (pe_ix ix_tup (pv 1) pe_int (fun _ _ => rfl))) pa_nil))))), ?_⟩
  walk_at "rd"
  refine r_ixT h1 rfl ?_
  walk_at "rd"
  refine r_ixT h2 rfl ?_
  refine r_I (wide_mul y1 z2 (by decide) (by decide) (by decide)) ?_
  walk_at "rd"
  refine r_ixT h2 rfl ?_
  refine r_I (wide_mul yf y2 (by decide) (by decide) (by decide)) ?_
  walk_at "rd"
  refine r_ixT h1 rfl ?_
  refine r_I (wide_mul (wide_lt yf y2) z1 (by decide) (by decide) (by decide)) ?_
  walk_at "rd"
  refine r_ixT h1 rfl ?_
  walk_at "rd"
  refine r_ixT h2 rfl ?_
  refine r_I (wide_mul z1 z2 (by decide) (by decide) (by decide)) ?_
  walk_at "rd"
  refine ⟨_, _, rfl, Int.mul_pos hb1 hb2, Nat.lt_of_lt_of_le (wide_lt z1 z2) (Nat.pow_le_pow_right (by decide) (by decide)), q⟩
abbrev s_law_gh_power : Stmt := top 76
abbrev N_law_gh_power : List Str := ["_law_number", "_law_many", "_law_found", "_law_turn"]
theorem sc_law_gh_power : FnScope N_law_gh_power ["_law_number", "_law_many"] (defScope s_law_gh_power) := ⟨rfl, rfl, rfl, by decide +kernel, rfl, by decide +kernel, by decide +kernel⟩
def sp_law_gh_power : Sp := fun vs H Q _ => ∃ (x : Int) (n : Nat), vs = [.int x, .int (n : Int)] ∧ (-1000 ≤ x ∧ x ≤ 1000 ∧ n ≤ 1000) ∧ Q (.int (x ^ n)) H
theorem ok_law_gh_power (B : Bt mg) (D : DefAt K mg "_law_gh_power" s_law_gh_power)  : Cal P w K mg base "_law_gh_power" 1 sp_law_gh_power := by
  refine D.cal sc_law_gh_power (fun vs H Q E h => ?_) (fun _ _ _ _ _ _ us hl => match us, hl with | [_, _], _ => rfl) (fun cfa cdv cA cO cs H vs Q E hr h => ?_)
  · obtain ⟨x, n, rfl, hx, q⟩ := h
    rfl
  obtain ⟨x, n, rfl, hx, q⟩ := h
  refine ⟨_, (pss_cons (ps_set (i := 2) sc_law_gh_power.nd rfl (by first | exact .inl rfl | exact .inr rfl) pe_int)
      (pss_cons (ps_for PassesOwn.never rfl (pi_range1 (by rfl) B.range (pa_cons (pv 1) pa_nil)) (pg_name (i := 3) sc_law_gh_power.nd rfl (by first | exact .inl rfl | exact .inr rfl)) (pss_one (ps_set (i := 2) sc_law_gh_power.nd rfl (by first | exact .inl rfl | exact .inr rfl) (pe_op op_mul (pv 2) (pv 0)))))
      (pss_one (ps_ret (pv 2))))), ?_⟩
  walk_at "rd"
  refine ⟨_, rfl, by omega, by omega, for_range (lo := 0) (n := ((n : Int)).toNat) (fun i σ' H' => ∃ y, σ' = [some (.int x), some (.int (n : Int)), some (.int (x ^ i)), y] ∧ H' = H) ⟨none, by rw [Int.pow_zero]; rfl, rfl⟩ (fun i σ' H' hi hw => ?_) (fun σ' H' hw => ?_)⟩
  · obtain ⟨y, rfl, rfl⟩ := hw
    walk_at "rd"
    refine r_I (.inr (by omega)) ?_
    walk_at "rd"
    exact ⟨_, by rw [Int.pow_succ]; rfl, rfl⟩
  · obtain ⟨y, rfl, rfl⟩ := hw
    walk_at "rd"
    exact q
/-- the divisors of n, ascending -/
def dvsU (n k : Nat) : List Int := ((List.range k).filter fun i => n % (i + 1) == 0).map fun i => ((i + 1 : Nat) : Int)
def dvs (n : Nat) : List Int := dvsU n n
theorem dvsU_yes {n i : Nat} (h : n % (i + 1) = 0) : dvsU n (i + 1) = dvsU n i ++ [((i + 1 : Nat) : Int)] := by
  unfold dvsU
  rw [List.range_succ, List.filter_append, List.map_append]
  simp [h]
theorem dvsU_no {n i : Nat} (h : ¬ n % (i + 1) = 0) : dvsU n (i + 1) = dvsU n i := by
  unfold dvsU
  rw [List.range_succ, List.filter_append, List.map_append]
  simp [h]
theorem dvsU_len (n i : Nat) : (dvsU n i).length ≤ i := by
  unfold dvsU
  rw [List.length_map]
  exact Nat.le_trans (List.length_filter_le _ _) (by rw [List.length_range]; exact Nat.le_refl _)
/-- the primes to n by trial -/
def primesN : Nat → List Int
  | 0 => []
  | k + 1 => if (primesN k).filter (fun p => ((k : Int) + 2) % p == 0) = [] then primesN k ++ [(k : Int) + 2] else primesN k
theorem primesN_len : ∀ k, (primesN k).length ≤ k
  | 0 => Nat.le_refl _
  | k + 1 => by
    have := primesN_len k
    rw [primesN]
    split
    · rw [List.length_append]; simp; omega
    · omega
theorem primesN_ge : ∀ k, ∀ p ∈ primesN k, 2 ≤ p
  | 0, p, h => by cases h
  | k + 1, p, h => by
    rw [primesN] at h
    split at h
    · rcases List.mem_append.mp h with q | q
      · exact primesN_ge k p q
      · have := List.mem_singleton.mp q; omega
    · exact primesN_ge k p h
def primesTo (n : Nat) : List Int := primesN (n - 1)
abbrev s_law_gh_divisors : Stmt := top 75
abbrev N_law_gh_divisors : List Str := ["_law_number", "_law_one"]
theorem sc_law_gh_divisors : FnScope N_law_gh_divisors ["_law_number"] (defScope s_law_gh_divisors) := ⟨rfl, rfl, rfl, by decide +kernel, rfl, by decide +kernel, by decide +kernel⟩
def sp_law_gh_divisors : Sp := fun vs H Q _ => ∃ n : Nat, vs = [.int (n : Int)] ∧ n ≤ 1000 ∧ ∀ p, H p = none → ∀ H', Evl.Ex H H' → H' p = some (.lst ((dvs n).map V.int)) → Q (.ref p) H'
theorem ok_law_gh_divisors (B : Bt mg) (D : DefAt K mg "_law_gh_divisors" s_law_gh_divisors)  : Cal P w K mg base "_law_gh_divisors" 1 sp_law_gh_divisors := by
  refine D.cal sc_law_gh_divisors (fun vs H Q E h => ?_) (fun _ _ _ _ _ _ us hl => match us, hl with | [_], _ => rfl) (fun cfa cdv cA cO cs H vs Q E hr h => ?_)
  · obtain ⟨n, rfl, hn, q⟩ := h
    rfl
  obtain ⟨n, rfl, hn, q⟩ := h
  refine ⟨_, (pss_one (ps_ret (pe_lc (own := [("_law_one", 1)]) rfl sc_law_gh_divisors.nd (pi_range2 (by rfl) B.range (pa_cons pe_int (pa_cons (pe_op op_add (pv 0) pe_int) pa_nil))) (blkOk_by (N := N_law_gh_divisors) (sc := defScope s_law_gh_divisors) (by decide +kernel)) (fun _ _ _ _ _ => (pg_name (x := "_law_one") (i := 1) sc_law_gh_divisors.nd rfl (by first | exact .inl rfl | exact .inr rfl))) (fun _ _ _ _ _ => (pts_one (pt_cmpR op_eq (pe_op op_mod (pv 0) (pv 1)) pe_int (nomark _)))) (fun _ _ _ _ _ => (pv 1))))), ?_⟩
  walk_at "rd"
  refine ⟨_, _, rfl, by omega, fun D hD => lc_range (lo := 1) (n := ((n : Int) + 1 - 1).toNat) (fun i H' => Evl.Ex H H' ∧ H' D = some (.lst ((dvsU n i).map V.int))) ⟨Evl.Ex.new hD, upd_same⟩ (fun i H' hi hp => ?_) (fun H' hp => ?_)⟩
  · obtain ⟨he, hl⟩ := hp
    walk_at "rd"
    refine ⟨rfl, ?_⟩
    walk_at "rd"
    refine r_I (by omega) ?_
    walk_at "rd"
    have em : (n : Int) % (1 + (i : Int)) = ((n % (i + 1) : Nat) : Int) := by
      rw [Int.add_comm]; exact (Int.natCast_emod n (i + 1)).symm
    rw [em]
    have hlen : ((dvsU n i).map V.int).length ≤ 100000 := by
      rw [List.length_map]
      have := dvsU_len n i
      omega
    refine ite_d (fun e => ?_) (fun e => ?_)
    · walk_at "rd"
      refine cw_put he hD hl ?_ hlen
      rw [dvsU_yes (by omega), List.map_append, show ((i + 1 : Nat) : Int) = 1 + (i : Int) by omega]
      rfl
    · rw [dvsU_no (by omega)]
      exact ⟨he, hl⟩
  · obtain ⟨he, hl⟩ := hp
    rw [show ((n : Int) + 1 - 1).toNat = n by omega] at hl
    exact q D hD H' he hl
abbrev s_law_primes_to : Stmt := top 68
abbrev N_law_primes_to : List Str := ["_law_most", "_law_found", "_law_one", "_law_prime"]
theorem sc_law_primes_to : FnScope N_law_primes_to ["_law_most"] (defScope s_law_primes_to) := ⟨rfl, rfl, rfl, by decide +kernel, rfl, by decide +kernel, by decide +kernel⟩
def sp_law_primes_to : Sp := fun vs H Q _ => ∃ n : Nat, vs = [.int (n : Int)] ∧ n ≤ 1000 ∧ ∀ p, H p = none → ∀ H', Evl.Ex H H' → H' p = some (.lst ((primesTo n).map V.int)) → Q (.ref p) H'
theorem ok_law_primes_to (B : Bt mg) (D : DefAt K mg "_law_primes_to" s_law_primes_to)  : Cal P w K mg base "_law_primes_to" 1 sp_law_primes_to := by
  refine D.cal sc_law_primes_to (fun vs H Q E h => ?_) (fun _ _ _ _ _ _ us hl => match us, hl with | [_], _ => rfl) (fun cfa cdv cA cO cs H vs Q E hr h => ?_)
  · obtain ⟨n, rfl, hn, q⟩ := h
    rfl
  obtain ⟨n, rfl, hn, q⟩ := h
  refine ⟨_, (pss_cons (ps_set (i := 1) sc_law_primes_to.nd rfl (by first | exact .inl rfl | exact .inr rfl) (pe_lst pa_nil))
      (pss_cons (ps_for PassesOwn.never rfl (pi_range2 (by rfl) B.range (pa_cons pe_int (pa_cons (pe_op op_add (pv 0) pe_int) pa_nil))) (pg_name (i := 2) sc_law_primes_to.nd rfl (by first | exact .inl rfl | exact .inr rfl)) (pss_one (ps_if (pt_cmpR (op_eqD hr.units) (pe_lc (own := [("_law_prime", 3)]) rfl sc_law_primes_to.nd (pi_list (pv 1)) (blkOk_by (N := N_law_primes_to) (sc := defScope s_law_primes_to) (by decide +kernel)) (fun _ _ _ _ _ => (pg_name (x := "_law_prime") (i := 3) sc_law_primes_to.nd rfl (by first | exact .inl rfl | exact .inr rfl))) (fun _ _ _ _ _ => (pts_one (pt_cmpR op_eq (pe_op op_mod (pv 2) (pv 3)) pe_int (nomark _)))) (fun _ _ _ _ _ => (pv 3))) (pe_lst pa_nil) (nomark _)) (pss_one (ps_expr (pe_bm PySem.F.plainAttrs_list PySem.F.slot_list_append PySem.F.type_list_append mt_append (pv 1) (pa_cons (pv 2) pa_nil)))) pss_nil)))
      (pss_one (ps_ret (pv 1))))), ?_⟩
  walk_at "rd"
  refine ⟨by decide, fun o ho => ?_⟩
  walk_at "rd"
  refine ⟨_, _, rfl, by omega, for_range (lo := 2) (n := ((n : Int) + 1 - 2).toNat) (fun i σ' H' => ∃ y z, σ' = [some (.int (n : Int)), some (.ref o), y, z] ∧ Evl.Ex H H' ∧ H' o = some (.lst ((primesN i).map V.int))) ⟨none, none, rfl, Evl.Ex.new ho, upd_same⟩ (fun i σ' H' hi hp => ?_) (fun σ' H' hp => ?_)⟩
  · obtain ⟨y, z, rfl, he, hl⟩ := hp
    walk_at "rd"
    have no : ∀ {D : Addr}, H' D = none → D ≠ o := fun hD e => by rw [e, hl] at hD; cases hD
    refine ⟨o, rfl, ⟨_, sqL hl⟩, fun D hD => lc_list (xs := (primesN i).map V.int) (fun j H2 => Evl.Ex H' H2 ∧ H2 D = some (.lst ((((primesN i).take j).filter fun p => ((i : Int) + 2) % p == 0).map V.int))) ⟨Evl.Ex.new hD, upd_same⟩ (fun j H2 _ hp => sqL (hp.1 o _ hl)) (fun j x H2 hx hp => ?_) (fun H2 hp => ?_)⟩
    · obtain ⟨he2, hl2⟩ := hp
      obtain ⟨p, hp, rfl⟩ := geti hx
      have p2 : 2 ≤ p := primesN_ge i p (List.mem_of_getElem? hp)
      walk_at "rd"
      refine ⟨rfl, ?_⟩
      walk_at "rd"
      refine r_I (by omega) ?_
      walk_at "rd"
      refine ite_d (fun e => ?_) (fun e => ?_)
      · walk_at "rd"
        refine cw_put he2 hD hl2 ?_ ?_
        · rw [take_yes hp (by rw [show (i : Int) + 2 = 2 + i by omega, e]; rfl), List.map_append]
          rfl
        · rw [List.length_map]
          exact Nat.le_trans (List.length_filter_le _ _) (by have := lt_of_get hp; have := primesN_len i; rw [List.length_take]; omega)
      · rw [take_no hp (by rw [show (i : Int) + 2 = 2 + i by omega]; simpa using e)]
        exact ⟨he2, hl2⟩
    · obtain ⟨he2, hl2⟩ := hp
      rw [List.length_map, take_all] at hl2
      walk_at "rd"
      refine ⟨by decide, fun b hb => ?_⟩
      have e3 := he2.trans (Evl.Ex.new (o := .lst []) hb)
      refine r_eqNil (ns := (primesN i).filter fun p => ((i : Int) + 2) % p == 0) (sqL (by rw [upd_ne (ne_of_none hl2 hb)]; exact hl2)) (sqL upd_same) ?_
      walk_at "rd"
      have hl3 := e3 o _ hl
      refine ite2 (fun e => ?_) (fun e => ?_)
      · walk_at "rd"
        refine ⟨ty_lst hl3, ?_⟩
        walk_at "rd"
        refine r_app hl3 ?_ ?_
        · rw [List.length_map]
          exact Nat.lt_of_le_of_lt (Nat.le_trans (primesN_len i) (by omega)) (show 1000 < sizeLine by decide)
        · walk_at "rd"
          refine ⟨_, _, rfl, (he.trans e3).mut ho, ?_⟩
          rw [upd_same, primesN, if_pos (List.isEmpty_iff.mp e), List.map_append, Int.add_comm]
          rfl
      · walk_at "rd"
        refine ⟨_, _, rfl, he.trans e3, ?_⟩
        rw [primesN, if_neg fun z => e (List.isEmpty_iff.mpr z)]
        exact hl3
  · obtain ⟨y, z, rfl, he, hl⟩ := hp
    walk_at "rd"
    refine q o ho H' he ?_
    unfold primesTo
    rw [show ((n : Int) + 1 - 2).toNat = n - 1 by omega] at hl
    exact hl
end
end G
set_option Elab.async false
set_option linter.all false
set_option maxRecDepth 100000
set_option maxHeartbeats 4000000
namespace G
open PySem PySem.Spec PyProof.Rows L2
local macro_rules | `(tactic| walk_at "rd") => `(tactic| repeat (first
  | (with_reducible first
  | refine r_seq ?_ | refine r_asg ?_ | refine r_c ?_ | refine r_op ?_ | refine r_cons ?_ | refine r_nil ?_ | refine r_cb ?_ | refine r_cal ?_ | refine r_I0 ?_ | refine r_gname ?_
  | refine r_test ?_ | refine r_k ?_ | refine r_B ?_ | refine r_ifs ?_ | refine r_eqI ?_ | refine r_neI ?_ | refine r_un ?_ | refine r_U ?_ | refine r_par ?_ | refine r_vw ?_ | refine r_ret ?_ | refine r_drop ?_
  | refine r_next ?_ | refine r_not ?_ | refine r_and ?_ | refine r_or ?_ | refine r_if ?_ | refine r_chain ?_ | refine r_ipI ?_ | refine r_abs ?_ | refine r_int1 ?_ | refine r_int1b ?_ | refine r_eqB ?_ | refine r_neB ?_
  | refine r_max2 ?_ | refine r_min2 ?_ | refine r_gcd ?_ | refine r_tup ?_ | refine r_lst ?_ | refine r_bm ?_ | refine r_for ?_ | refine r_rng1 ?_ | refine r_rng2 ?_ | refine r_ilist ?_ | refine r_itup ?_ | refine r_yes ?_ | refine r_lc ?_ | refine r_sub ?_
  | refine r_gcons ?_ | refine r_gnil ?_ | refine r_andV0 ?_ | refine r_orV0 ?_ | refine r_notV ?_ | refine r_par3 ?_ | refine r_vwz ?_ | refine r_isN ?_ | refine r_notN ?_)
  | ((with_reducible refine' r_var ?k1 ?_); (case k1 => exact rfl))
  | ((with_reducible refine' r_aug ?k1 ?_); (case k1 => exact rfl))))
section
variable {P : Program} {w : World} {K : PySem.W.Frag} {mg : Str → Option Value} {base : Heap}
def isI : V → Bool
  | .int _ => true
  | _ => false
def FARn : Int := 1000000000000000000000000000000000000000000000000000000000000
def shortV : V → Bool
  | .int i => decide (-FARn < i) && decide (i < FARn)
  | _ => false
def Sc (v : V) : Prop := v = .non ∨ (∃ b, v = .bl b) ∨ ∃ i, v = .int i
abbrev s_is_plain : Stmt := top 16
abbrev N_is_plain : List Str := ["value"]
theorem sc_is_plain : FnScope N_is_plain ["value"] (defScope s_is_plain) := ⟨rfl, rfl, rfl, by decide +kernel, rfl, by decide +kernel, by decide +kernel⟩
def sp_is_plain : Sp := fun vs H Q _ => ∃ v : V, vs = [v] ∧ Sc v ∧ Q (.bl (isI v)) H
theorem ok_is_plain (B : Bt mg) (D : DefAt K mg "is_plain" s_is_plain)  : Cal P w K mg base "is_plain" 1 sp_is_plain := by
  refine D.cal sc_is_plain (fun vs H Q E h => ?_) (fun _ _ _ _ _ _ us hl => match us, hl with | [_], _ => rfl) (fun cfa cdv cA cO cs H vs Q E hr h => ?_)
  · obtain ⟨v, rfl, hv, q⟩ := h
    rfl
  obtain ⟨v, rfl, hv, q⟩ := h
  refine ⟨_, (pss_one (ps_ret (pe_and (pe_callB (call_isi) (by rfl) B.isinstance (by decide +kernel) (pa_cons (pv 0) (pa_cons (pe_ty (n := "int") (by rfl) B.int (by decide +kernel)) pa_nil))) (pe_one (pe_not (pe_callB (call_isi) (by rfl) B.isinstance (by decide +kernel) (pa_cons (pv 0) (pa_cons (pe_ty (n := "bool") (by rfl) B.bool (by decide +kernel)) pa_nil)))))))), ?_⟩
  walk_at "rd"
  rcases hv with rfl | ⟨b, rfl⟩ | ⟨i, rfl⟩
  · refine r_isi (.base .non) (r := false) (by decide +kernel) ?_
    walk_at "rd"
    refine iteF ?_
    exact q
  · refine r_isi (.base (.bl b)) (r := true) (by decide +kernel) ?_
    walk_at "rd"
    refine iteT ?_
    walk_at "rd"
    refine r_isi (.base (.bl b)) (r := true) (by decide +kernel) ?_
    walk_at "rd"
    exact q
  · refine r_isi (.base (.int i)) (r := true) (by decide +kernel) ?_
    walk_at "rd"
    refine iteT ?_
    walk_at "rd"
    refine r_isi (.base (.int i)) (r := false) (by decide +kernel) ?_
    walk_at "rd"
    exact q
abbrev s_is_short : Stmt := top 17
abbrev N_is_short : List Str := ["value"]
theorem sc_is_short : FnScope N_is_short ["value"] (defScope s_is_short) := ⟨rfl, rfl, rfl, by decide +kernel, rfl, by decide +kernel, by decide +kernel⟩
def sp_is_short : Sp := fun vs H Q _ => ∃ v : V, vs = [v] ∧ Sc v ∧ Q (.bl (shortV v)) H
theorem ok_is_short (B : Bt mg) (D : DefAt K mg "is_short" s_is_short) (c_is_plain : Cal P w K mg base "is_plain" 1 (sp_is_plain)) : Cal P w K mg base "is_short" 2 sp_is_short := by
  refine D.cal sc_is_short (fun vs H Q E h => ?_) (fun _ _ _ _ _ _ us hl => match us, hl with | [_], _ => rfl) (fun cfa cdv cA cO cs H vs Q E hr h => ?_)
  · obtain ⟨v, rfl, hv, q⟩ := h
    rfl
  obtain ⟨v, rfl, hv, q⟩ := h
  refine ⟨_, (pss_one (ps_ret (pe_and (pe_cal c_is_plain (hr.mono (by decide)) (by rfl) (pa_cons (pv 0) pa_nil)) (pe_one (pe_chain op_lt op_lt (pe_un un_neg (pe_gint (by rfl) B.FAR)) (pv 0) (pe_gint (by rfl) B.FAR)))))), ?_⟩
  walk_at "rd"
  refine ⟨v, rfl, hv, ?_⟩
  walk_at "rd"
  rcases hv with rfl | ⟨b, rfl⟩ | ⟨i, rfl⟩
  · refine iteF ?_
    exact q
  · refine iteF ?_
    exact q
  · refine iteT ?_
    walk_at "rd"
    have q : Q (.bl (decide (-FARn < i) && decide (i < FARn))) H := q
    refine ite_d (fun e => ?_) (fun e => ?_)
    · walk_at "rd"
      rw [show decide (-FARn < i) = true from decide_eq_true e, Bool.true_and] at q
      exact q
    · rw [show decide (-FARn < i) = false from decide_eq_false e, Bool.false_and] at q
      exact q
abbrev s_is_integer : Stmt := top 28
abbrev N_is_integer : List Str := ["value"]
theorem sc_is_integer : FnScope N_is_integer ["value"] (defScope s_is_integer) := ⟨rfl, rfl, rfl, by decide +kernel, rfl, by decide +kernel, by decide +kernel⟩
def sp_is_integer : Sp := fun vs H Q _ => ∃ v : V, vs = [v] ∧ Sc v ∧ Q (.bl (shortV v)) H
theorem ok_is_integer (B : Bt mg) (D : DefAt K mg "is_integer" s_is_integer) (c_is_short : Cal P w K mg base "is_short" 2 (sp_is_short)) : Cal P w K mg base "is_integer" 3 sp_is_integer := by
  refine D.cal sc_is_integer (fun vs H Q E h => ?_) (fun _ _ _ _ _ _ us hl => match us, hl with | [_], _ => rfl) (fun cfa cdv cA cO cs H vs Q E hr h => ?_)
  · obtain ⟨v, rfl, hv, q⟩ := h
    rfl
  obtain ⟨v, rfl, hv, q⟩ := h
  refine ⟨_, (pss_one (ps_ret (pe_cal c_is_short (hr.mono (by decide)) (by rfl) (pa_cons (pv 0) pa_nil)))), ?_⟩
  walk_at "rd"
  exact ⟨v, rfl, hv, q⟩
theorem short_of {i : Int} (h : -FARn < i ∧ i < FARn) : shortV (.int i) = true := by
  show (decide (-FARn < i) && decide (i < FARn)) = true
  rw [decide_eq_true h.1, decide_eq_true h.2]
  rfl
abbrev s_require_least : Stmt := top 31
abbrev N_require_least : List Str := ["value", "least"]
theorem sc_require_least : FnScope N_require_least ["value", "least"] (defScope s_require_least) := ⟨rfl, rfl, rfl, by decide +kernel, rfl, by decide +kernel, by decide +kernel⟩
def sp_require_least : Sp := fun vs H Q _ => ∃ i l : Int, vs = [.int i, .int l] ∧ (-FARn < i ∧ i < FARn) ∧ l ≤ i ∧ Q .non H
theorem ok_require_least (B : Bt mg) (D : DefAt K mg "require_least" s_require_least) (c_is_integer : Cal P w K mg base "is_integer" 3 (sp_is_integer)) : Cal P w K mg base "require_least" 4 sp_require_least := by
  refine D.cal sc_require_least (fun vs H Q E h => ?_) (fun _ _ _ _ _ _ us hl => match us, hl with | [_, _], _ => rfl) (fun cfa cdv cA cO cs H vs Q E hr h => ?_)
  · obtain ⟨i, l, rfl, hi, hl, q⟩ := h
    rfl
  obtain ⟨i, l, rfl, hi, hl, q⟩ := h
  refine ⟨_, (pss_one (ps_if (PW.pt (pw_or (pt_not (pt_val (pe_cal c_is_integer (hr.mono (by decide)) (by rfl) (pa_cons (pv 0) pa_nil)))) (pw_or1 (pt_cmpR op_lt (pv 0) (pv 1) (nomark _))))) (pss_one ps_never) pss_nil)), ?_⟩
  walk_at "rd"
  refine ⟨.int i, rfl, .inr (.inr ⟨i, rfl⟩), ?_⟩
  rw [short_of hi]
  walk_at "rd"
  refine iteF ?_
  walk_at "rd"
  refine ite_d (fun e => absurd e (by omega)) (fun _ => ?_)
  walk_at "rd"
  exact q
abbrev s_require_factored : Stmt := top 34
abbrev N_require_factored : List Str := ["value"]
theorem sc_require_factored : FnScope N_require_factored ["value"] (defScope s_require_factored) := ⟨rfl, rfl, rfl, by decide +kernel, rfl, by decide +kernel, by decide +kernel⟩
def sp_require_factored : Sp := fun vs H Q _ => ∃ i : Int, vs = [.int i] ∧ 1 ≤ i ∧ i ≤ 1000000000 ∧ Q .non H
theorem ok_require_factored (B : Bt mg) (D : DefAt K mg "require_factored" s_require_factored) (c_require_least : Cal P w K mg base "require_least" 4 (sp_require_least)) : Cal P w K mg base "require_factored" 5 sp_require_factored := by
  refine D.cal sc_require_factored (fun vs H Q E h => ?_) (fun _ _ _ _ _ _ us hl => match us, hl with | [_], _ => rfl) (fun cfa cdv cA cO cs H vs Q E hr h => ?_)
  · obtain ⟨i, rfl, h1, h2, q⟩ := h
    rfl
  obtain ⟨i, rfl, h1, h2, q⟩ := h
  refine ⟨_, (pss_cons (ps_expr (pe_cal c_require_least (hr.mono (by decide)) (by rfl) (pa_cons (pv 0) (pa_cons pe_int pa_nil))))
      (pss_one (ps_if (pt_cmpR op_gt (pv 0) (pe_gint (by rfl) B.MAX_FACTORED) (nomark _)) (pss_one ps_never) pss_nil))), ?_⟩
  walk_at "rd"
  refine ⟨i, 1, rfl, ⟨by show -FARn < i; unfold FARn; omega, by unfold FARn; omega⟩, h1, ?_⟩
  walk_at "rd"
  refine ite_d (fun e => absurd e (by omega)) (fun _ => ?_)
  walk_at "rd"
  exact q
abbrev s_law_dice : Stmt := top 64
abbrev N_law_dice : List Str := ["_law_script", "_law_spot", "_law_cell", "_law_left_here"]
theorem sc_law_dice : FnScope N_law_dice ["_law_script", "_law_spot"] (defScope s_law_dice) := ⟨rfl, rfl, rfl, by decide +kernel, rfl, by decide +kernel, by decide +kernel⟩
def sp_law_dice (K : PySem.W.Frag) : Sp := fun vs H Q _ => ∃ (a : Addr) (ns : List Int) (z : Nat), vs = [.ref a, .int (z : Int)] ∧ SqL K H a (ns.map V.int) ∧ z ≤ 1000 ∧ ∀ (p : Addr) (l m c : Int), H p = none → Q (.ref p) (upd H p (.lst [.int l, .int m, .int c]))
theorem ok_law_dice (B : Bt mg) (D : DefAt K mg "_law_dice" s_law_dice)  : Cal P w K mg base "_law_dice" 1 (sp_law_dice K) := by
  refine D.cal sc_law_dice (fun vs H Q E h => ?_) (fun _ _ _ _ _ _ us hl => match us, hl with | [_, _], _ => rfl) (fun cfa cdv cA cO cs H vs Q E hr h => ?_)
  · obtain ⟨a, ns, z, rfl, hS, hz, q⟩ := h
    rfl
  obtain ⟨a, ns, z, rfl, hS, hz, q⟩ := h
  refine ⟨_, (pss_cons (ps_set (i := 2) sc_law_dice.nd rfl (by first | exact .inl rfl | exact .inr rfl) (pe_ifExp (pt_cmpR op_lt (pv 1) (pe_callB (k_len) (by rfl) B.len (by decide +kernel) (pa_cons (pv 0) pa_nil)) (nomark _)) (pe_callTy (k_int1) (by rfl) B.int (by decide +kernel) (pa_cons (pe_ix ix_list (pv 0) (pv 1) (fun _ _ => rfl)) pa_nil)) (pe_op op_add (pe_op op_mul pe_int (pv 1)) pe_int)))
      (pss_cons (ps_set (i := 3) sc_law_dice.nd rfl (by first | exact .inl rfl | exact .inr rfl) (pe_op op_mod (pe_callB (k_max2 rfl) (by rfl) B.max (by decide +kernel) (pa_cons pe_int (pa_cons (pe_op op_sub (pe_callB (k_abs) (by rfl) B.abs (by decide +kernel) (pa_cons (pv 2) pa_nil)) (pe_op op_pow pe_int pe_int)) pa_nil))) (pe_op op_mulW (pe_op op_pow pe_int pe_int) (pe_op op_pow pe_int pe_int))))
      (pss_one (ps_ret (pe_lst (pa_cons (pv 3) (pa_cons (pe_op op_add (pe_op op_add (pe_op op_add (pe_op op_mul (pe_op op_mod (pe_callB (k_abs) (by rfl) B.abs (by decide +kernel) (pa_cons (pv 2) pa_nil)) pe_int) pe_int) (pe_op op_mul pe_int (pv 1))) (pe_op op_mul pe_int (pe_callTy (k_int1) (by rfl) B.int (by decide +kernel) (pa_cons (pe_cmpR op_lt (pv 2) pe_int (nomark _)) pa_nil)))) pe_int) (pa_cons pe_int pa_nil)))))))), ?_⟩
  walk_at "rd"
  refine r_lenL hS ?_
  walk_at "rd"
  refine ite_d (fun e => ?_) (fun e => ?_)
  · walk_at "rd"
    rw [List.length_map] at e
    have hz2 : z < ns.length := by omega
    refine r_ixL hS (atI_nat (j := z) (by rw [List.getElem?_map, List.getElem?_eq_getElem hz2]; rfl)) ?_
    walk_at "rd"
    generalize ns[z] = cell
    refine r_I ⟨by decide, by decide, by decide⟩ ?_
    walk_at "rd"
    refine r_I ⟨by decide, by decide, by decide⟩ ?_
    walk_at "rd"
    refine r_I ⟨by decide, by decide, by decide⟩ ?_
    refine r_I (by show _ < _; decide +kernel) ?_
    refine r_I (by decide +kernel) ?_
    walk_at "rd"
    refine r_I (by decide) ?_
    walk_at "rd"
    refine r_I (.inr (by decide)) ?_
    walk_at "rd"
    refine r_I (.inl (by decide)) ?_
    walk_at "rd"
    refine r_I (.inl (by decide)) ?_
    walk_at "rd"
    exact ⟨by show 3 ≤ sizeLine; decide, fun p hp => q p _ _ _ hp⟩
  · walk_at "rd"
    refine r_I (.inl (by decide)) ?_
    walk_at "rd"
    generalize 71 * (z : Int) + 23 = cell
    refine r_I ⟨by decide, by decide, by decide⟩ ?_
    walk_at "rd"
    refine r_I ⟨by decide, by decide, by decide⟩ ?_
    walk_at "rd"
    refine r_I ⟨by decide, by decide, by decide⟩ ?_
    refine r_I (by show _ < _; decide +kernel) ?_
    refine r_I (by decide +kernel) ?_
    walk_at "rd"
    refine r_I (by decide) ?_
    walk_at "rd"
    refine r_I (.inr (by decide)) ?_
    walk_at "rd"
    refine r_I (.inl (by decide)) ?_
    walk_at "rd"
    refine r_I (.inl (by decide)) ?_
    walk_at "rd"
    exact ⟨by show 3 ≤ sizeLine; decide, fun p hp => q p _ _ _ hp⟩
/-- the dice at d -/
def Dice (H : Hp) (d : Addr) : Prop := ∃ l m c : Int, H d = some (.lst [.int l, .int m, .int c])
abbrev s_law_roll : Stmt := top 65
abbrev N_law_roll : List Str := ["_law_dice_here", "_law_total", "_law_one", "_law_two", "_law_found"]
theorem sc_law_roll : FnScope N_law_roll ["_law_dice_here", "_law_total"] (defScope s_law_roll) := ⟨rfl, rfl, rfl, by decide +kernel, rfl, by decide +kernel, by decide +kernel⟩
def sp_law_roll : Sp := fun vs H Q _ => ∃ (d : Addr) (t : Int), vs = [.ref d, .int t] ∧ Dice H d ∧ (0 < t ∧ t ≤ 1000) ∧ ∀ (r : Int) (l m c : Int), 0 ≤ r → r < t → Q (.int r) (upd H d (.lst [.int l, .int m, .int c]))
theorem ok_law_roll (B : Bt mg) (D : DefAt K mg "_law_roll" s_law_roll)  : Cal P w K mg base "_law_roll" 1 sp_law_roll := by
  refine D.cal sc_law_roll (fun vs H Q E h => ?_) (fun _ _ _ _ _ _ us hl => match us, hl with | [_, _], _ => rfl) (fun cfa cdv cA cO cs H vs Q E hr h => ?_)
  · obtain ⟨d, t, rfl, ⟨l, m, c, hd⟩, ht, q⟩ := h
    rfl
  obtain ⟨d, t, rfl, ⟨l, m, c, hd⟩, ht, q⟩ := h
  refine ⟨_, (pss_cons (ps_if (pt_cmpR op_gt (pe_ix ix_list (pv 0) pe_int (fun _ _ => rfl)) pe_int (nomark _)) (pss_cons (ps_set (i := 4) sc_law_roll.nd rfl (by first | exact .inl rfl | exact .inr rfl) (pe_op op_mod (pe_callTy (k_int1) (by rfl) B.int (by decide +kernel) (pa_cons (pe_ix ix_list (pv 0) pe_int (fun _ _ => rfl)) pa_nil)) (pv 1)))
      (pss_cons (ps_asg (pe_op op_fdivW (pe_ix ix_list (pv 0) pe_int (fun _ _ => rfl)) (pv 1)) (pg_sub (pv 0) pe_int set_list))
      (pss_one (ps_ret (pv 4))))) pss_nil)
      (pss_cons (ps_asg (pe_op op_add (pe_ix ix_list (pv 0) pe_int (fun _ _ => rfl)) pe_int) (pg_sub (pv 0) pe_int set_list))
      (pss_cons (ps_set (i := 2) sc_law_roll.nd rfl (by first | exact .inl rfl | exact .inr rfl) (pe_op op_mod (pe_callTy (k_int1) (by rfl) B.int (by decide +kernel) (pa_cons (pe_op op_add (pe_ix ix_list (pv 0) pe_int (fun _ _ => rfl)) (pe_op op_mul pe_int (pe_ix ix_list (pv 0) pe_int (fun _ _ => rfl)))) pa_nil)) pe_int))
      (pss_cons (ps_set (i := 3) sc_law_roll.nd rfl (by first | exact .inl rfl | exact .inr rfl) (pe_op op_add (pe_op op_mul (pe_op op_mod (pe_callTy (k_int1) (by rfl) B.int (by decide +kernel) (pa_cons (pe_op op_add (pe_op op_mul (pv 2) (pv 2)) (pe_op op_mul pe_int (pe_ix ix_list (pv 0) pe_int (fun _ _ => rfl)))) pa_nil)) pe_int) pe_int) (pv 2)))
      (pss_one (ps_ret (pe_op op_mod (pe_callTy (k_int1) (by rfl) B.int (by decide +kernel) (pa_cons (pe_op op_fdivW (pv 3) pe_int) pa_nil)) (pv 1)))))))), ?_⟩
  walk_at "rd"
  refine r_ixL (sqL hd) rfl ?_
  walk_at "rd"
  refine ite_d (fun e => ?_) (fun e => ?_)
  · walk_at "rd"
    refine r_ixL (sqL hd) rfl ?_
    walk_at "rd"
    refine r_I ht.1 ?_
    walk_at "rd"
    refine r_ixL (sqL hd) rfl ?_
    walk_at "rd"
    refine r_I (wide_div ht.1 (b := 20) (by omega) (by decide) (by decide)) ?_
    walk_at "rd"
    refine r_setL hd (j := 0) rfl ?_
    walk_at "rd"
    exact q _ _ _ _ (Int.emod_nonneg _ (by omega)) (Int.emod_lt_of_pos _ ht.1)
  · walk_at "rd"
    refine r_ixL (sqL hd) rfl ?_
    walk_at "rd"
    refine r_setL hd (j := 2) rfl ?_
    walk_at "rd"
    refine r_ixL (sqL upd_same) rfl ?_
    walk_at "rd"
    refine r_ixL (sqL upd_same) rfl ?_
    refine r_I (.inl (by decide)) ?_
    walk_at "rd"
    refine r_I (by decide) ?_
    walk_at "rd"
    generalize hone : (m + 86028157 * (c + 1)) % 2305843009213693613 = one
    have h1 : 0 ≤ one := by rw [← hone]; exact Int.emod_nonneg _ (by decide)
    have h2 : one < 2305843009213693613 := by rw [← hone]; exact Int.emod_lt_of_pos _ (by decide)
    refine r_I (.inl (by omega)) ?_
    walk_at "rd"
    refine r_ixL (sqL upd_same) rfl ?_
    refine r_I (.inl (by decide)) ?_
    walk_at "rd"
    refine r_I (by decide) ?_
    walk_at "rd"
    refine r_I (.inr (by decide)) ?_
    walk_at "rd"
    refine r_I ⟨by decide, by decide⟩ ?_
    walk_at "rd"
    refine r_I ht.1 ?_
    exact q _ _ _ _ (Int.emod_nonneg _ (by omega)) (Int.emod_lt_of_pos _ ht.1)
abbrev s_law_pick : Stmt := top 66
abbrev N_law_pick : List Str := ["_law_dice_here", "_law_items"]
theorem sc_law_pick : FnScope N_law_pick ["_law_dice_here", "_law_items"] (defScope s_law_pick) := ⟨rfl, rfl, rfl, by decide +kernel, rfl, by decide +kernel, by decide +kernel⟩
def sp_law_pick : Sp := fun vs H Q _ => ∃ (d p : Addr) (xs : List V), vs = [.ref d, .ref p] ∧ Dice H d ∧ H p = some (.lst xs) ∧ (0 < xs.length ∧ xs.length ≤ 1000 ∧ p ≠ d) ∧ ∀ (y : V) (l m c : Int), y ∈ xs → Q y (upd H d (.lst [.int l, .int m, .int c]))
theorem ok_law_pick (B : Bt mg) (D : DefAt K mg "_law_pick" s_law_pick) (c_law_roll : Cal P w K mg base "_law_roll" 1 (sp_law_roll)) : Cal P w K mg base "_law_pick" 2 sp_law_pick := by
  refine D.cal sc_law_pick (fun vs H Q E h => ?_) (fun _ _ _ _ _ _ us hl => match us, hl with | [_, _], _ => rfl) (fun cfa cdv cA cO cs H vs Q E hr h => ?_)
  · obtain ⟨d, p, xs, rfl, hd, hp, hx, q⟩ := h
    rfl
  obtain ⟨d, p, xs, rfl, hd, hp, hx, q⟩ := h
  refine ⟨_, (pss_one (ps_ret (pe_ix ix_list (pv 1) (pe_cal c_law_roll (hr.mono (by decide)) (by rfl) (pa_cons (pv 0) (pa_cons (pe_callB (k_len) (by rfl) B.len (by decide +kernel) (pa_cons (pv 1) pa_nil)) pa_nil))) (fun _ _ => rfl)))), ?_⟩
  walk_at "rd"
  refine r_lenL (sqL hp) ?_
  walk_at "rd"
  refine ⟨d, _, rfl, hd, by omega, fun r l m c h0 h1 => ?_⟩
  obtain ⟨n, rfl⟩ : ∃ n : Nat, r = (n : Int) := ⟨r.toNat, by omega⟩
  have hr2 : n < xs.length := by omega
  refine r_ixL (sqL (by rw [upd_ne hx.2.2]; exact hp)) (atI_nat (List.getElem?_eq_getElem hr2)) ?_
  exact q _ _ _ _ (List.getElem_mem hr2)
end
end G
set_option Elab.async false
set_option linter.all false
set_option maxRecDepth 100000
set_option maxHeartbeats 4000000
namespace G
open PySem PySem.Spec PyProof.Rows L2
local macro_rules | `(tactic| walk_at "rd") => `(tactic| repeat (first
  | (with_reducible first
  | refine r_seq ?_ | refine r_asg ?_ | refine r_c ?_ | refine r_op ?_ | refine r_cons ?_ | refine r_nil ?_ | refine r_cb ?_ | refine r_cal ?_ | refine r_I0 ?_ | refine r_gname ?_
  | refine r_test ?_ | refine r_k ?_ | refine r_B ?_ | refine r_ifs ?_ | refine r_eqI ?_ | refine r_neI ?_ | refine r_un ?_ | refine r_U ?_ | refine r_par ?_ | refine r_vw ?_ | refine r_ret ?_ | refine r_drop ?_
  | refine r_next ?_ | refine r_not ?_ | refine r_and ?_ | refine r_or ?_ | refine r_if ?_ | refine r_chain ?_ | refine r_ipI ?_ | refine r_abs ?_ | refine r_int1 ?_ | refine r_int1b ?_ | refine r_eqB ?_ | refine r_neB ?_
  | refine r_max2 ?_ | refine r_min2 ?_ | refine r_gcd ?_ | refine r_tup ?_ | refine r_lst ?_ | refine r_bm ?_ | refine r_for ?_ | refine r_rng1 ?_ | refine r_rng2 ?_ | refine r_ilist ?_ | refine r_itup ?_ | refine r_yes ?_ | refine r_lc ?_ | refine r_sub ?_
  | refine r_gcons ?_ | refine r_gnil ?_ | refine r_andV0 ?_ | refine r_orV0 ?_ | refine r_notV ?_ | refine r_par3 ?_ | refine r_vwz ?_ | refine r_isN ?_ | refine r_notN ?_)
  | ((with_reducible refine' r_var ?k1 ?_); (case k1 => exact rfl))
  | ((with_reducible refine' r_aug ?k1 ?_); (case k1 => exact rfl))))
section
variable {P : Program} {w : World} {K : PySem.W.Frag} {mg : Str → Option Value} {base : Heap}
theorem ip_fdivW {X : Cx} : PIp X .FloorDiv (rI CDivW fun i j => .int (i / j)) := iop_fdivW
theorem iop_mul {X : Cx} : OpR X (inplaceOp .Mult) (rI CMul fun i j => .int (i * j)) := opI fun _ _ _ _ _ _ _ hc q => imul_int q hc.ok
theorem ip_mulW {X : Cx} : PIp X .Mult (rI CMul fun i j => .int (i * j)) := iop_mul
/-- a dict of ints as the layer has it -/
def kd (kvs : List (Int × Int)) : List (Key × V) := kvs.map fun p => ((Sum.inl p.1 : Key), V.int p.2)
def lookI (kvs : List (Int × Int)) (k : Int) : Option Int := (kvs.find? fun p => decide (p.1 = k)).map (·.2)
def putI (kvs : List (Int × Int)) (k v : Int) : List (Int × Int) := if (kvs.any fun p => decide (p.1 = k)) = true then kvs.map (fun p => if p.1 = k then (p.1, v) else p) else kvs ++ [(k, v)]
def inc (kvs : List (Int × Int)) (k : Int) : List (Int × Int) := putI kvs k ((lookI kvs k).getD 0 + 1)
theorem key_dec (a k : Int) : decide ((Sum.inl a : Key) = Sum.inl k) = decide (a = k) := by
  by_cases h : a = k
  · subst h; simp
  · have h2 : ¬ (Sum.inl a : Key) = Sum.inl k := fun q => h (Sum.inl.inj q)
    rw [decide_eq_false h, decide_eq_false h2]
theorem valV_kd (k : Int) : ∀ kvs : List (Int × Int), valV (kd kvs) (Sum.inl k) = (lookI kvs k).map V.int
  | [] => rfl
  | p :: r => by
    have ih := valV_kd k r
    unfold valV lookI kd at ih ⊢
    rw [List.map_cons, List.find?_cons, List.find?_cons, key_dec]
    cases decide (p.1 = k) with
    | true => rfl
    | false => exact ih
theorem any_kd (k : Int) : ∀ kvs : List (Int × Int), ((kd kvs).any fun kv => decide (kv.1 = (Sum.inl k : Key))) = kvs.any fun p => decide (p.1 = k)
  | [] => rfl
  | p :: r => by
    have ih := any_kd k r
    unfold kd at ih ⊢
    rw [List.map_cons, List.any_cons, List.any_cons, ih, key_dec]
theorem putK_kd (kvs : List (Int × Int)) (k v : Int) : putK (kd kvs) (Sum.inl k) (V.int v) = kd (putI kvs k v) := by
  unfold putK putI
  rw [any_kd]
  split
  · unfold kd
    rw [List.map_map, List.map_map]
    refine List.map_congr_left fun p _ => ?_
    show (if (Sum.inl p.1 : Key) = Sum.inl k then ((Sum.inl p.1 : Key), V.int v) else ((Sum.inl p.1 : Key), V.int p.2)) = _
    by_cases h : p.1 = k
    · show _ = (fun p : Int × Int => ((Sum.inl p.1 : Key), V.int p.2)) (if p.1 = k then (p.1, v) else p)
      rw [if_pos h, if_pos (by rw [h])]
    · show _ = (fun p : Int × Int => ((Sum.inl p.1 : Key), V.int p.2)) (if p.1 = k then (p.1, v) else p)
      rw [if_neg h, if_neg fun q => h (Sum.inl.inj q)]
  · unfold kd
    rw [List.map_append]
    rfl
theorem putI_len (kvs : List (Int × Int)) (k v : Int) : (putI kvs k v).length ≤ kvs.length + 1 := by
  unfold putI
  split
  · rw [List.length_map]; omega
  · rw [List.length_append]; simp
theorem r_dget {σ : L2.St} {H : Hp} {Q : VK} {td ty tx : TE} (q : td σ H fun x H1 => ∃ a, x = .ref a ∧ IsD H1 a ∧ ty σ H1 fun y H2 => tx σ H2 fun z H3 => ∃ o, DGet H3 a y o ∧ Q (o.getD z) H3) : tDGet2 td ty tx σ H Q := q
theorem r_dput {σ : L2.St} {H : Hp} {D : Ends} {td ty tv : TE} (q : tv σ H fun v H1 => td σ H1 fun x H2 => ty σ H2 fun y H3 => ∃ a H4, x = .ref a ∧ DPut H3 a y v H4 ∧ D.nx σ H4) : sDPut td ty tv D σ H := q
theorem gd_int (o : Option Int) (z : Int) : (o.map V.int).getD (.int z) = .int (o.getD z) := by cases o <;> rfl
theorem dgetI {H : Hp} {d : Addr} {kvs : List (Int × Int)} {k : Int} {R : Option V → Prop} (h : H d = some (.dK (kd kvs))) (q : R ((lookI kvs k).map V.int)) : ∃ o, DGet H d (.int k) o ∧ R o := by
  refine ⟨_, DGet.k (k := Sum.inl k) h, ?_⟩
  rw [valV_kd]
  exact q
theorem dputI {H : Hp} {d : Addr} {kvs : List (Int × Int)} {k v : Int} {R : Hp → Prop} (h : H d = some (.dK (kd kvs))) (hl : kvs.length ≤ 100000) (q : R (upd H d (.dK (kd (putI kvs k v))))) : ∃ a H4, V.ref d = .ref a ∧ DPut H a (.int k) (.int v) H4 ∧ R H4 := by
  refine ⟨d, _, rfl, DPut.k (k := Sum.inl k) h ?_, ?_⟩
  · unfold kd
    rw [List.length_map]
    exact Nat.lt_of_le_of_lt hl (by decide)
  · rw [putK_kd]
    exact q
/-- what the trial division finds -/
def pwIn : Nat → List (Int × Int) → Nat → Nat → List (Int × Int) × Nat
  | 0, kvs, left, _ => (kvs, left)
  | m + 1, kvs, left, f => if left % f = 0 then pwIn m (inc kvs f) (left / f) f else (kvs, left)
def pwOut : Nat → List (Int × Int) → Nat → Nat → List (Int × Int) × Nat
  | 0, kvs, left, _ => (kvs, left)
  | m + 1, kvs, left, f => if f * f ≤ left then pwOut m (pwIn left kvs left f).1 (pwIn left kvs left f).2 (f + if f = 2 then 1 else 2) else (kvs, left)
def powers (n : Nat) : List (Int × Int) := let r := pwOut n [] n 2; if 1 < r.2 then inc r.1 r.2 else r.1
theorem pwIn_len : ∀ (m : Nat) (kvs : List (Int × Int)) (left f : Nat), (pwIn m kvs left f).1.length ≤ kvs.length + m
  | 0, _, _, _ => Nat.le_refl _
  | m + 1, kvs, left, f => by
    rw [pwIn]
    split
    · have h1 := pwIn_len m (inc kvs f) (left / f) f
      have h2 : (inc kvs f).length ≤ kvs.length + 1 := putI_len _ _ _
      omega
    · show kvs.length ≤ _
      omega
abbrev s_powers_in : Stmt := top 29
abbrev N_powers_in : List Str := ["number", "found", "left", "factor"]
theorem sc_powers_in : FnScope N_powers_in ["number"] (defScope s_powers_in) := ⟨rfl, rfl, rfl, by decide +kernel, rfl, by decide +kernel, by decide +kernel⟩
def sp_powers_in : Sp := fun vs H Q _ => ∃ n : Nat, vs = [.int (n : Int)] ∧ (1 ≤ n ∧ n ≤ 100) ∧ ∀ p H', H p = none → Evl.Ex H H' → H' p = some (.dK (kd (powers n))) → Q (.ref p) H'
theorem ok_powers_in (B : Bt mg) (D : DefAt K mg "powers_in" s_powers_in)  : Cal P w K mg base "powers_in" 1 sp_powers_in := by
  refine D.cal sc_powers_in (fun vs H Q E h => ?_) (fun _ _ _ _ _ _ us hl => match us, hl with | [_], _ => rfl) (fun cfa cdv cA cO cs H vs Q E hr h => ?_)
  · obtain ⟨n, rfl, hn, q⟩ := h
    rfl
  obtain ⟨n, rfl, hn, q⟩ := h
  refine ⟨_, (pss_cons (ps_par3 (i := 1) (j := 2) (l := 3) (by rfl) sc_powers_in.nd rfl rfl rfl (by decide) (by decide) (by decide) rfl rfl rfl (pa_cons pe_dnewK (pa_cons (pv 0) (pa_cons pe_int pa_nil))) (by rfl))
      (pss_cons (ps_while PassesOwn.never (pt_cmpR op_le (pe_op op_mul (pv 3) (pv 3)) (pv 2) (nomark _)) (pss_cons (ps_while PassesOwn.never (pt_cmpR op_eq (pe_op op_mod (pv 2) (pv 3)) pe_int (nomark _)) (pss_cons (ps_dput (hu_of hr) (pv 1) (pv 3) (pe_op op_add (pe_dget2 (hu_of hr) (pv 1) (pv 3) pe_int ⟨rfl, rfl, rfl, rfl⟩) pe_int) rfl)
      (pss_one (ps_aug (i := 2) sc_powers_in.nd rfl (by first | exact .inl rfl | exact .inr rfl) (pv 3) ip_fdivW))))
      (pss_one (ps_aug (i := 3) sc_powers_in.nd rfl (by first | exact .inl rfl | exact .inr rfl) (pe_ifExp (pt_cmpR op_eq (pv 3) pe_int (nomark _)) pe_int pe_int) ip_add))))
      (pss_cons (ps_if (pt_cmpR op_gt (pv 2) pe_int (nomark _)) (pss_one (ps_dput (hu_of hr) (pv 1) (pv 2) (pe_op op_add (pe_dget2 (hu_of hr) (pv 1) (pv 2) pe_int ⟨rfl, rfl, rfl, rfl⟩) pe_int) rfl)) pss_nil)
      (pss_one (ps_ret (pv 1)))))), ?_⟩
  walk_at "rd"
  refine fun d hd => ?_
  walk_at "rd"
  refine ⟨fun m σ' H' => ∃ (kvs : List (Int × Int)) (left f : Nat), σ' = [some (.int (n : Int)), some (.ref d), some (.int (left : Int)), some (.int (f : Int))] ∧ Evl.Ex H H' ∧ H' d = some (.dK (kd kvs)) ∧
    pwOut m kvs left f = pwOut n [] n 2 ∧ (2 ≤ f ∧ f ≤ 3000 ∧ n + 1 ≤ m + f ∧ left ≤ n ∧ 1 ≤ left ∧ kvs.length + left ≤ 300 ∧ f + 2 * m ≤ 300), ⟨n, [], n, 2, rfl, Evl.Ex.new hd, upd_same, rfl, by simp; omega⟩, fun m σ' H' hw => ?_⟩
  obtain ⟨kvs, left, f, rfl, he, hdk, ho, hb⟩ := hw
  walk_at "rd"
  refine r_I (.inl (by omega)) ?_
  walk_at "rd"
  have hff : ((f * f : Nat) : Int) = (f : Int) * (f : Int) := Int.natCast_mul f f
  refine ite_d (fun e => ?_) (fun e => ?_)
  · have e' : f * f ≤ left := by omega
    have hf2 : f ≤ f * f := Nat.le_mul_self f
    obtain ⟨m, rfl⟩ : ∃ k, m = k + 1 := ⟨m - 1, by omega⟩
    refine ⟨_, fun _ _ n => n, ?_⟩
    walk_at "rd"
    refine ⟨fun k σ2 H2 => ∃ (kvs2 : List (Int × Int)) (left2 : Nat), σ2 = [some (.int (n : Int)), some (.ref d), some (.int (left2 : Int)), some (.int (f : Int))] ∧ Evl.Ex H H2 ∧ H2 d = some (.dK (kd kvs2)) ∧
      pwIn k kvs2 left2 f = pwIn left kvs left f ∧ (left2 ≤ k ∧ 1 ≤ left2 ∧ left2 ≤ left ∧ kvs2.length + left2 ≤ 300), ⟨left, kvs, left, rfl, he, hdk, rfl, by omega⟩, fun k σ2 H2 hw2 => ?_⟩
    obtain ⟨kvs2, left2, rfl, he2, hdk2, ho2, hb2⟩ := hw2
    walk_at "rd"
    refine r_I (by show (0 : Int) < (f : Int); omega) ?_
    walk_at "rd"
    rw [← Int.natCast_emod]
    refine ite_d (fun e2 => ?_) (fun e2 => ?_)
    · have z : left2 % f = 0 := by omega
      obtain ⟨k, rfl⟩ : ∃ j, k = j + 1 := ⟨k - 1, by omega⟩
      refine ⟨_, fun _ _ n => n, ?_⟩
      walk_at "rd"
      refine r_dput ?_
      walk_at "rd"
      refine r_dget ?_
      walk_at "rd"
      refine ⟨d, rfl, .inl ⟨_, .inl hdk2⟩, ?_⟩
      walk_at "rd"
      refine dgetI hdk2 ?_
      rw [gd_int]
      walk_at "rd"
      refine dputI hdk2 (by omega) ?_
      walk_at "rd"
      refine r_I (wide_div (by omega) (b := 20) (by omega) (by decide) (by decide)) ?_
      walk_at "rd"
      rw [← Int.natCast_ediv]
      have hlt : left2 / f < left2 := Nat.div_lt_self (by omega) (by omega)
      have hpos : 1 ≤ left2 / f := by
        have hle : f ≤ left2 := Nat.le_of_dvd (by omega) (Nat.dvd_of_mod_eq_zero z)
        exact Nat.div_pos hle (by omega)
      have hlen : (inc kvs2 f).length ≤ kvs2.length + 1 := putI_len _ _ _
      refine ⟨k, Nat.lt_succ_self _, inc kvs2 f, left2 / f, rfl, he2.mut hd, upd_same, ?_, by omega⟩
      rw [← ho2, pwIn, if_pos z]
    · have z : ¬ left2 % f = 0 := by omega
      obtain ⟨k, rfl⟩ : ∃ j, k = j + 1 := ⟨k - 1, by omega⟩
      walk_at "rd"
      rw [pwIn, if_neg z] at ho2
      refine ite_d (fun e3 => ?_) (fun e3 => ?_)
      · walk_at "rd"
        refine ⟨m, Nat.lt_succ_self _, kvs2, left2, f + 1, ?_, he2, hdk2, ?_, by omega⟩
        · rw [Int.natCast_add]; rfl
        · rw [← ho, pwOut, if_pos e', ← ho2, if_pos (by omega)]
      · walk_at "rd"
        refine ⟨m, Nat.lt_succ_self _, kvs2, left2, f + 2, ?_, he2, hdk2, ?_, by omega⟩
        · rw [Int.natCast_add]; rfl
        · rw [← ho, pwOut, if_pos e', ← ho2, if_neg (by omega)]
  · have e' : ¬ f * f ≤ left := by omega
    have hR : pwOut n [] n 2 = (kvs, left) := by
      rw [← ho]
      cases m with
      | zero => rfl
      | succ m => rw [pwOut, if_neg e']
    walk_at "rd"
    refine ite_d (fun e3 => ?_) (fun e3 => ?_)
    · refine r_dput ?_
      walk_at "rd"
      refine r_dget ?_
      walk_at "rd"
      refine ⟨d, rfl, .inl ⟨_, .inl hdk⟩, ?_⟩
      walk_at "rd"
      refine dgetI hdk ?_
      rw [gd_int]
      walk_at "rd"
      refine dputI hdk (by omega) ?_
      walk_at "rd"
      refine q d _ hd (he.mut hd) ?_
      unfold powers
      rw [hR, upd_same]
      show _ = some (HO.dK (kd (if 1 < left then inc kvs left else kvs)))
      rw [if_pos (by omega)]
      rfl
    · walk_at "rd"
      refine q d _ hd he ?_
      unfold powers
      rw [hR]
      show _ = some (HO.dK (kd (if 1 < left then inc kvs left else kvs)))
      rw [if_neg (by omega)]
      exact hdk
end
end G
set_option Elab.async false
set_option linter.all false
set_option maxRecDepth 100000
set_option maxHeartbeats 4000000
namespace G
open PySem PySem.Spec PyProof.Rows L2
local macro_rules | `(tactic| walk_at "rd") => `(tactic| repeat (first
  | (with_reducible first
  | refine r_seq ?_ | refine r_asg ?_ | refine r_c ?_ | refine r_op ?_ | refine r_cons ?_ | refine r_nil ?_ | refine r_cb ?_ | refine r_cal ?_ | refine r_I0 ?_ | refine r_gname ?_
  | refine r_test ?_ | refine r_k ?_ | refine r_B ?_ | refine r_ifs ?_ | refine r_eqI ?_ | refine r_neI ?_ | refine r_un ?_ | refine r_U ?_ | refine r_par ?_ | refine r_vw ?_ | refine r_ret ?_ | refine r_drop ?_
  | refine r_next ?_ | refine r_not ?_ | refine r_and ?_ | refine r_or ?_ | refine r_if ?_ | refine r_chain ?_ | refine r_ipI ?_ | refine r_abs ?_ | refine r_int1 ?_ | refine r_int1b ?_ | refine r_eqB ?_ | refine r_neB ?_
  | refine r_max2 ?_ | refine r_min2 ?_ | refine r_gcd ?_ | refine r_tup ?_ | refine r_lst ?_ | refine r_bm ?_ | refine r_for ?_ | refine r_rng1 ?_ | refine r_rng2 ?_ | refine r_ilist ?_ | refine r_itup ?_ | refine r_yes ?_ | refine r_lc ?_ | refine r_sub ?_
  | refine r_gcons ?_ | refine r_gnil ?_ | refine r_andV0 ?_ | refine r_orV0 ?_ | refine r_notV ?_ | refine r_par3 ?_ | refine r_vwz ?_ | refine r_isN ?_ | refine r_notN ?_)
  | ((with_reducible refine' r_var ?k1 ?_); (case k1 => exact rfl))
  | ((with_reducible refine' r_aug ?k1 ?_); (case k1 => exact rfl))))
section
variable {P : Program} {w : World} {K : PySem.W.Frag} {mg : Str → Option Value} {base : Heap}
/-! ### divisors -/
def divPart (L : List Int) (q : Int) : Nat → List Int
  | 0 => L
  | j + 1 => divPart L q j ++ L.map (· * q ^ (j + 1))
def divStep (L : List Int) (p : Int × Int) : List Int := divPart L p.1 p.2.toNat
def divK (n i : Nat) : List Int := ((powers n).take i).foldl divStep [1]
def okD (n : Nat) : Bool := ((List.range ((powers n).length + 1)).all fun i => decide ((divK n i).length ≤ 100) && (divK n i).all fun u => decide (-1000000 < u) && decide (u < 1000000)) &&
  ((powers n).all fun p => decide (0 ≤ p.2) && decide (p.2 ≤ 10) && decide (0 ≤ p.1) && decide (p.1 ≤ 100)) && decide ((powers n).length ≤ 10) && decide ((dvs n).Perm (divK n (powers n).length)) && decide ((dvs n).Pairwise (· ≤ ·))
theorem okD_all : ∀ n ∈ List.range 25, 1 ≤ n → okD n = true := by decide +kernel
theorem okD_of {n : Nat} (h : 1 ≤ n ∧ n ≤ 24) : okD n = true := okD_all n (List.mem_range.mpr (by omega)) h.1
theorem divPart_len (L : List Int) (q : Int) : ∀ j, (divPart L q j).length = L.length * (j + 1)
  | 0 => by simp [divPart]
  | j + 1 => by rw [divPart, List.length_append, List.length_map, divPart_len L q j, Nat.mul_succ L.length (j + 1)]
theorem divK_succ {n i : Nat} {p : Int × Int} (h : (powers n)[i]? = some p) : divK n (i + 1) = divStep (divK n i) p := by
  unfold divK
  rw [List.take_add_one, h, List.foldl_append]
  rfl
structure DFacts (n : Nat) : Prop where
  len : ∀ i, i ≤ (powers n).length → (divK n i).length ≤ 100
  small : ∀ i, i ≤ (powers n).length → ∀ u ∈ divK n i, -1000000 < u ∧ u < 1000000
  pw : ∀ p ∈ powers n, 0 ≤ p.2 ∧ p.2 ≤ 10 ∧ 0 ≤ p.1 ∧ p.1 ≤ 100
  plen : (powers n).length ≤ 10
  perm : (dvs n).Perm (divK n (powers n).length)
  sorted : (dvs n).Pairwise (· ≤ ·)
theorem dfacts {n : Nat} (h : 1 ≤ n ∧ n ≤ 24) : DFacts n := by
  have h1 := okD_of h
  unfold okD at h1
  simp only [Bool.and_eq_true, List.all_eq_true, decide_eq_true_eq, List.mem_range] at h1
  obtain ⟨⟨⟨⟨a, b⟩, c⟩, d⟩, e⟩ := h1
  exact ⟨fun i hi => (a i (by omega)).1, fun i hi u hu => (a i (by omega)).2 u hu, fun p hp => by have := b p hp; omega, c, d, e⟩
theorem r_itemsL {σ : L2.St} {H : Hp} {R : It → Hp → Prop} {td : TE} (q : td σ H fun x H1 => ∃ d kvs, x = .ref d ∧ H1 d = some (.dK kvs) ∧ ∀ o, R (Iti d o kvs) (upd H1 d (.frz o (.dK kvs)))) : iItemsL td σ H R := q
abbrev s_divisors_in : Stmt := top 32
abbrev N_divisors_in : List Str := ["number", "found", "prime", "many", "power", "longer", "turn", "one"]
theorem sc_divisors_in : FnScope N_divisors_in ["number"] (defScope s_divisors_in) := ⟨rfl, rfl, rfl, by decide +kernel, rfl, by decide +kernel, by decide +kernel⟩
def sp_divisors_in : Sp := fun vs H Q _ => ∃ n : Nat, vs = [.int (n : Int)] ∧ (1 ≤ n ∧ n ≤ 24) ∧ ∀ p H', H p = none → Evl.Ex H H' → H' p = some (.lst ((dvs n).map V.int)) → Q (.ref p) H'
theorem ok_divisors_in (B : Bt mg) (D : DefAt K mg "divisors_in" s_divisors_in) (c_powers_in : Cal P w K mg base "powers_in" 1 (sp_powers_in)) : Cal P w K mg base "divisors_in" 2 sp_divisors_in := by
  refine D.cal sc_divisors_in (fun vs H Q E h => ?_) (fun _ _ _ _ _ _ us hl => match us, hl with | [_], _ => rfl) (fun cfa cdv cA cO cs H vs Q E hr h => ?_)
  · obtain ⟨n, rfl, hn, q⟩ := h
    rfl
  obtain ⟨n, rfl, hn, q⟩ := h
  refine ⟨_, (pss_cons (ps_set (i := 1) sc_divisors_in.nd rfl (by first | exact .inl rfl | exact .inr rfl) (pe_lst (pa_cons pe_int pa_nil)))
      (pss_cons (ps_for PassesOwn.never rfl (pi_itemsL (pe_cal c_powers_in (hr.mono (by decide)) (by rfl) (pa_cons (pv 0) pa_nil))) (pg_tup rfl (pgs_cons (pg_name (i := 2) sc_divisors_in.nd rfl (by first | exact .inl rfl | exact .inr rfl)) (pgs_cons (pg_name (i := 3) sc_divisors_in.nd rfl (by first | exact .inl rfl | exact .inr rfl)) pgs_nil))) (pss_cons (ps_asg (pe_tup (pa_cons pe_int (pa_cons (pv 1) pa_nil))) (pg_tup rfl (pgs_cons (pg_name (i := 4) sc_divisors_in.nd rfl (by first | exact .inl rfl | exact .inr rfl)) (pgs_cons (pg_name (i := 5) sc_divisors_in.nd rfl (by first | exact .inl rfl | exact .inr rfl)) pgs_nil))))
      (pss_cons (ps_for PassesOwn.never rfl (pi_range1 (by rfl) B.range (pa_cons (pv 3) pa_nil)) (pg_name (i := 6) sc_divisors_in.nd rfl (by first | exact .inl rfl | exact .inr rfl)) (pss_cons (ps_aug (i := 4) sc_divisors_in.nd rfl (by first | exact .inl rfl | exact .inr rfl) (pv 2) ip_mulW)
      (pss_one (ps_set (i := 5) sc_divisors_in.nd rfl (by first | exact .inl rfl | exact .inr rfl) (pe_op op_cat (pv 5) (pe_lc (own := [("one", 7)]) rfl sc_divisors_in.nd (pi_list (pv 1)) (blkOk_by (N := N_divisors_in) (sc := defScope s_divisors_in) (by decide +kernel)) (fun _ _ _ _ _ => (pg_name (x := "one") (i := 7) sc_divisors_in.nd rfl (by first | exact .inl rfl | exact .inr rfl))) (fun _ _ _ _ _ => pts_nil) (fun _ _ _ _ _ => (pe_op op_mul (pv 7) (pv 4)))))))))
      (pss_one (ps_set (i := 1) sc_divisors_in.nd rfl (by first | exact .inl rfl | exact .inr rfl) (pv 5))))))
      (pss_one (ps_ret (pe_callB (cr_sortedI) (by rfl) B.sorted (by decide +kernel) (pa_cons (pv 1) pa_nil)))))), ?_⟩
  have DF := dfacts hn
  walk_at "rd"
  refine ⟨by decide, fun F0 hF0 => ?_⟩
  walk_at "rd"
  refine r_itemsL ?_
  walk_at "rd"
  refine ⟨n, rfl, by omega, fun d H1 hd he1 hk1 => ⟨d, kd (powers n), rfl, hk1, fun o => ?_⟩⟩
  have hF1 : H1 F0 = some (.lst [.int 1]) := he1 F0 _ upd_same
  have hdF : F0 ≠ d := fun e => by rw [e] at hF1; rw [hF1] at hk1; cases hk1
  have hHd : H d = none := Evl.fresh_back (Evl.Ex.new hF0) hd
  have heK : Evl.Ex H (upd H1 d (.frz o (.dK (kd (powers n))))) := ((Evl.Ex.new hF0).trans he1).mut hHd
  have hlenK : (kd (powers n)).length = (powers n).length := by unfold kd; rw [List.length_map]
  generalize hK1 : upd H1 d (.frz o (.dK (kd (powers n)))) = K1 at heK
  have hdK : K1 d = some (.frz o (.dK (kd (powers n)))) := by rw [← hK1, upd_same]
  have hF1' : K1 F0 = some (.lst [.int 1]) := by rw [← hK1, upd_ne hdF]; exact hF1
  refine for_it walk_items (fun i σ' H' => ∃ (F : Addr) (y2 y3 y4 y5 y6 y7 : Option V), σ' = [some (.int (n : Int)), some (.ref F), y2, y3, y4, y5, y6, y7] ∧ Evl.Ex K1 H' ∧ H' F = some (.lst ((divK n i).map V.int)))
    ⟨F0, none, none, none, none, none, none, rfl, Evl.Ex.refl _, hF1'⟩ (fun i σ' H' _ hp => ?_) (fun i x σ' H' H2 hi hp hy => ?_) (fun σ' H' hp => ?_)
  · obtain ⟨F, y2, y3, y4, y5, y6, y7, rfl, he, hF⟩ := hp
    exact he d _ hdK
  · obtain ⟨F, y2, y3, y4, y5, y6, y7, rfl, he, hF⟩ := hp
    obtain ⟨T, x1, x2, rfl, hT, rfl, e1, e2⟩ := hy
    rw [hlenK] at hi
    obtain ⟨p, hpp⟩ : ∃ p, (powers n)[i]? = some p := ⟨_, List.getElem?_eq_getElem hi⟩
    have ek : (kd (powers n))[i]? = some (Sum.inl p.1, V.int p.2) := by unfold kd; rw [List.getElem?_map, hpp]; rfl
    have hx1 : x1 = .int p.1 := by
      have z : (kd (powers n))[i]?.map (fun kv => kV kv.1) = some x1 := e1
      rw [ek] at z
      exact (Option.some.inj z).symm
    have hx2 : x2 = .int p.2 := by
      have z : (kd (powers n))[i]?.map Prod.snd = some x2 := e2
      rw [ek] at z
      exact (Option.some.inj z).symm
    subst hx1 hx2
    have hpw := DF.pw p (List.mem_of_getElem? hpp)
    have heT := he.trans (Evl.Ex.new (o := .tup [.int p.1, .int p.2]) hT)
    have hFT : upd H' T (.tup [.int p.1, .int p.2]) F = some (.lst ((divK n i).map V.int)) := Evl.Ex.new hT F _ hF
    refine r_gtup (sqT upd_same) rfl ?_
    walk_at "rd"
    generalize upd H' T (.tup [.int p.1, .int p.2]) = H3 at heT hFT
    refine ⟨by show 2 ≤ sizeLine; decide, fun T2 hT2 => ?_⟩
    refine r_gtup (sqT upd_same) rfl ?_
    walk_at "rd"
    have heT2 := heT.trans (Evl.Ex.new (o := .tup [.int 1, .ref F]) hT2)
    have hFT2 : upd H3 T2 (.tup [.int 1, .ref F]) F = some (.lst ((divK n i).map V.int)) := Evl.Ex.new hT2 F _ hFT
    generalize upd H3 T2 (.tup [.int 1, .ref F]) = H4 at heT2 hFT2
    refine ⟨p.2, rfl, by omega, by omega, for_range (lo := 0) (n := p.2.toNat) (fun j σ2 H2 => ∃ (L : Addr) (y6 y7 : Option V), σ2 = [some (.int (n : Int)), some (.ref F), some (.int p.1), some (.int p.2), some (.int (p.1 ^ j)), some (.ref L), y6, y7] ∧
      Evl.Ex K1 H2 ∧ H2 F = some (.lst ((divK n i).map V.int)) ∧ H2 L = some (.lst ((divPart (divK n i) p.1 j).map V.int))) ⟨F, _, _, by rw [Int.pow_zero]; rfl, heT2, hFT2, hFT2⟩ (fun j σ2 H2 hj hw => ?_) (fun σ2 H2 hw => ?_)⟩
    · obtain ⟨L, y6, y7, rfl, he2, hF2, hL2⟩ := hw
      walk_at "rd"
      refine r_I (.inr (by omega)) ?_
      walk_at "rd"
      have hl1 := DF.len i (by omega)
      have hno : ∀ {D : Addr}, H2 D = none → D ≠ L := fun hD e => by rw [e, hL2] at hD; cases hD
      refine ⟨F, rfl, ⟨_, sqL hF2⟩, fun D hD => lc_list (xs := (divK n i).map V.int) (fun k H5 => Evl.Ex H2 H5 ∧ H5 D = some (.lst ((((divK n i).take k).map (· * p.1 ^ (j + 1))).map V.int))) ⟨Evl.Ex.new hD, upd_same⟩ (fun k H5 _ hp => sqL (hp.1 F _ hF2)) (fun k x H5 hx hp => ?_) (fun H5 hp => ?_)⟩
      · obtain ⟨he5, hl5⟩ := hp
        obtain ⟨u, hu, rfl⟩ := geti hx
        have hub := DF.small i (by omega) u (List.mem_of_getElem? hu)
        walk_at "rd"
        refine ⟨rfl, ?_⟩
        walk_at "rd"
        refine iteT ?_
        walk_at "rd"
        refine r_I (.inl (by omega)) ?_
        refine cw_put he5 hD hl5 ?_ ?_
        · rw [take_map hu, List.map_append, ← Int.pow_succ]
          rfl
        · rw [List.length_map, List.length_map, List.length_take]
          omega
      · obtain ⟨he5, hl5⟩ := hp
        rw [List.length_map, take_all] at hl5
        have hL5 := he5 L _ hL2
        have hlp := divPart_len (divK n i) p.1 j
        have hb : (divK n i).length * (j + 1) ≤ 100 * 11 := Nat.mul_le_mul hl1 (by omega)
        refine r_cat hL5 hl5 ?_ fun q2 hq2 => ?_
        · rw [List.length_map, List.length_map, List.length_map, hlp]
          exact Nat.le_trans (show _ ≤ 1300 by omega) (by decide)
        · walk_at "rd"
          refine ⟨q2, _, _, by rw [← Int.pow_succ]; rfl, he2.trans (he5.trans (Evl.Ex.new hq2)), Evl.Ex.new hq2 F _ (he5 F _ hF2), ?_⟩
          rw [upd_same, divPart, List.map_append]
    · obtain ⟨L, y6, y7, rfl, he2, hF2, hL2⟩ := hw
      walk_at "rd"
      refine ⟨L, _, _, _, _, _, _, rfl, he2, ?_⟩
      rw [divK_succ hpp]
      exact hL2
  · obtain ⟨F, y2, y3, y4, y5, y6, y7, rfl, he, hF⟩ := hp
    rw [hlenK] at hF
    walk_at "rd"
    refine ⟨F, _, rfl, sqL hF, fun ns' p hperm hso hp => ?_⟩
    have hns : ns' = dvs n := PySem.W.ksm_same (hperm.trans DF.perm.symm) hso DF.sorted
    subst hns
    exact q p _ (Evl.fresh_back (heK.trans he) hp) ((heK.trans he).trans (Evl.Ex.new hp)) upd_same
end
end G
set_option Elab.async false
set_option linter.all false
set_option maxRecDepth 100000
set_option maxHeartbeats 4000000
namespace G
open PySem PySem.Spec PyProof.Rows L2
local macro_rules | `(tactic| walk_at "rd") => `(tactic| repeat (first
  | (with_reducible first
  | refine r_seq ?_ | refine r_asg ?_ | refine r_c ?_ | refine r_op ?_ | refine r_cons ?_ | refine r_nil ?_ | refine r_cb ?_ | refine r_cal ?_ | refine r_I0 ?_ | refine r_gname ?_
  | refine r_test ?_ | refine r_k ?_ | refine r_B ?_ | refine r_ifs ?_ | refine r_eqI ?_ | refine r_neI ?_ | refine r_un ?_ | refine r_U ?_ | refine r_par ?_ | refine r_vw ?_ | refine r_ret ?_ | refine r_drop ?_
  | refine r_next ?_ | refine r_not ?_ | refine r_and ?_ | refine r_or ?_ | refine r_if ?_ | refine r_chain ?_ | refine r_ipI ?_ | refine r_abs ?_ | refine r_int1 ?_ | refine r_int1b ?_ | refine r_eqB ?_ | refine r_neB ?_
  | refine r_max2 ?_ | refine r_min2 ?_ | refine r_gcd ?_ | refine r_tup ?_ | refine r_lst ?_ | refine r_bm ?_ | refine r_for ?_ | refine r_rng1 ?_ | refine r_rng2 ?_ | refine r_ilist ?_ | refine r_itup ?_ | refine r_yes ?_ | refine r_lc ?_ | refine r_sub ?_
  | refine r_gcons ?_ | refine r_gnil ?_ | refine r_andV0 ?_ | refine r_orV0 ?_ | refine r_notV ?_ | refine r_par3 ?_ | refine r_vwz ?_ | refine r_isN ?_ | refine r_notN ?_)
  | ((with_reducible refine' r_var ?k1 ?_); (case k1 => exact rfl))
  | ((with_reducible refine' r_aug ?k1 ?_); (case k1 => exact rfl))))
section
variable {P : Program} {w : World} {K : PySem.W.Frag} {mg : Str → Option Value} {base : Heap}
theorem r_ckw {σ : L2.St} {H : Hp} {Q : VK} {r : List V → List V → Hp → VK → Prop} {t tk : TA} (q : t σ H fun vs H1 => tk σ H1 fun zs H2 => r vs zs H2 Q) : tCKw r t tk σ H Q := q
theorem r_vals {σ : L2.St} {H : Hp} {Q : VK} {td : TE} (q : td σ H fun x H1 => ∃ d kvs, x = .ref d ∧ H1 d = some (.dK kvs) ∧ ∀ p, H1 p = none → Q (.ref p) (upd H1 p (ValsO p d))) : tVals td σ H Q := q
def mu (n : Nat) : Int := if ((powers n).any fun p => decide (1 < p.2)) = true then 0 else if (powers n).length % 2 = 0 then 1 else -1
abbrev s_moebius_in : Stmt := top 33
abbrev N_moebius_in : List Str := ["number", "powers"]
theorem sc_moebius_in : FnScope N_moebius_in ["number"] (defScope s_moebius_in) := ⟨rfl, rfl, rfl, by decide +kernel, rfl, by decide +kernel, by decide +kernel⟩
def sp_moebius_in : Sp := fun vs H Q _ => ∃ n : Nat, vs = [.int (n : Int)] ∧ (1 ≤ n ∧ n ≤ 24) ∧ ∀ H', Evl.Ex H H' → Q (.int (mu n)) H'
theorem ok_moebius_in (B : Bt mg) (D : DefAt K mg "moebius_in" s_moebius_in) (c_powers_in : Cal P w K mg base "powers_in" 1 (sp_powers_in)) : Cal P w K mg base "moebius_in" 2 sp_moebius_in := by
  refine D.cal sc_moebius_in (fun vs H Q E h => ?_) (fun _ _ _ _ _ _ us hl => match us, hl with | [_], _ => rfl) (fun cfa cdv cA cO cs H vs Q E hr h => ?_)
  · obtain ⟨n, rfl, hn, q⟩ := h
    rfl
  obtain ⟨n, rfl, hn, q⟩ := h
  refine ⟨_, (pss_cons (ps_set (i := 1) sc_moebius_in.nd rfl (by first | exact .inl rfl | exact .inr rfl) (pe_cal c_powers_in (hr.mono (by decide)) (by rfl) (pa_cons (pv 0) pa_nil)))
      (pss_cons (ps_if (pt_cmpR op_gt (pe_callBK (cr_maxD rfl) (by rfl) B.max (by decide +kernel) (pa_cons (pe_vals (pv 1)) pa_nil) (pk_cons pe_int pk_nil)) pe_int (nomark _)) (pss_one (ps_ret pe_int)) pss_nil)
      (pss_one (ps_ret (pe_ifExp (pt_cmpR op_eq (pe_op op_mod (pe_callB (call_lenD) (by rfl) B.len (by decide +kernel) (pa_cons (pv 1) pa_nil)) pe_int) pe_int (nomark _)) pe_int (pe_un un_neg pe_int)))))), ?_⟩
  walk_at "rd"
  refine ⟨n, rfl, by omega, fun d H1 hd he1 hk1 => ?_⟩
  walk_at "rd"
  refine r_ckw ?_
  walk_at "rd"
  refine r_vals ?_
  walk_at "rd"
  refine ⟨d, _, rfl, hk1, fun v hv => ?_⟩
  walk_at "rd"
  have hk2 : upd H1 v (ValsO v d) d = some (.dK (kd (powers n))) := Evl.Ex.new hv d _ hk1
  have he2 : Evl.Ex H (upd H1 v (ValsO v d)) := he1.trans (Evl.Ex.new hv)
  have hv2 : upd H1 v (ValsO v d) v = some (ValsO v d) := upd_same
  generalize upd H1 v (ValsO v d) = H2 at hk2 he2 hv2
  have hlen : (kd (powers n)).length = (powers n).length := by unfold kd; rw [List.length_map]
  refine ⟨v, d, _, (powers n).map (·.2), 1, rfl, rfl, hv2, hk2, by unfold kd; rw [List.map_map, List.map_map]; rfl, fun e => ?_, fun m hm hmax => ?_⟩
  · have e0 : powers n = [] := List.map_eq_nil_iff.mp e
    walk_at "rd"
    refine ite_d (fun z => absurd z (by decide)) (fun _ => ?_)
    walk_at "rd"
    refine ⟨d, _, rfl, hk2, ?_⟩
    walk_at "rd"
    refine r_I (by decide) ?_
    walk_at "rd"
    have q2 := q H2 he2
    unfold mu at q2
    rw [hlen]
    rw [e0] at q2 ⊢
    refine ite_d (fun _ => ?_) (fun z => absurd (by decide) z)
    exact q2
  · walk_at "rd"
    have q2 := q H2 he2
    unfold mu at q2
    refine ite_d (fun z => ?_) (fun z => ?_)
    · rw [if_pos] at q2
      · exact q2
      · obtain ⟨p, hp, rfl⟩ := List.mem_map.mp hm
        exact List.any_eq_true.mpr ⟨p, hp, decide_eq_true z⟩
    · rw [if_neg] at q2
      · walk_at "rd"
        refine ⟨d, _, rfl, hk2, ?_⟩
        walk_at "rd"
        refine r_I (by decide) ?_
        walk_at "rd"
        rw [hlen]
        refine ite_d (fun z2 => ?_) (fun z2 => ?_)
        · rw [if_pos (by omega)] at q2
          exact q2
        · rw [if_neg (by omega)] at q2
          walk_at "rd"
          exact q2
      · intro h
        obtain ⟨p, hp, h1⟩ := List.any_eq_true.mp h
        have := hmax p.2 (List.mem_map.mpr ⟨p, hp, rfl⟩)
        have := of_decide_eq_true h1
        omega
abbrev s_moebius : Stmt := top 35
abbrev N_moebius : List Str := ["number"]
theorem sc_moebius : FnScope N_moebius ["number"] (defScope s_moebius) := ⟨rfl, rfl, rfl, by decide +kernel, rfl, by decide +kernel, by decide +kernel⟩
def sp_moebius : Sp := fun vs H Q _ => ∃ n : Nat, vs = [.int (n : Int)] ∧ (1 ≤ n ∧ n ≤ 24) ∧ ∀ H', Evl.Ex H H' → Q (.int (mu n)) H'
theorem ok_moebius (B : Bt mg) (D : DefAt K mg "moebius" s_moebius) (c_require_factored : Cal P w K mg base "require_factored" 5 (sp_require_factored)) (c_moebius_in : Cal P w K mg base "moebius_in" 2 (sp_moebius_in)) : Cal P w K mg base "moebius" 6 sp_moebius := by
  refine D.cal sc_moebius (fun vs H Q E h => ?_) (fun _ _ _ _ _ _ us hl => match us, hl with | [_], _ => rfl) (fun cfa cdv cA cO cs H vs Q E hr h => ?_)
  · obtain ⟨n, rfl, hn, q⟩ := h
    rfl
  obtain ⟨n, rfl, hn, q⟩ := h
  refine ⟨_, (pss_cons (ps_expr (pe_cal c_require_factored (hr.mono (by decide)) (by rfl) (pa_cons (pv 0) pa_nil)))
      (pss_one (ps_ret (pe_cal c_moebius_in (hr.mono (by decide)) (by rfl) (pa_cons (pv 0) pa_nil))))), ?_⟩
  walk_at "rd"
  refine ⟨n, rfl, by omega, by omega, ?_⟩
  walk_at "rd"
  exact ⟨n, rfl, hn, q⟩
theorem mem_dvs {n : Nat} {d : Int} (h : d ∈ dvs n) : ∃ k : Nat, d = (k : Int) ∧ 1 ≤ k ∧ k ≤ n ∧ n % k = 0 := by
  unfold dvs dvsU at h
  obtain ⟨i, hi, rfl⟩ := List.mem_map.mp h
  obtain ⟨h1, h2⟩ := List.mem_filter.mp hi
  exact ⟨i + 1, rfl, by omega, by have := List.mem_range.mp h1; omega, by simpa using h2⟩
theorem mu_small (n : Nat) : -1 ≤ mu n ∧ mu n ≤ 1 := by
  unfold mu
  split
  · omega
  · split <;> omega
/-- the sum with sign numbers -/
def term (ns : List Int) (n : Nat) (d : Int) : Int := mu (n / d.toNat) * ns.getD (d.toNat - 1) 0
def total (ns : List Int) (n : Nat) : Int := ((dvs n).map (term ns n)).sum
abbrev s_test_total : Stmt := top 57
abbrev N_test_total : List Str := ["numbers", "number", "part"]
theorem sc_test_total : FnScope N_test_total ["numbers", "number"] (defScope s_test_total) := ⟨rfl, rfl, rfl, by decide +kernel, rfl, by decide +kernel, by decide +kernel⟩
def sp_test_total (K : PySem.W.Frag) : Sp := fun vs H Q _ => ∃ (a : Addr) (ns : List Int) (n : Nat), vs = [.ref a, .int (n : Int)] ∧ H a = some (.tup (ns.map V.int)) ∧ (1 ≤ n ∧ n ≤ 24 ∧ n ≤ ns.length) ∧ ∀ H', Evl.Ex H H' → Q (.int (total ns n)) H'
theorem ok_test_total (B : Bt mg) (D : DefAt K mg "test_total" s_test_total) (c_divisors_in : Cal P w K mg base "divisors_in" 2 (sp_divisors_in)) (c_moebius_in : Cal P w K mg base "moebius_in" 2 (sp_moebius_in)) : Cal P w K mg base "test_total" 3 (sp_test_total K) := by
  refine D.cal sc_test_total (fun vs H Q E h => ?_) (fun _ _ _ _ _ _ us hl => match us, hl with | [_, _], _ => rfl) (fun cfa cdv cA cO cs H vs Q E hr h => ?_)
  · obtain ⟨a, ns, n, rfl, ha, hn, q⟩ := h
    rfl
  obtain ⟨a, ns, n, rfl, ha, hn, q⟩ := h
  refine ⟨_, (pss_one (ps_ret (pe_callB (cr_sum rfl) (by rfl) B.sum (by decide +kernel) (pa_cons (pe_lc (own := [("part", 2)]) rfl sc_test_total.nd (pi_list (pe_cal c_divisors_in (hr.mono (by decide)) (by rfl) (pa_cons (pv 1) pa_nil))) (blkOk_by (N := N_test_total) (sc := defScope s_test_total) (by decide +kernel)) (fun _ _ _ _ _ => (pg_name (x := "part") (i := 2) sc_test_total.nd rfl (by first | exact .inl rfl | exact .inr rfl))) (fun _ _ _ _ _ => pts_nil) (fun _ _ _ _ _ => (pe_op op_mul (pe_cal c_moebius_in (hr.mono (by decide)) (by rfl) (pa_cons (pe_op op_fdivW (pv 1) (pv 2)) pa_nil)) (pe_ix (r := rIxT K) ix_tup (pv 0) (pe_op op_sub (pv 2) pe_int) (fun _ _ => rfl))))) pa_nil)))), ?_⟩
  walk_at "rd"
  refine ⟨n, rfl, by omega, fun d H1 hd he1 hk1 => ⟨d, rfl, ⟨_, sqL hk1⟩, fun D hD => lc_list (xs := (dvs n).map V.int) (fun k H2 => Evl.Ex H1 H2 ∧ H2 D = some (.lst ((((dvs n).take k).map (term ns n)).map V.int))) ⟨Evl.Ex.new hD, upd_same⟩ (fun k H2 _ hp => sqL (hp.1 d _ hk1)) (fun k x H2 hx hp => ?_) (fun H2 hp => ?_)⟩⟩
  · obtain ⟨he2, hl2⟩ := hp
    obtain ⟨u, hu, rfl⟩ := geti hx
    obtain ⟨j, rfl, hj⟩ := mem_dvs (List.mem_of_getElem? hu)
    walk_at "rd"
    refine ⟨rfl, ?_⟩
    walk_at "rd"
    refine iteT ?_
    walk_at "rd"
    refine r_I (wide_div (by omega) (b := 20) (by omega) (by decide) (by decide)) ?_
    walk_at "rd"
    have hnj : 1 ≤ n / j := Nat.div_pos (by omega) (by omega)
    have hnj2 : n / j ≤ n := Nat.div_le_self n j
    refine ⟨n / j, by rw [Int.natCast_ediv], by omega, fun H3 he3 => ?_⟩
    walk_at "rd"
    refine r_ixT (sqT ((he1.trans (he2.trans he3)) a _ ha)) (i := (j : Int) - 1) (v := .int (ns.getD (j - 1) 0)) ?_ ?_
    · rw [show (j : Int) - 1 = ((j - 1 : Nat) : Int) by omega]
      refine atI_nat ?_
      rw [List.getElem?_map, List.getD_eq_getElem?_getD, List.getElem?_eq_getElem (show j - 1 < ns.length by omega)]
      rfl
    · have hm := mu_small (n / j)
      refine r_I (.inl (by omega)) ?_
      refine cw_put (he2.trans he3) hD (he3 D _ hl2) ?_ ?_
      · rw [take_map hu, List.map_append]
        rfl
      · rw [List.length_map, List.length_map, List.length_take]
        have := dvsU_len n n
        unfold dvs
        omega
  · obtain ⟨he2, hl2⟩ := hp
    rw [List.length_map, take_all] at hl2
    walk_at "rd"
    refine r_sum (sqL hl2) ?_
    walk_at "rd"
    exact q H2 (he1.trans he2)
def badN (ns : List Int) (n : Nat) : Bool := decide (total ns n % (n : Int) ≠ 0)
/-- the least index at which the first test fails -/
def faultN (ns : List Int) : Option Nat := ((List.range ns.length).map (· + 1)).find? (badN ns)
def optV : Option Nat → V
  | none => .non
  | some n => .int (n : Int)
theorem find_range {p : Nat → Bool} {n i : Nat} (hi : i < n) (h0 : ∀ j < i, p (j + 1) = false) (h1 : p (i + 1) = true) : ((List.range n).map (· + 1)).find? p = some (i + 1) := by
  have e : List.range n = List.range i ++ (i :: (List.range (n - i - 1)).map (fun k => k + i + 1)) := by
    apply List.ext_getElem?
    intro k
    by_cases hk : k < i
    · rw [List.getElem?_append_left (by simpa using hk), List.getElem?_range (by omega), List.getElem?_range hk]
    · rw [List.getElem?_append_right (by simpa using hk), List.length_range]
      by_cases hk2 : k < n
      · rw [List.getElem?_range hk2]
        cases hd : k - i with
        | zero => rw [List.getElem?_cons_zero, show k = i by omega]
        | succ m => rw [List.getElem?_cons_succ, List.getElem?_map, List.getElem?_range (by omega)]; simp; omega
      · rw [List.getElem?_eq_none (by simpa using hk2)]
        symm
        apply List.getElem?_eq_none
        simp
        omega
  rw [e, List.map_append, List.find?_append]
  have e0 : ((List.range i).map (· + 1)).find? p = none := by
    rw [List.find?_eq_none]
    intro x hx
    obtain ⟨j, hj, rfl⟩ := List.mem_map.mp hx
    rw [h0 j (List.mem_range.mp hj)]
    decide
  rw [e0, List.map_cons, List.find?_cons, h1]
  rfl
theorem find_none {p : Nat → Bool} {n : Nat} (h0 : ∀ j < n, p (j + 1) = false) : ((List.range n).map (· + 1)).find? p = none := by
  rw [List.find?_eq_none]
  intro x hx
  obtain ⟨j, hj, rfl⟩ := List.mem_map.mp hx
  rw [h0 j (List.mem_range.mp hj)]
  decide
abbrev s_fault_in : Stmt := top 58
abbrev N_fault_in : List Str := ["numbers", "number"]
theorem sc_fault_in : FnScope N_fault_in ["numbers"] (defScope s_fault_in) := ⟨rfl, rfl, rfl, by decide +kernel, rfl, by decide +kernel, by decide +kernel⟩
def sp_fault_in (K : PySem.W.Frag) : Sp := fun vs H Q _ => ∃ (a : Addr) (ns : List Int), vs = [.ref a] ∧ H a = some (.tup (ns.map V.int)) ∧ ns.length ≤ 24 ∧ ∀ H', Evl.Ex H H' → Q (optV (faultN ns)) H'
theorem ok_fault_in (B : Bt mg) (D : DefAt K mg "fault_in" s_fault_in) (c_test_total : Cal P w K mg base "test_total" 3 (sp_test_total K)) : Cal P w K mg base "fault_in" 4 (sp_fault_in K) := by
  refine D.cal sc_fault_in (fun vs H Q E h => ?_) (fun _ _ _ _ _ _ us hl => match us, hl with | [_], _ => rfl) (fun cfa cdv cA cO cs H vs Q E hr h => ?_)
  · obtain ⟨a, ns, rfl, ha, hn, q⟩ := h
    rfl
  obtain ⟨a, ns, rfl, ha, hn, q⟩ := h
  refine ⟨_, (pss_cons (ps_for PassesOwn.never rfl (pi_range2 (by rfl) B.range (pa_cons pe_int (pa_cons (pe_op op_add (pe_callB (k_len) (by rfl) B.len (by decide +kernel) (pa_cons (pv 0) pa_nil)) pe_int) pa_nil))) (pg_name (i := 1) sc_fault_in.nd rfl (by first | exact .inl rfl | exact .inr rfl)) (pss_one (ps_if (pt_cmpR op_ne (pe_op op_mod (pe_cal c_test_total (hr.mono (by decide)) (by rfl) (pa_cons (pv 0) (pa_cons (pv 1) pa_nil))) (pv 1)) pe_int (nomark _)) (pss_one (ps_ret (pv 1))) pss_nil)))
      (pss_one (ps_ret pe_non))), ?_⟩
  walk_at "rd"
  refine r_lenT (sqT ha) ?_
  walk_at "rd"
  refine ⟨_, _, rfl, by rw [List.length_map]; omega, for_range (lo := 1) (n := (((ns.map V.int).length : Int) + 1 - 1).toNat) (fun i σ' H' => ∃ y, σ' = [some (.ref a), y] ∧ Evl.Ex H H' ∧ ∀ j < i, badN ns (j + 1) = false) ⟨_, rfl, Evl.Ex.refl _, fun j hj => absurd hj (Nat.not_lt_zero _)⟩ (fun i σ' H' hi hp => ?_) (fun σ' H' hp => ?_)⟩
  · obtain ⟨y, rfl, he, hall⟩ := hp
    have hi2 : i < ns.length := by rw [List.length_map] at hi; omega
    walk_at "rd"
    refine ⟨a, ns, i + 1, by rw [Int.natCast_add, Int.add_comm]; rfl, he a _ ha, by omega, fun H2 he2 => ?_⟩
    walk_at "rd"
    refine r_I (by omega) ?_
    walk_at "rd"
    have eb : badN ns (i + 1) = decide (total ns (i + 1) % (1 + (i : Int)) ≠ 0) := by
      unfold badN
      rw [show ((i + 1 : Nat) : Int) = 1 + (i : Int) by omega]
    refine ite_nd (fun z => ?_) (fun z => ?_)
    · walk_at "rd"
      have hf : faultN ns = some (i + 1) := find_range hi2 hall (by rw [eb]; exact decide_eq_true z)
      have q2 := q H2 (he.trans he2)
      rw [hf] at q2
      have e3 : optV (some (i + 1)) = V.int (1 + (i : Int)) := by
        show V.int (((i + 1 : Nat)) : Int) = _
        rw [show ((i + 1 : Nat) : Int) = 1 + (i : Int) by omega]
      rw [e3] at q2
      exact q2
    · walk_at "rd"
      refine ⟨_, rfl, he.trans he2, fun j hj => ?_⟩
      rcases Nat.lt_succ_iff_lt_or_eq.mp hj with h | rfl
      · exact hall j h
      · rw [eb]
        exact decide_eq_false (by simpa using z)
  · obtain ⟨y, rfl, he, hall⟩ := hp
    walk_at "rd"
    have hf : faultN ns = none := find_none fun j hj => hall j (by rw [List.length_map]; omega)
    have q2 := q H' he
    rw [hf] at q2
    exact q2
end
end G
set_option Elab.async false
set_option linter.all false
set_option maxRecDepth 100000
set_option maxHeartbeats 4000000
namespace G
open PySem PySem.Spec PyProof.Rows L2
local macro_rules | `(tactic| walk_at "rd") => `(tactic| repeat (first
  | (with_reducible first
  | refine r_seq ?_ | refine r_asg ?_ | refine r_c ?_ | refine r_op ?_ | refine r_cons ?_ | refine r_nil ?_ | refine r_cb ?_ | refine r_cal ?_ | refine r_I0 ?_ | refine r_gname ?_
  | refine r_test ?_ | refine r_k ?_ | refine r_B ?_ | refine r_ifs ?_ | refine r_eqI ?_ | refine r_neI ?_ | refine r_un ?_ | refine r_U ?_ | refine r_par ?_ | refine r_vw ?_ | refine r_ret ?_ | refine r_drop ?_
  | refine r_next ?_ | refine r_not ?_ | refine r_and ?_ | refine r_or ?_ | refine r_if ?_ | refine r_chain ?_ | refine r_ipI ?_ | refine r_abs ?_ | refine r_int1 ?_ | refine r_int1b ?_ | refine r_eqB ?_ | refine r_neB ?_
  | refine r_max2 ?_ | refine r_min2 ?_ | refine r_gcd ?_ | refine r_tup ?_ | refine r_lst ?_ | refine r_bm ?_ | refine r_for ?_ | refine r_rng1 ?_ | refine r_rng2 ?_ | refine r_ilist ?_ | refine r_itup ?_ | refine r_yes ?_ | refine r_lc ?_ | refine r_sub ?_
  | refine r_gcons ?_ | refine r_gnil ?_ | refine r_andV0 ?_ | refine r_orV0 ?_ | refine r_notV ?_ | refine r_par3 ?_ | refine r_vwz ?_ | refine r_isN ?_ | refine r_notN ?_)
  | ((with_reducible refine' r_var ?k1 ?_); (case k1 => exact rfl))
  | ((with_reducible refine' r_aug ?k1 ?_); (case k1 => exact rfl))))
section
variable {P : Program} {w : World} {K : PySem.W.Frag} {mg : Str → Option Value} {base : Heap}
def numsOk (xs : List V) : Bool := decide (1 ≤ xs.length) && decide (xs.length ≤ 24) && xs.all shortV
/-- any value, as are_numbers takes it -/
def AnyV (K : PySem.W.Frag) (H : Hp) (v : V) (b : Bool) : Prop := (∃ T, TyX K H v (.type T) ∧ kitB T "tuple" = some false ∧ b = false) ∨ ∃ (p : Addr) (xs : List V), v = .ref p ∧ H p = some (.tup xs) ∧ xs.length ≤ 1000 ∧ (∀ x ∈ xs, Sc x) ∧ b = numsOk xs
abbrev s_are_numbers : Stmt := top 55
abbrev N_are_numbers : List Str := ["value", "number"]
theorem sc_are_numbers : FnScope N_are_numbers ["value"] (defScope s_are_numbers) := ⟨rfl, rfl, rfl, by decide +kernel, rfl, by decide +kernel, by decide +kernel⟩
def sp_are_numbers (K : PySem.W.Frag) : Sp := fun vs H Q _ => ∃ (v : V) (b : Bool), vs = [v] ∧ AnyV K H v b ∧ ∀ H', Evl.Ex H H' → Q (.bl b) H'
theorem ok_are_numbers (B : Bt mg) (D : DefAt K mg "are_numbers" s_are_numbers) (c_is_short : Cal P w K mg base "is_short" 2 (sp_is_short)) : Cal P w K mg base "are_numbers" 3 (sp_are_numbers K) := by
  refine D.cal sc_are_numbers (fun vs H Q E h => ?_) (fun _ _ _ _ _ _ us hl => match us, hl with | [_], _ => rfl) (fun cfa cdv cA cO cs H vs Q E hr h => ?_)
  · obtain ⟨v, b, rfl, hv, q⟩ := h
    rfl
  obtain ⟨v, b, rfl, hv, q⟩ := h
  refine ⟨_, (pss_cons (ps_if (PW.pt (pw_or (pt_not (pt_val (pe_callB (call_isi) (by rfl) B.isinstance (by decide +kernel) (pa_cons (pv 0) (pa_cons (pe_ty (n := "tuple") (by rfl) B.tuple (by decide +kernel)) pa_nil))))) (pw_or1 (pt_not (pt_chain op_le op_le pe_int (pe_callB (k_len) (by rfl) B.len (by decide +kernel) (pa_cons (pv 0) pa_nil)) (pe_gint (by rfl) B.MAX_GHOSTS)))))) (pss_one (ps_ret pe_bl)) pss_nil)
      (pss_one (ps_ret (pe_callB (cr_all rfl) (by rfl) B.all (by decide +kernel) (pa_cons (pe_lc (own := [("number", 1)]) rfl sc_are_numbers.nd (pi_tup (pv 0)) (blkOk_by (N := N_are_numbers) (sc := defScope s_are_numbers) (by decide +kernel)) (fun _ _ _ _ _ => (pg_name (x := "number") (i := 1) sc_are_numbers.nd rfl (by first | exact .inl rfl | exact .inr rfl))) (fun _ _ _ _ _ => pts_nil) (fun _ _ _ _ _ => (pe_cal c_is_short (hr.mono (by decide)) (by rfl) (pa_cons (pv 1) pa_nil)))) pa_nil))))), ?_⟩
  walk_at "rd"
  rcases hv with ⟨T, hT, hk, rfl⟩ | ⟨p, xs, rfl, hp, hlen, hsc, rfl⟩
  · refine r_isi hT hk ?_
    walk_at "rd"
    refine iteT ?_
    walk_at "rd"
    exact q H (Evl.Ex.refl _)
  · refine r_isi (.base (.tup hp)) (r := true) (by decide +kernel) ?_
    walk_at "rd"
    refine iteF ?_
    walk_at "rd"
    refine r_lenT (sqT hp) ?_
    walk_at "rd"
    refine ite_d (fun e => ?_) (fun e => ?_)
    · walk_at "rd"
      refine ite_nd (fun e2 => ?_) (fun e2 => ?_)
      · walk_at "rd"
        have e3 : numsOk xs = false := by
          unfold numsOk
          rw [show decide (xs.length ≤ 24) = false from decide_eq_false (by omega), Bool.and_false, Bool.false_and]
        rw [e3] at q
        exact q H (Evl.Ex.refl _)
      · walk_at "rd"
        refine ⟨p, rfl, ⟨_, sqT hp⟩, fun D hD => lc_tup (xs := xs) (fun k H2 => Evl.Ex H H2 ∧ H2 D = some (.lst (((xs.take k).map shortV).map V.bl))) ⟨Evl.Ex.new hD, upd_same⟩ (fun k H2 _ hp2 => sqT (hp2.1 p _ hp)) (fun k x H2 hx hp2 => ?_) (fun H2 hp2 => ?_)⟩
        · obtain ⟨he2, hl2⟩ := hp2
          walk_at "rd"
          refine ⟨rfl, ?_⟩
          walk_at "rd"
          refine iteT ?_
          walk_at "rd"
          refine ⟨x, rfl, hsc x (List.mem_of_getElem? hx), ?_⟩
          refine cw_put he2 hD hl2 ?_ ?_
          · rw [take_map hx, List.map_append]
            rfl
          · rw [List.length_map, List.length_map, List.length_take]
            omega
        · obtain ⟨he2, hl2⟩ := hp2
          rw [take_all] at hl2
          walk_at "rd"
          refine ⟨D, xs.map shortV, rfl, sqL hl2, ?_⟩
          have e3 : numsOk xs = (xs.map shortV).all id := by
            unfold numsOk
            rw [show decide (xs.length ≤ 24) = true from decide_eq_true (by omega), show decide (1 ≤ xs.length) = true from decide_eq_true (by omega), List.all_map]
            rfl
          rw [e3] at q
          exact q H2 he2
    · walk_at "rd"
      refine iteT ?_
      walk_at "rd"
      have e3 : numsOk xs = false := by
        unfold numsOk
        rw [show decide (1 ≤ xs.length) = false from decide_eq_false (by omega), Bool.false_and, Bool.false_and]
      rw [e3] at q
      exact q H (Evl.Ex.refl _)
theorem sc_ints (ns : List Int) : ∀ x ∈ ns.map V.int, Sc x := fun x hx => by
  obtain ⟨n, _, rfl⟩ := List.mem_map.mp hx
  exact .inr (.inr ⟨n, rfl⟩)
def Good (ns : List Int) : Prop := 1 ≤ ns.length ∧ ns.length ≤ 24 ∧ ∀ n ∈ ns, -FARn < n ∧ n < FARn
theorem good_ok {ns : List Int} (h : Good ns) : numsOk (ns.map V.int) = true := by
  unfold numsOk
  rw [List.length_map, decide_eq_true h.1, decide_eq_true h.2.1, List.all_map]
  show (true && true && ns.all fun n => shortV (.int n)) = true
  rw [Bool.true_and, Bool.true_and, List.all_eq_true]
  exact fun n hn => short_of (h.2.2 n hn)
theorem good_any {K : PySem.W.Frag} {H : Hp} {p : Addr} {ns : List Int} (h : Good ns) (hp : H p = some (.tup (ns.map V.int))) : AnyV K H (.ref p) true :=
  .inr ⟨p, _, rfl, hp, by rw [List.length_map]; have := h.2.1; omega, sc_ints ns, (good_ok h).symm⟩
abbrev s_require_numbers : Stmt := top 56
abbrev N_require_numbers : List Str := ["value"]
theorem sc_require_numbers : FnScope N_require_numbers ["value"] (defScope s_require_numbers) := ⟨rfl, rfl, rfl, by decide +kernel, rfl, by decide +kernel, by decide +kernel⟩
def sp_require_numbers (K : PySem.W.Frag) : Sp := fun vs H Q _ => ∃ (p : Addr) (ns : List Int), vs = [.ref p] ∧ H p = some (.tup (ns.map V.int)) ∧ Good ns ∧ ∀ H', Evl.Ex H H' → Q .non H'
theorem ok_require_numbers (B : Bt mg) (D : DefAt K mg "require_numbers" s_require_numbers) (c_are_numbers : Cal P w K mg base "are_numbers" 3 (sp_are_numbers K)) : Cal P w K mg base "require_numbers" 4 (sp_require_numbers K) := by
  refine D.cal sc_require_numbers (fun vs H Q E h => ?_) (fun _ _ _ _ _ _ us hl => match us, hl with | [_], _ => rfl) (fun cfa cdv cA cO cs H vs Q E hr h => ?_)
  · obtain ⟨p, ns, rfl, hp, hg, q⟩ := h
    rfl
  obtain ⟨p, ns, rfl, hp, hg, q⟩ := h
  refine ⟨_, (pss_one (ps_if (pt_not (pt_val (pe_cal c_are_numbers (hr.mono (by decide)) (by rfl) (pa_cons (pv 0) pa_nil)))) (pss_one ps_never) pss_nil)), ?_⟩
  walk_at "rd"
  refine ⟨.ref p, true, rfl, good_any hg hp, fun H1 he1 => ?_⟩
  walk_at "rd"
  refine iteF ?_
  walk_at "rd"
  exact q H1 he1
abbrev s_are_ghosts : Stmt := top 59
abbrev N_are_ghosts : List Str := ["value"]
theorem sc_are_ghosts : FnScope N_are_ghosts ["value"] (defScope s_are_ghosts) := ⟨rfl, rfl, rfl, by decide +kernel, rfl, by decide +kernel, by decide +kernel⟩
def sp_are_ghosts (K : PySem.W.Frag) : Sp := fun vs H Q _ => ∃ (v : V) (b : Bool), vs = [v] ∧ (AnyV K H v false ∧ b = false ∨ ∃ (p : Addr) (ns : List Int), v = .ref p ∧ H p = some (.tup (ns.map V.int)) ∧ Good ns ∧ b = (faultN ns).isNone) ∧ ∀ H', Evl.Ex H H' → Q (.bl b) H'
theorem ok_are_ghosts (B : Bt mg) (D : DefAt K mg "are_ghosts" s_are_ghosts) (c_are_numbers : Cal P w K mg base "are_numbers" 3 (sp_are_numbers K)) (c_fault_in : Cal P w K mg base "fault_in" 4 (sp_fault_in K)) : Cal P w K mg base "are_ghosts" 5 (sp_are_ghosts K) := by
  refine D.cal sc_are_ghosts (fun vs H Q E h => ?_) (fun _ _ _ _ _ _ us hl => match us, hl with | [_], _ => rfl) (fun cfa cdv cA cO cs H vs Q E hr h => ?_)
  · obtain ⟨v, b, rfl, hv, q⟩ := h
    rfl
  obtain ⟨v, b, rfl, hv, q⟩ := h
  refine ⟨_, (pss_one (ps_ret (pe_and (pe_cal c_are_numbers (hr.mono (by decide)) (by rfl) (pa_cons (pv 0) pa_nil)) (pe_one (pe_cmpR o_isN (pe_cal c_fault_in (hr.mono (by decide)) (by rfl) (pa_cons (pv 0) pa_nil)) pe_non (nomark _)))))), ?_⟩
  walk_at "rd"
  rcases hv with ⟨hv, rfl⟩ | ⟨p, ns, rfl, hp, hg, rfl⟩
  · refine ⟨v, false, rfl, hv, fun H1 he1 => ?_⟩
    walk_at "rd"
    refine iteF ?_
    exact q H1 he1
  · refine ⟨.ref p, true, rfl, good_any hg hp, fun H1 he1 => ?_⟩
    walk_at "rd"
    refine iteT ?_
    walk_at "rd"
    refine ⟨p, ns, rfl, he1 p _ hp, hg.2.1, fun H2 he2 => ?_⟩
    walk_at "rd"
    have e : decide (optV (faultN ns) = V.non) = (faultN ns).isNone := by
      cases faultN ns with
      | none => rfl
      | some k => exact decide_eq_false fun z => nomatch z
    rw [e]
    exact q H2 (he1.trans he2)
abbrev s_ghost_fault : Stmt := top 60
abbrev N_ghost_fault : List Str := ["numbers"]
theorem sc_ghost_fault : FnScope N_ghost_fault ["numbers"] (defScope s_ghost_fault) := ⟨rfl, rfl, rfl, by decide +kernel, rfl, by decide +kernel, by decide +kernel⟩
def sp_ghost_fault (K : PySem.W.Frag) : Sp := fun vs H Q _ => ∃ (p : Addr) (ns : List Int), vs = [.ref p] ∧ H p = some (.tup (ns.map V.int)) ∧ Good ns ∧ ∀ H', Evl.Ex H H' → Q (optV (faultN ns)) H'
theorem ok_ghost_fault (B : Bt mg) (D : DefAt K mg "ghost_fault" s_ghost_fault) (c_require_numbers : Cal P w K mg base "require_numbers" 4 (sp_require_numbers K)) (c_fault_in : Cal P w K mg base "fault_in" 4 (sp_fault_in K)) : Cal P w K mg base "ghost_fault" 5 (sp_ghost_fault K) := by
  refine D.cal sc_ghost_fault (fun vs H Q E h => ?_) (fun _ _ _ _ _ _ us hl => match us, hl with | [_], _ => rfl) (fun cfa cdv cA cO cs H vs Q E hr h => ?_)
  · obtain ⟨p, ns, rfl, hp, hg, q⟩ := h
    rfl
  obtain ⟨p, ns, rfl, hp, hg, q⟩ := h
  refine ⟨_, (pss_cons (ps_expr (pe_cal c_require_numbers (hr.mono (by decide)) (by rfl) (pa_cons (pv 0) pa_nil)))
      (pss_one (ps_ret (pe_cal c_fault_in (hr.mono (by decide)) (by rfl) (pa_cons (pv 0) pa_nil))))), ?_⟩
  walk_at "rd"
  refine ⟨p, ns, rfl, hp, hg, fun H1 he1 => ?_⟩
  walk_at "rd"
  exact ⟨p, ns, rfl, he1 p _ hp, hg.2.1, fun H2 he2 => q H2 (he1.trans he2)⟩
abbrev s_law_by_signs : Stmt := top 80
abbrev N_law_by_signs : List Str := ["_law_numbers", "_law_n", "_law_d"]
theorem sc_law_by_signs : FnScope N_law_by_signs ["_law_numbers"] (defScope s_law_by_signs) := ⟨rfl, rfl, rfl, by decide +kernel, rfl, by decide +kernel, by decide +kernel⟩
def sp_law_by_signs (K : PySem.W.Frag) : Sp := fun vs H Q _ => ∃ (a : Addr) (ns : List Int), vs = [.ref a] ∧ H a = some (.tup (ns.map V.int)) ∧ ns.length ≤ 24 ∧ ∀ H', Evl.Ex H H' → Q (optV (faultN ns)) H'
theorem ok_law_by_signs (B : Bt mg) (D : DefAt K mg "_law_by_signs" s_law_by_signs) (c_moebius : Cal P w K mg base "moebius" 6 (sp_moebius)) (c_law_gh_divisors : Cal P w K mg base "_law_gh_divisors" 1 (sp_law_gh_divisors)) : Cal P w K mg base "_law_by_signs" 7 (sp_law_by_signs K) := by
  refine D.cal sc_law_by_signs (fun vs H Q E h => ?_) (fun _ _ _ _ _ _ us hl => match us, hl with | [_], _ => rfl) (fun cfa cdv cA cO cs H vs Q E hr h => ?_)
  · obtain ⟨a, ns, rfl, ha, hn, q⟩ := h
    rfl
  obtain ⟨a, ns, rfl, ha, hn, q⟩ := h
  refine ⟨_, (pss_cons (ps_for PassesOwn.never rfl (pi_range2 (by rfl) B.range (pa_cons pe_int (pa_cons (pe_op op_add (pe_callB (k_len) (by rfl) B.len (by decide +kernel) (pa_cons (pv 0) pa_nil)) pe_int) pa_nil))) (pg_name (i := 1) sc_law_by_signs.nd rfl (by first | exact .inl rfl | exact .inr rfl)) (pss_one (ps_if (pt_cmpR op_ne (pe_op op_mod (pe_callB (cr_sum rfl) (by rfl) B.sum (by decide +kernel) (pa_cons (pe_lc (own := [("_law_d", 2)]) rfl sc_law_by_signs.nd (pi_list (pe_cal c_law_gh_divisors (hr.mono (by decide)) (by rfl) (pa_cons (pv 1) pa_nil))) (blkOk_by (N := N_law_by_signs) (sc := defScope s_law_by_signs) (by decide +kernel)) (fun _ _ _ _ _ => (pg_name (x := "_law_d") (i := 2) sc_law_by_signs.nd rfl (by first | exact .inl rfl | exact .inr rfl))) (fun _ _ _ _ _ => pts_nil) (fun _ _ _ _ _ => (pe_op op_mul (pe_cal c_moebius (hr.mono (by decide)) (by rfl) (pa_cons (pe_op op_fdivW (pv 1) (pv 2)) pa_nil)) (pe_ix (r := rIxT K) ix_tup (pv 0) (pe_op op_sub (pv 2) pe_int) (fun _ _ => rfl))))) pa_nil)) (pv 1)) pe_int (nomark _)) (pss_one (ps_ret (pv 1))) pss_nil)))
      (pss_one (ps_ret pe_non))), ?_⟩
  walk_at "rd"
  refine r_lenT (sqT ha) ?_
  walk_at "rd"
  refine ⟨_, _, rfl, by rw [List.length_map]; omega, for_range (lo := 1) (n := (((ns.map V.int).length : Int) + 1 - 1).toNat) (fun i σ' H' => ∃ y z, σ' = [some (.ref a), y, z] ∧ Evl.Ex H H' ∧ ∀ j < i, badN ns (j + 1) = false) ⟨_, _, rfl, Evl.Ex.refl _, fun j hj => absurd hj (Nat.not_lt_zero _)⟩ (fun i σ' H0 hi hp => ?_) (fun σ' H' hp => ?_)⟩
  · obtain ⟨y, z, rfl, he, hall⟩ := hp
    have hi2 : i < ns.length := by rw [List.length_map] at hi; omega
    have ha0 := he a _ ha
    walk_at "rd"
    refine ⟨i + 1, by rw [Int.natCast_add, Int.add_comm]; rfl, by omega, fun d hd H1 he1 hk1 => ⟨d, rfl, ⟨_, sqL hk1⟩, fun D hD => lc_list (xs := (dvs (i + 1)).map V.int) (fun k H2 => Evl.Ex H1 H2 ∧ H2 D = some (.lst ((((dvs (i + 1)).take k).map (term ns (i + 1))).map V.int))) ⟨Evl.Ex.new hD, upd_same⟩ (fun k H2 _ hp => sqL (hp.1 d _ hk1)) (fun k x H2 hx hp => ?_) (fun H2 hp => ?_)⟩⟩
    · obtain ⟨he2, hl2⟩ := hp
      obtain ⟨u, hu, rfl⟩ := geti hx
      obtain ⟨j, rfl, hj⟩ := mem_dvs (List.mem_of_getElem? hu)
      walk_at "rd"
      refine ⟨rfl, ?_⟩
      walk_at "rd"
      refine iteT ?_
      walk_at "rd"
      refine r_I (wide_div (by omega) (b := 20) (by omega) (by decide) (by decide)) ?_
      walk_at "rd"
      have hnj : 1 ≤ (i + 1) / j := Nat.div_pos (by omega) (by omega)
      have hnj2 : (i + 1) / j ≤ i + 1 := Nat.div_le_self _ j
      refine ⟨(i + 1) / j, by rw [Int.natCast_ediv, Int.natCast_add, Int.add_comm]; rfl, by omega, fun H3 he3 => ?_⟩
      walk_at "rd"
      refine r_ixT (sqT ((he1.trans (he2.trans he3)) a _ ha0)) (i := (j : Int) - 1) (v := .int (ns.getD (j - 1) 0)) ?_ ?_
      · rw [show (j : Int) - 1 = ((j - 1 : Nat) : Int) by omega]
        refine atI_nat ?_
        rw [List.getElem?_map, List.getD_eq_getElem?_getD, List.getElem?_eq_getElem (show j - 1 < ns.length by omega)]
        rfl
      · have hm := mu_small ((i + 1) / j)
        refine r_I (.inl (by omega)) ?_
        refine cw_put (he2.trans he3) hD (he3 D _ hl2) ?_ ?_
        · rw [take_map hu, List.map_append]
          rfl
        · rw [List.length_map, List.length_map, List.length_take]
          have := dvsU_len (i + 1) (i + 1)
          unfold dvs
          omega
    · obtain ⟨he2, hl2⟩ := hp
      rw [List.length_map, take_all] at hl2
      walk_at "rd"
      refine r_sum (sqL hl2) ?_
      walk_at "rd"
      refine r_I (by omega) ?_
      walk_at "rd"
      have eb : badN ns (i + 1) = decide (total ns (i + 1) % (1 + (i : Int)) ≠ 0) := by
        unfold badN
        rw [show ((i + 1 : Nat) : Int) = 1 + (i : Int) by omega]
      refine ite_nd (fun z => ?_) (fun z => ?_)
      · walk_at "rd"
        have hf : faultN ns = some (i + 1) := find_range hi2 hall (by rw [eb]; exact decide_eq_true z)
        have q2 := q H2 (he.trans (he1.trans he2))
        rw [hf] at q2
        have e3 : optV (some (i + 1)) = V.int (1 + (i : Int)) := by
          show V.int (((i + 1 : Nat)) : Int) = _
          rw [show ((i + 1 : Nat) : Int) = 1 + (i : Int) by omega]
        rw [e3] at q2
        exact q2
      · walk_at "rd"
        refine ⟨_, _, rfl, he.trans (he1.trans he2), fun j hj => ?_⟩
        rcases Nat.lt_succ_iff_lt_or_eq.mp hj with h | rfl
        · exact hall j h
        · rw [eb]
          exact decide_eq_false (by simpa [total] using z)
  · obtain ⟨y, z, rfl, he, hall⟩ := hp
    walk_at "rd"
    have hf : faultN ns = none := find_none fun j hj => hall j (by rw [List.length_map]; omega)
    have q2 := q H' he
    rw [hf] at q2
    exact q2
end
end G
set_option linter.all false
namespace G
/-! ### sums -/
def sm : Nat → (Nat → Int) → Int
  | 0, _ => 0
  | n + 1, g => sm n g + g n
theorem sm_congr {g h : Nat → Int} : ∀ n, (∀ i < n, g i = h i) → sm n g = sm n h
  | 0, _ => rfl
  | n + 1, e => by rw [sm, sm, sm_congr n fun i hi => e i (Nat.lt_succ_of_lt hi), e n (Nat.lt_succ_self n)]
theorem sm_sub {g h : Nat → Int} : ∀ n, sm n (fun i => g i - h i) = sm n g - sm n h
  | 0 => rfl
  | n + 1 => by rw [sm, sm, sm, sm_sub n]; omega
theorem sm_mul {g : Nat → Int} {c : Int} : ∀ n, sm n (fun i => c * g i) = c * sm n g
  | 0 => by simp [sm]
  | n + 1 => by rw [sm, sm, sm_mul n, Int.mul_add]
theorem sm_zero : ∀ n, sm n (fun _ => 0) = 0
  | 0 => rfl
  | n + 1 => by rw [sm, sm_zero n]; rfl
theorem sm_split {g : Nat → Int} (k : Nat) : ∀ n, sm (k + n) g = sm k g + sm n (fun i => g (k + i))
  | 0 => by simp [sm]
  | n + 1 => by rw [← Nat.add_assoc, sm, sm, sm_split k n]; omega
theorem sm_dvd {g : Nat → Int} {q : Int} : ∀ n, (∀ i < n, q ∣ g i) → q ∣ sm n g
  | 0, _ => Int.dvd_zero q
  | n + 1, e => Int.dvd_add (sm_dvd n fun i hi => e i (Nat.lt_succ_of_lt hi)) (e n (Nat.lt_succ_self n))
theorem sm_trunc {g : Nat → Int} {k : Nat} : ∀ n, k ≤ n → sm n (fun i => if i < k then g i else 0) = sm k g := fun n h => by
  obtain ⟨r, rfl⟩ := Nat.le.dest h
  rw [sm_split k r, sm_congr (h := g) k (fun i hi => by rw [if_pos hi]), sm_congr (h := fun _ => 0) r (fun i hi => by rw [if_neg (by omega)]), sm_zero]
  omega
/-! ### rows and their coefficients -/
def S (a f : Nat → Int) (n : Nat) : Int := sm n fun i => a (i + 1) * f (n - 1 - i)
def Rr (a f : Nat → Int) (n : Nat) : Int := (n : Int) * f n - S a f n
def df (d : Nat) (f : Nat → Int) (n : Nat) : Int := if n < d then f n else f n - f (n - d)
def dl (d n : Nat) : Int := if d ∣ n then (d : Int) else 0
def da (d : Nat) (a : Nat → Int) (n : Nat) : Int := a n - dl d n
theorem S_f {d : Nat} (a f : Nat → Int) (n : Nat) : S a (df d f) n = S a f n - (if n < d then 0 else S a f (n - d)) := by
  have e1 : S a (df d f) n = S a f n - sm n (fun i => if i < n - d then a (i + 1) * f (n - d - 1 - i) else 0) := by
    unfold S
    rw [← sm_sub]
    refine sm_congr n fun i hi => ?_
    show a (i + 1) * (if n - 1 - i < d then f (n - 1 - i) else f (n - 1 - i) - f (n - 1 - i - d)) = _
    by_cases h : n - 1 - i < d
    · rw [if_pos h, if_neg (by omega)]; omega
    · rw [if_neg h, if_pos (by omega), Int.mul_sub, show n - 1 - i - d = n - d - 1 - i by omega]
  rw [e1, sm_trunc n (Nat.sub_le n d)]
  by_cases h : n < d
  · rw [if_pos h, Nat.sub_eq_zero_of_le (Nat.le_of_lt h)]; rfl
  · rw [if_neg h]; rfl
/-- the telescope -/
theorem tele {d : Nat} (hd : 0 < d) (f : Nat → Int) : ∀ m n : Nat, n ≤ m → sm n (fun i => dl d (i + 1) * df d f (n - 1 - i)) = (if n < d then 0 else (d : Int) * f (n - d)) := by
  have hz : ∀ i, i + 1 < d → dl d (i + 1) = 0 := fun i hi => if_neg fun z => by have := Nat.le_of_dvd (by omega) z; omega
  have h0 : ∀ n, n < d → sm n (fun i => dl d (i + 1) * df d f (n - 1 - i)) = 0 := fun n hn => by
    rw [sm_congr (h := fun _ => 0) n (fun i hi => by rw [hz i (by omega), Int.zero_mul]), sm_zero]
  intro m
  induction m with
  | zero => intro n hn; rw [h0 n (by omega), if_pos (by omega)]
  | succ m ih =>
    intro n hn
    by_cases h : n < d
    · rw [h0 n h, if_pos h]
    · rw [if_neg h]
      obtain ⟨r, rfl⟩ := Nat.le.dest (Nat.le_of_not_lt h)
      obtain ⟨c, rfl⟩ : ∃ c, d = c + 1 := ⟨d - 1, by omega⟩
      rw [sm_split (c + 1) r, sm, sm_congr (h := fun _ => 0) c (fun i hi => by rw [hz i (by omega), Int.zero_mul]), sm_zero]
      have e2 : sm r (fun i => dl (c + 1) (c + 1 + i + 1) * df (c + 1) f (c + 1 + r - 1 - (c + 1 + i))) = sm r (fun i => dl (c + 1) (i + 1) * df (c + 1) f (r - 1 - i)) := by
        refine sm_congr r fun i hi => ?_
        have : dl (c + 1) (c + 1 + i + 1) = dl (c + 1) (i + 1) := by
          unfold dl
          rw [show c + 1 + i + 1 = (c + 1) + (i + 1) by omega]
          by_cases z : (c + 1) ∣ (i + 1)
          · rw [if_pos z, if_pos ((Nat.dvd_add_right (Nat.dvd_refl _)).mpr z)]
          · rw [if_neg z, if_neg fun y => z ((Nat.dvd_add_right (Nat.dvd_refl _)).mp y)]
        rw [this, show c + 1 + r - 1 - (c + 1 + i) = r - 1 - i by omega]
      rw [e2, ih r (by omega)]
      rw [show c + 1 + r - 1 - c = r by omega, show c + 1 + r - (c + 1) = r by omega]
      have e3 : dl (c + 1) (c + 1) = ((c + 1 : Nat) : Int) := if_pos (Nat.dvd_refl _)
      rw [e3]
      show 0 + ((c + 1 : Nat) : Int) * (if r < c + 1 then f r else f r - f (r - (c + 1))) + _ = _
      by_cases z : r < c + 1
      · rw [if_pos z, if_pos z]; omega
      · rw [if_neg z, if_neg z, Int.mul_sub]; omega
theorem S_a {d : Nat} (a g : Nat → Int) (n : Nat) : S (da d a) g n = S a g n - sm n (fun i => dl d (i + 1) * g (n - 1 - i)) := by
  unfold S
  rw [← sm_sub]
  refine sm_congr n fun i hi => ?_
  show (a (i + 1) - dl d (i + 1)) * _ = _
  rw [Int.sub_mul]
theorem Rr_step {d : Nat} (hd : 0 < d) (a f : Nat → Int) (n : Nat) : Rr (da d a) (df d f) n = Rr a f n - (if n < d then 0 else Rr a f (n - d)) := by
  unfold Rr
  rw [S_a, S_f, tele hd f n n (Nat.le_refl n)]
  by_cases h : n < d
  · rw [if_pos h, if_pos h, if_pos h, show df d f n = f n from if_pos h]; omega
  · rw [if_neg h, if_neg h, if_neg h, show df d f n = f n - f (n - d) from if_neg h]
    obtain ⟨r, rfl⟩ := Nat.le.dest (Nat.le_of_not_lt h)
    rw [show d + r - d = r by omega, Int.mul_sub, Int.natCast_add, Int.add_mul, Int.add_mul]
    omega
/-- a linear form that meets each multiple's part -/
structure Form (m : Nat) (q : Int) (t : Nat → Int) : Prop where
  one : t m = 1
  kill : ∀ d, 0 < d → d < m → q ∣ sm m fun i => t (i + 1) * dl d (i + 1)
def Tm (m : Nat) (t a : Nat → Int) : Int := sm m fun i => t (i + 1) * a (i + 1)
theorem Tm_step {m d : Nat} {t a : Nat → Int} : Tm m t (da d a) = Tm m t a - sm m fun i => t (i + 1) * dl d (i + 1) := by
  unfold Tm
  rw [← sm_sub]
  refine sm_congr m fun i hi => ?_
  show _ * (a (i + 1) - dl d (i + 1)) = _
  rw [Int.mul_sub]
theorem dvd_of_sub {q x y : Int} (h : q ∣ x - y) (hy : q ∣ y) : q ∣ x := by
  have := Int.dvd_add h hy
  rwa [Int.sub_add_cancel] at this
theorem main_base {m : Nat} {q : Int} {t a f : Nat → Int} (F : Form m q t) (h0 : f 0 = 1) (ha : ∀ i, 0 < i → i < m → q ∣ a i) (hm : 0 < m) : q ∣ S a f m - Tm m t a := by
  obtain ⟨n, rfl⟩ : ∃ n, m = n + 1 := ⟨m - 1, by omega⟩
  unfold S Tm
  rw [sm, sm]
  have e1 : n + 1 - 1 - n = 0 := by omega
  rw [e1, h0, F.one, Int.mul_one, Int.one_mul]
  have d1 : q ∣ sm n (fun i => a (i + 1) * f (n + 1 - 1 - i)) := sm_dvd n fun i hi => Int.dvd_mul_of_dvd_left (ha (i + 1) (by omega) (by omega))
  have d2 : q ∣ sm n (fun i => t (i + 1) * a (i + 1)) := sm_dvd n fun i hi => Int.dvd_mul_of_dvd_right (ha (i + 1) (by omega) (by omega))
  have := Int.dvd_sub d1 d2
  rw [show ∀ x y z : Int, x + y - (z + y) = x - z by intros; omega]
  exact this
theorem main_law {m : Nat} {q : Int} {t : Nat → Int} (hm : 0 < m) (hq : 0 < q) (hqm : q ∣ (m : Int)) (F : Form m q t) : ∀ r j : Nat, m = j + r → 0 < j → ∀ a f : Nat → Int, f 0 = 1 → (∀ n < m, Rr a f n = 0) → (∀ i, 0 < i → i < j → q ∣ a i) → q ∣ S a f m - Tm m t a := by
  intro r
  induction r with
  | zero => intro j hj hp a f h0 hR ha; exact main_base F h0 (fun i h1 h2 => ha i h1 (by omega)) hm
  | succ r ih =>
    intro j hj hp a f h0 hR ha
    -- inner
    have inner : ∀ (c : Nat) (a f : Nat → Int), f 0 = 1 → (∀ n < m, Rr a f n = 0) → (∀ i, 0 < i → i < j → q ∣ a i) → q ∣ a j - (j : Int) * (c : Int) → q ∣ S a f m - Tm m t a := by
      intro c
      induction c with
      | zero =>
        intro a f h0 hR ha hc
        refine ih (j + 1) (by omega) (by omega) a f h0 hR fun i h1 h2 => ?_
        rcases Nat.lt_or_ge i j with z | z
        · exact ha i h1 z
        · have : i = j := by omega
          subst this
          simpa using hc
      | succ c ihc =>
        intro a f h0 hR ha hc
        have hz : ∀ n, n ≤ m → (if n < j then (0 : Int) else Rr a f (n - j)) = 0 := fun n hn => by
          split
          · rfl
          · exact hR _ (by omega)
        have k := ihc (da j a) (df j f) (by show (if 0 < j then f 0 else _) = 1; rw [if_pos hp]; exact h0) (fun n hn => by rw [Rr_step hp, hR n hn, hz n (by omega)]; rfl)
          (fun i h1 h2 => by
            have : da j a i = a i := by
              show a i - dl j i = a i
              rw [show dl j i = 0 from if_neg fun z => by have := Nat.le_of_dvd h1 z; omega]; omega
            rw [this]; exact ha i h1 h2)
          (by
            have : da j a j = a j - (j : Int) := by
              show a j - dl j j = _
              rw [show dl j j = (j : Int) from if_pos (Nat.dvd_refl _)]
            rw [this]
            have e : a j - (j : Int) - (j : Int) * (c : Int) = a j - (j : Int) * ((c + 1 : Nat) : Int) := by
              rw [Int.natCast_add, Int.mul_add]; omega
            rw [e]; exact hc)
        have eR : Rr (da j a) (df j f) m = Rr a f m := by rw [Rr_step hp, hz m (Nat.le_refl m)]; omega
        rw [Tm_step] at k
        have kk := F.kill j hp (by omega)
        have e4 : S a f m - Tm m t a = (S (da j a) (df j f) m - (Tm m t a - sm m fun i => t (i + 1) * dl j (i + 1))) - (sm m fun i => t (i + 1) * dl j (i + 1)) + (m : Int) * (f m - df j f m) := by
          have : S a f m = S (da j a) (df j f) m + (m : Int) * (f m - df j f m) := by
            unfold Rr at eR
            rw [Int.mul_sub]; omega
          rw [this]; omega
        rw [e4]
        exact Int.dvd_add (Int.dvd_sub k kk) (Int.dvd_mul_of_dvd_left hqm)
    refine inner (f j % q).toNat a f h0 hR ha ?_
    have hj1 := hR j (by omega)
    unfold Rr S at hj1
    obtain ⟨n, rfl⟩ : ∃ n, j = n + 1 := ⟨j - 1, by omega⟩
    rw [sm, show n + 1 - 1 - n = 0 by omega, h0, Int.mul_one] at hj1
    have d1 : q ∣ sm n (fun i => a (i + 1) * f (n + 1 - 1 - i)) := sm_dvd n fun i hi => Int.dvd_mul_of_dvd_left (ha (i + 1) (by omega) (by omega))
    rw [Int.toNat_of_nonneg (Int.emod_nonneg _ (by omega))]
    have d2 : q ∣ f (n + 1) - f (n + 1) % q := Int.dvd_self_sub_emod
    have e5 : a (n + 1) - ((n + 1 : Nat) : Int) * (f (n + 1) % q) = ((n + 1 : Nat) : Int) * (f (n + 1) - f (n + 1) % q) - sm n (fun i => a (i + 1) * f (n + 1 - 1 - i)) := by
      rw [Int.mul_sub]; omega
    rw [e5]
    exact Int.dvd_sub (Int.dvd_mul_of_dvd_right d2) d1
theorem main {m : Nat} {q : Int} {t a f : Nat → Int} (hm : 0 < m) (hq : 0 < q) (hqm : q ∣ (m : Int)) (F : Form m q t) (h0 : f 0 = 1) (hR : ∀ n < m, Rr a f n = 0) : q ∣ S a f m - Tm m t a :=
  main_law hm hq hqm F (m - 1) 1 (by omega) (by omega) a f h0 hR (fun i h1 h2 => by omega)
theorem main_iff {m : Nat} {q : Int} {t a f : Nat → Int} (hm : 0 < m) (hq : 0 < q) (hqm : q ∣ (m : Int)) (F : Form m q t) (h0 : f 0 = 1) (hR : ∀ n < m, Rr a f n = 0) : q ∣ S a f m ↔ q ∣ Tm m t a := by
  have h := main hm hq hqm F h0 hR
  constructor
  · intro z
    have := Int.dvd_sub z h
    rwa [show S a f m - (S a f m - Tm m t a) = Tm m t a by omega] at this
  · intro z
    exact dvd_of_sub h z
end G
set_option linter.all false
set_option maxRecDepth 100000
set_option maxHeartbeats 4000000
namespace G
def aN (ns : List Int) (k : Nat) : Int := ns.getD (k - 1) 0
def fN (ns : List Int) (j : Nat) : Int := eN ns j / ((fac j : Nat) : Int)
theorem sum_sm (g : Nat → Int) : ∀ n, ((List.range n).map g).sum = sm n g
  | 0 => rfl
  | n + 1 => by rw [List.range_succ, List.map_append, List.sum_append, sum_sm g n, sm]; simp
def Whole (ns : List Int) (j : Nat) : Prop := ((fac j : Nat) : Int) ∣ eN ns j
theorem whole_eq {ns : List Int} {j : Nat} (h : Whole ns j) : eN ns j = ((fac j : Nat) : Int) * fN ns j := (Int.mul_ediv_cancel' h).symm
theorem eN_S {ns : List Int} {n : Nat} (h : ∀ j ≤ n, Whole ns j) : eN ns (n + 1) = ((fac n : Nat) : Int) * S (aN ns) (fN ns) (n + 1) := by
  rw [eN_succ]
  unfold eSum S
  rw [sum_sm, ← sm_mul]
  refine sm_congr _ fun j hj => ?_
  unfold eTerm
  rw [show n + 1 - (j + 1) = n - j by omega, show n + 1 - 1 - j = n - j by omega, show n + 1 - 1 = n by omega, show j + 1 - 1 = j by omega, eL_get ns (Nat.sub_le n j), whole_eq (h (n - j) (Nat.sub_le n j))]
  have e := fac_quot (Nat.sub_le n j)
  have e2 : ((fac n : Nat) : Int) = ((fac (n - j) : Nat) : Int) * ((fac n / fac (n - j) : Nat) : Int) := by rw [← Int.natCast_mul, e]
  show ns.getD j 0 * _ * _ = _ * (aN ns (j + 1) * _)
  rw [show aN ns (j + 1) = ns.getD j 0 from rfl, e2]
  ac_rfl
theorem fac_posI (n : Nat) : (0 : Int) < ((fac n : Nat) : Int) := Int.natCast_pos.mpr (fac_pos n)
theorem fac_succI (n : Nat) : ((fac (n + 1) : Nat) : Int) = ((fac n : Nat) : Int) * ((n + 1 : Nat) : Int) := by
  rw [fac, Int.natCast_mul]; ac_rfl
theorem whole_R {ns : List Int} {m : Nat} (h : ∀ j < m, Whole ns j) : ∀ n < m, Rr (aN ns) (fN ns) n = 0
  | 0, _ => by simp [Rr, S, sm]
  | n + 1, hn => by
    have e1 := eN_S (ns := ns) (n := n) fun j hj => h j (by omega)
    have e2 := whole_eq (h (n + 1) hn)
    rw [e2, fac_succI, Int.mul_assoc] at e1
    have e3 := Int.eq_of_mul_eq_mul_left (Int.ne_of_gt (fac_posI n)) e1
    unfold Rr
    rw [← e3]
    omega
theorem whole_iff {ns : List Int} {n : Nat} (h : ∀ j < n + 1, Whole ns j) : Whole ns (n + 1) ↔ ((n + 1 : Nat) : Int) ∣ S (aN ns) (fN ns) (n + 1) := by
  unfold Whole
  rw [eN_S fun j hj => h j (by omega), fac_succI]
  constructor
  · rintro ⟨c, hc⟩
    rw [Int.mul_assoc] at hc
    exact ⟨c, Int.eq_of_mul_eq_mul_left (Int.ne_of_gt (fac_posI n)) hc⟩
  · rintro ⟨c, hc⟩
    exact ⟨c, by rw [hc, Int.mul_assoc]⟩
theorem fN_zero (ns : List Int) : fN ns 0 = 1 := rfl
/-! ### the sign sum -/
def tM (m d : Nat) : Int := if m % d = 0 then mu (m / d) else 0
theorem totalU (ns : List Int) (n : Nat) : ∀ k, ((dvsU n k).map (term ns n)).sum = sm k fun i => tM n (i + 1) * aN ns (i + 1)
  | 0 => rfl
  | k + 1 => by
    rw [sm, ← totalU ns n k]
    by_cases h : n % (k + 1) = 0
    · rw [dvsU_yes h, List.map_append, List.sum_append]
      have e : tM n (k + 1) = mu (n / (k + 1)) := if_pos h
      rw [e]
      simp [term, aN]
    · rw [dvsU_no h]
      have e : tM n (k + 1) = 0 := if_neg h
      rw [e]
      simp
theorem total_T (ns : List Int) (m : Nat) : total ns m = Tm m (tM m) (aN ns) := totalU ns m m
theorem formM_all : ∀ m ∈ List.range 17, 0 < m → tM m m = 1 ∧ ∀ d ∈ List.range m, 0 < d → (sm m fun i => tM m (i + 1) * dl d (i + 1)) % (m : Int) = 0 := by decide +kernel
theorem formM {m : Nat} (h : 0 < m ∧ m ≤ 16) : Form m (m : Int) (tM m) :=
  ⟨(formM_all m (List.mem_range.mpr (by omega)) h.1).1, fun d h1 h2 => Int.dvd_of_emod_eq_zero ((formM_all m (List.mem_range.mpr (by omega)) h.1).2 d (List.mem_range.mpr h2) h1)⟩
theorem iffM {ns : List Int} {n : Nat} (hn : n + 1 ≤ 16) (h : ∀ j < n + 1, Whole ns j) : Whole ns (n + 1) ↔ badN ns (n + 1) = false := by
  rw [whole_iff h, main_iff (Nat.succ_pos n) (by omega) (Int.dvd_refl _) (formM ⟨Nat.succ_pos n, hn⟩) (fN_zero ns) (whole_R h), ← total_T]
  unfold badN
  rw [decide_eq_false_iff_not, Decidable.not_not]
  exact ⟨Int.emod_eq_zero_of_dvd, Int.dvd_of_emod_eq_zero⟩
/-! ### the prime test -/
def ppowF : Nat → Int → Int → Int → Int
  | 0, _, _, x => x
  | k + 1, n, p, x => if n % (x * p) = 0 then ppowF k n p (x * p) else x
def ppow (n : Nat) (p : Int) : Int := ppowF n n p 1
def badP (ns : List Int) (n : Nat) (p : Int) : Bool := decide (1 < ppow n p) && decide ((ns.getD (n - 1) 0 - ns.getD (n / p.toNat - 1) 0) % ppow n p ≠ 0)
def primeBad (ns : List Int) (n : Nat) : Bool := (primesTo n).any (badP ns n)
def ind (k i : Nat) : Int := if i = k then 1 else 0
def tP (m : Nat) (p : Int) (i : Nat) : Int := ind m i - ind (m / p.toNat) i
theorem sm_ind (a : Nat → Int) {k : Nat} (hk : 0 < k) : ∀ n, sm n (fun i => ind k (i + 1) * a (i + 1)) = if k ≤ n then a k else 0
  | 0 => by rw [if_neg (by omega)]; rfl
  | n + 1 => by
    rw [sm, sm_ind a hk n]
    by_cases h : n + 1 = k
    · rw [show ind k (n + 1) = 1 from if_pos h, if_neg (by omega), if_pos (by omega), h]; omega
    · rw [show ind k (n + 1) = 0 from if_neg h]
      by_cases z : k ≤ n
      · rw [if_pos z, if_pos (by omega)]; omega
      · rw [if_neg z, if_neg (by omega)]; omega
theorem formP_all : ∀ m ∈ List.range 17, 0 < m → ∀ p ∈ primesTo m, 1 < ppow m p → (0 < m / p.toNat ∧ m / p.toNat ≤ m ∧ (m : Int) % ppow m p = 0) ∧ tP m p m = 1 ∧ ∀ d ∈ List.range m, 0 < d → (sm m fun i => tP m p (i + 1) * dl d (i + 1)) % ppow m p = 0 := by decide +kernel
theorem crt_all : ∀ m ∈ List.range 17, 0 < m → ∀ r ∈ List.range m, (r = 0 ↔ ∀ p ∈ primesTo m, 1 < ppow m p → (r : Int) % ppow m p = 0) := by decide +kernel
theorem crt {m : Nat} (h : 0 < m ∧ m ≤ 16) (x : Int) : (m : Int) ∣ x ↔ ∀ p ∈ primesTo m, 1 < ppow m p → ppow m p ∣ x := by
  obtain ⟨r, hr⟩ : ∃ r : Nat, x % (m : Int) = (r : Int) := ⟨(x % (m : Int)).toNat, by have := Int.emod_nonneg x (show (m : Int) ≠ 0 by omega); omega⟩
  have hlt : r < m := by have := Int.emod_lt_of_pos x (show (0 : Int) < m by omega); omega
  have k := crt_all m (List.mem_range.mpr (by omega)) h.1 r (List.mem_range.mpr hlt)
  have e1 : (m : Int) ∣ x ↔ r = 0 := ⟨fun z => by have := Int.emod_eq_zero_of_dvd z; omega, fun z => Int.dvd_of_emod_eq_zero (by omega)⟩
  rw [e1, k]
  refine forall_congr' fun p => forall_congr' fun hp => forall_congr' fun h1 => ?_
  have hq := (formP_all m (List.mem_range.mpr (by omega)) h.1 p hp h1).1.2.2
  have e2 : x % ppow m p = (r : Int) % ppow m p := by
    rw [← hr, Int.emod_emod_of_dvd x (Int.dvd_of_emod_eq_zero hq)]
  constructor
  · intro z; exact Int.dvd_of_emod_eq_zero (by rw [e2]; exact z)
  · intro z; rw [← e2]; exact Int.emod_eq_zero_of_dvd z
theorem iffP {ns : List Int} {n : Nat} (hn : n + 1 ≤ 16) (h : ∀ j < n + 1, Whole ns j) : Whole ns (n + 1) ↔ primeBad ns (n + 1) = false := by
  rw [whole_iff h, crt ⟨Nat.succ_pos n, hn⟩]
  unfold primeBad
  rw [List.any_eq_false]
  refine forall_congr' fun p => forall_congr' fun hp => ?_
  unfold badP
  by_cases h1 : 1 < ppow (n + 1) p
  · obtain ⟨⟨g1, g2, g3⟩, g4, g5⟩ := formP_all (n + 1) (List.mem_range.mpr (by omega)) (Nat.succ_pos n) p hp h1
    have F : Form (n + 1) (ppow (n + 1) p) (tP (n + 1) p) := ⟨g4, fun d a b => Int.dvd_of_emod_eq_zero (g5 d (List.mem_range.mpr b) a)⟩
    have hT : Tm (n + 1) (tP (n + 1) p) (aN ns) = ns.getD (n + 1 - 1) 0 - ns.getD ((n + 1) / p.toNat - 1) 0 := by
      unfold Tm tP
      rw [sm_congr (h := fun i => ind (n + 1) (i + 1) * aN ns (i + 1) - ind ((n + 1) / p.toNat) (i + 1) * aN ns (i + 1)) _ (fun i _ => Int.sub_mul _ _ _), sm_sub, sm_ind _ (Nat.succ_pos n), sm_ind _ g1, if_pos (Nat.le_refl _), if_pos g2]
      rfl
    have k := main_iff (Nat.succ_pos n) (by omega) (Int.dvd_of_emod_eq_zero g3) F (fN_zero ns) (whole_R h)
    rw [hT] at k
    rw [show decide (1 < ppow (n + 1) p) = true from decide_eq_true h1, Bool.true_and]
    constructor
    · intro z
      have := Int.emod_eq_zero_of_dvd (k.mp (z h1))
      simpa using this
    · intro z _
      exact k.mpr (Int.dvd_of_emod_eq_zero (by simpa using z))
  · rw [show decide (1 < ppow (n + 1) p) = false from decide_eq_false h1, Bool.false_and]
    exact ⟨fun _ => by decide, fun _ z => absurd z h1⟩
/-! ### the first fault -/
def dueB (ns : List Int) (n : Nat) : Bool := decide ((redu (eN ns n) ((fac n : Nat) : Int)).2 ≠ 1)
theorem dueB_iff {ns : List Int} {n : Nat} : dueB ns n = false ↔ Whole ns n := by
  unfold dueB Whole
  rw [decide_eq_false_iff_not, Decidable.not_not]
  exact redu_one (fac_posI n)
theorem find_agree {P Q : Nat → Bool} : ∀ L, (∀ m, m < L → (∀ j < m, P (j + 1) = false) → P (m + 1) = Q (m + 1)) → ((List.range L).map (· + 1)).find? P = ((List.range L).map (· + 1)).find? Q
  | 0, _ => rfl
  | L + 1, h => by
    rw [List.range_succ, List.map_append, List.find?_append, List.find?_append, ← find_agree L fun m hm => h m (by omega)]
    cases e : ((List.range L).map (· + 1)).find? P with
    | some _ => rfl
    | none =>
      have hall : ∀ j < L, P (j + 1) = false := fun j hj => by
        have := List.find?_eq_none.mp e (j + 1) (List.mem_map.mpr ⟨j, List.mem_range.mpr hj, rfl⟩)
        simpa using this
      have k := h L (Nat.lt_succ_self L) hall
      simp [List.find?_cons, k]
def dueN (ns : List Int) : Option Nat := ((List.range ns.length).map (· + 1)).find? (dueB ns)
def primN (ns : List Int) : Option Nat := ((List.range ns.length).map (· + 1)).find? (primeBad ns)
theorem wholes {ns : List Int} {m : Nat} (h : ∀ j < m, dueB ns (j + 1) = false) : ∀ j < m + 1, Whole ns j
  | 0, _ => ⟨1, rfl⟩
  | j + 1, hj => dueB_iff.mp (h j (by omega))
theorem bool_of_iff {a b : Bool} {p : Prop} (h1 : a = false ↔ p) (h2 : p ↔ b = false) : a = b := by
  cases a <;> cases b <;> simp_all
theorem due_fault {ns : List Int} (h : ns.length ≤ 16) : dueN ns = faultN ns :=
  find_agree _ fun m hm hall => bool_of_iff dueB_iff (iffM (by omega) (wholes hall))
theorem due_prim {ns : List Int} (h : ns.length ≤ 16) : dueN ns = primN ns :=
  find_agree _ fun m hm hall => bool_of_iff dueB_iff (iffP (by omega) (wholes hall))
/-- ahead of the fault all is well -/
theorem badN_take {ns : List Int} {k n : Nat} (h : n ≤ k) : badN (ns.take k) n = badN ns n := by
  unfold badN
  rw [total_T, total_T]
  have e : Tm n (tM n) (aN (ns.take k)) = Tm n (tM n) (aN ns) := by
    unfold Tm
    refine sm_congr _ fun i hi => ?_
    have : aN (ns.take k) (i + 1) = aN ns (i + 1) := by
      unfold aN
      rw [List.getD_eq_getElem?_getD, List.getD_eq_getElem?_getD, List.getElem?_take, if_pos (by omega)]
    rw [this]
  rw [e]
theorem find_some_before {P : Nat → Bool} {L k : Nat} (h : ((List.range L).map (· + 1)).find? P = some k) : 1 ≤ k ∧ k ≤ L ∧ ∀ j, j + 1 < k → P (j + 1) = false := by
  induction L with
  | zero => cases h
  | succ L ih =>
    rw [List.range_succ, List.map_append, List.find?_append] at h
    cases e : ((List.range L).map (· + 1)).find? P with
    | some x =>
      rw [e] at h
      cases h
      obtain ⟨a, b, c⟩ := ih e
      exact ⟨a, by omega, c⟩
    | none =>
      rw [e] at h
      simp [List.find?_cons] at h
      split at h
      · cases h
        refine ⟨by omega, by omega, fun j hj => ?_⟩
        have := List.find?_eq_none.mp e (j + 1) (List.mem_map.mpr ⟨j, List.mem_range.mpr (by omega), rfl⟩)
        simpa using this
      · cases h
theorem fault_ge {ns : List Int} {k : Nat} (h : faultN ns = some k) : 1 ≤ k ∧ k ≤ ns.length := ⟨(find_some_before h).1, (find_some_before h).2.1⟩
theorem fault_before {ns : List Int} {k : Nat} (h : faultN ns = some k) : faultN (ns.take (k - 1)) = none := by
  obtain ⟨h1, h2, h3⟩ := find_some_before h
  refine find_none fun j hj => ?_
  rw [List.length_take] at hj
  rw [badN_take (by omega)]
  exact h3 j (by omega)
end G
set_option Elab.async false
set_option linter.all false
set_option maxRecDepth 100000
set_option maxHeartbeats 4000000
namespace G
open PySem PySem.Spec PyProof.Rows L2
local macro_rules | `(tactic| walk_at "rd") => `(tactic| repeat (first
  | (with_reducible first
  | refine r_seq ?_ | refine r_asg ?_ | refine r_c ?_ | refine r_op ?_ | refine r_cons ?_ | refine r_nil ?_ | refine r_cb ?_ | refine r_cal ?_ | refine r_I0 ?_ | refine r_gname ?_
  | refine r_test ?_ | refine r_k ?_ | refine r_B ?_ | refine r_ifs ?_ | refine r_eqI ?_ | refine r_neI ?_ | refine r_un ?_ | refine r_U ?_ | refine r_par ?_ | refine r_vw ?_ | refine r_ret ?_ | refine r_drop ?_
  | refine r_next ?_ | refine r_not ?_ | refine r_and ?_ | refine r_or ?_ | refine r_if ?_ | refine r_chain ?_ | refine r_ipI ?_ | refine r_abs ?_ | refine r_int1 ?_ | refine r_int1b ?_ | refine r_eqB ?_ | refine r_neB ?_
  | refine r_max2 ?_ | refine r_min2 ?_ | refine r_gcd ?_ | refine r_tup ?_ | refine r_lst ?_ | refine r_bm ?_ | refine r_for ?_ | refine r_rng1 ?_ | refine r_rng2 ?_ | refine r_ilist ?_ | refine r_itup ?_ | refine r_yes ?_ | refine r_lc ?_ | refine r_sub ?_
  | refine r_gcons ?_ | refine r_gnil ?_ | refine r_andV0 ?_ | refine r_orV0 ?_ | refine r_notV ?_ | refine r_par3 ?_ | refine r_vwz ?_ | refine r_isN ?_ | refine r_notN ?_)
  | ((with_reducible refine' r_var ?k1 ?_); (case k1 => exact rfl))
  | ((with_reducible refine' r_aug ?k1 ?_); (case k1 => exact rfl))))
section
variable {P : Program} {w : World} {K : PySem.W.Frag} {mg : Str → Option Value} {base : Heap}
theorem primesN_le : ∀ k, ∀ p ∈ primesN k, p ≤ (k : Int) + 1
  | 0, p, h => by cases h
  | k + 1, p, h => by
    rw [primesN] at h
    split at h
    · rcases List.mem_append.mp h with q | q
      · have := primesN_le k p q; omega
      · have := List.mem_singleton.mp q; omega
    · have := primesN_le k p h; omega
theorem primesTo_le {n : Nat} {p : Int} (hn : 1 ≤ n) (h : p ∈ primesTo n) : 2 ≤ p ∧ p ≤ (n : Int) := by
  have h1 := primesN_ge _ p h
  have h2 := primesN_le _ p h
  omega
theorem ppowF_end {n p x : Int} (h : ¬ n % (x * p) = 0) : ∀ m, ppowF m n p x = x
  | 0 => rfl
  | m + 1 => by rw [ppowF, if_neg h]
abbrev s_law_by_primes : Stmt := top 81
abbrev N_law_by_primes : List Str := ["_law_numbers", "_law_n", "_law_prime", "_law_power"]
theorem sc_law_by_primes : FnScope N_law_by_primes ["_law_numbers"] (defScope s_law_by_primes) := ⟨rfl, rfl, rfl, by decide +kernel, rfl, by decide +kernel, by decide +kernel⟩
def sp_law_by_primes (K : PySem.W.Frag) : Sp := fun vs H Q _ => ∃ (a : Addr) (ns : List Int), vs = [.ref a] ∧ H a = some (.tup (ns.map V.int)) ∧ ns.length ≤ 24 ∧ ∀ H', Evl.Ex H H' → Q (optV (primN ns)) H'
theorem ok_law_by_primes (B : Bt mg) (D : DefAt K mg "_law_by_primes" s_law_by_primes) (c_law_primes_to : Cal P w K mg base "_law_primes_to" 1 (sp_law_primes_to)) : Cal P w K mg base "_law_by_primes" 2 (sp_law_by_primes K) := by
  refine D.cal sc_law_by_primes (fun vs H Q E h => ?_) (fun _ _ _ _ _ _ us hl => match us, hl with | [_], _ => rfl) (fun cfa cdv cA cO cs H vs Q E hr h => ?_)
  · obtain ⟨a, ns, rfl, ha, hn, q⟩ := h
    rfl
  obtain ⟨a, ns, rfl, ha, hn, q⟩ := h
  refine ⟨_, (pss_cons (ps_for PassesOwn.never rfl (pi_range2 (by rfl) B.range (pa_cons pe_int (pa_cons (pe_op op_add (pe_callB (k_len) (by rfl) B.len (by decide +kernel) (pa_cons (pv 0) pa_nil)) pe_int) pa_nil))) (pg_name (i := 1) sc_law_by_primes.nd rfl (by first | exact .inl rfl | exact .inr rfl)) (pss_one (ps_for PassesOwn.never rfl (pi_list (pe_cal c_law_primes_to (hr.mono (by decide)) (by rfl) (pa_cons (pv 1) pa_nil))) (pg_name (i := 2) sc_law_by_primes.nd rfl (by first | exact .inl rfl | exact .inr rfl)) (pss_cons (ps_set (i := 3) sc_law_by_primes.nd rfl (by first | exact .inl rfl | exact .inr rfl) pe_int)
      (pss_cons (ps_while PassesOwn.never (pt_cmpR op_eq (pe_op op_mod (pv 1) (pe_op op_mulW (pv 3) (pv 2))) pe_int (nomark _)) (pss_one (ps_set (i := 3) sc_law_by_primes.nd rfl (by first | exact .inl rfl | exact .inr rfl) (pe_op op_mulW (pv 3) (pv 2)))))
      (pss_one (ps_if (PW.pt (pw_and (pt_cmpR op_gt (pv 3) pe_int (nomark _)) (pw_and1 (pt_cmpR op_ne (pe_op op_mod (pe_op op_sub (pe_ix ix_tup (pv 0) (pe_op op_sub (pv 1) pe_int) (fun _ _ => rfl)) (pe_ix ix_tup (pv 0) (pe_op op_sub (pe_op op_fdivW (pv 1) (pv 2)) pe_int) (fun _ _ => rfl))) (pv 3)) pe_int (nomark _))))) (pss_one (ps_ret (pv 1))) pss_nil)))))))
      (pss_one (ps_ret pe_non))), ?_⟩
  walk_at "rd"
  refine r_lenT (sqT ha) ?_
  walk_at "rd"
  refine ⟨_, _, rfl, by rw [List.length_map]; omega, for_range (lo := 1) (n := (((ns.map V.int).length : Int) + 1 - 1).toNat) (fun i σ' H' => ∃ x y z, σ' = [some (.ref a), x, y, z] ∧ Evl.Ex H H' ∧ ∀ j < i, primeBad ns (j + 1) = false) ⟨_, _, _, rfl, Evl.Ex.refl _, fun j hj => absurd hj (Nat.not_lt_zero _)⟩ (fun i σ' H0 hi hp => ?_) (fun σ' H' hp => ?_)⟩
  · obtain ⟨x, y, z, rfl, he, hall⟩ := hp
    have hi2 : i < ns.length := by rw [List.length_map] at hi; omega
    have ha0 := he a _ ha
    have hci : ((i + 1 : Nat) : Int) = 1 + (i : Int) := by omega
    walk_at "rd"
    refine ⟨i + 1, by rw [Int.natCast_add, Int.add_comm]; rfl, by omega, fun p hp H1 he1 hk1 => ⟨p, rfl, ⟨_, sqL hk1⟩, for_list (xs := (primesTo (i + 1)).map V.int) (fun k σ2 H2 => ∃ y z, σ2 = [some (.ref a), some (.int (1 + (i : Int))), y, z] ∧ H2 = H1 ∧ ∀ u ∈ (primesTo (i + 1)).take k, badP ns (i + 1) u = false) ⟨_, _, rfl, rfl, fun u hu => by rw [List.take_zero] at hu; cases hu⟩ (fun k σ2 H2 _ hp => by obtain ⟨_, _, _, rfl, _⟩ := hp; exact sqL hk1) (fun k v σ2 H2 hx hp => ?_) (fun σ2 H2 hp => ?_)⟩⟩
    · obtain ⟨y, z, rfl, rfl, hall2⟩ := hp
      obtain ⟨u, hu, rfl⟩ := geti hx
      obtain ⟨u2, ui⟩ := primesTo_le (by omega) (List.mem_of_getElem? hu)
      obtain ⟨r, rfl⟩ : ∃ r : Nat, u = (r : Int) := ⟨u.toNat, by omega⟩
      have ha1 := he1 a _ ha0
      walk_at "rd"
      refine ⟨fun m σ' H' => ∃ x : Int, σ' = [some (.ref a), some (.int (1 + (i : Int))), some (.int (r : Int)), some (.int x)] ∧ H' = H2 ∧ 1 ≤ x ∧ x ≤ 1000 ∧ ppowF m ((i + 1 : Nat) : Int) r x = ppow (i + 1) r ∧ 1 + (i : Int) < m + x, ⟨i + 1, 1, rfl, rfl, by omega, by omega, rfl, by omega⟩, fun m σ' H' hw => ?_⟩
      obtain ⟨x, rfl, rfl, x1, x2, hpp, hlt⟩ := hw
      have hxr : x * 2 ≤ x * (r : Int) := Int.mul_le_mul_of_nonneg_left u2 (by omega)
      walk_at "rd"
      refine r_I (wide_mul (a := 20) (b := 20) (by omega) (by omega) (by decide) (by decide) (by decide)) ?_
      refine r_I (by show 0 < x * (r : Int); omega) ?_
      walk_at "rd"
      refine ite_d (fun e => ?_) (fun e => ?_)
      · have hle : x * (r : Int) ≤ 1 + (i : Int) := Int.le_of_dvd (by omega) (Int.dvd_of_emod_eq_zero e)
        obtain ⟨m2, rfl⟩ : ∃ m2, m = m2 + 1 := ⟨m - 1, by omega⟩
        refine ⟨_, fun _ _ n => n, ?_⟩
        walk_at "rd"
        refine r_I (wide_mul (a := 20) (b := 20) (by omega) (by omega) (by decide) (by decide) (by decide)) ?_
        walk_at "rd"
        refine ⟨m2, Nat.lt_succ_self _, _, rfl, rfl, by omega, by omega, ?_, by omega⟩
        rw [← hpp, ppowF, if_pos (by rw [hci]; exact e)]
      · rw [ppowF_end (by rw [hci]; exact e)] at hpp
        have eb : badP ns (i + 1) r = (decide (1 < x) && decide ((ns.getD i 0 - ns.getD ((i + 1) / r - 1) 0) % x ≠ 0)) := by
          unfold badP
          rw [← hpp]
          rfl
        walk_at "rd"
        have hdiv1 : 1 ≤ (i + 1) / r := Nat.div_pos (by omega) (by omega)
        have hdiv2 : (i + 1) / r ≤ i + 1 := Nat.div_le_self _ _
        have go : badP ns (i + 1) r = false → ∀ w ∈ (primesTo (i + 1)).take (k + 1), badP ns (i + 1) w = false := fun hb w hw => by
          rw [List.take_add_one, hu] at hw
          rcases List.mem_append.mp hw with h | h
          · exact hall2 w h
          · rw [List.mem_singleton.mp h]; exact hb
        refine ite_d (fun e1 => ?_) (fun e1 => ?_)
        · walk_at "rd"
          refine r_ixT (sqT ha1) (i := 1 + (i : Int) - 1) (v := .int (ns.getD i 0)) ?_ ?_
          · rw [show 1 + (i : Int) - 1 = (i : Int) by omega]
            refine atI_nat ?_
            rw [List.getElem?_map, List.getD_eq_getElem?_getD, List.getElem?_eq_getElem hi2]
            rfl
          walk_at "rd"
          refine r_I (wide_div (by omega) (b := 20) (by omega) (by decide) (by decide)) ?_
          walk_at "rd"
          refine r_ixT (sqT ha1) (i := (1 + (i : Int)) / (r : Int) - 1) (v := .int (ns.getD ((i + 1) / r - 1) 0)) ?_ ?_
          · rw [show (1 + (i : Int)) / (r : Int) - 1 = (((i + 1) / r - 1 : Nat) : Int) by
              rw [← hci, ← Int.natCast_ediv]; omega]
            refine atI_nat ?_
            rw [List.getElem?_map, List.getD_eq_getElem?_getD, List.getElem?_eq_getElem (show (i + 1) / r - 1 < ns.length by omega)]
            rfl
          walk_at "rd"
          refine r_I (by show 0 < x; omega) ?_
          walk_at "rd"
          rw [show decide (1 < x) = true from decide_eq_true e1, Bool.true_and] at eb
          refine ite_nd (fun z => ?_) (fun z => ?_)
          · walk_at "rd"
            have hb : primeBad ns (i + 1) = true := List.any_eq_true.mpr ⟨r, List.mem_of_getElem? hu, by rw [eb]; exact decide_eq_true z⟩
            have hf : primN ns = some (i + 1) := find_range hi2 hall hb
            have q2 := q H' (he.trans he1)
            rw [hf] at q2
            have e3 : optV (some (i + 1)) = V.int (1 + (i : Int)) := by
              show V.int (((i + 1 : Nat)) : Int) = _
              rw [hci]
            rw [e3] at q2
            exact q2
          · walk_at "rd"
            exact ⟨_, _, rfl, rfl, go (by rw [eb]; exact decide_eq_false (by simpa using z))⟩
        · walk_at "rd"
          rw [show decide (1 < x) = false from decide_eq_false e1, Bool.false_and] at eb
          refine iteF ?_
          walk_at "rd"
          exact ⟨_, _, rfl, rfl, go eb⟩
    · obtain ⟨y, z, rfl, rfl, hall2⟩ := hp
      walk_at "rd"
      refine ⟨_, _, _, rfl, he.trans he1, fun j hj => ?_⟩
      rcases Nat.lt_succ_iff_lt_or_eq.mp hj with h | rfl
      · exact hall j h
      · rw [List.length_map, take_all] at hall2
        unfold primeBad
        rw [List.any_eq_false]
        exact fun u hu => by rw [hall2 u hu]; decide
  · obtain ⟨x, y, z, rfl, he, hall⟩ := hp
    walk_at "rd"
    have hf : primN ns = none := find_none fun j hj => hall j (by rw [List.length_map]; omega)
    have q2 := q H' he
    rw [hf] at q2
    exact q2
end
end G
set_option Elab.async false
set_option linter.all false
set_option maxRecDepth 100000
set_option maxHeartbeats 4000000
namespace G
open PySem PySem.Spec PyProof.Rows L2
local macro_rules | `(tactic| walk_at "rd") => `(tactic| repeat (first
  | (with_reducible first
  | refine r_seq ?_ | refine r_asg ?_ | refine r_c ?_ | refine r_op ?_ | refine r_cons ?_ | refine r_nil ?_ | refine r_cb ?_ | refine r_cal ?_ | refine r_I0 ?_ | refine r_gname ?_
  | refine r_test ?_ | refine r_k ?_ | refine r_B ?_ | refine r_ifs ?_ | refine r_eqI ?_ | refine r_neI ?_ | refine r_un ?_ | refine r_U ?_ | refine r_par ?_ | refine r_vw ?_ | refine r_ret ?_ | refine r_drop ?_
  | refine r_next ?_ | refine r_not ?_ | refine r_and ?_ | refine r_or ?_ | refine r_if ?_ | refine r_chain ?_ | refine r_ipI ?_ | refine r_abs ?_ | refine r_int1 ?_ | refine r_int1b ?_ | refine r_eqB ?_ | refine r_neB ?_
  | refine r_max2 ?_ | refine r_min2 ?_ | refine r_gcd ?_ | refine r_tup ?_ | refine r_lst ?_ | refine r_bm ?_ | refine r_for ?_ | refine r_rng1 ?_ | refine r_rng2 ?_ | refine r_ilist ?_ | refine r_itup ?_ | refine r_yes ?_ | refine r_lc ?_ | refine r_sub ?_
  | refine r_gcons ?_ | refine r_gnil ?_ | refine r_andV0 ?_ | refine r_orV0 ?_ | refine r_notV ?_ | refine r_par3 ?_ | refine r_vwz ?_ | refine r_isN ?_ | refine r_notN ?_)
  | ((with_reducible refine' r_var ?k1 ?_); (case k1 => exact rfl))
  | ((with_reducible refine' r_aug ?k1 ?_); (case k1 => exact rfl))))
section
variable {P : Program} {w : World} {K : PySem.W.Frag} {mg : Str → Option Value} {base : Heap}
/-- one object may change -/
def ExB (d : Addr) (H H' : Hp) : Prop := ∀ a o, a ≠ d → H a = some o → H' a = some o
theorem ExB.refl (d : Addr) (H : Hp) : ExB d H H := fun _ _ _ h => h
theorem ExB.trans {d : Addr} {H H1 H2 : Hp} (a : ExB d H H1) (b : ExB d H1 H2) : ExB d H H2 := fun x o n h => b x o n (a x o n h)
theorem ExB.of {d : Addr} {H H1 : Hp} (e : Evl.Ex H H1) : ExB d H H1 := fun x o _ h => e x o h
theorem ExB.put {d : Addr} {H : Hp} {o : HO} : ExB d H (upd H d o) := fun x u n h => by rw [upd_ne n]; exact h
theorem ExB.new {d p : Addr} {H : Hp} {o : HO} (h : H p = none) : ExB d H (upd H p o) := .of (.new h)
theorem ExB.mut {d p : Addr} {H H' : Hp} {o : HO} (e : ExB d H H') (h : H p = none) : ExB d H (upd H' p o) := fun a u n ha => by
  rw [upd_ne (ne_of_none ha h)]
  exact e a u n ha
theorem Dice.put {H : Hp} {d : Addr} {l m c : Int} : Dice (upd H d (.lst [.int l, .int m, .int c])) d := ⟨l, m, c, upd_same⟩
theorem Dice.ne {H : Hp} {d p : Addr} (h : Dice H d) (hp : H p = none) : p ≠ d := fun e => by
  obtain ⟨l, m, c, h⟩ := h
  rw [e, h] at hp
  cases hp
theorem Dice.upd {H : Hp} {d p : Addr} {o : HO} (h : Dice H d) (hp : p ≠ d) : Dice (L2.upd H p o) d := by
  obtain ⟨l, m, c, h⟩ := h
  exact ⟨l, m, c, by rw [upd_ne (Ne.symm hp)]; exact h⟩
theorem Dice.ex {H H' : Hp} {d : Addr} (h : Dice H d) (e : Evl.Ex H H') : Dice H' d := by
  obtain ⟨l, m, c, h⟩ := h
  exact ⟨l, m, c, e d _ h⟩
def gterm (cs : List Int) (n : Nat) (d : Int) : Int := d * cs.getD (d.toNat - 1) 0 ^ (n / d.toNat)
theorem pow3 {c : Int} (h : c.natAbs ≤ 3) {k : Nat} (hk : k ≤ 16) : (c ^ k).natAbs ≤ 43046721 := by
  rw [Int.natAbs_pow]
  exact Nat.le_trans (Nat.pow_le_pow_left h k) (Nat.le_trans (Nat.pow_le_pow_right (by decide) hk) (by decide))
theorem getD_le {cs : List Int} {B : Nat} (h : ∀ c ∈ cs, c.natAbs ≤ B) (i : Nat) : (cs.getD i 0).natAbs ≤ B := by
  rw [List.getD_eq_getElem?_getD]
  by_cases hi : i < cs.length
  · rw [List.getElem?_eq_getElem hi]; exact h _ (List.getElem_mem hi)
  · rw [List.getElem?_eq_none (by omega)]; exact Nat.zero_le _
theorem gterm_le {cs : List Int} (h : ∀ c ∈ cs, c.natAbs ≤ 3) {n j : Nat} (hn : n ≤ 16) (hj : j ≤ n) : (gterm cs n (j : Int)).natAbs ≤ 688747536 := by
  unfold gterm
  rw [Int.natAbs_mul, Int.toNat_natCast, Int.natAbs_natCast]
  have h1 := pow3 (getD_le h (j - 1)) (Nat.le_trans (Nat.div_le_self n j) hn)
  calc j * _ ≤ 16 * 43046721 := Nat.mul_le_mul (by omega) h1
    _ = 688747536 := by decide
/-- small numbers -/
def SmallN (B : Nat) (ns : List Int) : Prop := ∀ n ∈ ns, n.natAbs ≤ B
abbrev s_law_gh_of : Stmt := top 77
abbrev N_law_gh_of : List Str := ["_law_coordinates", "_law_found", "_law_n", "_law_d"]
theorem sc_law_gh_of : FnScope N_law_gh_of ["_law_coordinates"] (defScope s_law_gh_of) := ⟨rfl, rfl, rfl, by decide +kernel, rfl, by decide +kernel, by decide +kernel⟩
def sp_law_gh_of (K : PySem.W.Frag) : Sp := fun vs H Q _ => ∃ (a : Addr) (cs : List Int), vs = [.ref a] ∧ H a = some (.tup (cs.map V.int)) ∧ cs.length ≤ 16 ∧ SmallN 3 cs ∧ ∀ ns : List Int, ns.length = cs.length → SmallN 20000000000 ns → ∀ p, H p = none → ∀ H', Evl.Ex H H' → H' p = some (.tup (ns.map V.int)) → Q (.ref p) H'
theorem ok_law_gh_of (B : Bt mg) (D : DefAt K mg "_law_gh_of" s_law_gh_of) (c_law_gh_divisors : Cal P w K mg base "_law_gh_divisors" 1 (sp_law_gh_divisors)) (c_law_gh_power : Cal P w K mg base "_law_gh_power" 1 (sp_law_gh_power)) : Cal P w K mg base "_law_gh_of" 3 (sp_law_gh_of K) := by
  refine D.cal sc_law_gh_of (fun vs H Q E h => ?_) (fun _ _ _ _ _ _ us hl => match us, hl with | [_], _ => rfl) (fun cfa cdv cA cO cs H vs Q E hr h => ?_)
  · obtain ⟨a, cs, rfl, ha, hn, hs, q⟩ := h
    rfl
  obtain ⟨a, cs, rfl, ha, hn, hs, q⟩ := h
  refine ⟨_, (pss_cons (ps_set (i := 1) sc_law_gh_of.nd rfl (by first | exact .inl rfl | exact .inr rfl) (pe_lst pa_nil))
      (pss_cons (ps_for PassesOwn.never rfl (pi_range2 (by rfl) B.range (pa_cons pe_int (pa_cons (pe_op op_add (pe_callB (k_len) (by rfl) B.len (by decide +kernel) (pa_cons (pv 0) pa_nil)) pe_int) pa_nil))) (pg_name (i := 2) sc_law_gh_of.nd rfl (by first | exact .inl rfl | exact .inr rfl)) (pss_one (ps_expr (pe_bm PySem.F.plainAttrs_list PySem.F.slot_list_append PySem.F.type_list_append mt_append (pv 1) (pa_cons (pe_callB (cr_sum rfl) (by rfl) B.sum (by decide +kernel) (pa_cons (pe_lc (own := [("_law_d", 3)]) rfl sc_law_gh_of.nd (pi_list (pe_cal c_law_gh_divisors (hr.mono (by decide)) (by rfl) (pa_cons (pv 2) pa_nil))) (blkOk_by (N := N_law_gh_of) (sc := defScope s_law_gh_of) (by decide +kernel)) (fun _ _ _ _ _ => (pg_name (x := "_law_d") (i := 3) sc_law_gh_of.nd rfl (by first | exact .inl rfl | exact .inr rfl))) (fun _ _ _ _ _ => pts_nil) (fun _ _ _ _ _ => (pe_op op_mulW (pv 3) (pe_cal c_law_gh_power (hr.mono (by decide)) (by rfl) (pa_cons (pe_ix (r := rIxT K) ix_tup (pv 0) (pe_op op_sub (pv 3) pe_int) (fun _ _ => rfl)) (pa_cons (pe_op op_fdivW (pv 2) (pv 3)) pa_nil)))))) pa_nil)) pa_nil)))))
      (pss_one (ps_ret (pe_callTy (k_tupOf) (by rfl) B.tuple (by decide +kernel) (pa_cons (pv 1) pa_nil)))))), ?_⟩
  walk_at "rd"
  refine ⟨by decide, fun o ho => ?_⟩
  walk_at "rd"
  have ha1 : upd H o (.lst []) a = some (.tup (cs.map V.int)) := Evl.Ex.new ho a _ ha
  refine r_lenT (sqT ha1) ?_
  walk_at "rd"
  refine ⟨_, _, rfl, by rw [List.length_map]; omega, for_range (lo := 1) (n := (((cs.map V.int).length : Int) + 1 - 1).toNat) (fun i σ' H' => ∃ x y, σ' = [some (.ref a), some (.ref o), x, y] ∧ Evl.Ex H H' ∧ ∃ L : List Int, L.length = i ∧ SmallN 20000000000 L ∧ H' o = some (.lst (L.map V.int))) ⟨_, _, rfl, Evl.Ex.new ho, [], rfl, (fun n hn => nomatch hn), upd_same⟩ (fun i σ' H0 hi hp => ?_) (fun σ' H' hp => ?_)⟩
  · obtain ⟨x, y, rfl, he, L, hL, hLs, hlo⟩ := hp
    have hi2 : i < cs.length := by rw [List.length_map] at hi; omega
    have ha0 := he a _ ha
    walk_at "rd"
    refine ⟨ty_lst hlo, ?_⟩
    walk_at "rd"
    refine ⟨i + 1, by rw [Int.natCast_add, Int.add_comm]; rfl, by omega, fun d hd H1 he1 hk1 => ⟨d, rfl, ⟨_, sqL hk1⟩, fun D hD => lc_list (xs := (dvs (i + 1)).map V.int) (fun k H2 => Evl.Ex H1 H2 ∧ H2 D = some (.lst ((((dvs (i + 1)).take k).map (gterm cs (i + 1))).map V.int))) ⟨Evl.Ex.new hD, upd_same⟩ (fun k H2 _ hp => sqL (hp.1 d _ hk1)) (fun k x H2 hx hp => ?_) (fun H2 hp => ?_)⟩⟩
    · obtain ⟨he2, hl2⟩ := hp
      obtain ⟨u, hu, rfl⟩ := geti hx
      obtain ⟨j, rfl, hj⟩ := mem_dvs (List.mem_of_getElem? hu)
      walk_at "rd"
      refine ⟨rfl, ?_⟩
      walk_at "rd"
      refine iteT ?_
      walk_at "rd"
      refine r_ixT (sqT ((he1.trans he2) a _ ha0)) (i := (j : Int) - 1) (v := .int (cs.getD (j - 1) 0)) ?_ ?_
      · rw [show (j : Int) - 1 = ((j - 1 : Nat) : Int) by omega]
        refine atI_nat ?_
        rw [List.getElem?_map, List.getD_eq_getElem?_getD, List.getElem?_eq_getElem (show j - 1 < cs.length by omega)]
        rfl
      walk_at "rd"
      refine r_I (wide_div (by omega) (b := 20) (by omega) (by decide) (by decide)) ?_
      walk_at "rd"
      have hc3 := getD_le hs (j - 1)
      have hnj2 : (i + 1) / j ≤ i + 1 := Nat.div_le_self _ j
      refine ⟨_, (i + 1) / j, by rw [Int.natCast_ediv, Int.natCast_add, Int.add_comm]; rfl, by omega, ?_⟩
      have hp3 := pow3 hc3 (show (i + 1) / j ≤ 16 by omega)
      refine r_I (wide_mul (a := 20) (b := 40) (by omega) (by omega) (by decide) (by decide) (by decide)) ?_
      refine cw_put he2 hD hl2 ?_ ?_
      · rw [take_map hu, List.map_append]
        rfl
      · rw [List.length_map, List.length_map, List.length_take]
        have := dvsU_len (i + 1) (i + 1)
        unfold dvs
        omega
    · obtain ⟨he2, hl2⟩ := hp
      rw [List.length_map, take_all] at hl2
      walk_at "rd"
      refine r_sum (sqL hl2) ?_
      walk_at "rd"
      have hlo2 := (he1.trans he2) o _ hlo
      refine r_app hlo2 (Nat.lt_of_le_of_lt (show _ ≤ 1000 by rw [List.length_map]; omega) (by decide)) ?_
      walk_at "rd"
      refine ⟨_, _, rfl, (he.trans (he1.trans he2)).mut ho, L ++ [((dvs (i + 1)).map (gterm cs (i + 1))).sum], by rw [List.length_append, hL]; rfl, fun n hn => ?_, by rw [upd_same, List.map_append]; rfl⟩
      rcases List.mem_append.mp hn with h | h
      · exact hLs n h
      · rw [List.mem_singleton.mp h]
        have hb := natAbs_sum_le (B := 688747536) ((dvs (i + 1)).map (gterm cs (i + 1))) fun x hx => by
          obtain ⟨d, hd, rfl⟩ := List.mem_map.mp hx
          obtain ⟨j, rfl, hj⟩ := mem_dvs hd
          exact gterm_le hs (by omega) hj.2.1
        rw [List.length_map] at hb
        have h2 := dvsU_len (i + 1) (i + 1)
        have h3 : (dvs (i + 1)).length ≤ 16 := by unfold dvs; omega
        have h4 : (dvs (i + 1)).length * 688747536 ≤ 16 * 688747536 := Nat.mul_le_mul_right _ h3
        omega
  · obtain ⟨x, y, rfl, he, L, hL, hLs, hlo⟩ := hp
    walk_at "rd"
    refine r_tupOf (sqL hlo) fun p hp => ?_
    have hp0 : H p = none := by
      cases e : H p with
      | none => rfl
      | some u => rw [he p u e] at hp; cases hp
    refine q L (by rw [hL, List.length_map]; omega) hLs p hp0 _ (he.trans (Evl.Ex.new hp)) upd_same
abbrev s_law_gh_drawn : Stmt := top 79
abbrev N_law_gh_drawn : List Str := ["_law_dice_here", "_law_size", "_law_most", "_law_turn"]
theorem sc_law_gh_drawn : FnScope N_law_gh_drawn ["_law_dice_here", "_law_size", "_law_most"] (defScope s_law_gh_drawn) := ⟨rfl, rfl, rfl, by decide +kernel, rfl, by decide +kernel, by decide +kernel⟩
def sp_law_gh_drawn (K : PySem.W.Frag) : Sp := fun vs H Q _ => ∃ (d : Addr) (size most : Nat), vs = [.ref d, .int (size : Int), .int (most : Int)] ∧ Dice H d ∧ (size ≤ 16 ∧ 2 ≤ most ∧ most ≤ 30) ∧ ∀ ns : List Int, ns.length = size → SmallN most ns → ∀ p, H p = none → ∀ H', ExB d H H' → Dice H' d → H' p = some (.tup (ns.map V.int)) → Q (.ref p) H'
theorem ok_law_gh_drawn (B : Bt mg) (D : DefAt K mg "_law_gh_drawn" s_law_gh_drawn) (c_law_pick : Cal P w K mg base "_law_pick" 2 (sp_law_pick)) (c_law_roll : Cal P w K mg base "_law_roll" 1 (sp_law_roll)) : Cal P w K mg base "_law_gh_drawn" 3 (sp_law_gh_drawn K) := by
  refine D.cal sc_law_gh_drawn (fun vs H Q E h => ?_) (fun _ _ _ _ _ _ us hl => match us, hl with | [_, _, _], _ => rfl) (fun cfa cdv cA cO cs H vs Q E hr h => ?_)
  · obtain ⟨d, size, most, rfl, hd, hn, q⟩ := h
    rfl
  obtain ⟨d, size, most, rfl, hd, hn, q⟩ := h
  refine ⟨_, (pss_one (ps_ret (pe_callTy (k_tupOf) (by rfl) B.tuple (by decide +kernel) (pa_cons (pe_lc (own := [("_law_turn", 3)]) rfl sc_law_gh_drawn.nd (pi_range1 (by rfl) B.range (pa_cons (pv 1) pa_nil)) (blkOk_by (N := N_law_gh_drawn) (sc := defScope s_law_gh_drawn) (by decide +kernel)) (fun _ _ _ _ _ => (pg_name (x := "_law_turn") (i := 3) sc_law_gh_drawn.nd rfl (by first | exact .inl rfl | exact .inr rfl))) (fun _ _ _ _ _ => pts_nil) (fun _ _ _ _ _ => (pe_cal c_law_pick (hr.mono (by decide)) (by rfl) (pa_cons (pv 0) (pa_cons (pe_lst (pa_cons pe_int (pa_cons pe_int (pa_cons pe_int (pa_cons (pe_un un_neg pe_int) (pa_cons pe_int (pa_cons (pe_op op_sub (pe_cal c_law_roll (hr.mono (by decide)) (by rfl) (pa_cons (pv 0) (pa_cons (pe_op op_add (pe_op op_mulW pe_int (pv 2)) pe_int) pa_nil))) (pv 2)) pa_nil))))))) pa_nil))))) pa_nil)))), ?_⟩
  walk_at "rd"
  refine ⟨_, rfl, by omega, by omega, fun D hD => lc_range (lo := 0) (n := ((size : Int)).toNat) (fun i H' => ExB d H H' ∧ Dice H' d ∧ ∃ L : List Int, L.length = i ∧ SmallN most L ∧ H' D = some (.lst (L.map V.int))) ⟨ExB.new hD, hd.upd (hd.ne hD), [], rfl, (fun n hn => nomatch hn), upd_same⟩ (fun i H' hi hp => ?_) (fun H' hp => ?_)⟩
  · obtain ⟨he, hd1, L, hL, hLs, hlo⟩ := hp
    have hDd : D ≠ d := hd.ne hD
    walk_at "rd"
    refine ⟨rfl, ?_⟩
    walk_at "rd"
    refine iteT ?_
    walk_at "rd"
    refine r_I (wide_mul (a := 20) (b := 20) (by decide) (by omega) (by decide) (by decide) (by decide)) ?_
    walk_at "rd"
    refine ⟨d, _, rfl, hd1, by omega, fun r l m c h0 h1 => ?_⟩
    walk_at "rd"
    refine ⟨by show 6 ≤ sizeLine; decide, fun p hp => ?_⟩
    walk_at "rd"
    have hd2 : Dice (upd H' d (.lst [.int l, .int m, .int c])) d := Dice.put
    have hpd : p ≠ d := hd2.ne hp
    refine ⟨d, p, _, rfl, hd2.upd hpd, upd_same, ⟨by show 0 < 6; decide, by show 6 ≤ 1000; decide, hpd⟩, fun y l m c hy => ?_⟩
    obtain ⟨n, rfl, hnb⟩ : ∃ n : Int, y = .int n ∧ n.natAbs ≤ most := by
      rcases List.mem_cons.mp hy with rfl | hy
      · exact ⟨0, rfl, by omega⟩
      rcases List.mem_cons.mp hy with rfl | hy
      · exact ⟨0, rfl, by omega⟩
      rcases List.mem_cons.mp hy with rfl | hy
      · exact ⟨1, rfl, by omega⟩
      rcases List.mem_cons.mp hy with rfl | hy
      · exact ⟨-1, rfl, by omega⟩
      rcases List.mem_cons.mp hy with rfl | hy
      · exact ⟨2, rfl, by omega⟩
      rw [List.mem_singleton.mp hy]
      exact ⟨_, rfl, by omega⟩
    have hDp : D ≠ p := fun e => by
      rw [← e, upd_ne hDd, hlo] at hp
      cases hp
    refine ⟨L.map V.int, ?_, Nat.lt_of_le_of_lt (show _ ≤ 1000 by rw [List.length_map]; omega) (by decide), ?_, ?_, L ++ [n], by rw [List.length_append, hL]; rfl, ?_, ?_⟩
    · rw [upd_ne hDd, upd_ne hDp, upd_ne hDd]; exact hlo
    · exact (he.trans (ExB.put.trans ((ExB.new hp).trans ExB.put))).mut hD
    · exact Dice.put.upd hDd
    · intro x hx
      rcases List.mem_append.mp hx with h | h
      · exact hLs x h
      · rw [List.mem_singleton.mp h]; exact hnb
    · rw [upd_same, List.map_append]; rfl
  · obtain ⟨he, hd1, L, hL, hLs, hlo⟩ := hp
    walk_at "rd"
    refine r_tupOf (sqL hlo) fun p hp => ?_
    have hp0 : H p = none := by
      cases e : H p with
      | none => rfl
      | some u => rw [he p u (hd1.ne hp) e] at hp; cases hp
    exact q L (by omega) hLs p hp0 _ (he.trans (ExB.new hp)) (hd1.upd (hd1.ne hp)) upd_same
end
end G
set_option linter.all false
set_option maxRecDepth 100000
namespace G
/-! ### bounds of the row -/
theorem fac_le {n : Nat} (h : n ≤ 24) : fac n < 2 ^ 90 := Nat.lt_of_le_of_lt (fac_mono h) fac_small
def eB (n : Nat) : Nat := 2 ^ (200 * n)
theorem eTerm_le {ns E : List Int} {n k : Nat} (hs : ∀ x ∈ ns, x.natAbs ≤ 2 ^ 40) (hn : n ≤ 24) (hE : ∀ j ≤ n - 1, (E.getD j 0).natAbs ≤ eB (n - 1)) (hk : 1 ≤ k) : (eTerm ns E n k).natAbs ≤ 2 ^ 130 * eB (n - 1) := by
  unfold eTerm
  rw [Int.natAbs_mul, Int.natAbs_mul, Int.natAbs_natCast]
  have h1 : (ns.getD (k - 1) 0).natAbs ≤ 2 ^ 40 := by
    rw [List.getD_eq_getElem?_getD]
    by_cases hi : k - 1 < ns.length
    · rw [List.getElem?_eq_getElem hi]; exact hs _ (List.getElem_mem hi)
    · rw [List.getElem?_eq_none (by omega)]; exact Nat.zero_le _
  have h2 : fac (n - 1) / fac (n - k) ≤ 2 ^ 90 := Nat.le_trans (Nat.div_le_self _ _) (Nat.le_of_lt (fac_le (by omega)))
  have h3 := hE (n - k) (by omega)
  exact Nat.mul_le_mul (Nat.le_trans (Nat.mul_le_mul h1 h2) (by rw [← Nat.pow_add]; exact Nat.le_refl _)) h3
theorem eSum_le {ns E : List Int} {n k : Nat} (hs : ∀ x ∈ ns, x.natAbs ≤ 2 ^ 40) (hn : n ≤ 24) (hn1 : 1 ≤ n) (hE : ∀ j ≤ n - 1, (E.getD j 0).natAbs ≤ eB (n - 1)) (hk : k ≤ n) : (eSum ns E n k).natAbs ≤ eB n := by
  unfold eSum
  have h := natAbs_sum_le (B := 2 ^ 130 * eB (n - 1)) ((List.range k).map fun j => eTerm ns E n (j + 1)) fun x hx => by
    obtain ⟨j, _, rfl⟩ := List.mem_map.mp hx
    exact eTerm_le hs hn hE (by omega)
  rw [List.length_map, List.length_range] at h
  refine Nat.le_trans h ?_
  have h2 : k * (2 ^ 130 * eB (n - 1)) ≤ 2 ^ 5 * (2 ^ 130 * eB (n - 1)) := Nat.mul_le_mul_right _ (by omega)
  refine Nat.le_trans h2 ?_
  unfold eB
  rw [← Nat.pow_add, ← Nat.pow_add]
  exact Nat.pow_le_pow_right (by decide) (by omega)
theorem eB_mono {a b : Nat} (h : a ≤ b) : eB a ≤ eB b := Nat.pow_le_pow_right (by decide) (by omega)
theorem eN_all {ns : List Int} (hs : ∀ x ∈ ns, x.natAbs ≤ 2 ^ 40) : ∀ n, n ≤ 24 → ∀ j ≤ n, (eN ns j).natAbs ≤ eB j
  | 0, _, j, hj => by rw [Nat.le_zero.mp hj]; exact Nat.le_refl 1
  | n + 1, hn, j, hj => by
    have ih := eN_all hs n (by omega)
    rcases Nat.lt_or_ge j (n + 1) with z | z
    · exact ih j (by omega)
    · rw [Nat.le_antisymm hj z, eN_succ]
      exact eSum_le hs hn (by omega) (fun j hj => by rw [eL_get ns (by omega)]; exact Nat.le_trans (ih j (by omega)) (eB_mono (by omega))) (Nat.le_refl _)
theorem eN_le {ns : List Int} (hs : ∀ x ∈ ns, x.natAbs ≤ 2 ^ 40) {n : Nat} (hn : n ≤ 24) : (eN ns n).natAbs ≤ eB n := eN_all hs n hn n (Nat.le_refl n)
theorem part_le {ns : List Int} (hs : ∀ x ∈ ns, x.natAbs ≤ 2 ^ 40) {n k : Nat} (hn : n + 1 ≤ 24) (hk : k ≤ n + 1) : (eSum ns (eL ns n) (n + 1) k).natAbs ≤ eB (n + 1) :=
  eSum_le hs hn (by omega) (fun j hj => by rw [eL_get ns (by omega)]; exact Nat.le_trans (eN_le hs (by omega)) (eB_mono (by omega))) hk
theorem eB_lt {n : Nat} (h : n ≤ 24) : eB n < 2 ^ 5000 := Nat.pow_lt_pow_right (by decide) (by omega)
/-! ### one step of the row -/
theorem row_step {X F a Q G e : Int} (hF : 0 < F) (hG : 0 < G) (hFG : F = G * Q) :
    redu ((redu X F).1 * (redu e G).2 + a * (redu e G).1 * (redu X F).2) ((redu X F).2 * (redu e G).2) = redu (X + a * Q * e) F := by
  have c1 := redu_cross (a := X) (b := F)
  have c2 := redu_cross (a := e) (b := G)
  refine redu_eq (Int.mul_pos (redu_pos hF) (redu_pos hG)) hF ?_
  generalize (redu X F).1 = t1 at *
  generalize (redu X F).2 = b1 at *
  generalize (redu e G).1 = t2 at *
  generalize (redu e G).2 = b2 at *
  calc (t1 * b2 + a * t2 * b1) * F = (t1 * F) * b2 + a * (t2 * G) * Q * b1 := by
        rw [Int.add_mul]
        have e1 : t1 * b2 * F = t1 * F * b2 := by ac_rfl
        have e2 : a * t2 * b1 * F = a * (t2 * G) * Q * b1 := by rw [hFG]; ac_rfl
        rw [e1, e2]
    _ = (X * b1) * b2 + a * (e * b2) * Q * b1 := by rw [c1, c2]
    _ = (X + a * Q * e) * (b1 * b2) := by
        rw [Int.add_mul]
        have e1 : X * b1 * b2 = X * (b1 * b2) := by ac_rfl
        have e2 : a * (e * b2) * Q * b1 = a * Q * e * (b1 * b2) := by ac_rfl
        rw [e1, e2]
theorem row_last {X F n : Int} (hF : 0 < F) (hn : 0 < n) : redu (redu X F).1 ((redu X F).2 * n) = redu X (F * n) := by
  have c1 := redu_cross (a := X) (b := F)
  refine redu_eq (Int.mul_pos (redu_pos hF) hn) (Int.mul_pos hF hn) ?_
  generalize (redu X F).1 = t1 at *
  generalize (redu X F).2 = b1 at *
  calc t1 * (F * n) = (t1 * F) * n := by ac_rfl
    _ = (X * b1) * n := by rw [c1]
    _ = X * (b1 * n) := by ac_rfl
theorem redu_zero {F : Int} (hF : 0 < F) : redu 0 F = (0, 1) := by
  unfold redu
  rw [Int.natAbs_zero, Nat.gcd_zero_left, Int.natAbs_of_nonneg (Int.le_of_lt hF), Int.ediv_self (by omega)]
  simp
/-! ### the bad places -/
theorem due_head {ns : List Int} : ((List.range (ns.length + 1)).filter (dueB ns)).head? = dueN ns := by
  rw [List.head?_filter, List.range_succ_eq_map, List.find?_cons]
  have e : dueB ns 0 = false := dueB_iff.mpr ⟨1, rfl⟩
  rw [e]
  rfl
end G
set_option Elab.async false
set_option linter.all false
set_option maxRecDepth 100000
set_option maxHeartbeats 4000000
namespace G
open PySem PySem.Spec PyProof.Rows L2
local macro_rules | `(tactic| walk_at "rd") => `(tactic| repeat (first
  | (with_reducible first
  | refine r_seq ?_ | refine r_asg ?_ | refine r_c ?_ | refine r_op ?_ | refine r_cons ?_ | refine r_nil ?_ | refine r_cb ?_ | refine r_cal ?_ | refine r_I0 ?_ | refine r_gname ?_
  | refine r_test ?_ | refine r_k ?_ | refine r_B ?_ | refine r_ifs ?_ | refine r_eqI ?_ | refine r_neI ?_ | refine r_un ?_ | refine r_U ?_ | refine r_par ?_ | refine r_vw ?_ | refine r_ret ?_ | refine r_drop ?_
  | refine r_next ?_ | refine r_not ?_ | refine r_and ?_ | refine r_or ?_ | refine r_if ?_ | refine r_chain ?_ | refine r_ipI ?_ | refine r_abs ?_ | refine r_int1 ?_ | refine r_int1b ?_ | refine r_eqB ?_ | refine r_neB ?_
  | refine r_max2 ?_ | refine r_min2 ?_ | refine r_gcd ?_ | refine r_tup ?_ | refine r_lst ?_ | refine r_bm ?_ | refine r_for ?_ | refine r_rng1 ?_ | refine r_rng2 ?_ | refine r_ilist ?_ | refine r_itup ?_ | refine r_yes ?_ | refine r_lc ?_ | refine r_sub ?_
  | refine r_gcons ?_ | refine r_gnil ?_ | refine r_andV0 ?_ | refine r_orV0 ?_ | refine r_notV ?_ | refine r_par3 ?_ | refine r_vwz ?_ | refine r_isN ?_ | refine r_notN ?_)
  | ((with_reducible refine' r_var ?k1 ?_); (case k1 => exact rfl))
  | ((with_reducible refine' r_aug ?k1 ?_); (case k1 => exact rfl))))
section
variable {P : Program} {w : World} {K : PySem.W.Frag} {mg : Str → Option Value} {base : Heap}
theorem r_ienum {σ : L2.St} {H : Hp} {K : PySem.W.Frag} {ta : TA} {R : It → Hp → Prop} (q : ta σ H fun vs H1 => ∃ a xs, vs = [.ref a] ∧ SqL K H1 a xs ∧ R (Ite K a) H1) : iEnum K ta σ H R := q
theorem pg_tupK {X : Cx} (K : PySem.W.Frag) {es : List Expr} {k : Nat} {pos : Pos} {t : TGs} {n : Nat} (hc : X.calm = true) (h : PGs X es t)
    (hn : (assignEach es X.env).length = n := by rfl) (hst : (assignEach es X.env).findIdx? (·.1) = none := by rfl) (hK : X.K = K := by rfl) : PG X (.Tuple es k pos) (gTup K n t) := by
  subst hK
  exact pg_tup hc h hn hst
def reV (e : Int) (f : Nat) : List V := [.int (redu e ((f : Nat) : Int)).1, .int (redu e ((f : Nat) : Int)).2]
theorem rowv_zero (ns : List Int) : [V.int 1, V.int 1] = reV (eN ns 0) (fac 0) := by
  rw [show eN ns 0 = 1 from rfl]
  unfold reV
  rw [show redu 1 ((fac 0 : Nat) : Int) = (1, 1) by decide]
def rowv (ns : List Int) (j : Nat) : List V := reV (eN ns j) (fac j)
/-- a list of pairs: the row to m terms -/
def RowL (H : Hp) (ns : List Int) (m : Nat) (R : List V) : Prop := R.length = m ∧ ∀ j < m, ∃ r : Addr, R[j]? = some (.ref r) ∧ H r = some (.tup (rowv ns j))
theorem RowL.ex {H H' : Hp} {ns : List Int} {m : Nat} {R : List V} (h : RowL H ns m R) (e : Evl.Ex H H') : RowL H' ns m R := ⟨h.1, fun j hj => by
  obtain ⟨r, a, b⟩ := h.2 j hj
  exact ⟨r, a, e r _ b⟩⟩
theorem RowL.put {H : Hp} {ns : List Int} {m : Nat} {R xs ys : List V} {o p : Addr} (h : RowL H ns m R) (ho : H o = some (.lst xs)) (hp : H p = some (.tup (rowv ns m))) : RowL (upd H o (.lst ys)) ns (m + 1) (R ++ [.ref p]) := by
  have hne : ∀ r T, H r = some (.tup T) → r ≠ o := fun r T hr e => by rw [e, ho] at hr; cases hr
  refine ⟨by rw [List.length_append, h.1]; rfl, fun j hj => ?_⟩
  rcases Nat.lt_or_ge j m with z | z
  · obtain ⟨r, a, b⟩ := h.2 j z
    exact ⟨r, by rw [List.getElem?_append_left (by rw [h.1]; exact z)]; exact a, by rw [upd_ne (hne r _ b)]; exact b⟩
  · have : j = m := by omega
    subst this
    exact ⟨p, by rw [List.getElem?_append_right (by rw [h.1]; exact Nat.le_refl _), h.1, Nat.sub_self]; rfl, by rw [upd_ne (hne p _ hp)]; exact hp⟩
theorem none_of {H H' : Hp} {p : Addr} (e : Evl.Ex H H') (h : H' p = none) : H p = none := by
  cases k : H p with
  | none => rfl
  | some u => rw [e p u k] at h; cases h
theorem eTerm_at (ns : List Int) (i k : Nat) (hk : k ≤ i) : eTerm ns (eL ns i) (i + 1) (k + 1) = ns.getD k 0 * ((fac i / fac (i - k) : Nat) : Int) * eN ns (i - k) := by
  unfold eTerm
  rw [show i + 1 - (k + 1) = i - k by omega, show i + 1 - 1 = i by omega, show k + 1 - 1 = k by omega, eL_get ns (Nat.sub_le i k)]
theorem fac_b {n : Nat} (h : n ≤ 24) (e : Int) : (redu e ((fac n : Nat) : Int)).2.natAbs < 2 ^ 90 := by
  have h1 := redu_le2 (a := e) (fac_posI n)
  have h2 := redu_pos (a := e) (fac_posI n)
  have h3 := fac_le h
  omega
theorem wide_up {a b n : Nat} (h : n < 2 ^ a) (hab : a ≤ b) : n < 2 ^ b := Nat.lt_of_lt_of_le h (Nat.pow_le_pow_right (by decide) hab)
theorem red_t {e : Int} {n : Nat} (hn : n ≤ 24) (h : e.natAbs ≤ eB n) (f : Int) : (redu e f).1.natAbs < 2 ^ 100000 :=
  wide_up (Nat.lt_of_le_of_lt (Nat.le_trans redu_abs1 h) (eB_lt hn)) (by decide)
abbrev s_law_gh_row : Stmt := top 78
abbrev N_law_gh_row : List Str := ["_law_ghosts", "_law_found", "_law_n", "_law_here", "_law_k"]
theorem sc_law_gh_row : FnScope N_law_gh_row ["_law_ghosts"] (defScope s_law_gh_row) := ⟨rfl, rfl, rfl, by decide +kernel, rfl, by decide +kernel, by decide +kernel⟩
def sp_law_gh_row (K : PySem.W.Frag) : Sp := fun vs H Q _ => ∃ (a : Addr) (ns : List Int), vs = [.ref a] ∧ H a = some (.tup (ns.map V.int)) ∧ ns.length ≤ 24 ∧ SmallN (2 ^ 40) ns ∧ ∀ (R : List V) p, H p = none → ∀ H', Evl.Ex H H' → H' p = some (.lst R) → RowL H' ns (ns.length + 1) R → Q (.ref p) H'
theorem ok_law_gh_row (B : Bt mg) (D : DefAt K mg "_law_gh_row" s_law_gh_row) (c_law_ratio_sum : Cal P w K mg base "_law_ratio_sum" 3 (sp_law_ratio_sum K)) (c_law_ratio : Cal P w K mg base "_law_ratio" 2 (sp_law_ratio)) : Cal P w K mg base "_law_gh_row" 4 (sp_law_gh_row K) := by
  refine D.cal sc_law_gh_row (fun vs H Q E h => ?_) (fun _ _ _ _ _ _ us hl => match us, hl with | [_], _ => rfl) (fun cfa cdv cA cO cs H vs Q E hr h => ?_)
  · obtain ⟨a, ns, rfl, ha, hn, hs, q⟩ := h
    rfl
  obtain ⟨a, ns, rfl, ha, hn, hs, q⟩ := h
  refine ⟨_, (pss_cons (ps_set (i := 1) sc_law_gh_row.nd rfl (by first | exact .inl rfl | exact .inr rfl) (pe_lst (pa_cons (pe_tup (pa_cons pe_int (pa_cons pe_int pa_nil))) pa_nil)))
      (pss_cons (ps_for PassesOwn.never rfl (pi_range2 (by rfl) B.range (pa_cons pe_int (pa_cons (pe_op op_add (pe_callB (k_len) (by rfl) B.len (by decide +kernel) (pa_cons (pv 0) pa_nil)) pe_int) pa_nil))) (pg_name (i := 2) sc_law_gh_row.nd rfl (by first | exact .inl rfl | exact .inr rfl)) (pss_cons (ps_set (i := 3) sc_law_gh_row.nd rfl (by first | exact .inl rfl | exact .inr rfl) (pe_tup (pa_cons pe_int (pa_cons pe_int pa_nil))))
      (pss_cons (ps_for PassesOwn.never rfl (pi_range2 (by rfl) B.range (pa_cons pe_int (pa_cons (pe_op op_add (pv 2) pe_int) pa_nil))) (pg_name (i := 4) sc_law_gh_row.nd rfl (by first | exact .inl rfl | exact .inr rfl)) (pss_one (ps_set (i := 3) sc_law_gh_row.nd rfl (by first | exact .inl rfl | exact .inr rfl) (pe_cal c_law_ratio_sum (hr.mono (by decide)) (by rfl) (pa_cons (pv 3) (pa_cons (pe_ix ix_list (pv 1) (pe_op op_sub (pv 2) (pv 4)) (fun _ _ => rfl)) (pa_cons (pe_ix ix_tup (pv 0) (pe_op op_sub (pv 4) pe_int) (fun _ _ => rfl)) pa_nil)))))))
      (pss_one (ps_expr (pe_bm PySem.F.plainAttrs_list PySem.F.slot_list_append PySem.F.type_list_append mt_append (pv 1) (pa_cons (pe_cal c_law_ratio (hr.mono (by decide)) (by rfl) (pa_cons (pe_ix ix_tup (pv 3) pe_int (fun _ _ => rfl)) (pa_cons (pe_op op_mulW (pe_ix ix_tup (pv 3) pe_int (fun _ _ => rfl)) (pv 2)) pa_nil))) pa_nil)))))))
      (pss_one (ps_ret (pv 1))))), ?_⟩
  walk_at "rd"
  refine ⟨by show 2 ≤ sizeLine; decide, fun t0 ht0 => ?_⟩
  walk_at "rd"
  refine ⟨by show 1 ≤ sizeLine; decide, fun o ho => ?_⟩
  walk_at "rd"
  have he0 : Evl.Ex H (upd H t0 (.tup [.int 1, .int 1])) := .new ht0
  have he1 := he0.trans (Evl.Ex.new (o := .lst [.ref t0]) ho)
  have ho0 := none_of he0 ho
  refine r_lenT (sqT (he1 a _ ha)) ?_
  walk_at "rd"
  refine ⟨_, _, rfl, by rw [List.length_map]; omega, for_range (lo := 1) (n := (((ns.map V.int).length : Int) + 1 - 1).toNat) (fun i σ' H' => ∃ x y z, σ' = [some (.ref a), some (.ref o), x, y, z] ∧ Evl.Ex H H' ∧ ∃ R, H' o = some (.lst R) ∧ RowL H' ns (i + 1) R) ⟨_, _, _, rfl, he1, [.ref t0], upd_same, rfl, fun j hj => ?_⟩ (fun i σ' H0 hi hp => ?_) (fun σ' H' hp => ?_)⟩
  · have : j = 0 := by omega
    subst this
    exact ⟨t0, rfl, by rw [upd_ne (fun e => by rw [← e, upd_same] at ho; cases ho), upd_same, rowv_zero ns]; rfl⟩
  · obtain ⟨x, y, z, rfl, he, R, hlo, hR⟩ := hp
    have hi2 : i < ns.length := by rw [List.length_map] at hi; omega
    have ha0 := he a _ ha
    walk_at "rd"
    refine ⟨by show 2 ≤ sizeLine; decide, fun h0 hh0 => ?_⟩
    walk_at "rd"
    refine ⟨_, _, rfl, by omega, for_range (lo := 1) (n := (1 + (i : Int) + 1 - 1).toNat) (fun k σ2 H2 => ∃ y h, σ2 = [some (.ref a), some (.ref o), some (.int (1 + (i : Int))), some (.ref h), y] ∧ Evl.Ex H0 H2 ∧ H2 h = some (.tup (reV (eSum ns (eL ns i) (i + 1) k) (fac i)))) ⟨_, h0, rfl, .new hh0, by rw [upd_same]; show _ = some (HO.tup (reV 0 (fac i))); unfold reV; rw [redu_zero (fac_posI i)]⟩ (fun k σ2 H2 hk hp => ?_) (fun σ2 H2 hp => ?_)⟩
    · obtain ⟨y, h, rfl, he2, hh⟩ := hp
      have hk2 : k ≤ i := by omega
      obtain ⟨r, hr1, hr2⟩ := hR.2 (i - k) (by omega)
      walk_at "rd"
      refine r_ixL (sqL (he2 o _ hlo)) (i := 1 + (i : Int) - (1 + (k : Int))) (v := .ref r) ?_ ?_
      · rw [show 1 + (i : Int) - (1 + (k : Int)) = ((i - k : Nat) : Int) by omega]
        exact atI_nat hr1
      walk_at "rd"
      refine r_ixT (sqT (he2 a _ ha0)) (i := 1 + (k : Int) - 1) (v := .int (ns.getD k 0)) ?_ ?_
      · rw [show 1 + (k : Int) - 1 = (k : Int) by omega]
        refine atI_nat ?_
        rw [List.getElem?_map, List.getD_eq_getElem?_getD, List.getElem?_eq_getElem (show k < ns.length by omega)]
        rfl
      walk_at "rd"
      have hf := getD_le hs k
      refine ⟨h, r, _, _, _, _, _, rfl, sqT hh, sqT (he2 r _ hr2), redu_pos (fac_posI i), redu_pos (fac_posI (i - k)), wide_up (fac_b (by omega) _) (by decide), wide_up (fac_b (by omega) _) (by decide), red_t (n := i + 1) (by omega) (part_le hs (by omega) (by omega)) _, red_t (n := i - k) (by omega) (eN_le hs (by omega)) _, wide_up (a := 41) (by omega) (by decide), fun p hp => ?_⟩
      rw [row_step (Q := ((fac i / fac (i - k) : Nat) : Int)) (fac_posI i) (fac_posI (i - k)) (by rw [← Int.natCast_mul, fac_quot (Nat.sub_le i k)]), ← eTerm_at ns i k hk2, ← eSum_succ]
      walk_at "rd"
      exact ⟨_, p, rfl, he2.trans (.new hp), upd_same⟩
    · obtain ⟨y, h, rfl, he2, hh⟩ := hp
      rw [show (1 + (i : Int) + 1 - 1).toNat = i + 1 by omega, ← eN_succ] at hh
      walk_at "rd"
      refine ⟨ty_lst (he2 o _ hlo), ?_⟩
      walk_at "rd"
      refine r_ixT (sqT hh) rfl ?_
      walk_at "rd"
      refine r_ixT (sqT hh) rfl ?_
      have hb := fac_b (n := i) (by omega) (eN ns (i + 1))
      have hb2 := redu_pos (a := eN ns (i + 1)) (fac_posI i)
      walk_at "rd"
      refine r_I (wide_mul (j := 1 + (i : Int)) (a := 90) (b := 20) hb (by omega) (by decide) (by decide) (by decide)) ?_
      walk_at "rd"
      refine ⟨_, _, rfl, Int.mul_pos hb2 (by omega), wide_up (wide_lt (j := 1 + (i : Int)) (a := 90) (b := 20) hb (by omega)) (by decide), fun p hp => ?_⟩
      rw [row_last (fac_posI i) (by omega), show ((fac i : Nat) : Int) * (1 + (i : Int)) = ((fac (i + 1) : Nat) : Int) by rw [fac_succI]; congr 1; omega]
      walk_at "rd"
      have he3 := he2.trans (Evl.Ex.new (o := .tup (rowv ns (i + 1))) hp)
      have hlo3 := he3 o _ hlo
      refine r_app hlo3 (Nat.lt_of_le_of_lt (show _ ≤ 1000 by rw [hR.1]; omega) (by decide)) ?_
      walk_at "rd"
      refine ⟨_, _, _, rfl, (he.trans he3).mut ho0, R ++ [.ref p], upd_same, ?_⟩
      exact (hR.ex he3).put (p := p) hlo3 upd_same
  · obtain ⟨x, y, z, rfl, he, R, hlo, hR⟩ := hp
    walk_at "rd"
    rw [show (((ns.map V.int).length : Int) + 1 - 1).toNat = ns.length by rw [List.length_map]; omega] at hR
    exact q R o ho0 H' he hlo hR
abbrev s_law_by_row : Stmt := top 82
abbrev N_law_by_row : List Str := ["_law_numbers", "_law_n", "_law_pair", "_law_bad"]
theorem sc_law_by_row : FnScope N_law_by_row ["_law_numbers"] (defScope s_law_by_row) := ⟨rfl, rfl, rfl, by decide +kernel, rfl, by decide +kernel, by decide +kernel⟩
def sp_law_by_row (K : PySem.W.Frag) : Sp := fun vs H Q _ => ∃ (a : Addr) (ns : List Int), vs = [.ref a] ∧ H a = some (.tup (ns.map V.int)) ∧ ns.length ≤ 24 ∧ SmallN (2 ^ 40) ns ∧ ∀ H', Evl.Ex H H' → Q (optV (dueN ns)) H'
theorem ok_law_by_row (B : Bt mg) (D : DefAt K mg "_law_by_row" s_law_by_row) (c_law_gh_row : Cal P w K mg base "_law_gh_row" 4 (sp_law_gh_row K)) : Cal P w K mg base "_law_by_row" 5 (sp_law_by_row K) := by
  refine D.cal sc_law_by_row (fun vs H Q E h => ?_) (fun _ _ _ _ _ _ us hl => match us, hl with | [_], _ => rfl) (fun cfa cdv cA cO cs H vs Q E hr h => ?_)
  · obtain ⟨a, ns, rfl, ha, hn, hs, q⟩ := h
    rfl
  obtain ⟨a, ns, rfl, ha, hn, hs, q⟩ := h
  refine ⟨_, (pss_cons (ps_setLc (i := 3) (own := [("_law_n", 1), ("_law_pair", 2)]) rfl sc_law_by_row.nd rfl rfl (sw_true rfl rfl rfl (by decide +kernel)) (pi_enum (by rfl) B.enumerate (pa_cons (pe_cal c_law_gh_row (hr.mono (by decide)) (by rfl) (pa_cons (pv 0) pa_nil)) pa_nil)) (blkOk_by (N := N_law_by_row) (sc := defScope s_law_by_row) (by decide +kernel)) (fun _ _ _ _ _ => (pg_tupK (n := 2) K rfl (pgs_cons (pg_name (x := "_law_n") (i := 1) sc_law_by_row.nd rfl (by first | exact .inl rfl | exact .inr rfl)) (pgs_cons (pg_name (x := "_law_pair") (i := 2) sc_law_by_row.nd rfl (by first | exact .inl rfl | exact .inr rfl)) pgs_nil)))) (fun _ _ _ _ _ => (pts_one (pt_cmpR op_ne (pe_ix (r := rIxT K) ix_tup (pv 2) pe_int (fun _ _ => rfl)) pe_int (nomark _)))) (fun _ _ _ _ _ => (pv 1)))
      (pss_one (ps_ret (pe_ifExp (pt_cmpR (op_neD hr.units) (pv 3) (pe_lst pa_nil) (nomark _)) (pe_ix ix_list (pv 3) pe_int (fun _ _ => rfl)) pe_non)))), ?_⟩
  walk_at "rd"
  refine r_ienum ?_
  walk_at "rd"
  refine ⟨a, ns, rfl, ha, hn, hs, fun R p hp0 H1 he1 hk1 hR => ?_⟩
  walk_at "rd"
  refine ⟨p, R, rfl, sqL hk1, fun D hD => lc_it (walk_enum (xs := R)) (fun k H2 => Evl.Ex H1 H2 ∧ H2 D = some (.lst ((((List.range (ns.length + 1)).take k).filter (dueB ns)).map fun (n : Nat) => V.int (n : Int)))) ⟨Evl.Ex.new hD, upd_same⟩ (fun k H2 _ hp => sqL (hp.1 p _ hk1)) (fun k x H2 H3 hk hp hy => ?_) (fun H2 hp => ?_)⟩
  · obtain ⟨he2, hl2⟩ := hp
    obtain ⟨T, u, v, rfl, hT, rfl, hu, hv⟩ := hy
    cases hu
    rw [hR.1] at hk
    obtain ⟨r, hr1, hr2⟩ := hR.2 k hk
    have hv : R[k]? = some v := hv
    rw [hr1] at hv
    cases hv
    have he3 : Evl.Ex H1 (upd H2 T (.tup [.int (k : Nat), .ref r])) := he2.trans (.new hT)
    have hl3 : upd H2 T (.tup [.int (k : Nat), .ref r]) D = some (.lst ((((List.range (ns.length + 1)).take k).filter (dueB ns)).map fun (n : Nat) => V.int (n : Int))) := by
      rw [upd_ne (ne_of_none hl2 hT)]; exact hl2
    have hk0 : (List.range (ns.length + 1))[k]? = some k := List.getElem?_range hk
    refine r_gtup (sqT upd_same) rfl ?_
    walk_at "rd"
    refine ⟨rfl, ?_⟩
    walk_at "rd"
    refine r_ixT (sqT (he3 r _ hr2)) rfl ?_
    walk_at "rd"
    refine ite_nd (fun e => ?_) (fun e => ?_)
    · walk_at "rd"
      refine cw_put he3 hD hl3 ?_ ?_
      · rw [take_yes hk0 (decide_eq_true e), List.map_append]
        rfl
      · rw [List.length_map]
        exact Nat.le_trans (List.length_filter_le _ _) (Nat.le_trans (List.length_take_le _ _) (by omega))
    · rw [take_no hk0 (decide_eq_false (by simpa using e))]
      exact ⟨he3, hl3⟩
  · obtain ⟨he2, hl2⟩ := hp
    rw [show (List.range (ns.length + 1)).take R.length = List.range (ns.length + 1) by rw [hR.1]; exact List.take_of_length_le (by rw [List.length_range]; exact Nat.le_refl _)] at hl2
    have hd := due_head (ns := ns)
    walk_at "rd"
    refine ⟨by decide, fun b hb => ?_⟩
    have he3 := he1.trans (he2.trans (Evl.Ex.new (o := .lst []) hb))
    have hl3 := (Evl.Ex.new (o := .lst []) hb) D _ hl2
    have q2 := q _ he3
    rw [← hd] at q2
    generalize (List.range (ns.length + 1)).filter (dueB ns) = L at hl3 q2
    refine r_neNil (ns := L.map fun n => ((n : Nat) : Int)) (sqL (by rw [List.map_map]; exact hl3)) (sqL upd_same) ?_
    walk_at "rd"
    cases L with
    | nil =>
      refine iteF ?_
      walk_at "rd"
      exact q2
    | cons n L =>
      refine iteT ?_
      walk_at "rd"
      refine r_ixL (i := 0) (v := optV (some n)) (sqL hl3) ?_ q2
      show atI _ ((0 : Nat) : Int) = _
      exact atI_nat rfl
end
end G
set_option Elab.async false
set_option linter.all false
set_option maxRecDepth 100000
set_option maxHeartbeats 4000000
namespace G
open PySem PySem.Spec PyProof.Rows L2
local macro_rules | `(tactic| walk_at "rd") => `(tactic| repeat (first
  | (with_reducible first
  | refine r_seq ?_ | refine r_asg ?_ | refine r_c ?_ | refine r_op ?_ | refine r_cons ?_ | refine r_nil ?_ | refine r_cb ?_ | refine r_cal ?_ | refine r_I0 ?_ | refine r_gname ?_
  | refine r_test ?_ | refine r_k ?_ | refine r_B ?_ | refine r_ifs ?_ | refine r_eqI ?_ | refine r_neI ?_ | refine r_un ?_ | refine r_U ?_ | refine r_par ?_ | refine r_vw ?_ | refine r_ret ?_ | refine r_drop ?_
  | refine r_next ?_ | refine r_not ?_ | refine r_and ?_ | refine r_or ?_ | refine r_if ?_ | refine r_chain ?_ | refine r_ipI ?_ | refine r_abs ?_ | refine r_int1 ?_ | refine r_int1b ?_ | refine r_eqB ?_ | refine r_neB ?_
  | refine r_max2 ?_ | refine r_min2 ?_ | refine r_gcd ?_ | refine r_tup ?_ | refine r_lst ?_ | refine r_bm ?_ | refine r_for ?_ | refine r_rng1 ?_ | refine r_rng2 ?_ | refine r_ilist ?_ | refine r_itup ?_ | refine r_yes ?_ | refine r_lc ?_ | refine r_sub ?_
  | refine r_gcons ?_ | refine r_gnil ?_ | refine r_andV0 ?_ | refine r_orV0 ?_ | refine r_notV ?_ | refine r_par3 ?_ | refine r_vwz ?_ | refine r_isN ?_ | refine r_notN ?_)
  | ((with_reducible refine' r_var ?k1 ?_); (case k1 => exact rfl))
  | ((with_reducible refine' r_aug ?k1 ?_); (case k1 => exact rfl))))
section
variable {P : Program} {w : World} {K : PySem.W.Frag} {mg : Str → Option Value} {base : Heap}
theorem noneB {d : Addr} {H H' : Hp} {p : Addr} (e : ExB d H H') (hp : p ≠ d) (h : H' p = none) : H p = none := by
  cases k : H p with
  | none => rfl
  | some u => rw [e p u hp k] at h; cases h
theorem small_set {B : Nat} {L : List Int} (h : SmallN B L) (i : Nat) {x : Int} (hx : x.natAbs ≤ B) : SmallN B (L.set i x) := fun n hn => by
  rcases List.mem_or_eq_of_mem_set hn with z | z
  · exact h n z
  · rw [z]; exact hx
abbrev s_law_drawn : Stmt := top 83
abbrev N_law_drawn : List Str := ["_law_dice_here", "_law_found", "_law_size", "_law_way", "_law_at"]
theorem sc_law_drawn : FnScope N_law_drawn ["_law_dice_here"] (defScope s_law_drawn) := ⟨rfl, rfl, rfl, by decide +kernel, rfl, by decide +kernel, by decide +kernel⟩
def sp_law_drawn (K : PySem.W.Frag) : Sp := fun vs H Q _ => ∃ (d : Addr), vs = [.ref d] ∧ Dice H d ∧ ∀ ns : List Int, (1 ≤ ns.length ∧ ns.length ≤ 16) → SmallN (2 ^ 36) ns → ∀ p, H p = none → ∀ H', ExB d H H' → Dice H' d → H' p = some (.tup (ns.map V.int)) → Q (.ref p) H'
theorem ok_law_drawn (B : Bt mg) (D : DefAt K mg "_law_drawn" s_law_drawn) (c_law_roll : Cal P w K mg base "_law_roll" 1 (sp_law_roll)) (c_law_pick : Cal P w K mg base "_law_pick" 2 (sp_law_pick)) (c_law_gh_drawn : Cal P w K mg base "_law_gh_drawn" 3 (sp_law_gh_drawn K)) (c_law_gh_of : Cal P w K mg base "_law_gh_of" 3 (sp_law_gh_of K)) : Cal P w K mg base "_law_drawn" 4 (sp_law_drawn K) := by
  refine D.cal sc_law_drawn (fun vs H Q E h => ?_) (fun _ _ _ _ _ _ us hl => match us, hl with | [_], _ => rfl) (fun cfa cdv cA cO cs H vs Q E hr h => ?_)
  · obtain ⟨d, rfl, hd, q⟩ := h
    rfl
  obtain ⟨d, rfl, hd, q⟩ := h
  refine ⟨_, (pss_cons (ps_par (i := 2) (j := 3) (by rfl) sc_law_drawn.nd rfl rfl (by decide) rfl rfl (pa_cons (pe_op op_add pe_int (pe_cal c_law_roll (hr.mono (by decide)) (by rfl) (pa_cons (pv 0) (pa_cons pe_int pa_nil)))) (pa_cons (pe_cal c_law_roll (hr.mono (by decide)) (by rfl) (pa_cons (pv 0) (pa_cons pe_int pa_nil))) pa_nil)) (by rfl))
      (pss_cons (ps_if (pt_cmpR op_eq (pv 3) pe_int (nomark _)) (pss_one (ps_ret (pe_cal c_law_gh_drawn (hr.mono (by decide)) (by rfl) (pa_cons (pv 0) (pa_cons (pv 2) (pa_cons pe_int pa_nil)))))) pss_nil)
      (pss_cons (ps_set (i := 1) sc_law_drawn.nd rfl (by first | exact .inl rfl | exact .inr rfl) (pe_callTy (k_listOf) (by rfl) B.list (by decide +kernel) (pa_cons (pe_cal c_law_gh_of (hr.mono (by decide)) (by rfl) (pa_cons (pe_cal c_law_gh_drawn (hr.mono (by decide)) (by rfl) (pa_cons (pv 0) (pa_cons (pv 2) (pa_cons pe_int pa_nil)))) pa_nil)) pa_nil)))
      (pss_cons (ps_if (pt_cmpR op_eq (pv 3) pe_int (nomark _)) (pss_cons (ps_set (i := 4) sc_law_drawn.nd rfl (by first | exact .inl rfl | exact .inr rfl) (pe_cal c_law_roll (hr.mono (by decide)) (by rfl) (pa_cons (pv 0) (pa_cons (pv 2) pa_nil))))
      (pss_one (ps_asg (pe_op op_add (pe_ix ix_list (pv 1) (pv 4) (fun _ _ => rfl)) (pe_cal c_law_pick (hr.mono (by decide)) (by rfl) (pa_cons (pv 0) (pa_cons (pe_lst (pa_cons pe_int (pa_cons (pe_un un_neg pe_int) (pa_cons pe_int (pa_cons (pe_op op_add (pv 4) pe_int) (pa_cons (pe_op op_mulW pe_int (pe_op op_add (pv 4) pe_int)) pa_nil)))))) pa_nil)))) (pg_sub (pv 1) (pv 4) set_list)))) pss_nil)
      (pss_one (ps_ret (pe_callTy (k_tupOf) (by rfl) B.tuple (by decide +kernel) (pa_cons (pv 1) pa_nil)))))))), ?_⟩
  walk_at "rd"
  refine ⟨d, _, rfl, hd, by omega, fun r1 l m c r10 r11 => ?_⟩
  have hd1 : Dice (upd H d (.lst [.int l, .int m, .int c])) d := Dice.put
  have e1 : ExB d H (upd H d (.lst [.int l, .int m, .int c])) := ExB.put
  generalize upd H d (.lst [.int l, .int m, .int c]) = H1 at hd1 e1
  walk_at "rd"
  refine ⟨d, _, rfl, hd1, by omega, fun r2 l m c r20 r21 => ?_⟩
  have hd2 : Dice (upd H1 d (.lst [.int l, .int m, .int c])) d := Dice.put
  have e2 : ExB d H (upd H1 d (.lst [.int l, .int m, .int c])) := e1.trans ExB.put
  generalize upd H1 d (.lst [.int l, .int m, .int c]) = H2 at hd2 e2
  walk_at "rd"
  obtain ⟨size, rfl⟩ : ∃ s : Nat, r1 = (s : Int) := ⟨r1.toNat, by omega⟩
  have hsz : 1 + (size : Int) = ((size + 1 : Nat) : Int) := by omega
  refine ite_d (fun e => ?_) (fun e => ?_)
  · walk_at "rd"
    refine ⟨d, size + 1, 30, by rw [hsz]; rfl, hd2, by omega, fun ns h1 h2 p hp H' he hd3 hk => ?_⟩
    refine q ns (by omega) (fun n hn => Nat.le_trans (h2 n hn) (by decide)) p (noneB e2 (hd2.ne hp) hp) H' (e2.trans he) hd3 hk
  · walk_at "rd"
    refine ⟨d, size + 1, 3, by rw [hsz]; rfl, hd2, by omega, fun cs h1 h2 p hp H3 he3 hd3 hk => ?_⟩
    walk_at "rd"
    refine ⟨p, cs, rfl, hk, by omega, h2, fun ns h3 h4 p2 hp2 H4 he4 hk4 => ?_⟩
    walk_at "rd"
    refine r_listOf (.inr (sqT hk4)) fun o ho => ?_
    walk_at "rd"
    have hd4 : Dice H4 d := hd3.ex he4
    have hod : o ≠ d := hd4.ne ho
    have e4 : ExB d H H4 := e2.trans (he3.trans (.of he4))
    have ho0 := noneB e4 hod ho
    have hd5 : Dice (upd H4 o (.lst (ns.map V.int))) d := hd4.upd hod
    have e5 : ExB d H (upd H4 o (.lst (ns.map V.int))) := e4.trans (.new ho)
    have hk5 : upd H4 o (.lst (ns.map V.int)) o = some (.lst (ns.map V.int)) := upd_same
    generalize upd H4 o (.lst (ns.map V.int)) = H5 at hd5 e5 hk5
    have hs4 : SmallN (2 ^ 35) ns := fun n hn => Nat.le_trans (h4 n hn) (by decide)
    have fin : ∀ (y : Option V) (H' : Hp) (L : List Int), L.length = size + 1 → SmallN (2 ^ 36) L → ExB d H H' → Dice H' d → H' o = some (.lst (L.map V.int)) → rTupOf K [.ref o] H' Q := fun y H' L hL hs e hd hk => by
      refine r_tupOf (sqL hk) fun t ht => ?_
      exact q L (by omega) hs t (noneB e (hd.ne ht) ht) _ (e.trans (.new ht)) (hd.upd (hd.ne ht)) upd_same
    refine ite_d (fun e1 => ?_) (fun e1 => ?_)
    · walk_at "rd"
      refine ⟨d, _, rfl, hd5, by omega, fun r3 l m c r30 r31 => ?_⟩
      have hd6 : Dice (upd H5 d (.lst [.int l, .int m, .int c])) d := Dice.put
      have e6 : ExB d H (upd H5 d (.lst [.int l, .int m, .int c])) := e5.trans ExB.put
      have hk6 : upd H5 d (.lst [.int l, .int m, .int c]) o = some (.lst (ns.map V.int)) := by rw [upd_ne hod]; exact hk5
      generalize upd H5 d (.lst [.int l, .int m, .int c]) = H6 at hd6 e6 hk6
      obtain ⟨at3, rfl⟩ : ∃ s : Nat, r3 = (s : Int) := ⟨r3.toNat, by omega⟩
      have hat : at3 < ns.length := by omega
      walk_at "rd"
      refine r_ixL (sqL hk6) (v := .int (ns.getD at3 0)) (atI_nat ?_) ?_
      · rw [List.getElem?_map, List.getD_eq_getElem?_getD, List.getElem?_eq_getElem hat]
        rfl
      walk_at "rd"
      refine r_I (wide_mul (a := 20) (b := 20) (by decide) (by omega) (by decide) (by decide) (by decide)) ?_
      walk_at "rd"
      refine ⟨by show 5 ≤ sizeLine; decide, fun p hp => ?_⟩
      walk_at "rd"
      have hpd : p ≠ d := hd6.ne hp
      have hop : o ≠ p := ne_of_none hk6 hp
      refine ⟨d, p, _, rfl, hd6.upd hpd, upd_same, ⟨by show 0 < 5; decide, by show 5 ≤ 1000; decide, hpd⟩, fun y l m c hy => ?_⟩
      obtain ⟨n, rfl, hnb⟩ : ∃ n : Int, y = .int n ∧ n.natAbs ≤ 100 := by
        rcases List.mem_cons.mp hy with rfl | hy
        · exact ⟨1, rfl, by omega⟩
        rcases List.mem_cons.mp hy with rfl | hy
        · exact ⟨-1, rfl, by omega⟩
        rcases List.mem_cons.mp hy with rfl | hy
        · exact ⟨2, rfl, by omega⟩
        rcases List.mem_cons.mp hy with rfl | hy
        · exact ⟨_, rfl, by omega⟩
        rw [List.mem_singleton.mp hy]
        exact ⟨_, rfl, by omega⟩
      walk_at "rd"
      have hk7 : upd (upd H6 p (.lst [.int 1, .int (-1), .int 2, .int ((at3 : Int) + 1), .int (3 * ((at3 : Int) + 1))])) d (.lst [.int l, .int m, .int c]) o = some (.lst (ns.map V.int)) := by
        rw [upd_ne hod, upd_ne hop]; exact hk6
      refine r_setL hk7 (j := at3) (Evl.ixN_nat (by rw [List.length_map]; exact hat)) ?_
      walk_at "rd"
      have hb := getD_le hs4 at3
      refine fin none _ (ns.set at3 (ns.getD at3 0 + n)) (by rw [List.length_set]; omega) (small_set (fun n hn => Nat.le_trans (hs4 n hn) (by decide)) at3 (by omega)) ?_ ?_ ?_
      · exact (e6.trans ((ExB.new hp).trans ExB.put)).mut ho0
      · exact Dice.put.upd hod
      · rw [upd_same, List.map_set]
    · walk_at "rd"
      exact fin none _ ns (by omega) (fun n hn => Nat.le_trans (hs4 n hn) (by decide)) e5 hd5 hk5
end
end G
set_option Elab.async false
set_option linter.all false
set_option maxRecDepth 100000
set_option maxHeartbeats 4000000
namespace G
open PySem PySem.Spec PyProof.Rows L2 GxR
/-! ### next(generator, default) -/
theorem call_next_walkS {prog : Program} {w : World} {A : Around} {E : Value → Shared → Prop} {s : Shared} {I : Addr} {fp wr : List Addr} {Gr : Array GenState → Array GenState → Prop} {n : Nat} {P : Nat → Value → Prop} {St : Nat → Shared → Prop} {Q : Value → Shared → Prop} {dflt : Value}
    (hT : s.TypeIs (.ref I) "generator") (W : WalksS prog w A.in1 I fp wr Gr n P St) (hst : St 0 s) (hQ : ∀ v s', P 0 v ∨ v = dflt → Moved wr Gr s s' → Q v s') : wpAny (model prog w) A (call (.builtin "next") [.ref I, dflt]) Q E s := by
  refine Calls.call_function_entry (by decide +kernel) (by decide +kernel) PySem.W.kdk_entry_next (PySem.W.kdk_args_next2 _ _) ?_
  unfold Builtin.«next»
  refine wpAny_bind (m := someArgs "next" 1 2 _) (wpAny_of_eq (a := [Value.ref I, dflt]) (by first | rfl | kernel_rfl!) ?_)
  dsimp only
  refine wpAny_bind (wpAny_specialOf (name := Str.ofString "__next__") hT slot_gen_next.lookup ?_)
  refine wpAny_ite_split (fun hab => absurd hab (by decide)) (fun _ => ?_)
  cases n with
  | zero =>
    refine wpAny_bind (W.done s _ _ hst fun s' hm => ?_)
    exact wpAny_pure ⟨_, rfl, hQ _ _ (.inr rfl) hm⟩
  | succ n =>
    refine wpAny_bind (W.item 0 s _ _ (Nat.succ_pos n) hst fun v s' hP _ hm => ?_)
    exact wpAny_pure ⟨_, rfl, hQ _ _ (.inl hP) hm⟩
/-- the generator expression's own scope: two names -/
structure GenS2 (env : Env) (scope : Scope) (xa xb : Str) : Prop where
  kind : scope.kind = .function
  co : scope.isCoroutine = false
  cell : ∀ y ∈ scope.names, y.2 ≠ .cell
  dot : scope.names.lookup (".0" : Str) = some NameKind.local
  loca : scope.names.lookup xa = some .local
  locb : scope.names.lookup xb = some .local
  ne : xa ≠ xb
  free : ∀ y ∈ scope.names, y.2 = .free → ∃ c, env.cells.lookup y.1 = some c
section
variable {X : Cx} {pins : List (Addr × Obj)} {σ : L2.St} {H : Hp} {s : Shared}
/-- next((i for i, x in enumerate(t) if x != 0), None), t a tuple of ints -/
def tNextG (P : Addr) (K : PySem.W.Frag) (te : TA) : TE := fun σ H Q => te σ H fun vs H1 => ∃ (a : Addr) (ns : List Int), vs = [.ref a] ∧ SqT K H1 a (ns.map V.int) ∧ TabG H1 P ∧ ∀ v H2, (v = .non ∨ ∃ i, v = .int i) → Tabbed P H1 H2 → Q v H2
theorem pe_nextG {c P : Addr} {iterArg : Expr} {xa xb : Str} {pa pb pt p pe pos gpos ep p1 p2 p3 p4 p5 : Pos} {kt j k2 : Nat} {scope : Scope} {te : TA} {k : Nat}
    (hr : Room k X.A) (hc : X.calm = true) (hg : Gl X "next") (hm : X.mg "next" = none) (hge : Gl X "enumerate") (hme : X.mg "enumerate" = none) (TB : TabB X.base X.mg c P) (hcode : X.env.code = .ref c) (S : GenS2 X.env scope xa xb) (hi : PA X [iterArg] te)
    (hsI : starEach [iterArg] X.env = [(false, eval iterArg X.env)] := by rfl)
    (hs : ∀ v, genFold (.Call (.Name "enumerate" pe) [iterArg] [] ep) X.env v = pure v := by intro _; rfl) (hda : (xa == ("__debug__" : Str)) = false := by decide) (hdb : (xb == ("__debug__" : Str)) = false := by decide)
    (he : starEach [.GeneratorExp (.Name xa p4) [⟨.Tuple [.Name xa pa, .Name xb pb] kt pt, .Call (.Name "enumerate" pe) [iterArg] [] ep, [.Compare (.Name xb p1) [.NotEq] [.Constant (.int 0) j p2] p3], 0⟩] scope gpos, .Constant .none k2 p5] X.env =
      [(false, eval (.GeneratorExp (.Name xa p4) [⟨.Tuple [.Name xa pa, .Name xb pb] kt pt, .Call (.Name "enumerate" pe) [iterArg] [] ep, [.Compare (.Name xb p1) [.NotEq] [.Constant (.int 0) j p2] p3], 0⟩] scope gpos) X.env), (false, eval (.Constant .none k2 p5) X.env)] := by rfl) :
    PE X (.Call (.Name "next" p) [.GeneratorExp (.Name xa p4) [⟨.Tuple [.Name xa pa, .Name xb pb] kt pt, .Call (.Name "enumerate" pe) [iterArg] [] ep, [.Compare (.Name xb p1) [.NotEq] [.Constant (.int 0) j p2] p3], 0⟩] scope gpos, .Constant .none k2 p5] [] pos) (tNextG P X.K te) := by
  refine ⟨fun pins s σ H Q I h => ?_⟩
  refine wpAny_Call_Name_kw (ld_blt (u := .builtin "next") I hg hm (by first | rfl | decide +kernel) ?_ (by decide) (by decide))
  refine PyProof.Rows.callWith_builtin1 ?_ he (by rfl)
  rw [he]
  refine Calls.spliced_cons ?_
  have hh : X.A.handled = none := hr.hd
  refine wpAny_GeneratorExp_walksQT hh S.co (closure_ok S.free) S.cell S.dot S.loca S.locb S.ne S.kind (by have := hr.dp; omega) ?_ hs
  -- enumerate(t)
  refine Call_ (ld_blt I hge hme boot_enumerate (PyProof.Rows.callWith_type1 (thn (hi.run ep pins s σ H _ I h) fun us s1 z => ?_) hsI rfl))
  obtain ⟨vs, H1, I1, r1, a, ns, ex, hq, ⟨ps, hP, ht⟩, q⟩ := z
  subst ex
  obtain ⟨u, rfl, ru⟩ := r1.one
  obtain rfl : u = Value.ref a := ru
  obtain ⟨its, rv, p', hz⟩ := I1.tuple hq
  have hal : a < s1.heap.objs.size := by obtain ⟨_, q, _⟩ := p'; exact Heap.lt_size q
  refine call_enumT p' fun h2 he2 hit hsz2 hk2 => wpAny_pyIter_enum he2 ?_
  have hPs : s1.heap.get? P = some { cls := .none, data := .fields ps } := I1.hok P _ hP
  have hPlt : P < s1.heap.objs.size := Heap.lt_size hPs
  have hP2 : h2.get? P = some { cls := .none, data := .fields ps } := hk2 _ _ hPs
  have cd : PySem.W.CodeHd h2 c P := TB.code.keeps fun b u e => hk2 _ _ (I1.bk b u e)
  have lim2 : h2.NoLimit := I1.nolimit.keeps hk2
  have hne : s1.heap.objs.size + 1 ≠ s1.heap.objs.size := Nat.succ_ne_self _
  have hea : s1.heap.objs.size + 1 ≠ a := (Nat.ne_of_lt (Nat.lt_succ_of_lt hal)).symm
  have hai : a ≠ s1.heap.objs.size := Nat.ne_of_lt hal
  have haP : a ≠ P := fun z => by
    obtain ⟨o', ho', hc', _⟩ := p'
    rw [z, hPs] at ho'
    cases ho'
    cases hc'
  have W := fun (A' : Around) (hA : A'.handled = none) => WalksT.enumFrom (prog := X.prog) (w := X.w) (A := A') 0 (Draws.tuple (A := A'.in1) hA s1.heap.objs.size a hai its.toArray) (s1.heap.objs.size + 1) hne (by simp [hne, hea]) (by simp)
  have hlen := rv.length
  have hget : ∀ i x, its.toArray[i]? = some x → ∃ n t, x = Value.int n t ∧ ns.getD i 0 = n := fun i x hx => by
    have hi : i < its.length := by
      rw [List.getElem?_toArray] at hx
      exact lt_of_get hx
    have hi2 : i < ns.length := by rw [List.length_map] at hlen; omega
    obtain ⟨u, hu, ru⟩ := rv.get (i := i) (x := V.int ns[i]) (by rw [List.getElem?_map, List.getElem?_eq_getElem hi2]; rfl)
    rw [List.getElem?_toArray, hu] at hx
    cases hx
    obtain ⟨t, e⟩ := (show ∃ t, x = Value.int ns[i] t from ru)
    exact ⟨ns[i], t, e, by rw [List.getD_eq_getElem?_getD, List.getElem?_eq_getElem hi2]; rfl⟩
  have cont : ∀ (code : Value) (h3 : Heap) (tk : Nat) (ps' : Array Value), Heap.ExtBut P h2 h3 → h2.objs.size ≤ h3.objs.size → h3.get? P = some { cls := .none, data := .fields ps' } → (∃ more, ps' = ps ++ more) → TriplesOk ps'.toList →
      wpAny (model X.prog X.w) X.A (builtinsFor X.env.globals X.env.builtins) (fun bi s₄ =>
        ∃ Ia fp wr n₀ Pt St₀ Mid pz F, Value.ref (s1.heap.objs.size + 1) = .ref Ia ∧ (∀ A' : Around, A'.handled = none → WalksU X.prog X.w A' Ia fp wr n₀ Pt St₀ Mid) ∧ (∀ i vals, Pt i vals → ∃ va vb, vals = #[va, vb]) ∧ St₀ 0 s₄.heap ∧ (∀ b ∈ fp, b < s₄.heap.objs.size) ∧ s₄.heap.NoLimit ∧ cStatics ∉ wr ∧
          (∀ href : Heap, (∀ b o, s₄.heap.get? b = some o → href.get? b = some o) →
            QuietGenT X.prog X.w (genEnv scope (cloFrom X.env.cells scope.names []) s₄.heap.objs.size code bi X.env) xa xb [.Compare (.Name xb p1) [.NotEq] [.Constant (.int 0) j p2] p3] (.Name xa p4) (List.range s₄.heap.objs.size) wr Pt pz F href) ∧
          (∀ a h₅ tk gs, gs.bare = true → s₄.heap.objs.size < a → h₅.objs.size = a + 1 → (∀ b o, s₄.heap.get? b = some o → h₅.get? b = some o) →
            WalksS X.prog X.w X.A.in4 a (a :: s₄.heap.objs.size :: List.range s₄.heap.objs.size) (s₄.heap.objs.size :: wr) (GenOnlyQ s₄.gens.size) (passing pz n₀ 0).length
              (fun j y => ∃ i, (passing pz n₀ 0)[j]? = some i ∧ F i y) (GenAt X.prog X.w X.A.in4 a s₄.gens.size s₄.heap.objs.size (List.range s₄.heap.objs.size) wr pz n₀ F) →
            GenAt X.prog X.w X.A.in4 a s₄.gens.size s₄.heap.objs.size (List.range s₄.heap.objs.size) wr pz n₀ F 0 { s₄ with gens := s₄.gens.push gs, toks := tk, heap := h₅ } →
            wpAny (model X.prog X.w) X.A (spliced (backTo pos [(false, eval (.Constant .none k2 p5) X.env)])) (fun vs s₂ => wpAny (model X.prog X.w) X.A (call (.builtin "next") (.ref a :: vs)) (EP X pins σ Q) X.xe s₂) X.xe { s₄ with gens := s₄.gens.push gs, toks := tk, heap := h₅ })) X.xe { s1 with heap := h3, toks := tk } := by
    intro code h3 tk ps' hx hsz hP3 hmore ht3
    obtain ⟨bm, ob, e1, e2, e3, e4, e5, e6, e7, e8⟩ := TB.bm
    have hcP : cStatics ≠ P := fun e => by
      obtain ⟨_, hns, _⟩ := I1.nolimit
      obtain ⟨o', es, ep, ho, hd, _⟩ := hns
      rw [e, hPs] at ho
      cases ho
      cases hd
    have hcl : cStatics < s1.heap.objs.size := let ⟨_, hns, _⟩ := I1.nolimit; hns.lt
    have keep3 : ∀ b u, b ≠ P → s1.heap.get? b = some u → h3.get? b = some u := fun b u hb e => hx b u hb (hk2 b u e)
    refine wpAny_builtinsFor (m := X.mg) (by rw [I1.ok.glob]; exact ((I1.mod.glob.keeps I1.bk).keeps hk2).extBut hx TB.gP) e1 e2 (keep3 _ _ e4 (I1.bk _ _ e5)) e6 e7 e8 ?_
    refine ⟨s1.heap.objs.size + 1, _, _, _, _, _, _, (fun i => decide (ns.getD i 0 ≠ 0)), (fun i y => ∃ t, y = .int (i : Nat) t), rfl, fun A' hA => (W A' hA).toU, ?_, ?_, ?_, lim2.extBut hx hcP, ?_, ?_, ?_⟩
    · rintro i vals ⟨t, x, _, rfl⟩
      exact ⟨_, _, rfl⟩
    · refine (W X.A hh).frame 0 h2 h3 ⟨⟨.none, he2⟩, hit, p'.keeps hk2⟩ fun b hb u e => hx b u (fun z => ?_) e
      have e' : b = s1.heap.objs.size + 1 ∨ b = s1.heap.objs.size ∨ b = a := by simpa using hb
      rcases e' with y | y | y
      · exact Nat.ne_of_lt (Nat.lt_succ_of_lt hPlt) (z.symm.trans y)
      · exact Nat.ne_of_lt hPlt (z.symm.trans y)
      · exact haP (y.symm.trans z)
    · intro b hb
      have e' : b = s1.heap.objs.size + 1 ∨ b = s1.heap.objs.size ∨ b = a := by simpa using hb
      rcases e' with y | y | y
      · rw [y]
        show s1.heap.objs.size + 1 < h3.objs.size
        omega
      · rw [y]
        show s1.heap.objs.size < h3.objs.size
        omega
      · rw [y]
        exact Nat.lt_of_lt_of_le hal (show s1.heap.objs.size ≤ h3.objs.size by omega)
    · intro z
      have e' : cStatics = s1.heap.objs.size + 1 ∨ cStatics = s1.heap.objs.size := by simpa using z
      rcases e' with y | y
      · exact Nat.ne_of_lt (Nat.lt_succ_of_lt hcl) y
      · exact Nat.ne_of_lt hcl y
    · intro href hhref
      refine ⟨fun A' E' i va vb s₂ m₂ hA hPv hn hma hmb hk => ?_, fun A' E' i va vb s₂ m₂ hA hPv hp hn hma hmb hk => ?_⟩
      · obtain ⟨t, x, hx, hv⟩ := hPv
        obtain ⟨n, u, rfl, hn0⟩ := hget i x hx
        have hvb : vb = .int n u := by
          have := congrArg (fun (z : Array Value) => z[1]?) hv
          simpa using this
        subst hvb
        simp only [List.forIn_cons, List.forIn_nil, if_true]
        refine wpAny_bind ?_
        refine wpAny_bind ?_
        refine wpAny_isTrue_Compare1 ?_
        refine wpAny_Name (wpAny_loadName_local (show scope.kind = .function from S.kind) (show scope.names.lookup xb = some .local from S.locb) hn hmb ?_) hdb
        refine wpAny_Constant_int ?_
        refine PySem.P.ne_int ?_
        refine wpAny_truthy_bool ?_
        refine wpAny_pure (wpAny_pure ?_)
        refine ⟨?_, keeps_tok _ _⟩
        rw [hn0]
        by_cases hz0 : n = 0 <;> simp [hz0]
      · obtain ⟨t, x, hx, hv⟩ := hPv
        have hva : va = .int (0 + (i : Int)) t := by
          have := congrArg (fun (z : Array Value) => z[0]?) hv
          simpa using this
        subst hva
        refine wpAny_Name (wpAny_loadName_local (show scope.kind = .function from S.kind) (show scope.names.lookup xa = some .local from S.loca) hn hma ?_) hda
        exact ⟨⟨t, by rw [Int.zero_add]⟩, keeps_refl _⟩
    · intro g h5 tk5 gs hgb hag hsz5 hk5 W5 hat
      refine Calls.spliced_cons ?_
      refine wpAny_Constant_none (k := k2) (pos := p5) ?_
      refine Calls.spliced_nil ?_
      refine call_next_walkS (W := W5.in4_1) ?_ hat ?_
      · obtain ⟨hgen, _⟩ := hat
        exact hgen.typeIs
      · intro v s' hv hm
        obtain ⟨more, em⟩ := hmore
        have nwr : ∀ b u, s1.heap.get? b = some u → b ∉ h3.objs.size :: [s1.heap.objs.size + 1, s1.heap.objs.size] := fun b u e hb => by
          have hl := Heap.lt_size e
          have e' : b = h3.objs.size ∨ b = s1.heap.objs.size + 1 ∨ b = s1.heap.objs.size := by simpa using hb
          rcases e' with y | y | y
          · rw [y] at hl
            have h9 : (h3.objs.size : Nat) < s1.heap.objs.size := hl
            omega
          · exact Nat.ne_of_lt (Nat.lt_succ_of_lt hl) y
          · exact Nat.ne_of_lt hl y
        have J := inv_tab (more := more) (h' := s'.heap) (g' := s'.gens) (d' := s'.drawn) (t' := s'.toks) I1 hP (fun b u hb e => hm.heap b u (nwr b u e) (hk5 b u (keep3 b u hb e)))
          (by rw [← em]; exact hm.heap P _ (nwr P _ hPs) (hk5 P _ hP3)) (AllBare.movedS (I1.bare.push hgb) hm)
        rw [sh_eta s1 s' hm.os] at J
        have hT : Tabbed P H1 (upd H1 P (.tbl (ps ++ more))) := ⟨⟨ps ++ more, upd_same, by rw [← em]; exact ht3⟩, fun b hb => upd_ne hb⟩
        rcases hv with ⟨i, _, t, rfl⟩ | rfl
        · exact ⟨.int (i : Nat), _, J, ⟨t, rfl⟩, q _ _ (.inr ⟨_, rfl⟩) hT⟩
        · exact ⟨.non, _, J, rfl, q _ _ (.inl rfl) hT⟩
  refine ⟨lim2, ?_⟩
  cases hf : codeAmong gpos ps.toList with
  | none =>
    refine wpAny_genexprCodeX hcode (cd.code hP2 ht) (cd.tab hP2) hf fun c' h' tk hx hge hlt hco' _ htab' _ => ?_
    obtain ⟨o1, vs, f1, tf, fl, tg, inF, tx, tt, op, _, _, _, _, _, _, _, _, _, htr, _⟩ := hco'
    exact cont _ h' tk _ hx (Nat.le_trans hge (Nat.le_of_lt hlt)) htab'.2 ⟨_, rfl⟩ htr
  | some cv =>
    refine wpAny_genexprCode_hit hcode (cd.code hP2 ht) hf ?_
    exact cont cv h2 s1.toks ps (Heap.ExtBut.refl _ _) (Nat.le_refl _) hP2 ⟨#[], by simp⟩ ht
end
end G
set_option Elab.async false
set_option linter.all false
set_option maxRecDepth 100000
set_option maxHeartbeats 4000000
namespace G
open PySem PySem.Spec PyProof.Rows L2 SlX GxR
/-! ### classes with slots -/
structure ClsAt (K : PySem.W.Frag) (mg : Str → Option Value) (x : Str) (C : Addr) : Prop where
  at_ : mg x = some (.ref C)
  cls : SCls K C
  isi : SIsi K C
  self : PySem.W.kitOne K (.ref C) (.ref C) = some true
structure Cls (K : PySem.W.Frag) (mg : Str → Option Value) (CT CR CM CW : Addr) : Prop where
  T : ClsAt K mg "Terms" CT
  R : ClsAt K mg "Ratio" CR
  M : ClsAt K mg "Made" CM
  W : ClsAt K mg "Row" CW
  Tb : ∃ p, Slot1 K CT "own_bottom" p 0
  Tt : ∃ p, Slot1 K CT "own_top" p 1
  Rb : ∃ p, Slot1 K CR "own_bottom" p 0
  Rt : ∃ p, Slot1 K CR "own_top" p 1
  Ml : ∃ p, Slot1 K CM "own_line" p 0
  Wb : ∃ p, Slot1 K CW "own_bottom" p 0
  We : ∃ p, Slot1 K CW "own_entries" p 1
  Wm : ∃ p, Slot1 K CW "own_modulus" p 2
  Wo : ∃ p, Slot1 K CW "own_order" p 3
  Wt : ∃ p, Slot1 K CW "own_tops" p 4
/-- slot i of the instance a of C holds v -/
def Has (H : Hp) (C a : Addr) (i : Nat) (v : V) : Prop := ∃ dx vs, Slt H a C dx vs ∧ vs[i]? = some (some v)
theorem Slt.ex {H H' : Hp} {a C dx : Addr} {vs : List (Option V)} (e : Evl.Ex H H') (h : Slt H a C dx vs) : Slt H' a C dx vs := by
  rcases h with ⟨h1, h2⟩ | ⟨h1, h2⟩
  · exact .inl ⟨e a _ h1, h2⟩
  · exact .inr ⟨e a _ h1, e dx _ h2⟩
theorem Has.ex {H H' : Hp} {C a : Addr} {i : Nat} {v : V} (e : Evl.Ex H H') (h : Has H C a i v) : Has H' C a i v := by
  obtain ⟨dx, vs, h1, h2⟩ := h
  exact ⟨dx, vs, Slt.ex e h1, h2⟩
/-- what a filled instance is on the heap -/
theorem Has.at {H : Hp} {C a : Addr} {i : Nat} {v : V} (h : Has H C a i v) : ∃ dx vs, vs[i]? = some (some v) ∧ H a = some (SlO a C dx vs) ∧ H dx = some (.xd []) := by
  obtain ⟨dx, vs, h1, h2⟩ := h
  rcases h1 with ⟨_, h3⟩ | ⟨h3, h4⟩
  · rw [h3] at h2; cases h2
  · exact ⟨dx, vs, h2, h3, h4⟩
/-- objects a and b may change -/
def But2 (a b : Addr) (H H' : Hp) : Prop := ∀ c, c ≠ a → c ≠ b → H' c = H c
theorem Has.but {H H' : Hp} {C a x dx : Addr} {i : Nat} {v : V} (h : Has H C a i v) (b : But2 x dx H H') {C' : Addr} {fs : List (Str × V)} (hx : H x = some (.ins C' dx fs)) (hdx : H dx = some (.own x)) : Has H' C a i v := by
  obtain ⟨dy, vs, h2, h3, h4⟩ := h.at
  refine ⟨dy, vs, .inr ⟨?_, ?_⟩, h2⟩
  · rw [b a (fun e => ?_) (fun e => ?_)]
    · exact h3
    · rw [e, hx] at h3; cases h3
    · rw [e, hdx] at h3; cases h3
  · rw [b dy (fun e => ?_) (fun e => ?_)]
    · exact h4
    · rw [e, hx] at h4; cases h4
    · rw [e, hdx] at h4; cases h4
def Two (C : Addr) (H : Hp) (a : Addr) (t b : Int) : Prop := Has H C a 0 (.int b) ∧ Has H C a 1 (.int t)
theorem Two.ex {C : Addr} {H H' : Hp} {a : Addr} {t b : Int} (e : Evl.Ex H H') (h : Two C H a t b) : Two C H' a t b := ⟨h.1.ex e, h.2.ex e⟩
theorem ex_made {H H' : Hp} {x dx : Addr} {o1 o2 : HO} (hx : H x = none) (hd : H dx = none) (b : But2 x dx (upd (upd H dx o1) x o2) H') : Evl.Ex H H' := fun c o hc => by
  have n1 := ne_of_none hc hx
  have n2 := ne_of_none hc hd
  rw [b c n1 n2, upd_ne n1, upd_ne n2]
  exact hc
section
variable {K : PySem.W.Frag} {H : Hp} {C a dx : Addr} {i : Nat} {v y : V} {vs : List (Option V)} {f : Str} {σ : L2.St} {Q : VK} {D : Ends} {ta tv : TE} {tl : TA} {sp : Sp} {E : XK} {dvs : List V}
theorem r_sl (q : ta σ H fun x H1 => ∃ a C dx p vs i v, x = .ref a ∧ Slt H1 a C dx vs ∧ SCls K C ∧ Slot1 K C f p i ∧ vs[i]? = some (some v) ∧ Q v H1) : tSl K ta f σ H Q := q
theorem r_slV {j : Nat} (hv : σ[j]? = some (some (.ref a))) (hc : SCls K C) (hs : ∃ p, Slot1 K C f p i) (h : Has H C a i v) (q : Q v H) : tSl K (tVar j) f σ H Q := by
  obtain ⟨p, hp⟩ := hs
  obtain ⟨dx, vs, h1, h2⟩ := h
  exact ⟨.ref a, hv, a, C, dx, p, vs, i, v, rfl, h1, hc, hp, h2, q⟩
theorem r_ssl (q : tv σ H fun y H1 => ta σ H1 fun x H2 => ∃ a C dx p vs i, x = .ref a ∧ Slt H2 a C dx vs ∧ SCls K C ∧ Slot1 K C f p i ∧ D.nx σ (slH H2 a C dx (putS i y vs))) : sSl K ta tv f D σ H := q
theorem r_make (q : tl σ H fun ws H1 => ∀ x dx, H1 x = none → H1 dx = none → dx ≠ x → sp (.ref x :: (ws ++ dvs)) (upd (upd H1 dx (.own x)) x (.ins C dx [])) (fun v H2 => v = .non ∧ Q (.ref x) H2) E) : tMake C sp dvs E tl σ H Q := q
theorem r_prop (q : ta σ H fun x H1 => ∃ a dx vs, x = .ref a ∧ Slt H1 a C dx vs ∧ sp [.ref a] H1 Q E) : tPropSl C sp E ta σ H Q := q
theorem r_meth (q : ta σ H fun x H1 => ∃ a dx vs, x = .ref a ∧ Slt H1 a C dx vs ∧ tl σ H1 fun ws H2 => sp (x :: ws) H2 Q E) : tMethSl C sp E ta tl σ H Q := q
theorem r_has (hc : SCls K C) (hs : ∃ p, Slot1 K C f p i) (h : Has H C a i v) (q : Q v H) : ∃ a' C dx p vs i v, V.ref a = .ref a' ∧ Slt H a' C dx vs ∧ SCls K C ∧ Slot1 K C f p i ∧ vs[i]? = some (some v) ∧ Q v H := by
  obtain ⟨p, hp⟩ := hs
  obtain ⟨dx, vs, h1, h2⟩ := h
  exact ⟨a, C, dx, p, vs, i, v, rfl, h1, hc, hp, h2, q⟩
theorem r_put {R : Hp → Prop} (hc : SCls K C) (hs : ∃ p, Slot1 K C f p i) (h : Slt H a C dx vs) (hd : dx ≠ a) (q : ∀ H', But2 a dx H H' → Slt H' a C dx (putS i y vs) → R H') : ∃ a' C dx p vs i, V.ref a = .ref a' ∧ Slt H a' C dx vs ∧ SCls K C ∧ Slot1 K C f p i ∧ R (slH H a' C dx (putS i y vs)) := by
  obtain ⟨p, hp⟩ := hs
  exact ⟨a, C, dx, p, vs, i, rfl, h, hc, hp, q _ (fun c h1 h2 => slH_ne h1 h2) (slH_slt hd)⟩
theorem r_isiSl (L : ClsAt K mg x C) (h : Has H C a i v) (q : Q (.bl true) H) : rIsiSl K (.ref C) [.ref a, .ref C] H Q := by
  obtain ⟨dx, vs, h1, _⟩ := h
  exact ⟨a, C, dx, vs, .ref C, true, rfl, rfl, fun w hw => hw, h1, L.cls, L.isi, L.self, q⟩
end
theorem But2.trans {a b : Addr} {H H1 H2 : Hp} (x : But2 a b H H1) (y : But2 a b H1 H2) : But2 a b H H2 := fun c n1 n2 => (y c n1 n2).trans (x c n1 n2)
/-! ### what a class's makers promise -/
theorem fn_run {P : Program} {w : World} {K : PySem.W.Frag} {mg : Str → Option Value} {base : Heap} {x qual : Str} {st : Stmt} {dvs : List V} {kws : List (Str × V)} {f : Addr} {fd : FuncData} {N ps : List Str} {k : Nat} {sp : Sp}
    (F : FunD K x qual (defArgs st) (defBody st) (defScope st) dvs kws f fd) (S : FnScope N ps (defScope st)) (len : ∀ vs H Q E, sp vs H Q E → vs.length = ps.length)
    (hbody : ∀ (f : Addr) (cdv : Value) (A : Around) (outer : List Env) (s : Shared) (H : Hp) (vs : List V) (Q : VK) (E : XK), fd.code = cdv → Room k (A.deeper (envOfC qual (defScope st) s.heap.objs.size f cdv)) → sp vs H Q E →
      ∃ t, PSs (cxOf CX0 P w K mg base N qual (defScope st) f cdv A outer s H E).nox (defBody st) t ∧ t { nx := fun _ H' => Q .non H', rt := Q } (start N vs) H) : FnOk P w K mg base CX0 (k + 1) f fd ps sp := by
  obtain ⟨oc, od, dV, kV, doc, pm, an, cdv, ct, osl, rfl, lk, hcd, _, _⟩ := F.ex
  refine fn_of lk hcd S len fun A outer s H vs Q E hr hsp => ?_
  obtain ⟨t, h1, h2⟩ := hbody f cdv A outer s H vs Q E rfl hr hsp
  exact ⟨t, h1.nox, h2⟩
def InitAt (K : PySem.W.Frag) (C : Addr) (qual : Str) (st : Stmt) (dvs : List V) (kws : List (Str × V)) : Prop := ∃ f fd, Mk K C f ∧ FunD K "__init__" qual (defArgs st) (defBody st) (defScope st) dvs kws f fd
def Mak (P : Program) (w : World) (K : PySem.W.Frag) (mg : Str → Option Value) (base : Heap) (x : Str) (C : Addr) (k : Nat) (dvs : List V) (sp : Sp) : Prop :=
  mg x = some (.ref C) ∧ ∃ f fd ps ds, Mk K C f ∧ FnOk P w K mg base CX0 k f fd ps sp ∧ Binds K fd ps ds ∧ Vals dvs ds
theorem pe_mak {X : Cx} {x : Str} {p pos : Pos} {e : Expr} {es : List Expr} {t : TA} {C : Addr} {k : Nat} {dvs : List V} {sp : Sp} (c : Mak X.prog X.w X.K X.mg X.base x C k dvs sp) (hr : Room (k + 1) X.A) (hg : Gl X x) (ha : PA X (e :: es) t)
    (hdb : (x == ("__debug__" : Str)) = false := by decide) (he : starEach (e :: es) X.env = (false, eval e X.env) :: starEach es X.env := by rfl) (hpl : (backTo pos (starEach es X.env)).any (·.1) = false := by rfl) :
    PE X (.Call (.Name x p) (e :: es) [] pos) (tMake C sp dvs E0 t) := by
  obtain ⟨hm, f, fd, ps, ds, M, F, hb, hd⟩ := c
  exact pe_make M F hr hg hm hb hd pass0 ha hdb he hpl
theorem InitAt.mak {P : Program} {w : World} {K : PySem.W.Frag} {mg : Str → Option Value} {base : Heap} {x : Str} {C : Addr} {qual : Str} {st : Stmt} {N ps : List Str} {k : Nat} {sp : Sp} (D : InitAt K C qual st [] []) (hm : mg x = some (.ref C)) (S : FnScope N ps (defScope st)) (len : ∀ vs H Q E, sp vs H Q E → vs.length = ps.length)
    (hb : ∀ (kV doc pm : Value) (an : Option Addr) (cdv ct : Value) (us : List Value), us.length = ps.length → bindArgs (PySem.W.fnOf "__init__" qual (defArgs st) (defBody st) (defScope st) .none kV doc pm an cdv ct) ⟨us, []⟩ = pure (ps.zip us))
    (hbody : ∀ (f : Addr) (cdv : Value) (A : Around) (outer : List Env) (s : Shared) (H : Hp) (vs : List V) (Q : VK) (E : XK), Room k (A.deeper (envOfC qual (defScope st) s.heap.objs.size f cdv)) → sp vs H Q E →
      ∃ t, PSs (cxOf CX0 P w K mg base N qual (defScope st) f cdv A outer s H E).nox (defBody st) t ∧ t { nx := fun _ H' => Q .non H', rt := Q } (start N vs) H) : Mak P w K mg base x C (k + 1) [] sp := by
  obtain ⟨f, fd, M, F⟩ := D
  exact ⟨hm, f, fd, ps, [], M, fn_run F S len fun f cdv A outer s H vs Q E _ hr h => hbody f cdv A outer s H vs Q E hr h, F.bindsN hb, .nil⟩
/-- one default behind n parameters -/
theorem InitAt.mak1 {P : Program} {w : World} {K : PySem.W.Frag} {mg : Str → Option Value} {base : Heap} {x : Str} {C : Addr} {qual : Str} {st : Stmt} {N ps : List Str} {k : Nat} {sp : Sp} {d : V} (D : InitAt K C qual st [d] []) (hm : mg x = some (.ref C)) (S : FnScope N ps (defScope st)) (len : ∀ vs H Q E, sp vs H Q E → vs.length = ps.length) (n : Nat) (hn : n + 1 = ps.length)
    (hb : ∀ (T : Addr) (kV doc pm : Value) (an : Option Addr) (cdv ct : Value) (us its : List Value), us.length = n → its.length = 1 →
      ∃ k, bindArgs (PySem.W.fnOf "__init__" qual (defArgs st) (defBody st) (defScope st) (.ref T) kV doc pm an cdv ct) ⟨us, []⟩ = seqItems? (.ref T) >>= k ∧ k (some its.toArray) = pure (ps.zip (us ++ its.drop 0)))
    (hbody : ∀ (f : Addr) (cdv : Value) (A : Around) (outer : List Env) (s : Shared) (H : Hp) (vs : List V) (Q : VK) (E : XK), Room k (A.deeper (envOfC qual (defScope st) s.heap.objs.size f cdv)) → sp vs H Q E →
      ∃ t, PSs (cxOf CX0 P w K mg base N qual (defScope st) f cdv A outer s H E).nox (defBody st) t ∧ t { nx := fun _ H' => Q .non H', rt := Q } (start N vs) H) : Mak P w K mg base x C (k + 1) [d] sp := by
  obtain ⟨f, fd, M, F⟩ := D
  obtain ⟨ds, hd, hB⟩ := F.binds1 n 0 (by simp) (by simpa using hn) hb
  exact ⟨hm, f, fd, ps, ds, M, fn_run F S len fun f cdv A outer s H vs Q E _ hr h => hbody f cdv A outer s H vs Q E hr h, hB, hd⟩
/-! ### properties, methods -/
def PropAt (K : PySem.W.Frag) (C : Addr) (f qual : Str) (st : Stmt) : Prop := ∃ (p g : Addr) (fd : FuncData), PySem.W.findIn K (.ref C) f = some (some (.ref p)) ∧ PySem.W.specialIn K (.ref p) "__get__" = some (some (.builtin "property.__get__")) ∧ PySem.W.takesIn K (.ref p) = some true ∧ (∃ rest, PySem.W.recIn K p "property" = some (.ref g :: rest)) ∧
  FunD K f qual (defArgs st) (defBody st) (defScope st) [] [] g fd
def PropC (P : Program) (w : World) (K : PySem.W.Frag) (mg : Str → Option Value) (base : Heap) (C : Addr) (f : Str) (k : Nat) (sp : Sp) : Prop := ∃ (p g : Addr), PySem.W.findIn K (.ref C) f = some (some (.ref p)) ∧ PySem.W.specialIn K (.ref p) "__get__" = some (some (.builtin "property.__get__")) ∧ PySem.W.takesIn K (.ref p) = some true ∧ (∃ rest, PySem.W.recIn K p "property" = some (.ref g :: rest)) ∧
  FnR P w K mg base CX0 k g sp
theorem pe_prop {X : Cx} {e : Expr} {f : Str} {pos : Pos} {ta : TE} {C : Addr} {k : Nat} {sp : Sp} (he : PE X e ta) (c : SCls X.K C) (pc : PropC X.prog X.w X.K X.mg X.base C f k sp) (hr : Room (k + 1) X.A) (hb : attributeBase e f X.env (eval e X.env) = eval e X.env := by rfl) : PE X (.Attribute e f pos) (tPropSl C sp E0 ta) := by
  obtain ⟨p, g, h1, h2, h3, h4, F⟩ := pc
  exact pe_propSl he c h1 h2 h3 h4 F hr (fun _ _ _ _ h => h) hb
def MethAt (K : PySem.W.Frag) (C : Addr) (f qual : Str) (st : Stmt) : Prop := ∃ (g : Addr) (fd : FuncData), Meth K C f g ∧ FunD K f qual (defArgs st) (defBody st) (defScope st) [] [] g fd
def MethC (P : Program) (w : World) (K : PySem.W.Frag) (mg : Str → Option Value) (base : Heap) (C : Addr) (f : Str) (k : Nat) (sp : Sp) : Prop := ∃ (g : Addr), Meth K C f g ∧ FnR P w K mg base CX0 k g sp
theorem pe_meth0 {X : Cx} {o : Expr} {m : Str} {pos apos : Pos} {ta : TE} {C : Addr} {k : Nat} {sp : Sp} {pl : Sem Bool} (he : PE X o ta) (c : SCls X.K C) (mc : MethC X.prog X.w X.K X.mg X.base C m k sp) (hr : Room k X.A)
    (ht : eval (.Call (.Attribute o m apos) [] [] pos) X.env = (do
      let ov ← eval o X.env
      standAt apos.atName
      let (f, first) ← holding [ov] (getMethod ov m pl)
      callWith pos f first (backTo pos (starEach [] X.env)) (backToKw pos (keywordEach [] X.env))) := by rfl) :
    PE X (.Call (.Attribute o m apos) [] [] pos) (tMethSl C sp E0 ta tNil) := by
  obtain ⟨g, hm, F⟩ := mc
  exact pe_methSl0 he c hm F hr pass0 ht
section
variable {P : Program} {w : World} {K : PySem.W.Frag} {mg : Str → Option Value} {base : Heap} {C : Addr} {x qual : Str} {st : Stmt} {N ps : List Str} {k : Nat} {sp : Sp}
theorem fnR_of {f : Addr} {fd : FuncData} (F : FunD K x qual (defArgs st) (defBody st) (defScope st) [] [] f fd) (S : FnScope N ps (defScope st)) (len : ∀ vs H Q E, sp vs H Q E → vs.length = ps.length)
    (hb : ∀ (kV doc pm : Value) (an : Option Addr) (cdv ct : Value) (us : List Value), us.length = ps.length → bindArgs (PySem.W.fnOf x qual (defArgs st) (defBody st) (defScope st) .none kV doc pm an cdv ct) ⟨us, []⟩ = pure (ps.zip us))
    (hbody : ∀ (f : Addr) (cdv : Value) (A : Around) (outer : List Env) (s : Shared) (H : Hp) (vs : List V) (Q : VK) (E : XK), Room k (A.deeper (envOfC qual (defScope st) s.heap.objs.size f cdv)) → sp vs H Q E →
      ∃ t, PSs (cxOf CX0 P w K mg base N qual (defScope st) f cdv A outer s H E).nox (defBody st) t ∧ t { nx := fun _ H' => Q .non H', rt := Q } (start N vs) H) : FnR P w K mg base CX0 (k + 1) f sp := by
  have B : Binds K fd ps [] := F.bindsN hb
  have G : FnOk P w K mg base CX0 (k + 1) f fd ps sp := fn_run F S len fun f cdv A outer s H vs Q E _ hr h => hbody f cdv A outer s H vs Q E hr h
  exact (G.raw B .nil).imp fun vs H Q E h => by
    rw [List.append_nil]
    exact h
theorem PropAt.c (D : PropAt K C x qual st) (S : FnScope N ps (defScope st)) (len : ∀ vs H Q E, sp vs H Q E → vs.length = ps.length)
    (hb : ∀ (kV doc pm : Value) (an : Option Addr) (cdv ct : Value) (us : List Value), us.length = ps.length → bindArgs (PySem.W.fnOf x qual (defArgs st) (defBody st) (defScope st) .none kV doc pm an cdv ct) ⟨us, []⟩ = pure (ps.zip us))
    (hbody : ∀ (f : Addr) (cdv : Value) (A : Around) (outer : List Env) (s : Shared) (H : Hp) (vs : List V) (Q : VK) (E : XK), Room k (A.deeper (envOfC qual (defScope st) s.heap.objs.size f cdv)) → sp vs H Q E →
      ∃ t, PSs (cxOf CX0 P w K mg base N qual (defScope st) f cdv A outer s H E).nox (defBody st) t ∧ t { nx := fun _ H' => Q .non H', rt := Q } (start N vs) H) : PropC P w K mg base C x (k + 1) sp := by
  obtain ⟨p, g, fd, h1, h2, h3, h4, F⟩ := D
  exact ⟨p, g, h1, h2, h3, h4, fnR_of F S len hb hbody⟩
theorem MethAt.c (D : MethAt K C x qual st) (S : FnScope N ps (defScope st)) (len : ∀ vs H Q E, sp vs H Q E → vs.length = ps.length)
    (hb : ∀ (kV doc pm : Value) (an : Option Addr) (cdv ct : Value) (us : List Value), us.length = ps.length → bindArgs (PySem.W.fnOf x qual (defArgs st) (defBody st) (defScope st) .none kV doc pm an cdv ct) ⟨us, []⟩ = pure (ps.zip us))
    (hbody : ∀ (f : Addr) (cdv : Value) (A : Around) (outer : List Env) (s : Shared) (H : Hp) (vs : List V) (Q : VK) (E : XK), Room k (A.deeper (envOfC qual (defScope st) s.heap.objs.size f cdv)) → sp vs H Q E →
      ∃ t, PSs (cxOf CX0 P w K mg base N qual (defScope st) f cdv A outer s H E).nox (defBody st) t ∧ t { nx := fun _ H' => Q .non H', rt := Q } (start N vs) H) : MethC P w K mg base C x (k + 1) sp := by
  obtain ⟨g, fd, h1, F⟩ := D
  exact ⟨g, h1, fnR_of F S len hb hbody⟩
end
/-! ### a def of the top with one default -/
def DefD1 (K : PySem.W.Frag) (mg : Str → Option Value) (x : Str) (st : Stmt) (d : V) : Prop :=
  ∃ (f : Addr) (fd : FuncData), mg x = some (.ref f) ∧ FunD K x x (defArgs st) (defBody st) (defScope st) [d] [] f fd
theorem DefD1.cal {P : Program} {w : World} {K : PySem.W.Frag} {mg : Str → Option Value} {base : Heap} {x : Str} {st : Stmt} {d : V} {N ps : List Str} {k : Nat} {sp : Sp} (D : DefD1 K mg x st d) (S : FnScope N ps (defScope st)) (n j : Nat) (hn : n + (1 - j) = ps.length) (len : ∀ vs H Q E, sp vs H Q E → (vs ++ [d].drop j).length = ps.length)
    (hb : ∀ (T : Addr) (kV doc pm : Value) (an : Option Addr) (cdv ct : Value) (us its : List Value), us.length = n → its.length = 1 →
      ∃ k, bindArgs (PySem.W.fnOf x x (defArgs st) (defBody st) (defScope st) (.ref T) kV doc pm an cdv ct) ⟨us, []⟩ = seqItems? (.ref T) >>= k ∧ k (some its.toArray) = pure (ps.zip (us ++ its.drop j)))
    (hbody : ∀ (f : Addr) (cdv : Value) (A : Around) (outer : List Env) (s : Shared) (H : Hp) (vs : List V) (Q : VK) (E : XK), Room k (A.deeper (envOfC x (defScope st) s.heap.objs.size f cdv)) → sp vs H Q E →
      ∃ t, PSs (cxOf CX0 P w K mg base N x (defScope st) f cdv A outer s H E).nox (defBody st) t ∧ t { nx := fun _ H' => Q .non H', rt := Q } (start N (vs ++ [d].drop j)) H) : Cal P w K mg base x (k + 1) sp := by
  obtain ⟨f, fd, hm, F⟩ := D
  refine ⟨f, hm, F.kp, ?_⟩
  obtain ⟨ds, hd, hB⟩ := F.binds1 n j (by simp) (by simpa using hn) hb
  have G : FnOk P w K mg base CX0 (k + 1) f fd ps (fun vs H Q E => ∃ us, vs = us ++ [d].drop j ∧ sp us H Q E) := fn_run F S (fun vs H Q E ⟨us, e, h⟩ => by rw [e]; exact len us H Q E h) fun f cdv A outer s H vs Q E _ hr ⟨us, e, h⟩ => by
    rw [e]
    exact hbody f cdv A outer s H us Q E hr h
  exact (G.raw hB hd).imp fun vs H Q E h => ⟨vs, rfl, h⟩
end G
set_option Elab.async false
set_option linter.all false
set_option maxRecDepth 100000
set_option maxHeartbeats 4000000
namespace G
open PySem PySem.Spec PyProof.Rows L2 SlX GxR
local macro_rules | `(tactic| walk_at "rd") => `(tactic| repeat (first
  | (with_reducible first
  | refine r_seq ?_ | refine r_asg ?_ | refine r_c ?_ | refine r_op ?_ | refine r_cons ?_ | refine r_nil ?_ | refine r_cb ?_ | refine r_cal ?_ | refine r_I0 ?_ | refine r_gname ?_
  | refine r_test ?_ | refine r_k ?_ | refine r_B ?_ | refine r_ifs ?_ | refine r_eqI ?_ | refine r_neI ?_ | refine r_un ?_ | refine r_U ?_ | refine r_par ?_ | refine r_vw ?_ | refine r_ret ?_ | refine r_drop ?_
  | refine r_next ?_ | refine r_not ?_ | refine r_and ?_ | refine r_or ?_ | refine r_if ?_ | refine r_chain ?_ | refine r_ipI ?_ | refine r_abs ?_ | refine r_int1 ?_ | refine r_int1b ?_ | refine r_eqB ?_ | refine r_neB ?_
  | refine r_max2 ?_ | refine r_min2 ?_ | refine r_gcd ?_ | refine r_tup ?_ | refine r_lst ?_ | refine r_bm ?_ | refine r_for ?_ | refine r_rng1 ?_ | refine r_rng2 ?_ | refine r_ilist ?_ | refine r_itup ?_ | refine r_yes ?_ | refine r_lc ?_ | refine r_sub ?_
  | refine r_ssl ?_ | refine r_make ?_ | refine r_prop ?_ | refine r_meth ?_ | refine r_gcons ?_ | refine r_gnil ?_ | refine r_andV0 ?_ | refine r_orV0 ?_ | refine r_notV ?_ | refine r_par3 ?_ | refine r_vwz ?_ | refine r_isN ?_ | refine r_notN ?_)
  | ((with_reducible refine' r_var ?k1 ?_); (case k1 => exact rfl))
  | ((with_reducible refine' r_aug ?k1 ?_); (case k1 => exact rfl))))
section
variable {P : Program} {w : World} {K : PySem.W.Frag} {mg : Str → Option Value} {base : Heap} {CT CR CM CW PT : Addr}
abbrev s_Terms___init__ : Stmt := inClass (top 18) 1
abbrev N_Terms___init__ : List Str := ["self", "top", "bottom"]
theorem sc_Terms___init__ : FnScope N_Terms___init__ ["self", "top", "bottom"] (defScope s_Terms___init__) := ⟨rfl, rfl, rfl, by decide +kernel, rfl, by decide +kernel, by decide +kernel⟩
def sp_Terms___init__ (CT : Addr) : Sp := fun vs H Q _ => ∃ (a dx : Addr) (t b : Int), vs = [.ref a, .int t, .int b] ∧ H a = some (.ins CT dx []) ∧ H dx = some (.own a) ∧ dx ≠ a ∧ ∀ H', But2 a dx H H' → Two CT H' a t b → Q .non H'
theorem ok_Terms___init__ (B : Bt mg) (L : Cls K mg CT CR CM CW) (D : InitAt K CT "Terms.__init__" s_Terms___init__ [] [])  : Mak P w K mg base "Terms" CT 1 [] (sp_Terms___init__ CT) := by
  refine D.mak L.T.at_ sc_Terms___init__ (fun vs H Q E h => ?_) (fun _ _ _ _ _ _ us hl => match us, hl with | [_, _, _], _ => rfl) (fun cfa cdv cA cO cs H vs Q E hr h => ?_)
  · obtain ⟨a, dx, t, b, rfl, ha, hd, hne, q⟩ := h
    rfl
  obtain ⟨a, dx, t, b, rfl, ha, hd, hne, q⟩ := h
  refine ⟨_, (pss_cons (ps_sl (pv 0) (pv 1))
      (pss_one (ps_sl (pv 0) (pv 2)))), ?_⟩
  walk_at "rd"
  refine r_put L.T.cls L.Tt (.inl ⟨ha, rfl⟩) hne fun H1 b1 s1 => ?_
  walk_at "rd"
  refine r_put L.T.cls L.Tb s1 hne fun H2 b2 s2 => ?_
  exact q H2 (b1.trans b2) ⟨⟨dx, _, s2, putS_get 0 _ _⟩, ⟨dx, _, s2, (putS_ne (by decide)).mpr (putS_get 1 _ _)⟩⟩
abbrev s_terms_of : Stmt := top 19
abbrev N_terms_of : List Str := ["top", "bottom", "shared"]
theorem sc_terms_of : FnScope N_terms_of ["top", "bottom"] (defScope s_terms_of) := ⟨rfl, rfl, rfl, by decide +kernel, rfl, by decide +kernel, by decide +kernel⟩
def sp_terms_of (CT : Addr) : Sp := fun vs H Q _ => ∃ t b : Int, vs = [.int t, .int b] ∧ 0 < b ∧ b.natAbs < 2 ^ 9000 ∧ ∀ x, H x = none → ∀ H', Evl.Ex H H' → Two CT H' x (redu t b).1 (redu t b).2 → Q (.ref x) H'
theorem ok_terms_of (B : Bt mg) (L : Cls K mg CT CR CM CW) (D : DefAt K mg "terms_of" s_terms_of) (c_Terms : Mak P w K mg base "Terms" CT 1 [] (sp_Terms___init__ CT)) : Cal P w K mg base "terms_of" 3 (sp_terms_of CT) := by
  refine D.cal sc_terms_of (fun vs H Q E h => ?_) (fun _ _ _ _ _ _ us hl => match us, hl with | [_, _], _ => rfl) (fun cfa cdv cA cO cs H vs Q E hr h => ?_)
  · obtain ⟨t, b, rfl, hb, hz, q⟩ := h
    rfl
  obtain ⟨t, b, rfl, hb, hz, q⟩ := h
  refine ⟨_, (pss_cons (ps_set (i := 2) sc_terms_of.nd rfl (by first | exact .inl rfl | exact .inr rfl) (pe_callBfun cr_gcd (by rfl) B.gcd (pa_cons (pv 0) (pa_cons (pv 1) pa_nil))))
      (pss_cons (ps_if (pt_cmpR op_lt (pv 1) pe_int (nomark _)) (pss_one (ps_set (i := 2) sc_terms_of.nd rfl (by first | exact .inl rfl | exact .inr rfl) (pe_un un_neg (pv 2)))) pss_nil)
      (pss_one (ps_ret (pe_mak c_Terms (hr.mono (by decide)) (by rfl) (pa_cons (pe_op op_fdivW (pv 0) (pv 2)) (pa_cons (pe_op op_fdivW (pv 1) (pv 2)) pa_nil))))))), ?_⟩
  walk_at "rd"
  refine ite_d (fun e => absurd e (by omega)) (fun _ => ?_)
  walk_at "rd"
  have hc : ∀ k : Int, CDivW k ((Nat.gcd t.natAbs b.natAbs : Nat) : Int) := fun k => by
    refine wide_div (gcd_pos_of hb) (b := 9000) ?_ (by decide) (by decide)
    have h1 : Nat.gcd t.natAbs b.natAbs ≤ b.natAbs := Nat.gcd_le_right _ (by omega)
    rw [Int.natAbs_natCast]
    omega
  refine r_I (hc _) ?_
  walk_at "rd"
  refine r_I (hc _) ?_
  walk_at "rd"
  intro x dx hx hdx hne
  refine ⟨x, dx, _, _, rfl, upd_same, by rw [upd_ne hne, upd_same], hne, fun H' hb2 ht => ⟨rfl, ?_⟩⟩
  exact q x hx H' (ex_made hx hdx hb2) ht
abbrev s_told_terms : Stmt := top 20
abbrev N_told_terms : List Str := ["top", "bottom"]
theorem sc_told_terms : FnScope N_told_terms ["top", "bottom"] (defScope s_told_terms) := ⟨rfl, rfl, rfl, by decide +kernel, rfl, by decide +kernel, by decide +kernel⟩
def sp_told_terms (K : PySem.W.Frag) (CT : Addr) : Sp := fun vs H Q _ => ∃ (a : Addr) (v : V) (t b : Int), vs = [.ref a, v] ∧ Two CT H a t b ∧ Q (.ref a) H
theorem ok_told_terms (B : Bt mg) (L : Cls K mg CT CR CM CW) (D : DefAt K mg "told_terms" s_told_terms)  : Cal P w K mg base "told_terms" 1 (sp_told_terms K CT) := by
  refine D.cal sc_told_terms (fun vs H Q E h => ?_) (fun _ _ _ _ _ _ us hl => match us, hl with | [_, _], _ => rfl) (fun cfa cdv cA cO cs H vs Q E hr h => ?_)
  · obtain ⟨a, v, t, b, rfl, ha, q⟩ := h
    rfl
  obtain ⟨a, v, t, b, rfl, ha, q⟩ := h
  refine ⟨_, (pss_cons (ps_if (pt_val (pe_callB (call_isiSl (.ref CT)) (by rfl) B.isinstance (by decide +kernel) (pa_cons (pv 0) (pa_cons (pe_glob (v := .ref CT) (by rfl) L.T.at_ rfl) pa_nil)))) (pss_one (ps_ret (pv 0))) pss_nil)
      (pss_cons ps_never
      (pss_cons ps_never
      (pss_one ps_never)))), ?_⟩
  walk_at "rd"
  refine r_isiSl L.T ha.1 ?_
  walk_at "rd"
  refine iteT ?_
  walk_at "rd"
  exact q
abbrev s_Ratio___init__ : Stmt := inClass (top 21) 1
abbrev N_Ratio___init__ : List Str := ["self", "top", "bottom", "terms"]
theorem sc_Ratio___init__ : FnScope N_Ratio___init__ ["self", "top", "bottom"] (defScope s_Ratio___init__) := ⟨rfl, rfl, rfl, by decide +kernel, rfl, by decide +kernel, by decide +kernel⟩
def sp_Ratio___init__ (K : PySem.W.Frag) (CT CR : Addr) : Sp := fun vs H Q _ => ∃ (a dx m : Addr) (t b : Int), vs = [.ref a, .ref m, .int 1] ∧ H a = some (.ins CR dx []) ∧ H dx = some (.own a) ∧ dx ≠ a ∧ Two CT H m t b ∧ ∀ H', But2 a dx H H' → Two CR H' a t b → Q .non H'
theorem ok_Ratio___init__ (B : Bt mg) (L : Cls K mg CT CR CM CW) (D : InitAt K CR "Ratio.__init__" s_Ratio___init__ [.int 1] []) (c_told_terms : Cal P w K mg base "told_terms" 1 (sp_told_terms K CT)) : Mak P w K mg base "Ratio" CR 2 [.int 1] (sp_Ratio___init__ K CT CR) := by
  refine D.mak1 L.R.at_ sc_Ratio___init__ (fun vs H Q E h => ?_) 2 rfl (fun _ _ _ _ _ _ _ us its hl hi => match us, hl, its, hi with | [_, _], _, [_], _ => ⟨_, rfl, rfl⟩) (fun cfa cdv cA cO cs H vs Q E hr h => ?_)
  · obtain ⟨a, dx, m, t, b, rfl, ha, hd, hne, hm, q⟩ := h
    rfl
  obtain ⟨a, dx, m, t, b, rfl, ha, hd, hne, hm, q⟩ := h
  refine ⟨_, (pss_cons (ps_set (i := 3) sc_Ratio___init__.nd rfl (by first | exact .inl rfl | exact .inr rfl) (pe_cal c_told_terms (hr.mono (by decide)) (by rfl) (pa_cons (pv 1) (pa_cons (pv 2) pa_nil))))
      (pss_cons (ps_sl (pv 0) (pe_sl (pv 3)))
      (pss_one (ps_sl (pv 0) (pe_sl (pv 3)))))), ?_⟩
  walk_at "rd"
  refine ⟨m, _, t, b, rfl, hm, ?_⟩
  walk_at "rd"
  refine r_slV rfl L.T.cls L.Tt hm.2 ?_
  walk_at "rd"
  refine r_put L.R.cls L.Rt (.inl ⟨ha, rfl⟩) hne fun H1 b1 s1 => ?_
  walk_at "rd"
  refine r_slV rfl L.T.cls L.Tb (hm.1.but b1 ha hd) ?_
  walk_at "rd"
  refine r_put L.R.cls L.Rb s1 hne fun H2 b2 s2 => ?_
  exact q H2 (b1.trans b2) ⟨⟨dx, _, s2, putS_get 0 _ _⟩, ⟨dx, _, s2, (putS_ne (by decide)).mpr (putS_get 1 _ _)⟩⟩
abbrev s_ratio_of : Stmt := top 22
abbrev N_ratio_of : List Str := ["top", "bottom"]
theorem sc_ratio_of : FnScope N_ratio_of ["top", "bottom"] (defScope s_ratio_of) := ⟨rfl, rfl, rfl, by decide +kernel, rfl, by decide +kernel, by decide +kernel⟩
def sp_ratio_of (K : PySem.W.Frag) (CT CR : Addr) : Sp := fun vs H Q _ => ∃ t b : Int, vs = [.int t, .int b] ∧ 0 < b ∧ b.natAbs < 2 ^ 9000 ∧ ∀ x, H x = none → ∀ H', Evl.Ex H H' → Two CR H' x (redu t b).1 (redu t b).2 → Q (.ref x) H'
theorem ok_ratio_of (B : Bt mg) (L : Cls K mg CT CR CM CW) (D : DefD1 K mg "ratio_of" s_ratio_of (.int 1)) (c_Ratio : Mak P w K mg base "Ratio" CR 2 [.int 1] (sp_Ratio___init__ K CT CR)) (c_terms_of : Cal P w K mg base "terms_of" 3 (sp_terms_of CT)) : Cal P w K mg base "ratio_of" 5 (sp_ratio_of K CT CR) := by
  refine D.cal sc_ratio_of 2 1 rfl (fun vs H Q E h => ?_) (fun _ _ _ _ _ _ _ us its hl hi => match us, hl, its, hi with | [_, _], _, [_], _ => ⟨_, rfl, rfl⟩) (fun cfa cdv cA cO cs H vs Q E hr h => ?_)
  · obtain ⟨t, b, rfl, hb, hz, q⟩ := h
    rfl
  obtain ⟨t, b, rfl, hb, hz, q⟩ := h
  refine ⟨_, (pss_one (ps_ret (pe_mak c_Ratio (hr.mono (by decide)) (by rfl) (pa_cons (pe_cal c_terms_of (hr.mono (by decide)) (by rfl) (pa_cons (pv 0) (pa_cons (pv 1) pa_nil))) pa_nil)))), ?_⟩
  walk_at "rd"
  refine ⟨t, b, rfl, hb, hz, fun m hm H1 he1 ht1 => ?_⟩
  walk_at "rd"
  intro x dx hx hdx hne
  have he2 : Evl.Ex H1 (upd (upd H1 dx (.own x)) x (.ins CR dx [])) := (Evl.Ex.new hdx).mut hx
  refine ⟨x, dx, m, _, _, rfl, upd_same, by rw [upd_ne hne, upd_same], hne, ht1.ex he2, fun H' hb2 ht => ⟨rfl, ?_⟩⟩
  exact q x (none_of he1 hx) H' (he1.trans (ex_made hx hdx hb2)) ht
abbrev s_Ratio_top : Stmt := inClass (top 21) 3
abbrev N_Ratio_top : List Str := ["self"]
theorem sc_Ratio_top : FnScope N_Ratio_top ["self"] (defScope s_Ratio_top) := ⟨rfl, rfl, rfl, by decide +kernel, rfl, by decide +kernel, by decide +kernel⟩
def sp_Ratio_top (K : PySem.W.Frag) (CR : Addr) : Sp := fun vs H Q _ => ∃ (a : Addr) (t b : Int), vs = [.ref a] ∧ Two CR H a t b ∧ Q (.int t) H
theorem ok_Ratio_top (B : Bt mg) (L : Cls K mg CT CR CM CW) (D : PropAt K CR "top" "Ratio.top" s_Ratio_top)  : PropC P w K mg base CR "top" 1 (sp_Ratio_top K CR) := by
  refine D.c sc_Ratio_top (fun vs H Q E h => ?_) (fun _ _ _ _ _ _ us hl => match us, hl with | [_], _ => rfl) (fun cfa cdv cA cO cs H vs Q E hr h => ?_)
  · obtain ⟨a, t, b, rfl, ha, q⟩ := h
    rfl
  obtain ⟨a, t, b, rfl, ha, q⟩ := h
  refine ⟨_, (pss_one (ps_ret (pe_sl (pv 0)))), ?_⟩
  walk_at "rd"
  refine r_slV rfl L.R.cls L.Rt ha.2 ?_
  exact q
abbrev s_Ratio_bottom : Stmt := inClass (top 21) 4
abbrev N_Ratio_bottom : List Str := ["self"]
theorem sc_Ratio_bottom : FnScope N_Ratio_bottom ["self"] (defScope s_Ratio_bottom) := ⟨rfl, rfl, rfl, by decide +kernel, rfl, by decide +kernel, by decide +kernel⟩
def sp_Ratio_bottom (K : PySem.W.Frag) (CR : Addr) : Sp := fun vs H Q _ => ∃ (a : Addr) (t b : Int), vs = [.ref a] ∧ Two CR H a t b ∧ Q (.int b) H
theorem ok_Ratio_bottom (B : Bt mg) (L : Cls K mg CT CR CM CW) (D : PropAt K CR "bottom" "Ratio.bottom" s_Ratio_bottom)  : PropC P w K mg base CR "bottom" 1 (sp_Ratio_bottom K CR) := by
  refine D.c sc_Ratio_bottom (fun vs H Q E h => ?_) (fun _ _ _ _ _ _ us hl => match us, hl with | [_], _ => rfl) (fun cfa cdv cA cO cs H vs Q E hr h => ?_)
  · obtain ⟨a, t, b, rfl, ha, q⟩ := h
    rfl
  obtain ⟨a, t, b, rfl, ha, q⟩ := h
  refine ⟨_, (pss_one (ps_ret (pe_sl (pv 0)))), ?_⟩
  walk_at "rd"
  refine r_slV rfl L.R.cls L.Rb ha.1 ?_
  exact q
end
end G
set_option linter.all false
set_option maxRecDepth 100000
namespace G
/-! ### lines: tops over one bottom -/
def gcdL (g : Nat) (ts : List Int) : Nat := ts.foldl (fun g t => Nat.gcd g t.natAbs) g
theorem gcdL_dvd : ∀ (ts : List Int) (g : Nat), gcdL g ts ∣ g ∧ ∀ t ∈ ts, ((gcdL g ts : Nat) : Int) ∣ t
  | [], g => ⟨Nat.dvd_refl g, fun t h => nomatch h⟩
  | t :: ts, g => by
    have ih := gcdL_dvd ts (Nat.gcd g t.natAbs)
    refine ⟨Nat.dvd_trans ih.1 (Nat.gcd_dvd_left _ _), fun x hx => ?_⟩
    rcases List.mem_cons.mp hx with rfl | h
    · exact Int.dvd_trans (Int.natCast_dvd_natCast.mpr ih.1) (Int.dvd_natAbs.mp (Int.natCast_dvd_natCast.mpr (Nat.gcd_dvd_right _ _)))
    · exact ih.2 x h
theorem gcdL_pos {g : Nat} (h : 0 < g) (ts : List Int) : 0 < gcdL g ts := Nat.pos_of_dvd_of_pos (gcdL_dvd ts g).1 h
theorem gcdL_le {g : Nat} (h : 0 < g) (ts : List Int) : gcdL g ts ≤ g := Nat.le_of_dvd h (gcdL_dvd ts g).1
theorem gcdL_snoc (g : Nat) (ts : List Int) (t : Int) : gcdL g (ts ++ [t]) = Nat.gcd (gcdL g ts) t.natAbs := by
  unfold gcdL
  rw [List.foldl_append]
  rfl
/-- the least common multiple -/
def lcmL (bs : List Nat) : Nat := bs.foldl Nat.lcm 1
theorem lcmF_pos : ∀ (bs : List Nat) (s : Nat), 0 < s → (∀ b ∈ bs, 0 < b) → 0 < bs.foldl Nat.lcm s
  | [], s, h, _ => h
  | b :: bs, s, h, hb => lcmF_pos bs (Nat.lcm s b) (Nat.lcm_pos h (hb b List.mem_cons_self)) fun x hx => hb x (List.mem_cons_of_mem _ hx)
theorem lcmF_dvd : ∀ (bs : List Nat) (s M : Nat), s ∣ M → (∀ b ∈ bs, b ∣ M) → bs.foldl Nat.lcm s ∣ M
  | [], s, M, h, _ => h
  | b :: bs, s, M, h, hb => lcmF_dvd bs (Nat.lcm s b) M (Nat.lcm_dvd h (hb b List.mem_cons_self)) fun x hx => hb x (List.mem_cons_of_mem _ hx)
theorem lcmF_self : ∀ (bs : List Nat) (s : Nat), s ∣ bs.foldl Nat.lcm s ∧ ∀ b ∈ bs, b ∣ bs.foldl Nat.lcm s
  | [], s => ⟨Nat.dvd_refl s, fun b h => nomatch h⟩
  | b :: bs, s => by
    have ih := lcmF_self bs (Nat.lcm s b)
    refine ⟨Nat.dvd_trans (Nat.dvd_lcm_left s b) ih.1, fun x hx => ?_⟩
    rcases List.mem_cons.mp hx with rfl | h
    · exact Nat.dvd_trans (Nat.dvd_lcm_right s x) ih.1
    · exact ih.2 x h
theorem lcmL_pos {bs : List Nat} (h : ∀ b ∈ bs, 0 < b) : 0 < lcmL bs := lcmF_pos bs 1 Nat.one_pos h
theorem lcmL_dvd {bs : List Nat} {M : Nat} (h : ∀ b ∈ bs, b ∣ M) : lcmL bs ∣ M := lcmF_dvd bs 1 M (Nat.one_dvd M) h
theorem lcmL_self {bs : List Nat} {b : Nat} (h : b ∈ bs) : b ∣ lcmL bs := (lcmF_self bs 1).2 b h
theorem lcmL_snoc (bs : List Nat) (b : Nat) : lcmL (bs ++ [b]) = Nat.lcm (lcmL bs) b := by
  unfold lcmL
  rw [List.foldl_append]
  rfl
theorem lcm_int (s b : Nat) : (s : Int) * (b : Int) / ((Nat.gcd (s : Int).natAbs (b : Int).natAbs : Nat) : Int) = ((Nat.lcm s b : Nat) : Int) := by
  rw [Int.natAbs_natCast, Int.natAbs_natCast, ← Int.natCast_mul, ← Int.natCast_ediv]
  rfl
/-- the line of pairs, before and behind the reduction -/
def preTs (ps : List (Int × Nat)) : List Int := ps.map fun p => p.1 * (((lcmL (ps.map (·.2)) / p.2 : Nat)) : Int)
def preB (ps : List (Int × Nat)) : Nat := lcmL (ps.map (·.2))
def lnG (ps : List (Int × Nat)) : Nat := gcdL (preB ps) (preTs ps)
def lnTs (ps : List (Int × Nat)) : List Int := (preTs ps).map fun t => t / ((lnG ps : Nat) : Int)
def lnB (ps : List (Int × Nat)) : Int := ((preB ps : Nat) : Int) / ((lnG ps : Nat) : Int)
def PosB (ps : List (Int × Nat)) : Prop := ∀ p ∈ ps, 0 < p.2
theorem preB_pos {ps : List (Int × Nat)} (h : PosB ps) : 0 < preB ps := lcmL_pos fun b hb => by
  obtain ⟨p, hp, rfl⟩ := List.mem_map.mp hb
  exact h p hp
theorem lnG_pos {ps : List (Int × Nat)} (h : PosB ps) : 0 < lnG ps := gcdL_pos (preB_pos h) _
theorem ediv_natAbs_le (t : Int) (g : Nat) (h : ((g : Nat) : Int) ∣ t) : (t / (g : Int)).natAbs ≤ t.natAbs := by
  rcases Nat.eq_zero_or_pos g with z | z
  · subst z; simp
  · obtain ⟨x, rfl⟩ := h
    rw [Int.mul_ediv_cancel_left _ (by omega), Int.natAbs_mul, Int.natAbs_natCast]
    exact Nat.le_mul_of_pos_left _ z
theorem lnB_pos {ps : List (Int × Nat)} (h : PosB ps) : 0 < lnB ps := by
  obtain ⟨c, hc⟩ := (gcdL_dvd (preTs ps) (preB ps)).1
  have h1 := preB_pos h
  have h2 := lnG_pos h
  unfold lnB
  rw [← Int.natCast_ediv]
  have : 0 < preB ps / lnG ps := Nat.div_pos (gcdL_le h1 _) h2
  omega
theorem lnB_le {ps : List (Int × Nat)} : lnB ps ≤ (preB ps : Nat) := by
  unfold lnB
  rw [← Int.natCast_ediv]
  have := Nat.div_le_self (preB ps) (lnG ps)
  omega
/-- each pair's quotient stands in the line -/
theorem ln_cross {ps : List (Int × Nat)} (h : PosB ps) {i : Nat} {p : Int × Nat} (hi : ps[i]? = some p) : (lnTs ps).getD i 0 * (p.2 : Int) = p.1 * lnB ps := by
  have hp : p ∈ ps := List.mem_of_getElem? hi
  have e1 : (preTs ps)[i]? = some (p.1 * (((preB ps / p.2 : Nat)) : Int)) := by
    unfold preTs
    rw [List.getElem?_map, hi]
    rfl
  have e2 : (lnTs ps).getD i 0 = p.1 * (((preB ps / p.2 : Nat)) : Int) / ((lnG ps : Nat) : Int) := by
    unfold lnTs
    rw [List.getD_eq_getElem?_getD, List.getElem?_map, e1]
    rfl
  obtain ⟨x, hx⟩ := (gcdL_dvd (preTs ps) (preB ps)).2 _ (List.mem_of_getElem? e1)
  obtain ⟨y, hy⟩ := Int.natCast_dvd_natCast.mpr (gcdL_dvd (preTs ps) (preB ps)).1
  obtain ⟨z, hz⟩ : p.2 ∣ preB ps := lcmL_self (List.mem_map.mpr ⟨p, hp, rfl⟩)
  have g0 : ((lnG ps : Nat) : Int) ≠ 0 := by have := lnG_pos h; omega
  have e3 : preB ps / p.2 = z := by rw [hz]; exact Nat.mul_div_cancel_left _ (h p hp)
  have hx' : p.1 * (((preB ps / p.2 : Nat)) : Int) = ((lnG ps : Nat) : Int) * x := hx
  have hy' : ((preB ps : Nat) : Int) = ((lnG ps : Nat) : Int) * y := hy
  have e4 : lnB ps = y := by unfold lnB; rw [hy', Int.mul_ediv_cancel_left _ g0]
  rw [e2, hx', Int.mul_ediv_cancel_left _ g0, e4]
  rw [e3] at hx'
  refine Int.eq_of_mul_eq_mul_left g0 ?_
  calc ((lnG ps : Nat) : Int) * (x * (p.2 : Int)) = (((lnG ps : Nat) : Int) * x) * (p.2 : Int) := by ac_rfl
    _ = (p.1 * (z : Int)) * (p.2 : Int) := by rw [hx']
    _ = p.1 * ((p.2 * z : Nat) : Int) := by rw [Int.natCast_mul]; ac_rfl
    _ = p.1 * ((preB ps : Nat) : Int) := by rw [hz]
    _ = ((lnG ps : Nat) : Int) * (p.1 * y) := by rw [hy']; ac_rfl
theorem lnTs_len (ps : List (Int × Nat)) : (lnTs ps).length = ps.length := by
  unfold lnTs preTs
  rw [List.length_map, List.length_map]
/-! ### the row's line -/
def numP (ns : List Int) : List (Int × Nat) := (0, 1) :: (List.range ns.length).map fun k => (ns.getD k 0, k + 1)
def expP (ns : List Int) (B : Nat) : List (Int × Nat) := (List.range (ns.length + 1)).map fun m => (((B ^ m : Nat) : Int) * eN ns m, fac m * B ^ m)
theorem numP_pos (ns : List Int) : PosB (numP ns) := fun p hp => by
  rcases List.mem_cons.mp hp with rfl | h
  · exact Nat.one_pos
  · obtain ⟨k, _, rfl⟩ := List.mem_map.mp h
    exact Nat.succ_pos k
theorem expP_pos (ns : List Int) {B : Nat} (hB : 0 < B) : PosB (expP ns B) := fun p hp => by
  obtain ⟨m, _, rfl⟩ := List.mem_map.mp hp
  exact Nat.mul_pos (fac_pos m) (Nat.pow_pos hB)
theorem expP_at {ns : List Int} {B m : Nat} (hm : m ≤ ns.length) : (expP ns B)[m]? = some (((B ^ m : Nat) : Int) * eN ns m, fac m * B ^ m) := by
  unfold expP
  rw [List.getElem?_map, List.getElem?_range (by omega)]
  rfl
theorem expP_redu {ns : List Int} {B m : Nat} (hB : 0 < B) (hm : m ≤ ns.length) : redu ((lnTs (expP ns B)).getD m 0) (lnB (expP ns B)) = redu (eN ns m) ((fac m : Nat) : Int) := by
  have h := ln_cross (expP_pos ns hB) (expP_at (ns := ns) (B := B) hm)
  refine redu_eq (lnB_pos (expP_pos ns hB)) (fac_posI m) ?_
  have b0 : ((B ^ m : Nat) : Int) ≠ 0 := by have := Nat.pow_pos (n := m) hB; omega
  refine Int.eq_of_mul_eq_mul_left b0 ?_
  calc ((B ^ m : Nat) : Int) * ((lnTs (expP ns B)).getD m 0 * ((fac m : Nat) : Int)) = (lnTs (expP ns B)).getD m 0 * ((fac m * B ^ m : Nat) : Int) := by rw [Int.natCast_mul]; ac_rfl
    _ = (((B ^ m : Nat) : Int) * eN ns m) * lnB (expP ns B) := h
    _ = ((B ^ m : Nat) : Int) * (eN ns m * lnB (expP ns B)) := by ac_rfl
/-- the line of the logarithm's pairs -/
theorem numP_at {ns : List Int} {k : Nat} (hk : k < ns.length) : (numP ns)[k + 1]? = some (ns.getD k 0, k + 1) := by
  unfold numP
  rw [List.getElem?_cons_succ, List.getElem?_map, List.getElem?_range hk]
  rfl
theorem numP_step {ns : List Int} {k : Nat} (hk : k < ns.length) : ((k + 1 : Nat) : Int) * (lnTs (numP ns)).getD (k + 1) 0 = ns.getD k 0 * lnB (numP ns) := by
  rw [← ln_cross (numP_pos ns) (numP_at hk)]
  exact Int.mul_comm _ _
theorem part_eq {k n : Nat} {t B a F e : Int} (hk : ((k + 1 : Nat) : Int) * t = a * B) (hkn : k ≤ n) : ((k + 1 : Nat) : Int) * t * B ^ k * F * (B ^ (n - k) * e) = B ^ (n + 1) * (a * F * e) := by
  have e1 : B ^ (n + 1) = B * B ^ k * B ^ (n - k) := by
    rw [Int.mul_comm B, ← Int.pow_succ, ← Int.pow_add]
    congr 1
    omega
  rw [hk, e1]
  ac_rfl
theorem preB_num {ns : List Int} (h : ns.length ≤ 16) : preB (numP ns) ≤ 720720 := by
  refine Nat.le_of_dvd (by decide) (lcmL_dvd fun b hb => ?_)
  obtain ⟨p, hp, rfl⟩ := List.mem_map.mp hb
  rcases List.mem_cons.mp hp with rfl | hq
  · exact Nat.one_dvd _
  · obtain ⟨k, hk, rfl⟩ := List.mem_map.mp hq
    have hk2 : k < 16 := by have := List.mem_range.mp hk; omega
    exact (show ∀ k ∈ List.range 16, k + 1 ∣ 720720 by decide) k (List.mem_range.mpr hk2)
theorem preB_exp {ns : List Int} {B : Nat} (hB : 0 < B) (h2 : B ≤ 720720) (h : ns.length ≤ 16) : preB (expP ns B) < 2 ^ 4000 := by
  have h1 : preB (expP ns B) ≤ fac ns.length * B ^ ns.length := by
    refine Nat.le_of_dvd (Nat.mul_pos (fac_pos _) (Nat.pow_pos hB)) (lcmL_dvd fun b hb => ?_)
    obtain ⟨p, hp, rfl⟩ := List.mem_map.mp hb
    obtain ⟨m, hm, rfl⟩ := List.mem_map.mp hp
    have hm2 := List.mem_range.mp hm
    exact Nat.mul_dvd_mul (fac_dvd (by omega)) (Nat.pow_dvd_pow B (by omega))
  have h3 : B ^ ns.length ≤ 2 ^ 400 := by
    refine Nat.le_trans (Nat.pow_le_pow_left (show B ≤ 2 ^ 20 by omega) _) ?_
    rw [← Nat.pow_mul]
    exact Nat.pow_le_pow_right (by decide) (by omega)
  have h4 := fac_le (show ns.length ≤ 24 by omega)
  have h5 : fac ns.length * B ^ ns.length ≤ 2 ^ 90 * 2 ^ 400 := Nat.mul_le_mul (Nat.le_of_lt h4) h3
  rw [← Nat.pow_add] at h5
  exact Nat.lt_of_le_of_lt (Nat.le_trans h1 h5) (Nat.pow_lt_pow_right (by decide) (by decide))
end G
set_option Elab.async false
set_option linter.all false
set_option maxRecDepth 100000
set_option maxHeartbeats 4000000
namespace G
open PySem PySem.Spec PyProof.Rows L2 SlX GxR
local macro_rules | `(tactic| walk_at "rd") => `(tactic| repeat (first
  | (with_reducible first
  | refine r_seq ?_ | refine r_asg ?_ | refine r_c ?_ | refine r_op ?_ | refine r_cons ?_ | refine r_nil ?_ | refine r_cb ?_ | refine r_cal ?_ | refine r_I0 ?_ | refine r_gname ?_
  | refine r_test ?_ | refine r_k ?_ | refine r_B ?_ | refine r_ifs ?_ | refine r_eqI ?_ | refine r_neI ?_ | refine r_un ?_ | refine r_U ?_ | refine r_par ?_ | refine r_vw ?_ | refine r_ret ?_ | refine r_drop ?_
  | refine r_next ?_ | refine r_not ?_ | refine r_and ?_ | refine r_or ?_ | refine r_if ?_ | refine r_chain ?_ | refine r_ipI ?_ | refine r_abs ?_ | refine r_int1 ?_ | refine r_int1b ?_ | refine r_eqB ?_ | refine r_neB ?_
  | refine r_max2 ?_ | refine r_min2 ?_ | refine r_gcd ?_ | refine r_tup ?_ | refine r_lst ?_ | refine r_bm ?_ | refine r_for ?_ | refine r_rng1 ?_ | refine r_rng2 ?_ | refine r_ilist ?_ | refine r_itup ?_ | refine r_yes ?_ | refine r_lc ?_ | refine r_sub ?_
  | refine r_ssl ?_ | refine r_make ?_ | refine r_prop ?_ | refine r_meth ?_ | refine r_gcons ?_ | refine r_gnil ?_ | refine r_andV0 ?_ | refine r_orV0 ?_ | refine r_notV ?_ | refine r_par3 ?_ | refine r_vwz ?_ | refine r_isN ?_ | refine r_notN ?_)
  | ((with_reducible refine' r_var ?k1 ?_); (case k1 => exact rfl))
  | ((with_reducible refine' r_aug ?k1 ?_); (case k1 => exact rfl))))
section
variable {P : Program} {w : World} {K : PySem.W.Frag} {mg : Str → Option Value} {base : Heap} {CT CR CM CW PT : Addr}
def LineAt (H : Hp) (l : Addr) (ts : List Int) (b : Int) : Prop := ∃ L, H l = some (.tup [.ref L, .int b]) ∧ H L = some (.lst (ts.map V.int))
theorem LineAt.ex {H H' : Hp} {l : Addr} {ts : List Int} {b : Int} (e : Evl.Ex H H') (h : LineAt H l ts b) : LineAt H' l ts b := by
  obtain ⟨L, h1, h2⟩ := h
  exact ⟨L, e l _ h1, e L _ h2⟩
/-- a list of new tuples -/
def RefL (H : Hp) (m : Nat) (g : Nat → List V) (R : List V) : Prop := R.length = m ∧ ∀ j < m, ∃ r : Addr, R[j]? = some (.ref r) ∧ H r = some (.tup (g j))
theorem RefL.ex {H H' : Hp} {g : Nat → List V} {m : Nat} {R : List V} (h : RefL H m g R) (e : Evl.Ex H H') : RefL H' m g R := ⟨h.1, fun j hj => by
  obtain ⟨r, a, b⟩ := h.2 j hj
  exact ⟨r, a, e r _ b⟩⟩
theorem RefL.put {H : Hp} {g : Nat → List V} {m : Nat} {R xs ys : List V} {o p : Addr} (h : RefL H m g R) (ho : H o = some (.lst xs)) (hp : H p = some (.tup (g m))) : RefL (upd H o (.lst ys)) (m + 1) g (R ++ [.ref p]) := by
  have hne : ∀ r T, H r = some (.tup T) → r ≠ o := fun r T hr e => by rw [e, ho] at hr; cases hr
  refine ⟨by rw [List.length_append, h.1]; rfl, fun j hj => ?_⟩
  rcases Nat.lt_or_ge j m with z | z
  · obtain ⟨r, a, b⟩ := h.2 j z
    exact ⟨r, by rw [List.getElem?_append_left (by rw [h.1]; exact z)]; exact a, by rw [upd_ne (hne r _ b)]; exact b⟩
  · have : j = m := by omega
    subst this
    exact ⟨p, by rw [List.getElem?_append_right (by rw [h.1]; exact Nat.le_refl _), h.1, Nat.sub_self]; rfl, by rw [upd_ne (hne p _ hp)]; exact hp⟩
theorem RefL.nil (H : Hp) (g : Nat → List V) : RefL H 0 g [] := ⟨rfl, fun j hj => absurd hj (Nat.not_lt_zero j)⟩
def pairV (p : Int × Nat) : List V := [.int p.1, .int ((p.2 : Nat) : Int)]
def PairsAt (H : Hp) (a : Addr) (ps : List (Int × Nat)) : Prop := ∃ R, H a = some (.lst R) ∧ RefL H ps.length (fun j => pairV (ps.getD j (0, 1))) R
/-- the append of a new tuple in a comprehension -/
theorem cw_tup {H1 H3 : Hp} {D r : Addr} {g : Nat → List V} {k : Nat} {R : List V} (e : Evl.Ex H1 H3) (hD : H1 D = none) (h : H3 D = some (.lst R)) (hR : RefL H3 k g R) (hr : H3 r = none) (hk : k ≤ 1000) :
    ∃ acc, upd H3 r (.tup (g k)) D = some (.lst acc) ∧ acc.length < sizeLine ∧ (Evl.Ex H1 (upd (upd H3 r (.tup (g k))) D (.lst (acc ++ [.ref r]))) ∧ ∃ R, upd (upd H3 r (.tup (g k))) D (.lst (acc ++ [.ref r])) D = some (.lst R) ∧ RefL (upd (upd H3 r (.tup (g k))) D (.lst (acc ++ [.ref r]))) (k + 1) g R) := by
  have hDr : D ≠ r := ne_of_none h hr
  have h2 : upd H3 r (.tup (g k)) D = some (.lst R) := by rw [upd_ne hDr]; exact h
  refine ⟨R, h2, Nat.lt_of_le_of_lt (show _ ≤ 1000 by rw [hR.1]; exact hk) (by decide), (e.trans (.new hr)).mut hD, R ++ [.ref r], upd_same, ?_⟩
  exact (hR.ex (.new hr)).put h2 upd_same
theorem take_snoc {α : Type} {ns : List α} {j : Nat} {x : α} (h : ns[j]? = some x) : ns.take (j + 1) = ns.take j ++ [x] := by
  rw [List.take_add_one, h]
  rfl
abbrev s_line_of : Stmt := top 37
abbrev N_line_of : List Str := ["tops", "bottom", "modulus", "top", "share"]
theorem sc_line_of : FnScope N_line_of ["tops", "bottom", "modulus"] (defScope s_line_of) := ⟨rfl, rfl, rfl, by decide +kernel, rfl, by decide +kernel, by decide +kernel⟩
def sp_line_of (K : PySem.W.Frag) : Sp := fun vs H Q _ => ∃ (a : Addr) (ts : List Int) (b : Nat), vs = [.ref a, .int (b : Int), .int 0] ∧ H a = some (.lst (ts.map V.int)) ∧ 0 < b ∧ b < 2 ^ 4000 ∧ ts.length ≤ 1000 ∧
    ∀ l, H l = none → ∀ H', Evl.Ex H H' → LineAt H' l (ts.map fun t => t / ((gcdL b ts : Nat) : Int)) ((b : Int) / ((gcdL b ts : Nat) : Int)) → Q (.ref l) H'
theorem ok_line_of (B : Bt mg) (L : Cls K mg CT CR CM CW) (D : DefAt K mg "line_of" s_line_of)  : Cal P w K mg base "line_of" 1 (sp_line_of K) := by
  refine D.cal sc_line_of (fun vs H Q E h => ?_) (fun _ _ _ _ _ _ us hl => match us, hl with | [_, _, _], _ => rfl) (fun cfa cdv cA cO cs H vs Q E hr h => ?_)
  · obtain ⟨a, ts, b, rfl, ha, hb, hb2, hn, q⟩ := h
    rfl
  obtain ⟨a, ts, b, rfl, ha, hb, hb2, hn, q⟩ := h
  refine ⟨_, (pss_cons (ps_if (pt_cmpR op_gt (pv 2) pe_int (nomark _)) (pss_one ps_never) pss_nil)
      (pss_cons (ps_set (i := 4) sc_line_of.nd rfl (by first | exact .inl rfl | exact .inr rfl) (pv 1))
      (pss_cons (ps_for PassesOwn.never rfl (pi_list (pv 0)) (pg_name (i := 3) sc_line_of.nd rfl (by first | exact .inl rfl | exact .inr rfl)) (pss_one (ps_set (i := 4) sc_line_of.nd rfl (by first | exact .inl rfl | exact .inr rfl) (pe_callBfun cr_gcd (by rfl) B.gcd (pa_cons (pv 4) (pa_cons (pv 3) pa_nil))))))
      (pss_cons (ps_set (i := 4) sc_line_of.nd rfl (by first | exact .inl rfl | exact .inr rfl) (pe_ifExp (pt_cmpR op_lt (pv 1) pe_int (nomark _)) (pe_un un_neg (pv 4)) (pv 4)))
      (pss_one (ps_ret (pe_ifExp (pt_cmpR op_ne (pv 4) pe_int (nomark _)) (pe_tup (pa_cons (pe_lc (own := [("top", 3)]) rfl sc_line_of.nd (pi_list (pv 0)) (blkOk_by (N := N_line_of) (sc := defScope s_line_of) (by decide +kernel)) (fun _ _ _ _ _ => (pg_name (x := "top") (i := 3) sc_line_of.nd rfl (by first | exact .inl rfl | exact .inr rfl))) (fun _ _ _ _ _ => pts_nil) (fun _ _ _ _ _ => (pe_op op_fdivW (pv 3) (pv 4)))) (pa_cons (pe_op op_fdivW (pv 1) (pv 4)) pa_nil))) (pe_tup (pa_cons (pe_callTy (k_listOf) (by rfl) B.list (by decide +kernel) (pa_cons (pv 0) pa_nil)) (pa_cons (pv 1) pa_nil)))))))))), ?_⟩
  walk_at "rd"
  refine ite_d (fun e => absurd e (by decide)) (fun _ => ?_)
  walk_at "rd"
  refine ⟨a, rfl, ⟨_, sqL ha⟩, for_list (xs := ts.map V.int) (fun k σ2 H2 => ∃ y, σ2 = [some (.ref a), some (.int (b : Int)), some (.int 0), y, some (.int ((gcdL b (ts.take k) : Nat) : Int))] ∧ H2 = H) ⟨_, rfl, rfl⟩ (fun k σ2 H2 _ hp => by obtain ⟨_, _, rfl⟩ := hp; exact sqL ha) (fun k x σ2 H2 hx hp => ?_) (fun σ2 H2 hp => ?_)⟩
  · obtain ⟨y, rfl, rfl⟩ := hp
    obtain ⟨t, ht, rfl⟩ := geti hx
    walk_at "rd"
    refine ⟨some (.int t), ?_, rfl⟩
    rw [take_snoc ht, gcdL_snoc, Int.natAbs_natCast]
    rfl
  · obtain ⟨y, rfl, rfl⟩ := hp
    rw [List.length_map, take_all]
    have hg0 := gcdL_pos hb ts
    have hg1 := gcdL_le hb ts
    generalize gcdL b ts = g at *
    walk_at "rd"
    refine ite_d (fun e => absurd e (by omega)) (fun _ => ?_)
    walk_at "rd"
    have hc : ∀ k : Int, CDivW k (g : Int) := fun k => wide_div (by omega) (b := 4000) (by rw [Int.natAbs_natCast]; omega) (by decide) (by decide)
    refine ite_nd (fun e => ?_) (fun e => ?_)
    · walk_at "rd"
      refine ⟨a, rfl, ⟨_, sqL ha⟩, fun D hD => lc_list (xs := ts.map V.int) (fun k H3 => Evl.Ex H2 H3 ∧ H3 D = some (.lst (((ts.take k).map fun t => t / (g : Int)).map V.int))) ⟨Evl.Ex.new hD, upd_same⟩ (fun k H3 _ hp => sqL (hp.1 a _ ha)) (fun k x H3 hx hp => ?_) (fun H3 hp => ?_)⟩
      · obtain ⟨he2, hl2⟩ := hp
        obtain ⟨t, ht, rfl⟩ := geti hx
        walk_at "rd"
        refine ⟨rfl, ?_⟩
        walk_at "rd"
        refine iteT ?_
        walk_at "rd"
        refine r_I (hc _) ?_
        refine cw_put he2 hD hl2 ?_ ?_
        · rw [take_map ht, List.map_append]
          rfl
        · rw [List.length_map, List.length_map, List.length_take]
          omega
      · obtain ⟨he2, hl2⟩ := hp
        rw [List.length_map, take_all] at hl2
        walk_at "rd"
        refine r_I (hc _) ?_
        walk_at "rd"
        refine ⟨by show 2 ≤ sizeLine; decide, fun l hl => ?_⟩
        exact q l (none_of he2 hl) _ (he2.trans (.new hl)) ⟨D, upd_same, by rw [upd_ne (ne_of_none hl2 hl)]; exact hl2⟩
    · have e1 : (g : Int) = 1 := by omega
      walk_at "rd"
      refine r_listOf (.inl (sqL ha)) fun D hD => ?_
      walk_at "rd"
      refine ⟨by show 2 ≤ sizeLine; decide, fun l hl => ?_⟩
      have he2 : Evl.Ex H2 (upd H2 D (.lst (ts.map V.int))) := .new hD
      have hl2 : upd H2 D (.lst (ts.map V.int)) D = some (.lst (ts.map V.int)) := upd_same
      refine q l (none_of he2 hl) _ (he2.trans (.new hl)) ⟨D, ?_, ?_⟩
      · rw [upd_same, e1, Int.ediv_one]
      · rw [upd_ne (ne_of_none hl2 hl), hl2, e1]
        simp
abbrev s_line_of_pairs : Stmt := top 38
abbrev N_line_of_pairs : List Str := ["pairs", "shared", "top", "bottom"]
theorem sc_line_of_pairs : FnScope N_line_of_pairs ["pairs"] (defScope s_line_of_pairs) := ⟨rfl, rfl, rfl, by decide +kernel, rfl, by decide +kernel, by decide +kernel⟩
def sp_line_of_pairs (K : PySem.W.Frag) : Sp := fun vs H Q _ => ∃ (a : Addr) (ps : List (Int × Nat)), vs = [.ref a] ∧ PairsAt H a ps ∧ PosB ps ∧ preB ps < 2 ^ 4000 ∧ ps.length ≤ 1000 ∧ (∀ p ∈ ps, p.1.natAbs < 2 ^ 10000) ∧
    ∀ l, H l = none → ∀ H', Evl.Ex H H' → LineAt H' l (lnTs ps) (lnB ps) → Q (.ref l) H'
theorem ok_line_of_pairs (B : Bt mg) (L : Cls K mg CT CR CM CW) (D : DefAt K mg "line_of_pairs" s_line_of_pairs) (c_line_of : Cal P w K mg base "line_of" 1 (sp_line_of K)) : Cal P w K mg base "line_of_pairs" 2 (sp_line_of_pairs K) := by
  refine D.cal sc_line_of_pairs (fun vs H Q E h => ?_) (fun _ _ _ _ _ _ us hl => match us, hl with | [_], _ => rfl) (fun cfa cdv cA cO cs H vs Q E hr h => ?_)
  · obtain ⟨a, ps, rfl, ⟨R, ha, hR⟩, hp, hb, hn, ht, q⟩ := h
    rfl
  obtain ⟨a, ps, rfl, ⟨R, ha, hR⟩, hp, hb, hn, ht, q⟩ := h
  refine ⟨_, (pss_cons (ps_set (i := 1) sc_line_of_pairs.nd rfl (by first | exact .inl rfl | exact .inr rfl) pe_int)
      (pss_cons (ps_for PassesOwn.never rfl (pi_list (pv 0)) (pg_tup rfl (pgs_cons (pg_name (i := 2) sc_line_of_pairs.nd rfl (by first | exact .inl rfl | exact .inr rfl)) (pgs_cons (pg_name (i := 3) sc_line_of_pairs.nd rfl (by first | exact .inl rfl | exact .inr rfl)) pgs_nil))) (pss_one (ps_set (i := 1) sc_line_of_pairs.nd rfl (by first | exact .inl rfl | exact .inr rfl) (pe_op op_fdivW (pe_op op_mulW (pv 1) (pv 3)) (pe_callBfun cr_gcd (by rfl) B.gcd (pa_cons (pv 1) (pa_cons (pv 3) pa_nil)))))))
      (pss_one (ps_ret (pe_cal c_line_of (hr.mono (by decide)) (by rfl) (pa_cons (pe_lc (own := [("top", 2), ("bottom", 3)]) rfl sc_line_of_pairs.nd (pi_list (pv 0)) (blkOk_by (N := N_line_of_pairs) (sc := defScope s_line_of_pairs) (by decide +kernel)) (fun _ _ _ _ _ => (pg_tupK (n := 2) K rfl (pgs_cons (pg_name (x := "top") (i := 2) sc_line_of_pairs.nd rfl (by first | exact .inl rfl | exact .inr rfl)) (pgs_cons (pg_name (x := "bottom") (i := 3) sc_line_of_pairs.nd rfl (by first | exact .inl rfl | exact .inr rfl)) pgs_nil)))) (fun _ _ _ _ _ => pts_nil) (fun _ _ _ _ _ => (pe_op op_mulW (pv 2) (pe_op op_fdivW (pv 1) (pv 3))))) (pa_cons (pv 1) (pa_cons pe_int pa_nil)))))))), ?_⟩
  have hgetp : ∀ k x, R[k]? = some x → ∃ p r, ps[k]? = some p ∧ x = V.ref r ∧ H r = some (.tup (pairV p)) := fun k x hx => by
    have hk : k < ps.length := by have := lt_of_get hx; rw [hR.1] at this; exact this
    obtain ⟨r, h1, h2⟩ := hR.2 k hk
    rw [hx] at h1
    cases h1
    refine ⟨ps[k], r, List.getElem?_eq_getElem hk, rfl, ?_⟩
    have h2 : H r = some (.tup (pairV (ps.getD k (0, 1)))) := h2
    rw [List.getD_eq_getElem?_getD, List.getElem?_eq_getElem hk] at h2
    exact h2
  have hle : ∀ k, lcmL ((ps.take k).map (·.2)) < 2 ^ 4000 ∧ 0 < lcmL ((ps.take k).map (·.2)) := fun k => by
    have h1 : lcmL ((ps.take k).map (·.2)) ∣ preB ps := lcmL_dvd fun b hb => by
      obtain ⟨p, hp', rfl⟩ := List.mem_map.mp hb
      exact lcmL_self (List.mem_map.mpr ⟨p, List.mem_of_mem_take hp', rfl⟩)
    refine ⟨Nat.lt_of_le_of_lt (Nat.le_of_dvd (preB_pos hp) h1) hb, lcmL_pos fun b hb => ?_⟩
    obtain ⟨p, hp', rfl⟩ := List.mem_map.mp hb
    exact hp p (List.mem_of_mem_take hp')
  have hple : ∀ p ∈ ps, 0 < p.2 ∧ p.2 < 2 ^ 4000 := fun p hp' => ⟨hp p hp', Nat.lt_of_le_of_lt (Nat.le_of_dvd (preB_pos hp) (lcmL_self (List.mem_map.mpr ⟨p, hp', rfl⟩))) hb⟩
  walk_at "rd"
  refine ⟨a, rfl, ⟨_, sqL ha⟩, for_list (xs := R) (fun k σ2 H2 => ∃ y z, σ2 = [some (.ref a), some (.int ((lcmL ((ps.take k).map (·.2)) : Nat) : Int)), y, z] ∧ H2 = H) ⟨_, _, rfl, rfl⟩ (fun k σ2 H2 _ hp => by obtain ⟨_, _, _, rfl⟩ := hp; exact sqL ha) (fun k x σ2 H2 hx hq => ?_) (fun σ2 H2 hq => ?_)⟩
  · obtain ⟨y, z, rfl, rfl⟩ := hq
    obtain ⟨p, r, h1, rfl, h2⟩ := hgetp k x hx
    have hb1 := hle k
    have hb2 := hple p (List.mem_of_getElem? h1)
    refine r_gtup (xs := [.int p.1, .int ((p.2 : Nat) : Int)]) (sqT h2) rfl ?_
    walk_at "rd"
    refine r_I (wide_mul (a := 4000) (b := 4000) (by rw [Int.natAbs_natCast]; exact hb1.1) (by rw [Int.natAbs_natCast]; exact hb2.2) (by decide) (by decide) (by decide)) ?_
    walk_at "rd"
    refine r_I (wide_div (gcd_pos_of (by omega)) (b := 4000) ?_ (by decide) (by decide)) ?_
    · rw [Int.natAbs_natCast, Int.natAbs_natCast, Int.natAbs_natCast]
      exact Nat.lt_of_le_of_lt (Nat.gcd_le_right _ hb2.1) hb2.2
    walk_at "rd"
    refine ⟨some (.int p.1), some (.int (p.2 : Int)), ?_, rfl⟩
    rw [take_snoc h1, List.map_append]
    show _ = [_, some (V.int ((lcmL (((ps.take k).map (·.2)) ++ [p.2]) : Nat) : Int)), _, _]
    rw [lcmL_snoc, lcm_int]
    rfl
  · obtain ⟨y, z, rfl, rfl⟩ := hq
    rw [hR.1, take_all]
    have hs := hle ps.length
    rw [take_all] at hs
    walk_at "rd"
    refine ⟨a, rfl, ⟨_, sqL ha⟩, fun D hD => lc_list (xs := R) (fun k H3 => Evl.Ex H2 H3 ∧ H3 D = some (.lst (((preTs ps).take k).map V.int))) ⟨Evl.Ex.new hD, upd_same⟩ (fun k H3 _ hp => sqL (hp.1 a _ ha)) (fun k x H3 hx hq => ?_) (fun H3 hq => ?_)⟩
    · obtain ⟨he2, hl2⟩ := hq
      obtain ⟨p, r, h1, rfl, h2⟩ := hgetp k x hx
      have hb2 := hple p (List.mem_of_getElem? h1)
      refine r_gtup (xs := [.int p.1, .int ((p.2 : Nat) : Int)]) (sqT (he2 r _ h2)) rfl ?_
      walk_at "rd"
      refine ⟨rfl, ?_⟩
      walk_at "rd"
      refine iteT ?_
      walk_at "rd"
      refine r_I (wide_div (by omega) (b := 4000) (by rw [Int.natAbs_natCast]; exact hb2.2) (by decide) (by decide)) ?_
      have hdl : ((lcmL (ps.map (·.2)) / p.2 : Nat)) < 2 ^ 4000 := Nat.lt_of_le_of_lt (Nat.div_le_self _ _) hs.1
      rw [← Int.natCast_ediv]
      refine r_I (wide_mul (a := 10000) (b := 4000) (ht p (List.mem_of_getElem? h1)) (by rw [Int.natAbs_natCast]; exact hdl) (by decide) (by decide) (by decide)) ?_
      have e5 : (preTs ps)[k]? = some (p.1 * ((lcmL (ps.map (·.2)) / p.2 : Nat) : Int)) := by
        unfold preTs
        rw [List.getElem?_map, h1]
        rfl
      refine cw_put he2 hD hl2 ?_ ?_
      · rw [take_snoc e5, List.map_append]
        rfl
      · rw [List.length_map, List.length_take]
        have := lt_of_get hx
        rw [hR.1] at this
        omega
    · obtain ⟨he2, hl2⟩ := hq
      rw [hR.1, show (preTs ps).take ps.length = preTs ps from List.take_of_length_le (by unfold preTs; rw [List.length_map]; exact Nat.le_refl _)] at hl2
      walk_at "rd"
      refine ⟨D, preTs ps, preB ps, rfl, hl2, preB_pos hp, hb, by unfold preTs; rw [List.length_map]; exact hn, fun l hl H4 he4 hL => ?_⟩
      exact q l (none_of he2 hl) H4 (he2.trans he4) hL
end
end G
set_option Elab.async false
set_option linter.all false
set_option maxRecDepth 100000
set_option maxHeartbeats 4000000
namespace G
open PySem PySem.Spec PyProof.Rows L2 SlX GxR
local macro_rules | `(tactic| walk_at "rd") => `(tactic| repeat (first
  | (with_reducible first
  | refine r_seq ?_ | refine r_asg ?_ | refine r_c ?_ | refine r_op ?_ | refine r_cons ?_ | refine r_nil ?_ | refine r_cb ?_ | refine r_cal ?_ | refine r_I0 ?_ | refine r_gname ?_
  | refine r_test ?_ | refine r_k ?_ | refine r_B ?_ | refine r_ifs ?_ | refine r_eqI ?_ | refine r_neI ?_ | refine r_un ?_ | refine r_U ?_ | refine r_par ?_ | refine r_vw ?_ | refine r_ret ?_ | refine r_drop ?_
  | refine r_next ?_ | refine r_not ?_ | refine r_and ?_ | refine r_or ?_ | refine r_if ?_ | refine r_chain ?_ | refine r_ipI ?_ | refine r_abs ?_ | refine r_int1 ?_ | refine r_int1b ?_ | refine r_eqB ?_ | refine r_neB ?_
  | refine r_max2 ?_ | refine r_min2 ?_ | refine r_gcd ?_ | refine r_tup ?_ | refine r_lst ?_ | refine r_bm ?_ | refine r_for ?_ | refine r_rng1 ?_ | refine r_rng2 ?_ | refine r_ilist ?_ | refine r_itup ?_ | refine r_yes ?_ | refine r_lc ?_ | refine r_sub ?_
  | refine r_ssl ?_ | refine r_make ?_ | refine r_prop ?_ | refine r_meth ?_ | refine r_gcons ?_ | refine r_gnil ?_ | refine r_andV0 ?_ | refine r_orV0 ?_ | refine r_notV ?_ | refine r_par3 ?_ | refine r_vwz ?_ | refine r_isN ?_ | refine r_notN ?_)
  | ((with_reducible refine' r_var ?k1 ?_); (case k1 => exact rfl))
  | ((with_reducible refine' r_aug ?k1 ?_); (case k1 => exact rfl))))
section
variable {P : Program} {w : World} {K : PySem.W.Frag} {mg : Str → Option Value} {base : Heap} {CT CR CM CW PT : Addr}
def upto (n : Nat) (f : Nat → Int) : List V := (List.range n).map fun m => V.int (f m)
theorem upto_len (n : Nat) (f : Nat → Int) : (upto n f).length = n := by unfold upto; rw [List.length_map, List.length_range]
theorem upto_succ (n : Nat) (f : Nat → Int) : upto (n + 1) f = upto n f ++ [.int (f n)] := by unfold upto; rw [List.range_succ, List.map_append]; rfl
theorem upto_get {n j : Nat} (f : Nat → Int) (h : j < n) : (upto n f)[j]? = some (.int (f j)) := by unfold upto; rw [List.getElem?_map, List.getElem?_range h]; rfl
theorem upto_ints (n : Nat) (f : Nat → Int) : upto n f = ((List.range n).map f).map V.int := by unfold upto; rw [List.map_map]; rfl
theorem sum_mulR (c : Int) (g : Nat → Int) (n : Nat) : ((List.range n).map fun j => c * g j).sum = c * ((List.range n).map g).sum := by rw [sum_sm, sum_sm, sm_mul]
theorem powB {B n : Nat} (hB : B ≤ 720720) (hn : n ≤ 16) : B ^ n < 2 ^ 400 := by
  have h1 : B ^ n ≤ 2 ^ 320 := by
    refine Nat.le_trans (Nat.pow_le_pow_left (show B ≤ 2 ^ 20 by omega) _) ?_
    rw [← Nat.pow_mul]
    exact Nat.pow_le_pow_right (by decide) (by omega)
  exact Nat.lt_of_le_of_lt h1 (Nat.pow_lt_pow_right (by decide) (by decide))
theorem top_small {k B : Nat} {t a : Int} (h : ((k + 1 : Nat) : Int) * t = a * (B : Int)) (ha : a.natAbs ≤ 2 ^ 40) (hB : B ≤ 720720) : t.natAbs < 2 ^ 70 := by
  have h1 := congrArg Int.natAbs h
  rw [Int.natAbs_mul, Int.natAbs_mul, Int.natAbs_natCast, Int.natAbs_natCast] at h1
  have h2 : t.natAbs ≤ (k + 1) * t.natAbs := Nat.le_mul_of_pos_left _ (Nat.succ_pos k)
  have h3 : a.natAbs * B ≤ 2 ^ 40 * 720720 := Nat.mul_le_mul ha hB
  omega
abbrev s_line_exp : Stmt := top 39
abbrev N_line_exp : List Str := ["line", "tops", "bottom", "size", "found", "falls", "powers", "at", "step", "parts", "pairs"]
theorem sc_line_exp : FnScope N_line_exp ["line"] (defScope s_line_exp) := ⟨rfl, rfl, rfl, by decide +kernel, rfl, by decide +kernel, by decide +kernel⟩
def sp_line_exp (K : PySem.W.Frag) : Sp := fun vs H Q _ => ∃ (l : Addr) (ns : List Int) (B : Nat), vs = [.ref l] ∧ LineAt H l (lnTs (numP ns)) (lnB (numP ns)) ∧ lnB (numP ns) = (B : Int) ∧ (0 < B ∧ B ≤ 720720) ∧ ns.length ≤ 16 ∧ SmallN (2 ^ 40) ns ∧
    ∀ l', H l' = none → ∀ H', Evl.Ex H H' → LineAt H' l' (lnTs (expP ns B)) (lnB (expP ns B)) → Q (.ref l') H'
theorem ok_line_exp (B : Bt mg) (L : Cls K mg CT CR CM CW) (D : DefAt K mg "line_exp" s_line_exp) (c_line_of_pairs : Cal P w K mg base "line_of_pairs" 2 (sp_line_of_pairs K)) : Cal P w K mg base "line_exp" 3 (sp_line_exp K) := by
  refine D.cal sc_line_exp (fun vs H Q E h => ?_) (fun _ _ _ _ _ _ us hl => match us, hl with | [_], _ => rfl) (fun cfa cdv cA cO cs H vs Q E hr h => ?_)
  · obtain ⟨l, ns, Bn, rfl, ⟨La, hl, hL⟩, hB, hB0, hn, hs, q⟩ := h
    rfl
  obtain ⟨l, ns, Bn, rfl, ⟨La, hl, hL⟩, hB, hB0, hn, hs, q⟩ := h
  refine ⟨_, (pss_cons (ps_asg (pv 0) (pg_tup rfl (pgs_cons (pg_name (i := 1) sc_line_exp.nd rfl (by first | exact .inl rfl | exact .inr rfl)) (pgs_cons (pg_name (i := 2) sc_line_exp.nd rfl (by first | exact .inl rfl | exact .inr rfl)) pgs_nil))))
      (pss_cons (ps_asg (pe_tup (pa_cons (pe_callB (k_len) (by rfl) B.len (by decide +kernel) (pa_cons (pv 1) pa_nil)) (pa_cons (pe_lst (pa_cons pe_int pa_nil)) (pa_cons (pe_lst (pa_cons pe_int pa_nil)) (pa_cons (pe_lst (pa_cons pe_int pa_nil)) pa_nil))))) (pg_tup rfl (pgs_cons (pg_name (i := 3) sc_line_exp.nd rfl (by first | exact .inl rfl | exact .inr rfl)) (pgs_cons (pg_name (i := 4) sc_line_exp.nd rfl (by first | exact .inl rfl | exact .inr rfl)) (pgs_cons (pg_name (i := 5) sc_line_exp.nd rfl (by first | exact .inl rfl | exact .inr rfl)) (pgs_cons (pg_name (i := 6) sc_line_exp.nd rfl (by first | exact .inl rfl | exact .inr rfl)) pgs_nil))))))
      (pss_cons (ps_for PassesOwn.never rfl (pi_range2 (by rfl) B.range (pa_cons pe_int (pa_cons (pv 3) pa_nil))) (pg_name (i := 7) sc_line_exp.nd rfl (by first | exact .inl rfl | exact .inr rfl)) (pss_cons (ps_expr (pe_bm PySem.F.plainAttrs_list PySem.F.slot_list_append PySem.F.type_list_append mt_append (pv 5) (pa_cons (pe_op op_mulW (pe_ix ix_list (pv 5) (pe_un un_neg pe_int) (fun _ _ => rfl)) (pv 7)) pa_nil)))
      (pss_one (ps_expr (pe_bm PySem.F.plainAttrs_list PySem.F.slot_list_append PySem.F.type_list_append mt_append (pv 6) (pa_cons (pe_op op_mulW (pe_ix ix_list (pv 6) (pe_un un_neg pe_int) (fun _ _ => rfl)) (pv 2)) pa_nil))))))
      (pss_cons (ps_for PassesOwn.never rfl (pi_range2 (by rfl) B.range (pa_cons pe_int (pa_cons (pv 3) pa_nil))) (pg_name (i := 7) sc_line_exp.nd rfl (by first | exact .inl rfl | exact .inr rfl)) (pss_cons (ps_setLc (i := 9) (own := [("step", 8)]) rfl sc_line_exp.nd rfl rfl (sw_true rfl rfl rfl (by decide +kernel)) (pi_range2 (by rfl) B.range (pa_cons pe_int (pa_cons (pe_op op_add (pv 7) pe_int) pa_nil))) (blkOk_by (N := N_line_exp) (sc := defScope s_line_exp) (by decide +kernel)) (fun _ _ _ _ _ => (pg_name (x := "step") (i := 8) sc_line_exp.nd rfl (by first | exact .inl rfl | exact .inr rfl))) (fun _ _ _ _ _ => pts_nil) (fun _ _ _ _ _ => (pe_op op_mulW (pe_op op_mulW (pe_op op_mulW (pe_op op_mulW (pv 8) (pe_ix (r := rIxL K) ix_list (pv 1) (pv 8) (fun _ _ => rfl))) (pe_ix (r := rIxL K) ix_list (pv 6) (pe_op op_sub (pv 8) pe_int) (fun _ _ => rfl))) (pe_op op_fdivW (pe_ix (r := rIxL K) ix_list (pv 5) (pe_op op_sub (pv 7) pe_int) (fun _ _ => rfl)) (pe_ix (r := rIxL K) ix_list (pv 5) (pe_op op_sub (pv 7) (pv 8)) (fun _ _ => rfl)))) (pe_ix (r := rIxL K) ix_list (pv 4) (pe_op op_sub (pv 7) (pv 8)) (fun _ _ => rfl)))))
      (pss_one (ps_expr (pe_bm PySem.F.plainAttrs_list PySem.F.slot_list_append PySem.F.type_list_append mt_append (pv 4) (pa_cons (pe_callB (cr_sum rfl) (by rfl) B.sum (by decide +kernel) (pa_cons (pv 9) pa_nil)) pa_nil))))))
      (pss_cons (ps_setLc (i := 10) (own := [("at", 7)]) rfl sc_line_exp.nd rfl rfl (sw_true rfl rfl rfl (by decide +kernel)) (pi_range1 (by rfl) B.range (pa_cons (pv 3) pa_nil)) (blkOk_by (N := N_line_exp) (sc := defScope s_line_exp) (by decide +kernel)) (fun _ _ _ _ _ => (pg_name (x := "at") (i := 7) sc_line_exp.nd rfl (by first | exact .inl rfl | exact .inr rfl))) (fun _ _ _ _ _ => pts_nil) (fun _ _ _ _ _ => (pe_tup (pa_cons (pe_ix (r := rIxL K) ix_list (pv 4) (pv 7) (fun _ _ => rfl)) (pa_cons (pe_op op_mulW (pe_ix (r := rIxL K) ix_list (pv 5) (pv 7) (fun _ _ => rfl)) (pe_ix (r := rIxL K) ix_list (pv 6) (pv 7) (fun _ _ => rfl))) pa_nil)))))
      (pss_one (ps_ret (pe_cal c_line_of_pairs (hr.mono (by decide)) (by rfl) (pa_cons (pv 10) pa_nil))))))))), ?_⟩
  have hlen : ((lnTs (numP ns)).map V.int).length = ns.length + 1 := by
    rw [List.length_map, lnTs_len]
    unfold numP
    rw [List.length_cons, List.length_map, List.length_range]
  have hstep := fun k (hk : k < ns.length) => numP_step (ns := ns) hk
  rw [hB] at hl hstep
  generalize hts : lnTs (numP ns) = ts at hL hlen hstep
  walk_at "rd"
  refine r_gtup (xs := [.ref La, .int (Bn : Int)]) (sqT hl) rfl ?_
  walk_at "rd"
  refine r_lenL (sqL hL) ?_
  rw [hlen]
  walk_at "rd"
  refine ⟨by show 1 ≤ sizeLine; decide, fun f hf => ?_⟩
  walk_at "rd"
  refine ⟨by show 1 ≤ sizeLine; decide, fun fa hfa => ?_⟩
  walk_at "rd"
  refine ⟨by show 1 ≤ sizeLine; decide, fun po hpo => ?_⟩
  walk_at "rd"
  refine ⟨by show 4 ≤ sizeLine; decide, fun tt htt => ?_⟩
  have ef : Evl.Ex H (upd H f (.lst [.int 1])) := .new hf
  have efa := ef.trans (Evl.Ex.new (o := .lst [.int 1]) hfa)
  have epo := efa.trans (Evl.Ex.new (o := .lst [.int 1]) hpo)
  have ett := epo.trans (Evl.Ex.new (o := .tup [.int ((ns.length + 1 : Nat) : Int), .ref f, .ref fa, .ref po]) htt)
  have nfa := none_of ef hfa
  have npo := none_of efa hpo
  have f_fa : f ≠ fa := fun e => by rw [← e, upd_same] at hfa; cases hfa
  have fa_po : fa ≠ po := fun e => by rw [← e, upd_same] at hpo; cases hpo
  have f_po : f ≠ po := fun e => by rw [← e, upd_ne f_fa, upd_same] at hpo; cases hpo
  refine r_gtup (xs := [.int ((ns.length + 1 : Nat) : Int), .ref f, .ref fa, .ref po]) (sqT upd_same) rfl ?_
  walk_at "rd"
  have kf : upd (upd (upd (upd H f (.lst [.int 1])) fa (.lst [.int 1])) po (.lst [.int 1])) tt (.tup [.int ((ns.length + 1 : Nat) : Int), .ref f, .ref fa, .ref po]) f = some (.lst [.int 1]) := by
    refine Evl.Ex.new htt f _ ?_
    rw [upd_ne f_po, upd_ne f_fa, upd_same]
  have kfa : upd (upd (upd (upd H f (.lst [.int 1])) fa (.lst [.int 1])) po (.lst [.int 1])) tt (.tup [.int ((ns.length + 1 : Nat) : Int), .ref f, .ref fa, .ref po]) fa = some (.lst [.int 1]) := by
    refine Evl.Ex.new htt fa _ ?_
    rw [upd_ne fa_po, upd_same]
  have kpo : upd (upd (upd (upd H f (.lst [.int 1])) fa (.lst [.int 1])) po (.lst [.int 1])) tt (.tup [.int ((ns.length + 1 : Nat) : Int), .ref f, .ref fa, .ref po]) po = some (.lst [.int 1]) := by
    refine Evl.Ex.new htt po _ ?_
    rw [upd_same]
  generalize upd (upd (upd (upd H f (.lst [.int 1])) fa (.lst [.int 1])) po (.lst [.int 1])) tt (.tup [.int ((ns.length + 1 : Nat) : Int), .ref f, .ref fa, .ref po]) = H0 at ett kf kfa kpo
  have hsize : (((ns.length + 1 : Nat) : Int) - 1).toNat = ns.length := by omega
  refine ⟨_, _, rfl, by omega, for_range (lo := 1) (n := (((ns.length + 1 : Nat) : Int) - 1).toNat) (fun i σ' H' => ∃ y, σ' = [some (.ref l), some (.ref La), some (.int (Bn : Int)), some (.int ((ns.length + 1 : Nat) : Int)), some (.ref f), some (.ref fa), some (.ref po), y, none, none, none] ∧ Evl.Ex H H' ∧
    H' f = some (.lst [.int 1]) ∧ H' fa = some (.lst (upto (i + 1) fun m => ((fac m : Nat) : Int))) ∧ H' po = some (.lst (upto (i + 1) fun m => ((Bn ^ m : Nat) : Int)))) ⟨none, rfl, ett, kf, kfa, by rw [kpo]; rfl⟩ (fun i σ' H1 hi hp => ?_) (fun σ' H1 hp => ?_)⟩
  · obtain ⟨y, rfl, he, k1, k2, k3⟩ := hp
    have hfb := fac_le (n := i) (by omega)
    have hpb := powB (n := i) hB0.2 (by omega)
    walk_at "rd"
    refine ⟨ty_lst k2, ?_⟩
    walk_at "rd"
    refine r_ixL (sqL k2) (i := -1) (v := .int ((fac i : Nat) : Int)) (by rw [upto_succ]; exact atI_last _ _) ?_
    walk_at "rd"
    refine r_I (wide_mul (j := 1 + (i : Int)) (a := 90) (b := 20) (by rw [Int.natAbs_natCast]; exact hfb) (by omega) (by decide) (by decide) (by decide)) ?_
    walk_at "rd"
    refine r_app k2 (Nat.lt_of_le_of_lt (show _ ≤ 1000 by rw [upto_len]; omega) (by decide)) ?_
    walk_at "rd"
    have e4 : upd H1 fa (.lst (upto (i + 1) (fun m => ((fac m : Nat) : Int)) ++ [.int (((fac i : Nat) : Int) * (1 + (i : Int)))])) po = some (.lst (upto (i + 1) fun m => ((Bn ^ m : Nat) : Int))) := by rw [upd_ne (Ne.symm fa_po)]; exact k3
    refine ⟨ty_lst e4, ?_⟩
    walk_at "rd"
    refine r_ixL (sqL e4) (i := -1) (v := .int ((Bn ^ i : Nat) : Int)) (by rw [upto_succ]; exact atI_last _ _) ?_
    walk_at "rd"
    refine r_I (wide_mul (j := (Bn : Int)) (a := 400) (b := 20) (by rw [Int.natAbs_natCast]; exact hpb) (by omega) (by decide) (by decide) (by decide)) ?_
    walk_at "rd"
    refine r_app e4 (Nat.lt_of_le_of_lt (show _ ≤ 1000 by rw [upto_len]; omega) (by decide)) ?_
    walk_at "rd"
    refine ⟨_, rfl, (he.mut nfa).mut npo, ?_, ?_, ?_⟩
    · rw [upd_ne f_po, upd_ne f_fa]; exact k1
    · rw [upd_ne fa_po, upd_same, upto_succ (i + 1), fac_succI, show ((i + 1 : Nat) : Int) = 1 + (i : Int) by omega]
    · rw [upd_same, upto_succ (i + 1), Nat.pow_succ, Int.natCast_mul]
  · obtain ⟨y, rfl, he, k1, k2, k3⟩ := hp
    rw [hsize] at k2 k3
    walk_at "rd"
    refine ⟨_, _, rfl, by omega, for_range (lo := 1) (n := (((ns.length + 1 : Nat) : Int) - 1).toNat) (fun i σ' H' => ∃ y z, σ' = [some (.ref l), some (.ref La), some (.int (Bn : Int)), some (.int ((ns.length + 1 : Nat) : Int)), some (.ref f), some (.ref fa), some (.ref po), y, none, z, none] ∧ Evl.Ex H H' ∧
      H' f = some (.lst (upto (i + 1) fun m => ((Bn ^ m : Nat) : Int) * eN ns m)) ∧ H' fa = some (.lst (upto (ns.length + 1) fun m => ((fac m : Nat) : Int))) ∧ H' po = some (.lst (upto (ns.length + 1) fun m => ((Bn ^ m : Nat) : Int)))) ⟨y, none, rfl, he, by rw [k1]; rfl, k2, k3⟩ (fun i σ' H2 hi hp => ?_) (fun σ' H2 hp => ?_)⟩
    · clear he k1 k2 k3
      obtain ⟨y, z, rfl, he, k1, k2, k3⟩ := hp
      have hi2 : i < ns.length := by omega
      walk_at "rd"
      refine ⟨_, _, rfl, by omega, fun D hD => lc_range (lo := 1) (n := (1 + (i : Int) + 1 - 1).toNat) (fun k H3 => Evl.Ex H2 H3 ∧ H3 D = some (.lst (upto k fun j => (Bn : Int) ^ (i + 1) * eTerm ns (eL ns i) (i + 1) (j + 1)))) ⟨Evl.Ex.new hD, upd_same⟩ (fun k H3 hk hp => ?_) (fun H3 hp => ?_)⟩
      · obtain ⟨he2, hl2⟩ := hp
        have hk2 : k ≤ i := by omega
        walk_at "rd"
        refine ⟨rfl, ?_⟩
        walk_at "rd"
        refine iteT ?_
        walk_at "rd"
        have htk := hstep k (by omega)
        have htb := top_small htk (getD_le hs k) hB0.2
        refine r_ixL (sqL ((he.trans he2) La _ hL)) (i := 1 + (k : Int)) (v := .int (ts.getD (k + 1) 0)) ?_ ?_
        · rw [show 1 + (k : Int) = ((k + 1 : Nat) : Int) by omega]
          refine atI_nat ?_
          have hlt : k + 1 < ts.length := by rw [List.length_map] at hlen; omega
          rw [List.getElem?_map, List.getD_eq_getElem?_getD, List.getElem?_eq_getElem hlt]
          rfl
        have b1 : (1 + (k : Int)).natAbs < 2 ^ 20 := by omega
        refine r_I (wide_mul b1 htb (by decide) (by decide) (by decide)) ?_
        walk_at "rd"
        refine r_ixL (sqL (he2 po _ k3)) (i := 1 + (k : Int) - 1) (v := .int ((Bn ^ k : Nat) : Int)) ?_ ?_
        · rw [show 1 + (k : Int) - 1 = ((k : Nat) : Int) by omega]
          exact atI_nat (upto_get _ (by omega))
        have b2 : (((Bn ^ k : Nat) : Int)).natAbs < 2 ^ 400 := by rw [Int.natAbs_natCast]; exact powB hB0.2 (by omega)
        refine r_I (wide_mul (wide_lt b1 htb) b2 (by decide) (by decide) (by decide)) ?_
        walk_at "rd"
        refine r_ixL (sqL (he2 fa _ k2)) (i := 1 + (i : Int) - 1) (v := .int ((fac i : Nat) : Int)) ?_ ?_
        · rw [show 1 + (i : Int) - 1 = ((i : Nat) : Int) by omega]
          exact atI_nat (upto_get _ (by omega))
        walk_at "rd"
        refine r_ixL (sqL (he2 fa _ k2)) (i := 1 + (i : Int) - (1 + (k : Int))) (v := .int ((fac (i - k) : Nat) : Int)) ?_ ?_
        · rw [show 1 + (i : Int) - (1 + (k : Int)) = ((i - k : Nat) : Int) by omega]
          exact atI_nat (upto_get (fun m => ((fac m : Nat) : Int)) (by omega))
        refine r_I (wide_div (fac_posI _) (b := 90) (by rw [Int.natAbs_natCast]; exact fac_le (by omega)) (by decide) (by decide)) ?_
        rw [← Int.natCast_ediv]
        have b3 : (((fac i / fac (i - k) : Nat) : Int)).natAbs < 2 ^ 90 := by
          rw [Int.natAbs_natCast]
          exact Nat.lt_of_le_of_lt (Nat.div_le_self _ _) (fac_le (by omega))
        refine r_I (wide_mul (wide_lt (wide_lt b1 htb) b2) b3 (by decide) (by decide) (by decide)) ?_
        walk_at "rd"
        refine r_ixL (sqL (he2 f _ k1)) (i := 1 + (i : Int) - (1 + (k : Int))) (v := .int (((Bn ^ (i - k) : Nat) : Int) * eN ns (i - k))) ?_ ?_
        · rw [show 1 + (i : Int) - (1 + (k : Int)) = ((i - k : Nat) : Int) by omega]
          exact atI_nat (upto_get (fun m => ((Bn ^ m : Nat) : Int) * eN ns m) (by omega))
        have b4 : (((Bn ^ (i - k) : Nat) : Int)).natAbs < 2 ^ 400 := by rw [Int.natAbs_natCast]; exact powB hB0.2 (by omega)
        have b5 : (eN ns (i - k)).natAbs < 2 ^ 5000 := Nat.lt_of_le_of_lt (eN_le hs (by omega)) (eB_lt (by omega))
        refine r_I (wide_mul (wide_lt (wide_lt (wide_lt b1 htb) b2) b3) (wide_lt b4 b5) (by decide) (by decide) (by decide)) ?_
        have e6 : (1 + (k : Int)) * ts.getD (k + 1) 0 * ((Bn ^ k : Nat) : Int) * ((fac i / fac (i - k) : Nat) : Int) * (((Bn ^ (i - k) : Nat) : Int) * eN ns (i - k)) = (Bn : Int) ^ (i + 1) * eTerm ns (eL ns i) (i + 1) (k + 1) := by
          rw [eTerm_at ns i k hk2, ← part_eq htk hk2, Int.natCast_pow, Int.natCast_pow, show ((k + 1 : Nat) : Int) = 1 + (k : Int) by omega]
        rw [e6]
        refine cw_put he2 hD hl2 ?_ ?_
        · rw [upto_succ]
        · rw [upto_len]; omega
      · obtain ⟨he2, hl2⟩ := hp
        rw [show (1 + (i : Int) + 1 - 1).toNat = i + 1 by omega, upto_ints] at hl2
        walk_at "rd"
        have k1' := he2 f _ k1
        refine ⟨ty_lst k1', ?_⟩
        walk_at "rd"
        refine r_sum (sqL hl2) ?_
        walk_at "rd"
        refine r_app k1' (Nat.lt_of_le_of_lt (show _ ≤ 1000 by rw [upto_len]; omega) (by decide)) ?_
        walk_at "rd"
        refine ⟨_, _, rfl, (he.trans he2).mut hf, ?_, ?_, ?_⟩
        · rw [upd_same, upto_succ (i + 1), sum_mulR, eN_succ, Int.natCast_pow]
          rfl
        · rw [upd_ne (Ne.symm f_fa)]; exact he2 fa _ k2
        · rw [upd_ne (Ne.symm f_po)]; exact he2 po _ k3
    · clear he k1 k2 k3
      obtain ⟨y, z, rfl, he, k1, k2, k3⟩ := hp
      rw [hsize] at k1
      walk_at "rd"
      refine ⟨_, rfl, by omega, by omega, fun D hD => lc_range (lo := 0) (n := (((ns.length + 1 : Nat) : Int)).toNat) (fun k H3 => Evl.Ex H2 H3 ∧ ∃ R, H3 D = some (.lst R) ∧ RefL H3 k (fun j => pairV ((expP ns Bn).getD j (0, 1))) R) ⟨Evl.Ex.new hD, [], upd_same, RefL.nil _ _⟩ (fun k H3 hk hp => ?_) (fun H3 hp => ?_)⟩
      · obtain ⟨he2, R, hl2, hR⟩ := hp
        have hk2 : k ≤ ns.length := by omega
        walk_at "rd"
        refine ⟨rfl, ?_⟩
        walk_at "rd"
        refine iteT ?_
        walk_at "rd"
        rw [show (0 : Int) + (k : Int) = ((k : Nat) : Int) by omega]
        refine r_ixL (sqL (he2 f _ k1)) (v := .int (((Bn ^ k : Nat) : Int) * eN ns k)) (atI_nat (upto_get (fun m => ((Bn ^ m : Nat) : Int) * eN ns m) (by omega))) ?_
        walk_at "rd"
        refine r_ixL (sqL (he2 fa _ k2)) (v := .int ((fac k : Nat) : Int)) (atI_nat (upto_get _ (by omega))) ?_
        walk_at "rd"
        refine r_ixL (sqL (he2 po _ k3)) (v := .int ((Bn ^ k : Nat) : Int)) (atI_nat (upto_get _ (by omega))) ?_
        refine r_I (wide_mul (a := 90) (b := 400) (by rw [Int.natAbs_natCast]; exact fac_le (by omega)) (by rw [Int.natAbs_natCast]; exact powB hB0.2 (by omega)) (by decide) (by decide) (by decide)) ?_
        walk_at "rd"
        refine ⟨by show 2 ≤ sizeLine; decide, fun r hr => ?_⟩
        have e7 : [V.int (((Bn ^ k : Nat) : Int) * eN ns k), V.int (((fac k : Nat) : Int) * ((Bn ^ k : Nat) : Int))] = (fun j => pairV ((expP ns Bn).getD j (0, 1))) k := by
          show _ = pairV ((expP ns Bn).getD k (0, 1))
          rw [List.getD_eq_getElem?_getD, expP_at hk2]
          show _ = [V.int _, V.int ((fac k * Bn ^ k : Nat) : Int)]
          rw [Int.natCast_mul]
          rfl
        rw [e7]
        exact cw_tup he2 hD hl2 hR hr (by omega)
      · obtain ⟨he2, R, hl2, hR⟩ := hp
        rw [show (((ns.length + 1 : Nat) : Int)).toNat = ns.length + 1 by omega] at hR
        have hel : (expP ns Bn).length = ns.length + 1 := by unfold expP; rw [List.length_map, List.length_range]
        walk_at "rd"
        refine ⟨D, expP ns Bn, rfl, ⟨R, hl2, by rw [hel]; exact hR⟩, expP_pos ns hB0.1, preB_exp hB0.1 hB0.2 hn, by omega, fun p hp => ?_, fun l' hl' H4 he4 hL4 => ?_⟩
        · obtain ⟨m, hm, rfl⟩ := List.mem_map.mp hp
          have hm2 := List.mem_range.mp hm
          refine wide_up (wide_lt (a := 400) (b := 5000) (by rw [Int.natAbs_natCast]; exact powB hB0.2 (by omega)) (Nat.lt_of_le_of_lt (eN_le hs (by omega)) (eB_lt (by omega)))) (by decide)
        · exact q l' (none_of (he.trans he2) hl') H4 (he.trans (he2.trans he4)) hL4
end
end G
set_option Elab.async false
set_option linter.all false
set_option maxRecDepth 100000
set_option maxHeartbeats 4000000
namespace G
open PySem PySem.Spec PyProof.Rows L2 SlX GxR
local macro_rules | `(tactic| walk_at "rd") => `(tactic| repeat (first
  | (with_reducible first
  | refine r_seq ?_ | refine r_asg ?_ | refine r_c ?_ | refine r_op ?_ | refine r_cons ?_ | refine r_nil ?_ | refine r_cb ?_ | refine r_cal ?_ | refine r_I0 ?_ | refine r_gname ?_
  | refine r_test ?_ | refine r_k ?_ | refine r_B ?_ | refine r_ifs ?_ | refine r_eqI ?_ | refine r_neI ?_ | refine r_un ?_ | refine r_U ?_ | refine r_par ?_ | refine r_vw ?_ | refine r_ret ?_ | refine r_drop ?_
  | refine r_next ?_ | refine r_not ?_ | refine r_and ?_ | refine r_or ?_ | refine r_if ?_ | refine r_chain ?_ | refine r_ipI ?_ | refine r_abs ?_ | refine r_int1 ?_ | refine r_int1b ?_ | refine r_eqB ?_ | refine r_neB ?_
  | refine r_max2 ?_ | refine r_min2 ?_ | refine r_gcd ?_ | refine r_tup ?_ | refine r_lst ?_ | refine r_bm ?_ | refine r_for ?_ | refine r_rng1 ?_ | refine r_rng2 ?_ | refine r_ilist ?_ | refine r_itup ?_ | refine r_yes ?_ | refine r_lc ?_ | refine r_sub ?_
  | refine r_ssl ?_ | refine r_make ?_ | refine r_prop ?_ | refine r_meth ?_ | refine r_gcons ?_ | refine r_gnil ?_ | refine r_andV0 ?_ | refine r_orV0 ?_ | refine r_notV ?_ | refine r_par3 ?_ | refine r_vwz ?_ | refine r_isN ?_ | refine r_notN ?_)
  | ((with_reducible refine' r_var ?k1 ?_); (case k1 => exact rfl))
  | ((with_reducible refine' r_aug ?k1 ?_); (case k1 => exact rfl))))
section
variable {P : Program} {w : World} {K : PySem.W.Frag} {mg : Str → Option Value} {base : Heap} {CT CR CM CW PT : Addr}
theorem pe_never {X : Cx} {e : Expr} : PE X e (fun _ _ _ => False) := ⟨fun _ _ _ _ _ _ h => h.elim⟩
theorem r_star {σ : L2.St} {H : Hp} {K : PySem.W.Frag} {te : TE} {t : TA} {Q : List V → Hp → Prop} (q : te σ H fun x H1 => ∃ p xs, x = V.ref p ∧ (SqT K H1 p xs ∨ SqL K H1 p xs) ∧ t σ H1 fun ys H2 => Q (xs ++ ys) H2) : StX.tStar K te t σ H Q := q
theorem r_nextG {σ : L2.St} {H : Hp} {K : PySem.W.Frag} {PT : Addr} {te : TA} {Q : VK} (q : te σ H fun vs H1 => ∃ (a : Addr) (ns : List Int), vs = [.ref a] ∧ SqT K H1 a (ns.map V.int) ∧ TabG H1 PT ∧ ∀ v H2, (v = .non ∨ ∃ i, v = .int i) → Tabbed PT H1 H2 → Q v H2) : tNextG PT K te σ H Q := q
theorem r_makeK {σ : L2.St} {H : Hp} {C : Addr} {n m : Nat} {sp : Sp} {gV : List V → List V → List V} {E : XK} {t tk : TA} {Q : VK} (q : t σ H fun vs H1 => tk σ H1 fun zs H2 => vs.length = n ∧ zs.length = m ∧ ∀ x dx, H2 x = none → H2 dx = none → dx ≠ x →
  sp (gV (.ref x :: vs) zs) (upd (upd H2 dx (.own x)) x (.ins C dx [])) (fun v H3 => v = .non ∧ Q (.ref x) H3) E) : tMakeK C n m sp gV E t tk σ H Q := q
/-- the scope of a generator expression with two names, checked -/
def genOk (scope : Scope) (xa xb : Str) : Bool := scope.kind == .function && !scope.isCoroutine && scope.names.all (fun y => !(y.2 == .cell) && !(y.2 == .free)) && scope.names.lookup (".0" : Str) == some NameKind.local && scope.names.lookup xa == some NameKind.local && scope.names.lookup xb == some NameKind.local && xa != xb
theorem genS2_of {env : Env} {scope : Scope} {xa xb : Str} (h : genOk scope xa xb = true) : GenS2 env scope xa xb := by
  unfold genOk at h
  simp only [Bool.and_eq_true, List.all_eq_true, Bool.not_eq_true', beq_iff_eq, beq_eq_false_iff_ne, bne_iff_ne] at h
  obtain ⟨⟨⟨⟨⟨⟨h1, h2⟩, h3⟩, h4⟩, h5⟩, h6⟩, h7⟩ := h
  exact ⟨h1, h2, fun y hy => (h3 y hy).1, h4, h5, h6, h7, fun y hy e => absurd e (h3 y hy).2⟩
/-- a class made with one keyword -/
def MakK (P : Program) (w : World) (K : PySem.W.Frag) (mg : Str → Option Value) (base : Heap) (x : Str) (C : Addr) (k n : Nat) (ks : List Str) (sp : Sp) : Prop :=
  mg x = some (.ref C) ∧ ∃ f fd ps g, Mk K C f ∧ FnOk P w K mg base CX0 k f fd ps sp ∧ KBn K fd ps (n + 1) ks g (fun vs zs => vs ++ zs)
theorem pe_makKW {X : Cx} {x : Str} {p pos : Pos} {e : Expr} {es : List Expr} {kws : List Keyword} {t tk : TA} {C : Addr} {k n : Nat} {ks : List Str} {sp : Sp} (c : MakK X.prog X.w X.K X.mg X.base x C k n ks sp) (hr : Room (k + 1) X.A) (hg : Gl X x) (ha : PA X (e :: es) t) (hkw : PK X kws tk)
    (hall : (backToKw pos (keywordEach kws X.env)).all (·.1.isSome) = true := by rfl) (hks : (backToKw pos (keywordEach kws X.env)).filterMap (·.1) = ks := by rfl) (hdb : (x == ("__debug__" : Str)) = false := by decide)
    (he : starEach (e :: es) X.env = (false, eval e X.env) :: starEach es X.env := by rfl) (hpl : ((backTo pos (starEach (e :: es) X.env)).any (·.1) || (backToKw pos (keywordEach kws X.env)).any (·.1.isNone)) = false := by rfl) :
    PE X (.Call (.Name x p) (e :: es) kws pos) (tMakeK C n ks.length sp (fun vs zs => vs ++ zs) E0 t tk) := by
  obtain ⟨hm, f, fd, ps, g, M, F, hb⟩ := c
  exact pe_makeK M F hr hg hm hb pass0 ha hkw hall hks hdb he hpl
def InitK (K : PySem.W.Frag) (mg : Str → Option Value) (base : Heap) (C PT : Addr) (qual : Str) (st : Stmt) : Prop := ∃ f fd c, Mk K C f ∧ FunD K "__init__" qual (defArgs st) (defBody st) (defScope st) [] [("modulus", .int 0)] f fd ∧ fd.code = .ref c ∧ TabB base mg c PT
theorem InitK.mak {P : Program} {w : World} {K : PySem.W.Frag} {mg : Str → Option Value} {base : Heap} {x : Str} {C PT : Addr} {qual : Str} {st : Stmt} {N ps : List Str} {k : Nat} {sp : Sp} (D : InitK K mg base C PT qual st) (hm : mg x = some (.ref C)) (S : FnScope N ps (defScope st)) (len : ∀ vs H Q E, sp vs H Q E → vs.length = ps.length)
    (hb : ∀ (Dk : Addr) (doc pm : Value) (an : Option Addr) (cdv ct : Value) (us ws : List Value), us.length = 2 → ws.length = 1 → bindArgs (PySem.W.fnOf "__init__" qual (defArgs st) (defBody st) (defScope st) .none (.ref Dk) doc pm an cdv ct) ⟨us, (["modulus"] : List Str).zip ws⟩ = pure (ps.zip (us ++ ws)))
    (hbody : ∀ (f c : Addr) (TB : TabB base mg c PT) (A : Around) (outer : List Env) (s : Shared) (H : Hp) (vs : List V) (Q : VK) (E : XK), Room k (A.deeper (envOfC qual (defScope st) s.heap.objs.size f (.ref c))) → sp vs H Q E →
      ∃ t, PSs (cxOf CX0 P w K mg base N qual (defScope st) f (.ref c) A outer s H E).nox (defBody st) t ∧ t { nx := fun _ H' => Q .non H', rt := Q } (start N vs) H) : MakK P w K mg base x C (k + 1) 1 ["modulus"] sp := by
  obtain ⟨f, fd, c, M, F, hc, TB⟩ := D
  obtain ⟨mv, hB⟩ := F.kbinds0 2 ["modulus"] [] (fun vs _ zs => vs ++ zs) (by simp) (fun _ h => nomatch h) (fun r1 _ r3 => r1.append r3) (fun Dk doc pm an cdv ct us mv ws h1 _ h3 => hb Dk doc pm an cdv ct us ws h1 h3)
  refine ⟨hm, f, fd, ps, _, M, fn_run F S len fun f cdv A outer s H vs Q E hcd hr h => ?_, hB⟩
  rw [hc] at hcd
  subst hcd
  exact hbody f c TB A outer s H vs Q E hr h
/-! ### the relations of a row's making -/
def Ex3 (a b c : Addr) (H H' : Hp) : Prop := ∀ x o, x ≠ a → x ≠ b → x ≠ c → H x = some o → H' x = some o
theorem Ex3.trans {a b c : Addr} {H H1 H2 : Hp} (x : Ex3 a b c H H1) (y : Ex3 a b c H1 H2) : Ex3 a b c H H2 := fun u o n1 n2 n3 h => y u o n1 n2 n3 (x u o n1 n2 n3 h)
theorem Ex3.of {a b c : Addr} {H H1 : Hp} (e : Evl.Ex H H1) : Ex3 a b c H H1 := fun u o _ _ _ h => e u o h
theorem Ex3.but {a b c : Addr} {H H1 : Hp} (e : But2 a b H H1) : Ex3 a b c H H1 := fun u o n1 n2 _ h => by rw [e u n1 n2]; exact h
theorem Ex3.tab {a b c : Addr} {H H1 : Hp} (e : Tabbed c H H1) : Ex3 a b c H H1 := fun u o _ _ n3 h => by rw [e.2 u n3]; exact h
theorem tab_ex {H H' : Hp} {PT : Addr} (e : Evl.Ex H H') (h : TabG H PT) : TabG H' PT := by
  obtain ⟨ps, h1, h2⟩ := h
  exact ⟨ps, e PT _ h1, h2⟩
theorem tab_but {H H' : Hp} {PT a b : Addr} (e : But2 a b H H') (na : PT ≠ a) (nb : PT ≠ b) (h : TabG H PT) : TabG H' PT := by
  obtain ⟨ps, h1, h2⟩ := h
  exact ⟨ps, by rw [e PT na nb]; exact h1, h2⟩
theorem tab_ne {H : Hp} {PT a : Addr} {u : HO} (h : TabG H PT) (ha : H a = some u) (hu : ∀ q, u ≠ .tbl q) : PT ≠ a := fun e => by
  obtain ⟨ps, h1, _⟩ := h
  rw [e, ha] at h1
  exact hu ps (Option.some.inj h1)
/-- another filled instance stays when a is stored into -/
theorem Has.but2 {H H' : Hp} {C a x dx : Addr} {i : Nat} {v : V} (h : Has H C a i v) (b : But2 x dx H H') (hax : a ≠ x) {vs : List (Option V)} {C' : Addr} (hx : H x = some (SlO x C' dx vs)) (hdx : H dx = some (.xd [])) (hdx' : H' dx = some (.xd [])) : Has H' C a i v := by
  obtain ⟨dy, ws, h2, h3, h4⟩ := h.at
  refine ⟨dy, ws, .inr ⟨?_, ?_⟩, h2⟩
  · rw [b a hax (fun e => ?_)]
    · exact h3
    · rw [e, hdx] at h3; cases h3
  · by_cases e : dy = dx
    · rw [e]; exact hdx'
    · rw [b dy (fun z => ?_) e]
      · exact h4
      · rw [z, hx] at h4; exact slO_not (Option.some.inj h4)
/-- a made row: its tops over b, its entries -/
def RowAt (CW CR : Addr) (H : Hp) (a : Addr) (ts : List Int) (b : Int) : Prop := ∃ (T En : Addr) (es : List V), Has H CW a 0 (.int b) ∧ Has H CW a 4 (.ref T) ∧ Has H CW a 2 (.int 0) ∧ Has H CW a 1 (.ref En) ∧ H T = some (.tup (ts.map V.int)) ∧ H En = some (.tup es) ∧ es.length = ts.length ∧
  ∀ j < ts.length, ∃ r, es[j]? = some (.ref r) ∧ Two CR H r (redu (ts.getD j 0) b).1 (redu (ts.getD j 0) b).2
theorem slt_filled {H : Hp} {a C dx : Addr} {vs : List (Option V)} {i : Nat} {v : V} (h : Slt H a C dx vs) (hi : vs[i]? = some (some v)) : H a = some (SlO a C dx vs) ∧ H dx = some (.xd []) := by
  rcases h with ⟨_, h3⟩ | h3
  · rw [h3] at hi; cases hi
  · exact h3
abbrev s_Made___init__ : Stmt := inClass (top 47) 1
abbrev N_Made___init__ : List Str := ["self", "line"]
theorem sc_Made___init__ : FnScope N_Made___init__ ["self", "line"] (defScope s_Made___init__) := ⟨rfl, rfl, rfl, by decide +kernel, rfl, by decide +kernel, by decide +kernel⟩
def sp_Made___init__ (CM : Addr) : Sp := fun vs H Q _ => ∃ (a dx l : Addr), vs = [.ref a, .ref l] ∧ H a = some (.ins CM dx []) ∧ H dx = some (.own a) ∧ dx ≠ a ∧ ∀ H', But2 a dx H H' → Has H' CM a 0 (.ref l) → Q .non H'
theorem ok_Made___init__ (B : Bt mg) (L : Cls K mg CT CR CM CW) (D : InitAt K CM "Made.__init__" s_Made___init__ [] [])  : Mak P w K mg base "Made" CM 1 [] (sp_Made___init__ CM) := by
  refine D.mak L.M.at_ sc_Made___init__ (fun vs H Q E h => ?_) (fun _ _ _ _ _ _ us hl => match us, hl with | [_, _], _ => rfl) (fun cfa cdv cA cO cs H vs Q E hr h => ?_)
  · obtain ⟨a, dx, l, rfl, ha, hd, hne, q⟩ := h
    rfl
  obtain ⟨a, dx, l, rfl, ha, hd, hne, q⟩ := h
  refine ⟨_, (pss_one (ps_sl (pv 0) (pv 1))), ?_⟩
  walk_at "rd"
  refine r_put L.M.cls L.Ml (.inl ⟨ha, rfl⟩) hne fun H1 b1 s1 => ?_
  exact q H1 b1 ⟨dx, _, s1, putS_get 0 _ _⟩
abbrev s_line_told : Stmt := top 48
abbrev N_line_told : List Str := ["entries", "modulus", "entry"]
theorem sc_line_told : FnScope N_line_told ["entries", "modulus"] (defScope s_line_told) := ⟨rfl, rfl, rfl, by decide +kernel, rfl, by decide +kernel, by decide +kernel⟩
def sp_line_told (K : PySem.W.Frag) (CM : Addr) : Sp := fun vs H Q _ => ∃ (m l : Addr) (v : V), vs = [.ref m, v] ∧ Has H CM m 0 (.ref l) ∧ Q (.ref l) H
theorem ok_line_told (B : Bt mg) (L : Cls K mg CT CR CM CW) (D : DefAt K mg "line_told" s_line_told)  : Cal P w K mg base "line_told" 1 (sp_line_told K CM) := by
  refine D.cal sc_line_told (fun vs H Q E h => ?_) (fun _ _ _ _ _ _ us hl => match us, hl with | [_, _], _ => rfl) (fun cfa cdv cA cO cs H vs Q E hr h => ?_)
  · obtain ⟨m, l, v, rfl, hm, q⟩ := h
    rfl
  obtain ⟨m, l, v, rfl, hm, q⟩ := h
  refine ⟨_, (pss_cons (ps_if (pt_val (pe_callB (call_isiSl (.ref CM)) (by rfl) B.isinstance (by decide +kernel) (pa_cons (pv 0) (pa_cons (pe_glob (v := .ref CM) (by rfl) L.M.at_ rfl) pa_nil)))) (pss_one (ps_ret (pe_sl (pv 0)))) pss_nil)
      (pss_cons ps_never
      (pss_cons ps_never
      (pss_cons ps_never
      (pss_cons ps_never
      (pss_cons ps_never
      (pss_one ps_never))))))), ?_⟩
  walk_at "rd"
  refine r_isiSl L.M hm ?_
  walk_at "rd"
  refine iteT ?_
  walk_at "rd"
  refine r_slV rfl L.M.cls L.Ml hm ?_
  exact q
abbrev s_Row___init__ : Stmt := inClass (top 51) 1
abbrev N_Row___init__ : List Str := ["self", "entries", "modulus", "line", "tops", "bottom", "top"]
theorem sc_Row___init__ : FnScope N_Row___init__ ["self", "entries", "modulus"] (defScope s_Row___init__) := ⟨rfl, rfl, rfl, by decide +kernel, rfl, by decide +kernel, by decide +kernel⟩
def sp_Row___init__ (K : PySem.W.Frag) (CM CW CR PT : Addr) : Sp := fun vs H Q _ => ∃ (a dx m l : Addr) (ts : List Int) (b : Int), vs = [.ref a, .ref m, .int 0] ∧ H a = some (.ins CW dx []) ∧ H dx = some (.own a) ∧ dx ≠ a ∧ Has H CM m 0 (.ref l) ∧ LineAt H l ts b ∧ 0 < b ∧ b.natAbs < 2 ^ 9000 ∧ ts.length ≤ 1000 ∧ TabG H PT ∧
    ∀ H', Ex3 a dx PT H H' → TabG H' PT → RowAt CW CR H' a ts b → Q .non H'
theorem ok_Row___init__ (B : Bt mg) (L : Cls K mg CT CR CM CW) (D : InitK K mg base CW PT "Row.__init__" s_Row___init__) (c_line_told : Cal P w K mg base "line_told" 1 (sp_line_told K CM)) (c_ratio_of : Cal P w K mg base "ratio_of" 5 (sp_ratio_of K CT CR)) : MakK P w K mg base "Row" CW 6 1 ["modulus"] (sp_Row___init__ K CM CW CR PT) := by
  refine D.mak L.W.at_ sc_Row___init__ (fun vs H Q E h => ?_) (fun _ _ _ _ _ _ us ws hl hi => match us, hl, ws, hi with | [_, _], _, [_], _ => rfl) (fun cfa cc TB cA cO cs H vs Q E hr h => ?_)
  · obtain ⟨a, dx, m, l, ts, b, rfl, ha, hdx, hne, hm, ⟨Ll, hl, hLl⟩, hb, hb2, hn, htab, q⟩ := h
    rfl
  obtain ⟨a, dx, m, l, ts, b, rfl, ha, hdx, hne, hm, ⟨Ll, hl, hLl⟩, hb, hb2, hn, htab, q⟩ := h
  refine ⟨_, (pss_cons (ps_set (i := 3) sc_Row___init__.nd rfl (by first | exact .inl rfl | exact .inr rfl) (pe_cal c_line_told (hr.mono (by decide)) (by rfl) (pa_cons (pv 1) (pa_cons (pv 2) pa_nil))))
      (pss_cons (ps_asg (pe_tup (pa_cons (pe_callTy (k_tupOf) (by rfl) B.tuple (by decide +kernel) (pa_cons (pe_ix ix_tup (pv 3) pe_int (fun _ _ => rfl)) pa_nil)) (pa_cons (pe_ix ix_tup (pv 3) pe_int (fun _ _ => rfl)) pa_nil))) (pg_tup rfl (pgs_cons (pg_name (i := 4) sc_Row___init__.nd rfl (by first | exact .inl rfl | exact .inr rfl)) (pgs_cons (pg_name (i := 5) sc_Row___init__.nd rfl (by first | exact .inl rfl | exact .inr rfl)) pgs_nil))))
      (pss_cons (ps_sl (pv 0) (pv 4))
      (pss_cons (ps_sl (pv 0) (pv 5))
      (pss_cons (ps_sl (pv 0) (pv 2))
      (pss_cons (ps_sl (pv 0) (pe_nextG hr rfl (by rfl) B.next (by rfl) B.enumerate TB rfl (genS2_of (by decide +kernel)) (pa_cons (pv 4) pa_nil)))
      (pss_one (ps_sl (pv 0) (pe_ifExp (pt_cmpR op_gt (pv 2) pe_int (nomark _)) (pv 4) (pe_callTy (k_tupOf) (by rfl) B.tuple (by decide +kernel) (pa_cons (pe_lc (own := [("top", 6)]) rfl sc_Row___init__.nd (pi_tup (pv 4)) (blkOk_by (N := N_Row___init__) (sc := defScope s_Row___init__) (by decide +kernel)) (fun _ _ _ _ _ => (pg_name (x := "top") (i := 6) sc_Row___init__.nd rfl (by first | exact .inl rfl | exact .inr rfl))) (fun _ _ _ _ _ => pts_nil) (fun _ _ _ _ _ => (pe_cal c_ratio_of (hr.mono (by decide)) (by rfl) (pa_cons (pv 6) (pa_cons (pv 5) pa_nil))))) pa_nil))))))))))), ?_⟩
  walk_at "rd"
  refine ⟨m, l, _, rfl, hm, ?_⟩
  walk_at "rd"
  refine r_ixT (sqT hl) (i := 0) (v := .ref Ll) rfl ?_
  walk_at "rd"
  refine r_tupOf (sqL hLl) fun T hT => ?_
  have e1 : Evl.Ex H (upd H T (.tup (ts.map V.int))) := .new hT
  have kT : upd H T (.tup (ts.map V.int)) T = some (.tup (ts.map V.int)) := upd_same
  generalize upd H T (.tup (ts.map V.int)) = H1 at e1 kT
  walk_at "rd"
  refine r_ixT (sqT (e1 l _ hl)) (i := 1) (v := .int b) rfl ?_
  walk_at "rd"
  refine ⟨by show 2 ≤ sizeLine; decide, fun tp htp => ?_⟩
  have e1 : Evl.Ex H (upd H1 tp (.tup [.ref T, .int b])) := e1.trans (.new htp)
  have kT := Evl.Ex.new (o := .tup [.ref T, .int b]) htp T _ kT
  have ktp : upd H1 tp (.tup [.ref T, .int b]) tp = some (.tup [.ref T, .int b]) := upd_same
  generalize upd H1 tp (.tup [.ref T, .int b]) = H1 at e1 kT ktp
  refine r_gtup (xs := [.ref T, .int b]) (sqT ktp) rfl ?_
  have ha1 := e1 a _ ha
  have hdx1 := e1 dx _ hdx
  have htab1 := tab_ex e1 htab
  have x1 : Ex3 a dx PT H H1 := .of e1
  have nTa : T ≠ a := fun e => by rw [e, ha] at hT; cases hT
  have nTd : T ≠ dx := fun e => by rw [e, hdx] at hT; cases hT
  have nTP : PT ≠ T := tab_ne htab1 kT (fun q z => by cases z)
  have nPa : PT ≠ a := tab_ne htab1 ha1 (fun q z => by cases z)
  have nPd : PT ≠ dx := tab_ne htab1 hdx1 (fun q z => by cases z)
  walk_at "rd"
  refine r_put L.W.cls L.Wt (.inl ⟨ha1, rfl⟩) hne fun H2 b2 s2 => ?_
  walk_at "rd"
  refine r_put L.W.cls L.Wb s2 hne fun H3 b3 s3 => ?_
  walk_at "rd"
  refine r_put L.W.cls L.Wm s3 hne fun H4 b4 s4 => ?_
  have b14 := (b2.trans b3).trans b4
  have x4 : Ex3 a dx PT H H4 := x1.trans (.but b14)
  have kT4 : H4 T = some (.tup (ts.map V.int)) := by rw [b14 T nTa nTd]; exact kT
  have htab4 := tab_but b14 nPa nPd htab1
  walk_at "rd"
  refine r_nextG ?_
  walk_at "rd"
  refine ⟨T, ts, rfl, sqT kT4, htab4, fun v H5 _ htb => ?_⟩
  have x5 : Ex3 a dx PT H H5 := x4.trans (.tab htb)
  have kT5 : H5 T = some (.tup (ts.map V.int)) := by rw [htb.2 T (Ne.symm nTP)]; exact kT4
  have s5 : Slt H5 a CW dx (putS 2 (.int 0) (putS 0 (.int b) (putS 4 (.ref T) []))) := by
    obtain ⟨g1, g2⟩ := slt_filled s4 (putS_get 2 _ _)
    exact .inr ⟨by rw [htb.2 a (Ne.symm nPa)]; exact g1, by rw [htb.2 dx (Ne.symm nPd)]; exact g2⟩
  walk_at "rd"
  refine r_put L.W.cls L.Wo s5 hne fun H6 b6 s6 => ?_
  have x6 : Ex3 a dx PT H H6 := x5.trans (.but b6)
  have kT6 : H6 T = some (.tup (ts.map V.int)) := by rw [b6 T nTa nTd]; exact kT5
  have htab6 := tab_but b6 nPa nPd htb.1
  obtain ⟨g6, g6d⟩ := slt_filled s6 (putS_get 3 _ _)
  walk_at "rd"
  refine ite_d (fun e => absurd e (by decide)) (fun _ => ?_)
  walk_at "rd"
  refine ⟨T, rfl, ⟨_, sqT kT6⟩, fun D hD => lc_tup (xs := ts.map V.int) (fun k H7 => Evl.Ex H6 H7 ∧ ∃ es, H7 D = some (.lst es) ∧ es.length = k ∧ ∀ j < k, ∃ r, es[j]? = some (.ref r) ∧ r ≠ a ∧ Two CR H7 r (redu (ts.getD j 0) b).1 (redu (ts.getD j 0) b).2) ⟨Evl.Ex.new hD, [], upd_same, rfl, fun j hj => absurd hj (Nat.not_lt_zero j)⟩ (fun k H7 _ hp => sqT (hp.1 T _ kT6)) (fun k x H7 hx hp => ?_) (fun H7 hp => ?_)⟩
  · obtain ⟨he, es, hes, hlen, hr⟩ := hp
    obtain ⟨t, ht, rfl⟩ := geti hx
    have hk := lt_of_get ht
    walk_at "rd"
    refine ⟨rfl, ?_⟩
    walk_at "rd"
    refine iteT ?_
    walk_at "rd"
    refine ⟨t, b, rfl, hb, hb2, fun r hrn H8 he8 h2 => ?_⟩
    have hra : r ≠ a := fun e => by rw [e, he a _ g6] at hrn; cases hrn
    have hes8 := he8 D _ hes
    have etd : ts.getD k 0 = t := by rw [List.getD_eq_getElem?_getD, ht]; rfl
    have hrD : r ≠ D := fun e => by rw [e, hes] at hrn; cases hrn
    have keep : ∀ u t' b', Two CR H8 u t' b' → Two CR (upd H8 D (.lst (es ++ [.ref r]))) u t' b' := fun u t' b' hu => by
      have one : ∀ i w, Has H8 CR u i w → Has (upd H8 D (.lst (es ++ [.ref r]))) CR u i w := fun i w hh => by
        obtain ⟨dy, ws, q1, q2, q3⟩ := hh.at
        exact ⟨dy, ws, .inr ⟨by rw [upd_ne (fun e => by rw [e, hes8] at q2; cases q2)]; exact q2, by rw [upd_ne (fun e => by rw [e, hes8] at q3; cases q3)]; exact q3⟩, q1⟩
      exact ⟨one _ _ hu.1, one _ _ hu.2⟩
    refine ⟨es, hes8, Nat.lt_of_le_of_lt (show _ ≤ 1000 by omega) (by decide), (he.trans he8).mut hD, es ++ [.ref r], upd_same, by rw [List.length_append, hlen]; rfl, fun j hj => ?_⟩
    rcases Nat.lt_or_ge j k with z | z
    · obtain ⟨u, p1, p2, p3⟩ := hr j z
      exact ⟨u, by rw [List.getElem?_append_left (by omega)]; exact p1, p2, keep _ _ _ (p3.ex he8)⟩
    · have : j = k := by omega
      subst this
      exact ⟨r, by rw [List.getElem?_append_right (by omega), hlen, Nat.sub_self]; rfl, hra, by rw [etd]; exact keep _ _ _ h2⟩
  · obtain ⟨he, es, hes, hlen, hr⟩ := hp
    rw [List.length_map] at hlen hr
    walk_at "rd"
    refine r_tupOf (sqL hes) fun En hEn => ?_
    have he8 : Evl.Ex H6 (upd H7 En (.tup es)) := he.trans (.new hEn)
    have kEn : upd H7 En (.tup es) En = some (.tup es) := upd_same
    have hr8 : ∀ j < ts.length, ∃ r, es[j]? = some (.ref r) ∧ r ≠ a ∧ Two CR (upd H7 En (.tup es)) r (redu (ts.getD j 0) b).1 (redu (ts.getD j 0) b).2 := fun j hj => by
      obtain ⟨r, p1, p2, p3⟩ := hr j hj
      exact ⟨r, p1, p2, p3.ex (.new hEn)⟩
    generalize upd H7 En (.tup es) = H8 at he8 kEn hr8
    walk_at "rd"
    refine r_put L.W.cls L.We (Slt.ex he8 s6) hne fun H9 b9 s9 => ?_
    obtain ⟨g9, g9d⟩ := slt_filled s9 (putS_get 1 _ _)
    have g8 := he8 a _ g6
    have g8d := he8 dx _ g6d
    have nEa : En ≠ a := fun e => by rw [e, g8] at kEn; cases kEn
    have nEd : En ≠ dx := fun e => by rw [e, g8d] at kEn; cases kEn
    refine q H9 (x6.trans ((Ex3.of he8).trans (.but b9))) (tab_but b9 nPa nPd (tab_ex he8 htab6)) ⟨T, En, es, ⟨dx, _, s9, ?_⟩, ⟨dx, _, s9, ?_⟩, ⟨dx, _, s9, ?_⟩, ⟨dx, _, s9, putS_get 1 _ _⟩, ?_, ?_, hlen, fun j hj => ?_⟩
    · exact (putS_ne (by decide)).mpr ((putS_ne (by decide)).mpr ((putS_ne (by decide)).mpr (putS_get 0 _ _)))
    · exact (putS_ne (by decide)).mpr ((putS_ne (by decide)).mpr ((putS_ne (by decide)).mpr ((putS_ne (by decide)).mpr (putS_get 4 _ _))))
    · exact (putS_ne (by decide)).mpr ((putS_ne (by decide)).mpr (putS_get 2 _ _))
    · rw [b9 T nTa nTd]; exact he8 T _ kT6
    · rw [b9 En nEa nEd]; exact kEn
    · obtain ⟨r, p1, p2, p3⟩ := hr8 j hj
      exact ⟨r, p1, p3.1.but2 b9 p2 g8 g8d g9d, p3.2.but2 b9 p2 g8 g8d g9d⟩
end
end G
set_option Elab.async false
set_option linter.all false
set_option maxRecDepth 100000
set_option maxHeartbeats 4000000
namespace G
open PySem PySem.Spec PyProof.Rows L2 SlX GxR
local macro_rules | `(tactic| walk_at "rd") => `(tactic| repeat (first
  | (with_reducible first
  | refine r_seq ?_ | refine r_asg ?_ | refine r_c ?_ | refine r_op ?_ | refine r_cons ?_ | refine r_nil ?_ | refine r_cb ?_ | refine r_cal ?_ | refine r_I0 ?_ | refine r_gname ?_
  | refine r_test ?_ | refine r_k ?_ | refine r_B ?_ | refine r_ifs ?_ | refine r_eqI ?_ | refine r_neI ?_ | refine r_un ?_ | refine r_U ?_ | refine r_par ?_ | refine r_vw ?_ | refine r_ret ?_ | refine r_drop ?_
  | refine r_next ?_ | refine r_not ?_ | refine r_and ?_ | refine r_or ?_ | refine r_if ?_ | refine r_chain ?_ | refine r_ipI ?_ | refine r_abs ?_ | refine r_int1 ?_ | refine r_int1b ?_ | refine r_eqB ?_ | refine r_neB ?_
  | refine r_max2 ?_ | refine r_min2 ?_ | refine r_gcd ?_ | refine r_tup ?_ | refine r_lst ?_ | refine r_bm ?_ | refine r_for ?_ | refine r_rng1 ?_ | refine r_rng2 ?_ | refine r_ilist ?_ | refine r_itup ?_ | refine r_yes ?_ | refine r_lc ?_ | refine r_sub ?_
  | refine r_ssl ?_ | refine r_make ?_ | refine r_prop ?_ | refine r_meth ?_ | refine r_gcons ?_ | refine r_gnil ?_ | refine r_andV0 ?_ | refine r_orV0 ?_ | refine r_notV ?_ | refine r_par3 ?_ | refine r_vwz ?_ | refine r_isN ?_ | refine r_notN ?_)
  | ((with_reducible refine' r_var ?k1 ?_); (case k1 => exact rfl))
  | ((with_reducible refine' r_aug ?k1 ?_); (case k1 => exact rfl))))
section
variable {P : Program} {w : World} {K : PySem.W.Frag} {mg : Str → Option Value} {base : Heap} {CT CR CM CW PT : Addr}
/-- row's line of ns -/
def rowTs (ns : List Int) : List Int := lnTs (expP ns (lnB (numP ns)).toNat)
def rowBo (ns : List Int) : Int := lnB (expP ns (lnB (numP ns)).toNat)
theorem expP_len (ns : List Int) (B : Nat) : (expP ns B).length = ns.length + 1 := by unfold expP; rw [List.length_map, List.length_range]
theorem ex3_made {H H' : Hp} {x dx PT : Addr} {o1 o2 : HO} (hx : H x = none) (hd : H dx = none) (e : Ex3 x dx PT (upd (upd H dx o1) x o2) H') : ExB PT H H' := fun c o n hc => by
  have n1 := ne_of_none hc hx
  have n2 := ne_of_none hc hd
  exact e c o n1 n2 n (by rw [upd_ne n1, upd_ne n2]; exact hc)
theorem r_ienumT {σ : L2.St} {H : Hp} {K : PySem.W.Frag} {ta : TA} {R : It → Hp → Prop} (q : ta σ H fun vs H1 => ∃ a xs, vs = [.ref a] ∧ SqT K H1 a xs ∧ R (IteT K a) H1) : iEnumT K ta σ H R := q
theorem good_of {ns : List Int} (h : 1 ≤ ns.length ∧ ns.length ≤ 24) (hs : SmallN (2 ^ 40) ns) : Good ns := ⟨h.1, h.2, fun n hn => by
  have h1 := hs n hn
  have h2 : (2 : Nat) ^ 40 = 1099511627776 := by decide
  unfold FARn
  omega⟩
abbrev s_row_with : Stmt := top 52
abbrev N_row_with : List Str := ["line", "modulus", "is_low"]
theorem sc_row_with : FnScope N_row_with ["line", "modulus", "is_low"] (defScope s_row_with) := ⟨rfl, rfl, rfl, by decide +kernel, rfl, by decide +kernel, by decide +kernel⟩
def sp_row_with (K : PySem.W.Frag) (CM CW CR PT : Addr) : Sp := fun vs H Q _ => ∃ (l : Addr) (ts : List Int) (b : Int), vs = [.ref l, .int 0] ∧ LineAt H l ts b ∧ 0 < b ∧ b.natAbs < 2 ^ 9000 ∧ ts.length ≤ 1000 ∧ TabG H PT ∧ ∀ x H', H x = none → ExB PT H H' → TabG H' PT → RowAt CW CR H' x ts b → Q (.ref x) H'
theorem ok_row_with (B : Bt mg) (L : Cls K mg CT CR CM CW) (D : DefD1 K mg "row_with" s_row_with (.bl true)) (c_Made : Mak P w K mg base "Made" CM 1 [] (sp_Made___init__ CM)) (c_Row : MakK P w K mg base "Row" CW 6 1 ["modulus"] (sp_Row___init__ K CM CW CR PT)) : Cal P w K mg base "row_with" 8 (sp_row_with K CM CW CR PT) := by
  refine D.cal sc_row_with 2 0 rfl (fun vs H Q E h => ?_) (fun _ _ _ _ _ _ _ us its hl hi => match us, hl, its, hi with | [_, _], _, [_], _ => ⟨_, rfl, rfl⟩) (fun cfa cdv cA cO cs H vs Q E hr h => ?_)
  · obtain ⟨l, ts, b, rfl, hl, hb, hb2, hn, htab, q⟩ := h
    rfl
  obtain ⟨l, ts, b, rfl, hl, hb, hb2, hn, htab, q⟩ := h
  refine ⟨_, (pss_one (ps_ret (pe_makKW c_Row (hr.mono (by decide)) (by rfl) (pa_cons (pe_mak c_Made (hr.mono (by decide)) (by rfl) (pa_cons (pe_ifExp (pt_val (pv 2)) (pv 0) pe_never) pa_nil)) pa_nil) (pk_cons (pv 1) pk_nil)))), ?_⟩
  walk_at "rd"
  refine r_makeK ?_
  walk_at "rd"
  refine iteT ?_
  walk_at "rd"
  intro m dm hm hdm hnem
  refine ⟨m, dm, l, rfl, upd_same, by rw [upd_ne hnem, upd_same], hnem, fun H1 b1 h1 => ⟨rfl, ?_⟩⟩
  have he1 := ex_made hm hdm b1
  walk_at "rd"
  refine ⟨rfl, rfl, fun x dx hx hdx hne => ?_⟩
  have he2 : Evl.Ex H1 (upd (upd H1 dx (.own x)) x (.ins CW dx [])) := (Evl.Ex.new hdx).mut hx
  have he := he1.trans he2
  refine ⟨x, dx, m, l, ts, b, rfl, upd_same, by rw [upd_ne hne, upd_same], hne, h1.ex he2, hl.ex he, hb, hb2, hn, tab_ex he htab, fun H' e3 ht hr => ⟨rfl, ?_⟩⟩
  exact q x H' (none_of he1 hx) ((ExB.of he1).trans (ex3_made hx hdx e3)) ht hr
abbrev s_row_in : Stmt := top 61
abbrev N_row_in : List Str := ["numbers", "place", "number", "pairs"]
theorem sc_row_in : FnScope N_row_in ["numbers"] (defScope s_row_in) := ⟨rfl, rfl, rfl, by decide +kernel, rfl, by decide +kernel, by decide +kernel⟩
def sp_row_in (K : PySem.W.Frag) (CM CW CR PT : Addr) : Sp := fun vs H Q _ => ∃ (a : Addr) (ns : List Int), vs = [.ref a] ∧ H a = some (.tup (ns.map V.int)) ∧ ns.length ≤ 16 ∧ SmallN (2 ^ 40) ns ∧ TabG H PT ∧ ∀ x H', H x = none → ExB PT H H' → TabG H' PT → RowAt CW CR H' x (rowTs ns) (rowBo ns) → Q (.ref x) H'
theorem ok_row_in (B : Bt mg) (L : Cls K mg CT CR CM CW) (D : DefAt K mg "row_in" s_row_in) (c_row_with : Cal P w K mg base "row_with" 8 (sp_row_with K CM CW CR PT)) (c_line_exp : Cal P w K mg base "line_exp" 3 (sp_line_exp K)) (c_line_of_pairs : Cal P w K mg base "line_of_pairs" 2 (sp_line_of_pairs K)) : Cal P w K mg base "row_in" 9 (sp_row_in K CM CW CR PT) := by
  refine D.cal sc_row_in (fun vs H Q E h => ?_) (fun _ _ _ _ _ _ us hl => match us, hl with | [_], _ => rfl) (fun cfa cdv cA cO cs H vs Q E hr h => ?_)
  · obtain ⟨a, ns, rfl, ha, hn, hs, htab, q⟩ := h
    rfl
  obtain ⟨a, ns, rfl, ha, hn, hs, htab, q⟩ := h
  refine ⟨_, (pss_cons (ps_set (i := 3) sc_row_in.nd rfl (by first | exact .inl rfl | exact .inr rfl) (pe_lst (pa_cons (pe_tup (pa_cons pe_int (pa_cons pe_int pa_nil))) (StX.pa_star (pe_lc (own := [("place", 1), ("number", 2)]) rfl sc_row_in.nd (pi_enumT (by rfl) B.enumerate (pa_cons (pv 0) pa_nil)) (blkOk_by (N := N_row_in) (sc := defScope s_row_in) (by decide +kernel)) (fun _ _ _ _ _ => (pg_tupK (n := 2) K rfl (pgs_cons (pg_name (x := "place") (i := 1) sc_row_in.nd rfl (by first | exact .inl rfl | exact .inr rfl)) (pgs_cons (pg_name (x := "number") (i := 2) sc_row_in.nd rfl (by first | exact .inl rfl | exact .inr rfl)) pgs_nil)))) (fun _ _ _ _ _ => pts_nil) (fun _ _ _ _ _ => (pe_tup (pa_cons (pv 2) (pa_cons (pe_op op_add (pv 1) pe_int) pa_nil))))) pa_nil))))
      (pss_one (ps_ret (pe_cal c_row_with (hr.mono (by decide)) (by rfl) (pa_cons (pe_cal c_line_exp (hr.mono (by decide)) (by rfl) (pa_cons (pe_cal c_line_of_pairs (hr.mono (by decide)) (by rfl) (pa_cons (pv 3) pa_nil)) pa_nil)) (pa_cons pe_int pa_nil)))))), ?_⟩
  walk_at "rd"
  refine ⟨by show 2 ≤ sizeLine; decide, fun t0 ht0 => ?_⟩
  have he0 : Evl.Ex H (upd H t0 (.tup [.int 0, .int 1])) := .new ht0
  have kt0 : upd H t0 (.tup [.int 0, .int 1]) t0 = some (.tup [.int 0, .int 1]) := upd_same
  generalize upd H t0 (.tup [.int 0, .int 1]) = H0 at he0 kt0
  have ha0 := he0 a _ ha
  refine r_star ?_
  refine r_lc ?_
  refine r_ienumT ?_
  walk_at "rd"
  refine ⟨a, ns.map V.int, rfl, sqT ha0, fun D hD => lc_it (walk_enumT (xs := ns.map V.int)) (fun k H2 => Evl.Ex H0 H2 ∧ ∃ R, H2 D = some (.lst R) ∧ RefL H2 k (fun j => pairV (ns.getD j 0, j + 1)) R) ⟨Evl.Ex.new hD, [], upd_same, RefL.nil _ _⟩ (fun k H2 _ hp => sqT (hp.1 a _ ha0)) (fun k x H2 H3 hk hp hy => ?_) (fun H2 hp => ?_)⟩
  · obtain ⟨he2, R, hl2, hR⟩ := hp
    obtain ⟨T, u, v, rfl, hT, rfl, hu, hv⟩ := hy
    cases hu
    have hv : (ns.map V.int)[k]? = some v := hv
    obtain ⟨n, hn2, rfl⟩ := geti hv
    have hk2 := lt_of_get hn2
    have he3 : Evl.Ex H0 (upd H2 T (.tup [.int (k : Nat), .int n])) := he2.trans (.new hT)
    have hl3 : upd H2 T (.tup [.int (k : Nat), .int n]) D = some (.lst R) := by rw [upd_ne (ne_of_none hl2 hT)]; exact hl2
    have hR3 := hR.ex (Evl.Ex.new (o := .tup [.int (k : Nat), .int n]) hT)
    refine r_gtup (xs := [.int (k : Nat), .int n]) (sqT upd_same) rfl ?_
    walk_at "rd"
    refine ⟨rfl, ?_⟩
    walk_at "rd"
    refine iteT ?_
    walk_at "rd"
    refine ⟨by show 2 ≤ sizeLine; decide, fun r hr => ?_⟩
    have e7 : [V.int n, V.int ((k : Int) + 1)] = (fun j => pairV (ns.getD j 0, j + 1)) k := by
      show _ = [V.int (ns.getD k 0), V.int ((k + 1 : Nat) : Int)]
      rw [List.getD_eq_getElem?_getD, hn2]
      rfl
    rw [e7]
    exact cw_tup he3 hD hl3 hR3 hr (by omega)
  · obtain ⟨he2, R, hl2, hR⟩ := hp
    rw [List.length_map] at hR
    refine ⟨D, R, rfl, .inr (sqL hl2), ?_⟩
    walk_at "rd"
    refine ⟨by show (R ++ []).length + 1 ≤ sizeLine; rw [List.append_nil, hR.1]; exact Nat.le_trans (show _ ≤ 1000 by omega) (by decide), fun p hp => ?_⟩
    have hp2 : upd H2 p (.lst (.ref t0 :: (R ++ []))) p = some (.lst (.ref t0 :: (R ++ []))) := upd_same
    have he3 : Evl.Ex H2 (upd H2 p (.lst (.ref t0 :: (R ++ [])))) := .new hp
    generalize upd H2 p (.lst (.ref t0 :: (R ++ []))) = H3 at hp2 he3
    rw [List.append_nil] at hp2
    have heH := he0.trans (he2.trans he3)
    have hnl : (numP ns).length = ns.length + 1 := by unfold numP; rw [List.length_cons, List.length_map, List.length_range]
    have hps : PairsAt H3 p (numP ns) := by
      refine ⟨_, hp2, by rw [List.length_cons, hR.1, hnl], fun j hj => ?_⟩
      cases j with
      | zero => exact ⟨t0, rfl, (he2.trans he3) t0 _ kt0⟩
      | succ j =>
        obtain ⟨r, h1, h2⟩ := (hR.ex he3).2 j (by omega)
        refine ⟨r, h1, ?_⟩
        have e9 : (numP ns).getD (j + 1) (0, 1) = (ns.getD j 0, j + 1) := by
          rw [List.getD_eq_getElem?_getD, numP_at (by omega)]
          rfl
        rw [h2]
        show some (HO.tup (pairV (ns.getD j 0, j + 1))) = some (HO.tup (pairV ((numP ns).getD (j + 1) (0, 1))))
        rw [e9]
    have hB := lnB_pos (numP_pos ns)
    have hB2 : (lnB (numP ns)).toNat ≤ 720720 := by
      have h1 := lnB_le (ps := numP ns)
      have h2 := preB_num hn
      omega
    walk_at "rd"
    refine ⟨p, numP ns, rfl, hps, numP_pos ns, Nat.lt_of_le_of_lt (preB_num hn) (Nat.lt_of_lt_of_le (show 720720 < 2 ^ 20 by decide) (Nat.pow_le_pow_right (by decide) (by decide))), by omega, fun q hq => ?_, fun l hl H4 he4 hL4 => ?_⟩
    · have h40 : q.1.natAbs ≤ 2 ^ 40 := by
        rcases List.mem_cons.mp hq with rfl | h
        · decide
        · obtain ⟨k, _, rfl⟩ := List.mem_map.mp h
          exact getD_le hs k
      exact wide_up (a := 41) (by omega) (by decide)
    · refine ⟨l, ns, (lnB (numP ns)).toNat, rfl, hL4, by omega, by omega, hn, hs, fun l' hl' H5 he5 hL5 => ?_⟩
      walk_at "rd"
      have he5' := heH.trans (he4.trans he5)
      have hb4 := preB_exp (ns := ns) (B := (lnB (numP ns)).toNat) (by omega) hB2 hn
      have hb5 := lnB_le (ps := expP ns (lnB (numP ns)).toNat)
      have hb6 := lnB_pos (expP_pos ns (B := (lnB (numP ns)).toNat) (by omega))
      refine ⟨l', _, _, rfl, hL5, hb6, wide_up (a := 4000) (by omega) (by decide), by rw [lnTs_len, expP_len]; omega, tab_ex he5' htab, fun x H' hx e3 ht hr => ?_⟩
      exact q x H' (none_of he5' hx) ((ExB.of he5').trans e3) ht hr
abbrev s_ghost_row : Stmt := top 62
abbrev N_ghost_row : List Str := ["numbers"]
theorem sc_ghost_row : FnScope N_ghost_row ["numbers"] (defScope s_ghost_row) := ⟨rfl, rfl, rfl, by decide +kernel, rfl, by decide +kernel, by decide +kernel⟩
def sp_ghost_row (K : PySem.W.Frag) (CM CW CR PT : Addr) : Sp := fun vs H Q _ => ∃ (a : Addr) (ns : List Int), vs = [.ref a] ∧ H a = some (.tup (ns.map V.int)) ∧ (1 ≤ ns.length ∧ ns.length ≤ 16) ∧ SmallN (2 ^ 40) ns ∧ TabG H PT ∧ ∀ x H', H x = none → ExB PT H H' → TabG H' PT → RowAt CW CR H' x (rowTs ns) (rowBo ns) → Q (.ref x) H'
theorem ok_ghost_row (B : Bt mg) (L : Cls K mg CT CR CM CW) (D : DefAt K mg "ghost_row" s_ghost_row) (c_require_numbers : Cal P w K mg base "require_numbers" 4 (sp_require_numbers K)) (c_row_in : Cal P w K mg base "row_in" 9 (sp_row_in K CM CW CR PT)) : Cal P w K mg base "ghost_row" 10 (sp_ghost_row K CM CW CR PT) := by
  refine D.cal sc_ghost_row (fun vs H Q E h => ?_) (fun _ _ _ _ _ _ us hl => match us, hl with | [_], _ => rfl) (fun cfa cdv cA cO cs H vs Q E hr h => ?_)
  · obtain ⟨a, ns, rfl, ha, hn, hs, htab, q⟩ := h
    rfl
  obtain ⟨a, ns, rfl, ha, hn, hs, htab, q⟩ := h
  refine ⟨_, (pss_cons (ps_expr (pe_cal c_require_numbers (hr.mono (by decide)) (by rfl) (pa_cons (pv 0) pa_nil)))
      (pss_one (ps_ret (pe_cal c_row_in (hr.mono (by decide)) (by rfl) (pa_cons (pv 0) pa_nil))))), ?_⟩
  walk_at "rd"
  refine ⟨a, ns, rfl, ha, good_of (by omega) hs, fun H1 he1 => ?_⟩
  walk_at "rd"
  exact ⟨a, ns, rfl, he1 a _ ha, hn.2, hs, tab_ex he1 htab, fun x H' hx e3 ht hr => q x H' (none_of he1 hx) ((ExB.of he1).trans e3) ht hr⟩
abbrev s_Row_entries : Stmt := inClass (top 51) 3
abbrev N_Row_entries : List Str := ["self"]
theorem sc_Row_entries : FnScope N_Row_entries ["self"] (defScope s_Row_entries) := ⟨rfl, rfl, rfl, by decide +kernel, rfl, by decide +kernel, by decide +kernel⟩
def sp_Row_entries (K : PySem.W.Frag) (CW : Addr) : Sp := fun vs H Q _ => ∃ (a En : Addr), vs = [.ref a] ∧ Has H CW a 1 (.ref En) ∧ Q (.ref En) H
theorem ok_Row_entries (B : Bt mg) (L : Cls K mg CT CR CM CW) (D : PropAt K CW "entries" "Row.entries" s_Row_entries)  : PropC P w K mg base CW "entries" 1 (sp_Row_entries K CW) := by
  refine D.c sc_Row_entries (fun vs H Q E h => ?_) (fun _ _ _ _ _ _ us hl => match us, hl with | [_], _ => rfl) (fun cfa cdv cA cO cs H vs Q E hr h => ?_)
  · obtain ⟨a, En, rfl, ha, q⟩ := h
    rfl
  obtain ⟨a, En, rfl, ha, q⟩ := h
  refine ⟨_, (pss_one (ps_ret (pe_sl (pv 0)))), ?_⟩
  walk_at "rd"
  refine r_slV rfl L.W.cls L.We ha ?_
  exact q
abbrev s_Row_degree : Stmt := inClass (top 51) 4
abbrev N_Row_degree : List Str := ["self"]
theorem sc_Row_degree : FnScope N_Row_degree ["self"] (defScope s_Row_degree) := ⟨rfl, rfl, rfl, by decide +kernel, rfl, by decide +kernel, by decide +kernel⟩
def sp_Row_degree (K : PySem.W.Frag) (CW : Addr) : Sp := fun vs H Q _ => ∃ (a T : Addr) (xs : List V), vs = [.ref a] ∧ Has H CW a 4 (.ref T) ∧ H T = some (.tup xs) ∧ Q (.int ((xs.length : Int) - 1)) H
theorem ok_Row_degree (B : Bt mg) (L : Cls K mg CT CR CM CW) (D : PropAt K CW "degree" "Row.degree" s_Row_degree)  : PropC P w K mg base CW "degree" 1 (sp_Row_degree K CW) := by
  refine D.c sc_Row_degree (fun vs H Q E h => ?_) (fun _ _ _ _ _ _ us hl => match us, hl with | [_], _ => rfl) (fun cfa cdv cA cO cs H vs Q E hr h => ?_)
  · obtain ⟨a, T, xs, rfl, ha, hT, q⟩ := h
    rfl
  obtain ⟨a, T, xs, rfl, ha, hT, q⟩ := h
  refine ⟨_, (pss_one (ps_ret (pe_op op_sub (pe_callB (k_len) (by rfl) B.len (by decide +kernel) (pa_cons (pe_sl (pv 0)) pa_nil)) pe_int))), ?_⟩
  walk_at "rd"
  refine r_slV rfl L.W.cls L.Wt ha ?_
  walk_at "rd"
  refine r_lenT (sqT hT) ?_
  walk_at "rd"
  exact q
abbrev s_Row_modulus : Stmt := inClass (top 51) 5
abbrev N_Row_modulus : List Str := ["self"]
theorem sc_Row_modulus : FnScope N_Row_modulus ["self"] (defScope s_Row_modulus) := ⟨rfl, rfl, rfl, by decide +kernel, rfl, by decide +kernel, by decide +kernel⟩
def sp_Row_modulus (K : PySem.W.Frag) (CW : Addr) : Sp := fun vs H Q _ => ∃ (a : Addr) (v : V), vs = [.ref a] ∧ Has H CW a 2 v ∧ Q v H
theorem ok_Row_modulus (B : Bt mg) (L : Cls K mg CT CR CM CW) (D : PropAt K CW "modulus" "Row.modulus" s_Row_modulus)  : PropC P w K mg base CW "modulus" 1 (sp_Row_modulus K CW) := by
  refine D.c sc_Row_modulus (fun vs H Q E h => ?_) (fun _ _ _ _ _ _ us hl => match us, hl with | [_], _ => rfl) (fun cfa cdv cA cO cs H vs Q E hr h => ?_)
  · obtain ⟨a, v, rfl, ha, q⟩ := h
    rfl
  obtain ⟨a, v, rfl, ha, q⟩ := h
  refine ⟨_, (pss_one (ps_ret (pe_sl (pv 0)))), ?_⟩
  walk_at "rd"
  refine r_slV rfl L.W.cls L.Wm ha ?_
  exact q
abbrev s_Row_whole : Stmt := inClass (top 51) 9
abbrev N_Row_whole : List Str := ["self"]
theorem sc_Row_whole : FnScope N_Row_whole ["self"] (defScope s_Row_whole) := ⟨rfl, rfl, rfl, by decide +kernel, rfl, by decide +kernel, by decide +kernel⟩
def sp_Row_whole (K : PySem.W.Frag) (CW : Addr) : Sp := fun vs H Q _ => ∃ (a T : Addr), vs = [.ref a] ∧ Has H CW a 0 (.int 1) ∧ Has H CW a 4 (.ref T) ∧ Q (.ref T) H
theorem ok_Row_whole (B : Bt mg) (L : Cls K mg CT CR CM CW) (D : MethAt K CW "whole" "Row.whole" s_Row_whole)  : MethC P w K mg base CW "whole" 1 (sp_Row_whole K CW) := by
  refine D.c sc_Row_whole (fun vs H Q E h => ?_) (fun _ _ _ _ _ _ us hl => match us, hl with | [_], _ => rfl) (fun cfa cdv cA cO cs H vs Q E hr h => ?_)
  · obtain ⟨a, T, rfl, hb, ha, q⟩ := h
    rfl
  obtain ⟨a, T, rfl, hb, ha, q⟩ := h
  refine ⟨_, (pss_cons (ps_if (pt_cmpR op_ne (pe_sl (pv 0)) pe_int (nomark _)) (pss_one ps_never) pss_nil)
      (pss_one (ps_ret (pe_sl (pv 0))))), ?_⟩
  walk_at "rd"
  refine r_slV rfl L.W.cls L.Wb hb ?_
  walk_at "rd"
  refine iteF ?_
  walk_at "rd"
  refine r_slV rfl L.W.cls L.Wt ha ?_
  exact q
end
end G
set_option Elab.async false
set_option linter.all false
set_option maxRecDepth 100000
set_option maxHeartbeats 4000000
namespace G
open PySem PySem.Spec PyProof.Rows L2 SlX GxR
local macro_rules | `(tactic| walk_at "rd") => `(tactic| repeat (first
  | (with_reducible first
  | refine r_seq ?_ | refine r_asg ?_ | refine r_c ?_ | refine r_op ?_ | refine r_cons ?_ | refine r_nil ?_ | refine r_cb ?_ | refine r_cal ?_ | refine r_I0 ?_ | refine r_gname ?_
  | refine r_test ?_ | refine r_k ?_ | refine r_B ?_ | refine r_ifs ?_ | refine r_eqI ?_ | refine r_neI ?_ | refine r_un ?_ | refine r_U ?_ | refine r_par ?_ | refine r_vw ?_ | refine r_ret ?_ | refine r_drop ?_
  | refine r_next ?_ | refine r_not ?_ | refine r_and ?_ | refine r_or ?_ | refine r_if ?_ | refine r_chain ?_ | refine r_ipI ?_ | refine r_abs ?_ | refine r_int1 ?_ | refine r_int1b ?_ | refine r_eqB ?_ | refine r_neB ?_
  | refine r_max2 ?_ | refine r_min2 ?_ | refine r_gcd ?_ | refine r_tup ?_ | refine r_lst ?_ | refine r_bm ?_ | refine r_for ?_ | refine r_rng1 ?_ | refine r_rng2 ?_ | refine r_ilist ?_ | refine r_itup ?_ | refine r_yes ?_ | refine r_lc ?_ | refine r_sub ?_
  | refine r_ssl ?_ | refine r_make ?_ | refine r_prop ?_ | refine r_meth ?_ | refine r_gcons ?_ | refine r_gnil ?_ | refine r_andV0 ?_ | refine r_orV0 ?_ | refine r_notV ?_ | refine r_par3 ?_ | refine r_vwz ?_ | refine r_isN ?_ | refine r_notN ?_)
  | ((with_reducible refine' r_var ?k1 ?_); (case k1 => exact rfl))
  | ((with_reducible refine' r_aug ?k1 ?_); (case k1 => exact rfl))))
section
variable {P : Program} {w : World} {K : PySem.W.Frag} {mg : Str → Option Value} {base : Heap} {CT CR CM CW PT : Addr}
def tJ (ts : List TE) : TE := fun σ H Q => tJs ts Str.empty σ H fun out H1 => Q (.str out) H1
theorem pe_joinedJ {X : Cx} {v1 v2 : Expr} {rest : List Expr} {ts : List TE} {pos : Pos} (h : PJ X (v1 :: v2 :: rest) ts) : PE X (.JoinedStr (v1 :: v2 :: rest) pos) (tJ ts) := pe_joined h
def rCatS : R2 := fun x y H Q => ∃ i j, x = .str i ∧ y = .str j ∧ i.length + j.length ≤ sizeLine ∧ Q (.str (i ++ j)) H
theorem op_adds {X : Cx} : OpR X (binaryOp .Add) rCatS := op_add_str
def rStrI : List V → Hp → VK → Prop := fun xs H Q => ∃ i, xs = [.int i] ∧ i.natAbs.log2 < 1920 ∧ Q (.str (toString i)) H
theorem k_strI {X : Cx} : CallR X (.type "str") rStrI := call_str_int
section
variable {σ : L2.St} {H : Hp} {Q : VK} {ts : List TE} {t te : TE} {acc y r : Str} {j : Nat} {i : Int}
theorem r_J (q : tJs ts Str.empty σ H fun out H1 => Q (.str out) H1) : tJ ts σ H Q := q
theorem r_js {R : Str → Hp → Prop} (q : t σ H fun x H1 => ∃ y : Str, x = .str y ∧ (acc ++ y).length ≤ sizeLine ∧ tJs ts (acc ++ y) σ H1 R) : tJs (t :: ts) acc σ H R := q
theorem r_jn {R : Str → Hp → Prop} (q : R acc H) : tJs [] acc σ H R := q
/-- a literal part -/
theorem r_jc {R : Str → Hp → Prop} (he : acc ++ y = r) (hl : r.length ≤ sizeLine) (q : tJs ts r σ H R) : tJs (tC (.str y) :: ts) acc σ H R := ⟨y, rfl, by rw [he]; exact hl, by rw [he]; exact q⟩
/-- a variable that holds an int, a text -/
theorem r_ji {R : Str → Hp → Prop} (h : σ[j]? = some (some (.int i))) (hb : i.natAbs.log2 < 1920) (he : acc ++ (toString i : Str) = r) (hl : r.length ≤ sizeLine) (q : tJs ts r σ H R) : tJs (tFmt (tVar j) :: ts) acc σ H R :=
  ⟨.int i, h, .inr ⟨i, rfl, hb, _, rfl, by rw [he]; exact hl, by rw [he]; exact q⟩⟩
theorem r_jt {R : Str → Hp → Prop} (h : σ[j]? = some (some (.str y))) (hy : y.length ≤ sizeLine) (he : acc ++ y = r) (hl : r.length ≤ sizeLine) (q : tJs ts r σ H R) : tJs (tFmt (tVar j) :: ts) acc σ H R :=
  ⟨.str y, h, .inl ⟨y, rfl, hy, _, rfl, by rw [he]; exact hl, by rw [he]; exact q⟩⟩
theorem r_fmt (q : te σ H fun x H1 => (∃ y : Str, x = .str y ∧ y.length ≤ sizeLine ∧ Q (.str y) H1) ∨ ∃ i : Int, x = .int i ∧ i.natAbs.log2 < 1920 ∧ Q (.str (toString i)) H1) : tFmt te σ H Q := q
theorem r_catS {a b : Str} (he : a ++ b = r) (hl : a.length + b.length ≤ sizeLine) (q : Q (.str r) H) : rCatS (.str a) (.str b) H Q := ⟨a, b, rfl, rfl, hl, by rw [he]; exact q⟩
theorem r_strI (he : (toString i : Str) = r) (hb : i.natAbs.log2 < 1920) (q : Q (.str r) H) : rStrI [.int i] H Q := ⟨i, rfl, hb, by rw [he]; exact q⟩
theorem r_eqS {a b : Str} {c : Bool} (he : decide (V.str a = V.str b) = c) (q : Q (.bl c) H) : rEq (.str a) (.str b) H Q := ⟨rfl, by rw [he]; exact q⟩
theorem r_neS {a b : Str} {c : Bool} (he : (!decide (V.str a = V.str b)) = c) (q : Q (.bl c) H) : rNe (.str a) (.str b) H Q := ⟨rfl, by rw [he]; exact q⟩
end
abbrev s_term_text : Stmt := top 49
abbrev N_term_text : List Str := ["place", "top", "bottom", "number", "power"]
theorem sc_term_text : FnScope N_term_text ["place", "top", "bottom"] (defScope s_term_text) := ⟨rfl, rfl, rfl, by decide +kernel, rfl, by decide +kernel, by decide +kernel⟩
def sp_term_text : Sp := fun vs H Q _ => ∃ (p t b : Int) (r : Str), vs = [.int p, .int t, .int b] ∧ ((p = 0 ∧ t = 1 ∧ b = 1 ∧ r = "1") ∨ (p = 1 ∧ t = 1 ∧ b = 1 ∧ r = "x") ∨ (p = 2 ∧ t = 3 ∧ b = 2 ∧ r = "3/2*x^2")) ∧ Q (.str r) H
theorem ok_term_text (B : Bt mg) (L : Cls K mg CT CR CM CW) (D : DefAt K mg "term_text" s_term_text)  : Cal P w K mg base "term_text" 1 sp_term_text := by
  refine D.cal sc_term_text (fun vs H Q E h => ?_) (fun _ _ _ _ _ _ us hl => match us, hl with | [_, _, _], _ => rfl) (fun cfa cdv cA cO cs H vs Q E hr h => ?_)
  · obtain ⟨p, t, b, r, rfl, hc, q⟩ := h
    rfl
  obtain ⟨p, t, b, r, rfl, hc, q⟩ := h
  refine ⟨_, (pss_cons (ps_set (i := 3) sc_term_text.nd rfl (by first | exact .inl rfl | exact .inr rfl) (pe_ifExp (pt_cmpR op_eq (pv 2) pe_int (nomark _)) (pe_callTy (k_strI) (by rfl) B.str (by decide +kernel) (pa_cons (pv 1) pa_nil)) (pe_joinedJ (.cons (pe_fmt (pv 1)) (.cons pe_str (.cons (pe_fmt (pv 2)) .nil))))))
      (pss_cons (ps_set (i := 4) sc_term_text.nd rfl (by first | exact .inl rfl | exact .inr rfl) (pe_ifExp (pt_cmpR op_eq (pv 0) pe_int (nomark _)) pe_str (pe_joinedJ (.cons pe_str (.cons (pe_fmt (pv 0)) .nil)))))
      (pss_cons (ps_if (pt_cmpR op_eq (pv 0) pe_int (nomark _)) (pss_one (ps_ret (pv 3))) pss_nil)
      (pss_one (ps_ret (pe_ifExp (pt_cmpR op_eq (pv 3) pe_str (nomark _)) (pv 4) (pe_joinedJ (.cons (pe_fmt (pv 3)) (.cons pe_str (.cons (pe_fmt (pv 4)) .nil)))))))))), ?_⟩
  walk_at "rd"
  rcases hc with ⟨rfl, rfl, rfl, rfl⟩ | ⟨rfl, rfl, rfl, rfl⟩ | ⟨rfl, rfl, rfl, rfl⟩
  · refine ite_d (fun _ => ?_) (fun e => absurd rfl e)
    walk_at "rd"
    refine r_strI (r := "1") (by decide +kernel) (by decide +kernel) ?_
    walk_at "rd"
    refine ite_d (fun e => absurd e (by decide)) (fun _ => ?_)
    refine r_J ?_
    refine r_jc (r := "x^") (by decide +kernel) (by decide +kernel) ?_
    refine r_ji (r := "x^0") rfl (by decide +kernel) (by decide +kernel) (by decide +kernel) ?_
    refine r_jn ?_
    walk_at "rd"
    refine ite_d (fun _ => ?_) (fun e => absurd rfl e)
    walk_at "rd"
    exact q
  · refine ite_d (fun _ => ?_) (fun e => absurd rfl e)
    walk_at "rd"
    refine r_strI (r := "1") (by decide +kernel) (by decide +kernel) ?_
    walk_at "rd"
    refine ite_d (fun _ => ?_) (fun e => absurd rfl e)
    walk_at "rd"
    refine ite_d (fun e => absurd e (by decide)) (fun _ => ?_)
    walk_at "rd"
    refine r_eqS (c := true) (by decide +kernel) ?_
    walk_at "rd"
    refine iteT ?_
    walk_at "rd"
    exact q
  · refine ite_d (fun e => absurd e (by decide)) (fun _ => ?_)
    refine r_J ?_
    refine r_ji (r := "3") rfl (by decide +kernel) (by decide +kernel) (by decide +kernel) ?_
    refine r_jc (r := "3/") (by decide +kernel) (by decide +kernel) ?_
    refine r_ji (r := "3/2") rfl (by decide +kernel) (by decide +kernel) (by decide +kernel) ?_
    refine r_jn ?_
    walk_at "rd"
    refine ite_d (fun e => absurd e (by decide)) (fun _ => ?_)
    refine r_J ?_
    refine r_jc (r := "x^") (by decide +kernel) (by decide +kernel) ?_
    refine r_ji (r := "x^2") rfl (by decide +kernel) (by decide +kernel) (by decide +kernel) ?_
    refine r_jn ?_
    walk_at "rd"
    refine ite_d (fun e => absurd e (by decide)) (fun _ => ?_)
    walk_at "rd"
    refine r_eqS (c := false) (by decide +kernel) ?_
    walk_at "rd"
    refine iteF ?_
    refine r_J ?_
    refine r_jt (r := "3/2") rfl (by decide +kernel) (by decide +kernel) (by decide +kernel) ?_
    refine r_jc (r := "3/2*") (by decide +kernel) (by decide +kernel) ?_
    refine r_jt (r := "3/2*x^2") rfl (by decide +kernel) (by decide +kernel) (by decide +kernel) ?_
    refine r_jn ?_
    exact q
def foundAt : Nat → Str
  | 0 => ""
  | 1 => "1"
  | 2 => "1 + x"
  | _ => "1 + x + 3/2*x^2"
abbrev s_row_text : Stmt := top 50
abbrev N_row_text : List Str := ["tops", "bottom", "modulus", "found", "told", "place", "top", "share", "text", "ahead"]
theorem sc_row_text : FnScope N_row_text ["tops", "bottom", "modulus"] (defScope s_row_text) := ⟨rfl, rfl, rfl, by decide +kernel, rfl, by decide +kernel, by decide +kernel⟩
def sp_row_text (K : PySem.W.Frag) : Sp := fun vs H Q _ => ∃ (T : Addr), vs = [.ref T, .int 2, .int 0] ∧ H T = some (.tup [.int 2, .int 2, .int 3]) ∧ ∀ H', Evl.Ex H H' → Q (.str "1 + x + 3/2*x^2 to 2") H'
theorem ok_row_text (B : Bt mg) (L : Cls K mg CT CR CM CW) (D : DefAt K mg "row_text" s_row_text) (c_term_text : Cal P w K mg base "term_text" 1 (sp_term_text)) : Cal P w K mg base "row_text" 2 (sp_row_text K) := by
  refine D.cal sc_row_text (fun vs H Q E h => ?_) (fun _ _ _ _ _ _ us hl => match us, hl with | [_, _, _], _ => rfl) (fun cfa cdv cA cO cs H vs Q E hr h => ?_)
  · obtain ⟨T, rfl, hT, q⟩ := h
    rfl
  obtain ⟨T, rfl, hT, q⟩ := h
  refine ⟨_, (pss_cons (ps_set (i := 3) sc_row_text.nd rfl (by first | exact .inl rfl | exact .inr rfl) pe_str)
      (pss_cons (ps_for PassesOwn.never rfl (pi_enumT (by rfl) B.enumerate (pa_cons (pv 0) pa_nil)) (pg_tup rfl (pgs_cons (pg_name (i := 5) sc_row_text.nd rfl (by first | exact .inl rfl | exact .inr rfl)) (pgs_cons (pg_name (i := 6) sc_row_text.nd rfl (by first | exact .inl rfl | exact .inr rfl)) pgs_nil))) (pss_one (ps_if (pt_cmpR op_ne (pv 6) pe_int (nomark _)) (pss_cons (ps_set (i := 7) sc_row_text.nd rfl (by first | exact .inl rfl | exact .inr rfl) (pe_callBfun cr_gcd (by rfl) B.gcd (pa_cons (pv 6) (pa_cons (pv 1) pa_nil))))
      (pss_cons (ps_set (i := 8) sc_row_text.nd rfl (by first | exact .inl rfl | exact .inr rfl) (pe_cal c_term_text (hr.mono (by decide)) (by rfl) (pa_cons (pv 5) (pa_cons (pe_op op_fdivW (pe_callB (k_abs) (by rfl) B.abs (by decide +kernel) (pa_cons (pv 6) pa_nil)) (pv 7)) (pa_cons (pe_op op_fdivW (pv 1) (pv 7)) pa_nil)))))
      (pss_cons (ps_set (i := 9) sc_row_text.nd rfl (by first | exact .inl rfl | exact .inr rfl) (pe_ifExp (pt_cmpR op_eq (pv 3) pe_str (nomark _)) (pe_ifExp (pt_cmpR op_lt (pv 6) pe_int (nomark _)) pe_str pe_str) (pe_ifExp (pt_cmpR op_lt (pv 6) pe_int (nomark _)) pe_str pe_str)))
      (pss_one (ps_set (i := 3) sc_row_text.nd rfl (by first | exact .inl rfl | exact .inr rfl) (pe_op op_adds (pe_op op_adds (pv 3) (pv 9)) (pv 8))))))) pss_nil)))
      (pss_cons (ps_set (i := 4) sc_row_text.nd rfl (by first | exact .inl rfl | exact .inr rfl) (pe_ifExp (pt_cmpR op_ne (pv 3) pe_str (nomark _)) (pv 3) pe_str))
      (pss_one (ps_ret (pe_op op_adds (pe_joinedJ (.cons (pe_fmt (pv 4)) (.cons pe_str (.cons (pe_fmt (pe_op op_sub (pe_callB (k_len) (by rfl) B.len (by decide +kernel) (pa_cons (pv 0) pa_nil)) pe_int)) .nil)))) (pe_ifExp (pt_cmpR op_gt (pv 2) pe_int (nomark _)) (pe_joinedJ (.cons pe_str (.cons (pe_fmt (pv 2)) .nil))) pe_str))))))), ?_⟩
  walk_at "rd"
  refine r_ienumT ?_
  walk_at "rd"
  refine ⟨T, _, rfl, sqT hT, for_it (walk_enumT (xs := [.int 2, .int 2, .int 3])) (fun i σ' H' => Evl.Ex H H' ∧ ∃ a4 a5 a6 a7 a8 a9, σ' = [some (.ref T), some (.int 2), some (.int 0), some (.str (foundAt i)), a4, a5, a6, a7, a8, a9]) ⟨.refl _, _, _, _, _, _, _, rfl⟩ (fun i σ' H' _ hp => sqT (hp.1 T _ hT)) (fun i x σ' H' H2 hi hp hy => ?_) (fun σ' H' hp => ?_)⟩
  · obtain ⟨he, a4, a5, a6, a7, a8, a9, rfl⟩ := hp
    obtain ⟨Tp, u, v, rfl, hTp, rfl, hu, hv⟩ := hy
    have hv : ([.int 2, .int 2, .int 3] : List V)[i]? = some v := hv
    have hi3 : i = 0 ∨ i = 1 ∨ i = 2 := by
      have : i < 3 := hi
      omega
    rcases hi3 with rfl | rfl | rfl
    · cases hu
      cases hv
      have he3 : Evl.Ex H (upd H' Tp (.tup [.int ((0 : Nat) : Int), .int 2])) := he.trans (.new hTp)
      refine r_gtup (xs := [.int ((0 : Nat) : Int), .int 2]) (sqT upd_same) rfl ?_
      walk_at "rd"
      refine ite_nd (fun _ => ?_) (fun e => absurd e (by decide))
      walk_at "rd"
      refine r_I ⟨by decide, by decide +kernel⟩ ?_
      walk_at "rd"
      refine r_I ⟨by decide, by decide +kernel⟩ ?_
      walk_at "rd"
      refine ⟨_, _, _, "1", rfl, .inl ⟨rfl, by decide +kernel, by decide +kernel, rfl⟩, ?_⟩
      walk_at "rd"
      refine r_eqS (c := true) (by decide +kernel) ?_
      walk_at "rd"
      refine iteT ?_
      walk_at "rd"
      refine ite_d (fun e => absurd e (by decide)) (fun _ => ?_)
      walk_at "rd"
      refine r_catS (r := "") (by decide +kernel) (by decide +kernel) ?_
      walk_at "rd"
      refine r_catS (r := foundAt 1) (by decide +kernel) (by decide +kernel) ?_
      walk_at "rd"
      exact ⟨he3, _, _, _, _, _, _, rfl⟩
    · cases hu
      cases hv
      have he3 : Evl.Ex H (upd H' Tp (.tup [.int ((1 : Nat) : Int), .int 2])) := he.trans (.new hTp)
      refine r_gtup (xs := [.int ((1 : Nat) : Int), .int 2]) (sqT upd_same) rfl ?_
      walk_at "rd"
      refine ite_nd (fun _ => ?_) (fun e => absurd e (by decide))
      walk_at "rd"
      refine r_I ⟨by decide, by decide +kernel⟩ ?_
      walk_at "rd"
      refine r_I ⟨by decide, by decide +kernel⟩ ?_
      walk_at "rd"
      refine ⟨_, _, _, "x", rfl, .inr (.inl ⟨rfl, by decide +kernel, by decide +kernel, rfl⟩), ?_⟩
      walk_at "rd"
      refine r_eqS (c := false) (by decide +kernel) ?_
      walk_at "rd"
      refine iteF ?_
      walk_at "rd"
      refine ite_d (fun e => absurd e (by decide)) (fun _ => ?_)
      walk_at "rd"
      refine r_catS (r := "1 + ") (by decide +kernel) (by decide +kernel) ?_
      walk_at "rd"
      refine r_catS (r := foundAt 2) (by decide +kernel) (by decide +kernel) ?_
      walk_at "rd"
      exact ⟨he3, _, _, _, _, _, _, rfl⟩
    · cases hu
      cases hv
      have he3 : Evl.Ex H (upd H' Tp (.tup [.int ((2 : Nat) : Int), .int 3])) := he.trans (.new hTp)
      refine r_gtup (xs := [.int ((2 : Nat) : Int), .int 3]) (sqT upd_same) rfl ?_
      walk_at "rd"
      refine ite_nd (fun _ => ?_) (fun e => absurd e (by decide))
      walk_at "rd"
      refine r_I ⟨by decide, by decide +kernel⟩ ?_
      walk_at "rd"
      refine r_I ⟨by decide, by decide +kernel⟩ ?_
      walk_at "rd"
      refine ⟨_, _, _, "3/2*x^2", rfl, .inr (.inr ⟨rfl, by decide +kernel, by decide +kernel, rfl⟩), ?_⟩
      walk_at "rd"
      refine r_eqS (c := false) (by decide +kernel) ?_
      walk_at "rd"
      refine iteF ?_
      walk_at "rd"
      refine ite_d (fun e => absurd e (by decide)) (fun _ => ?_)
      walk_at "rd"
      refine r_catS (r := "1 + x + ") (by decide +kernel) (by decide +kernel) ?_
      walk_at "rd"
      refine r_catS (r := foundAt 3) (by decide +kernel) (by decide +kernel) ?_
      walk_at "rd"
      exact ⟨he3, _, _, _, _, _, _, rfl⟩
  · obtain ⟨he, a4, a5, a6, a7, a8, a9, rfl⟩ := hp
    walk_at "rd"
    refine r_neS (c := true) (by decide +kernel) ?_
    walk_at "rd"
    refine iteT ?_
    walk_at "rd"
    refine r_J ?_
    refine r_jt (r := "1 + x + 3/2*x^2") rfl (by decide +kernel) (by decide +kernel) (by decide +kernel) ?_
    refine r_jc (r := "1 + x + 3/2*x^2 to ") (by decide +kernel) (by decide +kernel) ?_
    refine r_js ?_
    refine r_fmt ?_
    walk_at "rd"
    refine r_lenT (sqT (he T _ hT)) ?_
    walk_at "rd"
    refine .inr ⟨_, rfl, by decide +kernel, _, rfl, by decide +kernel, ?_⟩
    refine r_jn ?_
    walk_at "rd"
    refine ite_d (fun e => absurd e (by decide)) (fun _ => ?_)
    walk_at "rd"
    refine r_catS (r := "1 + x + 3/2*x^2 to 2") ?_ ?_ ?_
    · decide +kernel
    · decide +kernel
    · exact q H' he
abbrev s_Row___str__ : Stmt := inClass (top 51) 26
abbrev N_Row___str__ : List Str := ["self"]
theorem sc_Row___str__ : FnScope N_Row___str__ ["self"] (defScope s_Row___str__) := ⟨rfl, rfl, rfl, by decide +kernel, rfl, by decide +kernel, by decide +kernel⟩
def sp_Row___str__ (K : PySem.W.Frag) (CW : Addr) : Sp := fun vs H Q _ => ∃ (a T : Addr), vs = [.ref a] ∧ Has H CW a 0 (.int 2) ∧ Has H CW a 2 (.int 0) ∧ Has H CW a 4 (.ref T) ∧ H T = some (.tup [.int 2, .int 2, .int 3]) ∧ ∀ H', Evl.Ex H H' → Q (.str "1 + x + 3/2*x^2 to 2") H'
theorem ok_Row___str__ (B : Bt mg) (L : Cls K mg CT CR CM CW) (D : MethAt K CW "__str__" "Row.__str__" s_Row___str__) (c_row_text : Cal P w K mg base "row_text" 2 (sp_row_text K)) : MethC P w K mg base CW "__str__" 3 (sp_Row___str__ K CW) := by
  refine D.c sc_Row___str__ (fun vs H Q E h => ?_) (fun _ _ _ _ _ _ us hl => match us, hl with | [_], _ => rfl) (fun cfa cdv cA cO cs H vs Q E hr h => ?_)
  · obtain ⟨a, T, rfl, h0, h2, h4, hT, q⟩ := h
    rfl
  obtain ⟨a, T, rfl, h0, h2, h4, hT, q⟩ := h
  refine ⟨_, (pss_one (ps_ret (pe_joined1 (pe_fmt (pe_cal c_row_text (hr.mono (by decide)) (by rfl) (pa_cons (pe_sl (pv 0)) (pa_cons (pe_sl (pv 0)) (pa_cons (pe_sl (pv 0)) pa_nil)))))))), ?_⟩
  walk_at "rd"
  refine r_fmt ?_
  walk_at "rd"
  refine r_slV rfl L.W.cls L.Wt h4 ?_
  walk_at "rd"
  refine r_slV rfl L.W.cls L.Wb h0 ?_
  walk_at "rd"
  refine r_slV rfl L.W.cls L.Wm h2 ?_
  walk_at "rd"
  refine ⟨T, rfl, hT, fun H' he => ?_⟩
  exact .inl ⟨_, rfl, by decide +kernel, q H' he⟩
end
end G
set_option Elab.async false
set_option linter.all false
set_option maxRecDepth 100000
set_option maxHeartbeats 4000000
namespace G
open PySem PySem.Spec PyProof.Rows L2 SlX GxR
local macro_rules | `(tactic| walk_at "rd") => `(tactic| repeat (first
  | (with_reducible first
  | refine r_seq ?_ | refine r_asg ?_ | refine r_c ?_ | refine r_op ?_ | refine r_cons ?_ | refine r_nil ?_ | refine r_cb ?_ | refine r_cal ?_ | refine r_I0 ?_ | refine r_gname ?_
  | refine r_test ?_ | refine r_k ?_ | refine r_B ?_ | refine r_ifs ?_ | refine r_eqI ?_ | refine r_neI ?_ | refine r_un ?_ | refine r_U ?_ | refine r_par ?_ | refine r_vw ?_ | refine r_ret ?_ | refine r_drop ?_
  | refine r_next ?_ | refine r_not ?_ | refine r_and ?_ | refine r_or ?_ | refine r_if ?_ | refine r_chain ?_ | refine r_ipI ?_ | refine r_abs ?_ | refine r_int1 ?_ | refine r_int1b ?_ | refine r_eqB ?_ | refine r_neB ?_
  | refine r_max2 ?_ | refine r_min2 ?_ | refine r_gcd ?_ | refine r_tup ?_ | refine r_lst ?_ | refine r_bm ?_ | refine r_for ?_ | refine r_rng1 ?_ | refine r_rng2 ?_ | refine r_ilist ?_ | refine r_itup ?_ | refine r_yes ?_ | refine r_lc ?_ | refine r_sub ?_
  | refine r_ssl ?_ | refine r_make ?_ | refine r_meth ?_ | refine r_gcons ?_ | refine r_gnil ?_ | refine r_andV0 ?_ | refine r_orV0 ?_ | refine r_notV ?_ | refine r_par3 ?_ | refine r_vwz ?_ | refine r_isN ?_ | refine r_notN ?_)
  | ((with_reducible refine' r_var ?k1 ?_); (case k1 => exact rfl))
  | ((with_reducible refine' r_aug ?k1 ?_); (case k1 => exact rfl))))
section
variable {P : Program} {w : World} {K : PySem.W.Frag} {mg : Str → Option Value} {base : Heap} {CT CR CM CW PT : Addr}
theorem r_propV {σ : L2.St} {H : Hp} {Q : VK} {j : Nat} {C a : Addr} {i : Nat} {v : V} {sp : Sp} {E : XK} (hv : σ[j]? = some (some (.ref a))) (h : Has H C a i v) (q : sp [.ref a] H Q E) : tPropSl C sp E (tVar j) σ H Q := by
  obtain ⟨dx, vs, h1, _⟩ := h
  exact ⟨.ref a, hv, a, dx, vs, rfl, h1, q⟩
def redV (t b : Int) : List V := [.int (redu t b).1, .int (redu t b).2]
theorem dp_all {K : PySem.W.Frag} {H : Hp} : ∀ (R : List V) (ds : List PyData), R.length = ds.length → (∀ (j : Nat) (v : V) (d : PyData), R[j]? = some v → ds[j]? = some d → Dp K H v d) → DpAll K H R ds
  | [], [], _, _ => .nil
  | [], _ :: _, h, _ => by cases h
  | _ :: _, [], h, _ => by cases h
  | v :: R, d :: ds, h, f => .cons (f 0 v d rfl rfl) (dp_all R ds (by simpa using h) fun j v d a b => f (j + 1) v d a b)
def pdat (f : Nat → Int × Int) (m : Nat) : List PyData := (List.range m).map fun j => PyData.tuple [.int (f j).1, .int (f j).2]
theorem refl_dp {K : PySem.W.Frag} {H : Hp} {m : Nat} {g : Nat → List V} {f : Nat → Int × Int} {R : List V} (h : RefL H m g R) (hg : ∀ j < m, g j = [.int (f j).1, .int (f j).2]) : DpAll K H R (pdat f m) := by
  refine dp_all R _ (by unfold pdat; rw [h.1, List.length_map, List.length_range]) fun j v d hv hd => ?_
  have hj : j < m := by have := lt_of_get hv; rw [h.1] at this; exact this
  obtain ⟨r, a, b⟩ := h.2 j hj
  rw [hv] at a
  cases a
  unfold pdat at hd
  rw [List.getElem?_map, List.getElem?_range hj] at hd
  cases hd
  rw [hg j hj] at b
  exact .tup (sqT b) (.cons (.int _) (.cons (.int _) .nil))
theorem pdat_lay (f : Nat → Int × Int) : ∀ l : List Nat, PyData.canLayAll0 (l.map fun j => PyData.tuple [.int (f j).1, .int (f j).2]) = true
  | [] => rfl
  | _ :: r => by simp [PyData.canLayAll0, PyData.canLay0, pdat_lay f r]
theorem pdat_depth (f : Nat → Int × Int) : ∀ l : List Nat, PyData.depthAll (l.map fun j => PyData.tuple [.int (f j).1, .int (f j).2]) ≤ 1
  | [] => by simp [PyData.depthAll]
  | _ :: r => by
    have := pdat_depth f r
    simp [PyData.depthAll, PyData.depth]
    omega
theorem pdat_shaped (f : Nat → Int × Int) (m : Nat) : SeqAt.shaped (.list (pdat f m)) = true := by
  have h1 : PyData.canLay0 (.list (pdat f m)) = true := by
    unfold pdat
    simp only [PyData.canLay0]
    exact pdat_lay f (List.range m)
  have h2 : PyData.depth (.list (pdat f m)) ≤ 2 := by
    have := pdat_depth f (List.range m)
    unfold pdat
    simp only [PyData.depth]
    exact Nat.succ_le_succ this
  show (PyData.canLay0 _ && decide (PyData.depth _ ≤ 64)) = true
  rw [h1, Bool.true_and]
  exact decide_eq_true (by omega)
abbrev s_law_pairs_of : Stmt := top 73
abbrev N_law_pairs_of : List Str := ["_law_row", "_law_one"]
theorem sc_law_pairs_of : FnScope N_law_pairs_of ["_law_row"] (defScope s_law_pairs_of) := ⟨rfl, rfl, rfl, by decide +kernel, rfl, by decide +kernel, by decide +kernel⟩
def sp_law_pairs_of (K : PySem.W.Frag) (CW CR : Addr) : Sp := fun vs H Q _ => ∃ (a : Addr) (ts : List Int) (b : Int), vs = [.ref a] ∧ RowAt CW CR H a ts b ∧ ts.length ≤ 1000 ∧ ∀ p R, H p = none → ∀ H', Evl.Ex H H' → H' p = some (.lst R) → RefL H' ts.length (fun j => redV (ts.getD j 0) b) R → Q (.ref p) H'
theorem ok_law_pairs_of (B : Bt mg) (L : Cls K mg CT CR CM CW) (D : DefAt K mg "_law_pairs_of" s_law_pairs_of) (c_Row_entries : PropC P w K mg base CW "entries" 1 (sp_Row_entries K CW)) (c_Ratio_top : PropC P w K mg base CR "top" 1 (sp_Ratio_top K CR)) (c_Ratio_bottom : PropC P w K mg base CR "bottom" 1 (sp_Ratio_bottom K CR)) : Cal P w K mg base "_law_pairs_of" 3 (sp_law_pairs_of K CW CR) := by
  refine D.cal sc_law_pairs_of (fun vs H Q E h => ?_) (fun _ _ _ _ _ _ us hl => match us, hl with | [_], _ => rfl) (fun cfa cdv cA cO cs H vs Q E hr h => ?_)
  · obtain ⟨a, ts, b, rfl, hrow, hn, q⟩ := h
    rfl
  obtain ⟨a, ts, b, rfl, hrow, hn, q⟩ := h
  refine ⟨_, (pss_one (ps_ret (pe_lc (own := [("_law_one", 1)]) rfl sc_law_pairs_of.nd (pi_tup (pe_prop (pv 0) L.W.cls c_Row_entries (hr.mono (by decide)))) (blkOk_by (N := N_law_pairs_of) (sc := defScope s_law_pairs_of) (by decide +kernel)) (fun _ _ _ _ _ => (pg_name (x := "_law_one") (i := 1) sc_law_pairs_of.nd rfl (by first | exact .inl rfl | exact .inr rfl))) (fun _ _ _ _ _ => pts_nil) (fun _ _ _ _ _ => (pe_tup (pa_cons (pe_prop (pv 1) L.R.cls c_Ratio_top (hr.mono (by decide))) (pa_cons (pe_prop (pv 1) L.R.cls c_Ratio_bottom (hr.mono (by decide))) pa_nil))))))), ?_⟩
  obtain ⟨T, En, es, h0, h4, h2, h1, hT, hEn, hlen, hes⟩ := hrow
  walk_at "rd"
  refine r_propV rfl h1 ?_
  refine ⟨a, En, rfl, h1, ?_⟩
  refine ⟨En, rfl, ⟨_, sqT hEn⟩, fun D hD => lc_tup (xs := es) (fun k H2 => Evl.Ex H H2 ∧ ∃ R, H2 D = some (.lst R) ∧ RefL H2 k (fun j => redV (ts.getD j 0) b) R) ⟨Evl.Ex.new hD, [], upd_same, RefL.nil _ _⟩ (fun k H2 _ hp => sqT (hp.1 En _ hEn)) (fun k x H2 hx hp => ?_) (fun H2 hp => ?_)⟩
  · obtain ⟨he2, R, hl2, hR⟩ := hp
    have hk := lt_of_get hx
    rw [hlen] at hk
    obtain ⟨r, g1, g2⟩ := hes k hk
    rw [hx] at g1
    cases g1
    have g3 := g2.ex he2
    walk_at "rd"
    refine ⟨rfl, ?_⟩
    walk_at "rd"
    refine iteT ?_
    walk_at "rd"
    refine r_propV rfl g3.1 ?_
    refine ⟨r, _, _, rfl, g3, ?_⟩
    walk_at "rd"
    refine r_propV rfl g3.1 ?_
    refine ⟨r, _, _, rfl, g3, ?_⟩
    walk_at "rd"
    refine ⟨by show 2 ≤ sizeLine; decide, fun t ht => ?_⟩
    exact cw_tup (g := fun j => redV (ts.getD j 0) b) he2 hD hl2 hR ht (by omega)
  · obtain ⟨he2, R, hl2, hR⟩ := hp
    rw [hlen] at hR
    exact q D R hD H2 he2 hl2 hR
abbrev s_law_dd_is_row : Stmt := top 74
abbrev N_law_dd_is_row : List Str := ["_law_told", "_law_row", "_law_modulus"]
theorem sc_law_dd_is_row : FnScope N_law_dd_is_row ["_law_told", "_law_row", "_law_modulus"] (defScope s_law_dd_is_row) := ⟨rfl, rfl, rfl, by decide +kernel, rfl, by decide +kernel, by decide +kernel⟩
def sp_law_dd_is_row (K : PySem.W.Frag) (CW CR : Addr) : Sp := fun vs H Q _ => ∃ (a : Addr) (ts : List Int) (b : Int) (p : Addr) (R : List V) (ns : List Int), vs = [.ref a, .ref p, .int 0] ∧ RowAt CW CR H a ts b ∧ H p = some (.lst R) ∧ RowL H ns (ns.length + 1) R ∧ ts.length = ns.length + 1 ∧ ns.length ≤ 24 ∧ (∀ j < ns.length + 1, redu (ts.getD j 0) b = redu (eN ns j) ((fac j : Nat) : Int)) ∧ ∀ H', Evl.Ex H H' → Q (.bl true) H'
theorem ok_law_dd_is_row (B : Bt mg) (L : Cls K mg CT CR CM CW) (D : DefAt K mg "_law_dd_is_row" s_law_dd_is_row) (c_Row_degree : PropC P w K mg base CW "degree" 1 (sp_Row_degree K CW)) (c_Row_modulus : PropC P w K mg base CW "modulus" 1 (sp_Row_modulus K CW)) (c_law_pairs_of : Cal P w K mg base "_law_pairs_of" 3 (sp_law_pairs_of K CW CR)) : Cal P w K mg base "_law_dd_is_row" 4 (sp_law_dd_is_row K CW CR) := by
  refine D.cal sc_law_dd_is_row (fun vs H Q E h => ?_) (fun _ _ _ _ _ _ us hl => match us, hl with | [_, _, _], _ => rfl) (fun cfa cdv cA cO cs H vs Q E hr h => ?_)
  · obtain ⟨a, ts, b, p, R, ns, rfl, hrow, hp, hR, hn, hn2, heq, q⟩ := h
    rfl
  obtain ⟨a, ts, b, p, R, ns, rfl, hrow, hp, hR, hn, hn2, heq, q⟩ := h
  refine ⟨_, (pss_cons (ps_if (PW.pt (pw_or (pt_cmpR op_ne (pe_prop (pv 0) L.W.cls c_Row_degree (hr.mono (by decide))) (pe_op op_sub (pe_callB (k_len) (by rfl) B.len (by decide +kernel) (pa_cons (pv 1) pa_nil)) pe_int) (nomark _)) (pw_or1 (pt_cmpR op_ne (pe_prop (pv 0) L.W.cls c_Row_modulus (hr.mono (by decide))) (pv 2) (nomark _))))) (pss_one (ps_ret pe_bl)) pss_nil)
      (pss_cons (ps_if (pt_cmpR op_eq (pv 2) pe_int (nomark _)) (pss_one (ps_ret (pe_cmpR (op_eqD hr.units) (pe_cal c_law_pairs_of (hr.mono (by decide)) (by rfl) (pa_cons (pv 0) pa_nil)) (pv 1) (nomark _)))) pss_nil)
      (pss_one ps_never))), ?_⟩
  obtain ⟨T, En, es, h0, h4, h2, h1, hT, hEn, hlen, hes⟩ := hrow
  walk_at "rd"
  refine r_propV rfl h4 ?_
  refine ⟨a, T, _, rfl, h4, hT, ?_⟩
  walk_at "rd"
  refine r_lenL (sqL hp) ?_
  walk_at "rd"
  refine ite_nd (fun e => absurd ?_ e) (fun _ => ?_)
  · rw [hR.1, List.length_map, hn]
  walk_at "rd"
  refine r_propV rfl h2 ?_
  refine ⟨a, _, rfl, h2, ?_⟩
  walk_at "rd"
  refine ite_nd (fun e => absurd rfl e) (fun _ => ?_)
  walk_at "rd"
  refine ite_d (fun _ => ?_) (fun e => absurd rfl e)
  walk_at "rd"
  refine ⟨a, ts, b, rfl, ⟨T, En, es, h0, h4, h2, h1, hT, hEn, hlen, hes⟩, by omega, fun o R2 ho H1 he1 ho1 hR2 => ?_⟩
  walk_at "rd"
  have e1 : DpAll K H1 R2 (pdat (fun j => redu (eN ns j) ((fac j : Nat) : Int)) (ns.length + 1)) := refl_dp (by rw [← hn]; exact hR2) fun j hj => by
    show redV _ _ = _
    unfold redV
    rw [heq j hj]
  have e2 : DpAll K H1 R (pdat (fun j => redu (eN ns j) ((fac j : Nat) : Int)) (ns.length + 1)) := refl_dp (g := rowv ns) (hR.ex he1) fun j hj => rfl
  refine ⟨_, _, .lst (sqL ho1) e1, .lst (sqL (he1 p _ hp)) e2, pdat_shaped _ _, pdat_shaped _ _, ?_⟩
  rw [SeqAt.eqv_refl _ (SeqAt.canLay_of_shaped (pdat_shaped _ _))]
  exact q H1 he1
end
end G
set_option Elab.async false
set_option linter.all false
set_option maxRecDepth 100000
set_option maxHeartbeats 4000000
namespace G
open PySem PySem.Spec PyProof.Rows L2 SlX GxR
local macro_rules | `(tactic| walk_at "rd") => `(tactic| repeat (first
  | (with_reducible first
  | refine r_seq ?_ | refine r_asg ?_ | refine r_c ?_ | refine r_op ?_ | refine r_cons ?_ | refine r_nil ?_ | refine r_cb ?_ | refine r_cal ?_ | refine r_I0 ?_ | refine r_gname ?_
  | refine r_test ?_ | refine r_k ?_ | refine r_B ?_ | refine r_ifs ?_ | refine r_eqI ?_ | refine r_neI ?_ | refine r_un ?_ | refine r_U ?_ | refine r_par ?_ | refine r_vw ?_ | refine r_ret ?_ | refine r_drop ?_
  | refine r_next ?_ | refine r_not ?_ | refine r_and ?_ | refine r_or ?_ | refine r_if ?_ | refine r_chain ?_ | refine r_ipI ?_ | refine r_abs ?_ | refine r_int1 ?_ | refine r_int1b ?_ | refine r_eqB ?_ | refine r_neB ?_
  | refine r_max2 ?_ | refine r_min2 ?_ | refine r_gcd ?_ | refine r_tup ?_ | refine r_lst ?_ | refine r_bm ?_ | refine r_for ?_ | refine r_rng1 ?_ | refine r_rng2 ?_ | refine r_ilist ?_ | refine r_itup ?_ | refine r_yes ?_ | refine r_lc ?_ | refine r_sub ?_
  | refine r_ssl ?_ | refine r_make ?_ | refine r_meth ?_ | refine r_gcons ?_ | refine r_gnil ?_ | refine r_andV0 ?_ | refine r_orV0 ?_ | refine r_notV ?_ | refine r_par3 ?_ | refine r_vwz ?_ | refine r_isN ?_ | refine r_notN ?_)
  | ((with_reducible refine' r_var ?k1 ?_); (case k1 => exact rfl))
  | ((with_reducible refine' r_aug ?k1 ?_); (case k1 => exact rfl))))
section
variable {P : Program} {w : World} {K : PySem.W.Frag} {mg : Str → Option Value} {base : Heap} {CT CR CM CW PT : Addr}
theorem r_sliceV {σ : L2.St} {H : Hp} {Q : VK} {r : V → Option Int → Option Int → Hp → VK → Prop} {te : TE} {tl th : TO} (q : te σ H fun x H1 => tl σ H1 fun l H2 => th σ H2 fun u H3 => r x l u H3 Q) : L2.tSl r te tl th σ H Q := q
theorem r_noPart {σ : L2.St} {H : Hp} {Q : Option Int → Hp → Prop} (q : Q none H) : tNoPart σ H Q := q
theorem r_part {σ : L2.St} {H : Hp} {te : TE} {Q : Option Int → Hp → Prop} (q : te σ H fun x H1 => ∃ i, x = .int i ∧ Q (some i) H1) : tPart te σ H Q := q
theorem r_slTake {K : PySem.W.Frag} {H : Hp} {Q : VK} {a : Addr} {xs : List V} {j : Nat} (h : SqT K H a xs) (hj : j < xs.length) (q : ∀ p, H p = none → Q (.ref p) (upd H p (.tup (xs.take j)))) : rSlT K (.ref a) none (some (j : Int)) H Q := by
  refine ⟨a, xs, rfl, h, fun hw => ?_, fun p hp => ?_⟩
  · have := hw.2
    rw [HT.sIx_nat] at this
    omega
  · have e : cutV xs none (some (j : Int)) = xs.take j := by
      unfold cutV
      rw [HT.sIx_none, HT.sIx_nat, List.drop_zero, Nat.sub_zero, Nat.min_eq_left (by omega)]
    rw [e]
    exact q p hp
/-- two objects may change -/
def ExD (d c : Addr) (H H' : Hp) : Prop := ∀ a o, a ≠ d → a ≠ c → H a = some o → H' a = some o
theorem ExD.trans {d c : Addr} {H H1 H2 : Hp} (x : ExD d c H H1) (y : ExD d c H1 H2) : ExD d c H H2 := fun a o n1 n2 h => y a o n1 n2 (x a o n1 n2 h)
theorem ExD.ofB {d c : Addr} {H H1 : Hp} (x : ExB d H H1) : ExD d c H H1 := fun a o n1 _ h => x a o n1 h
theorem ExD.ofC {d c : Addr} {H H1 : Hp} (x : ExB c H H1) : ExD d c H H1 := fun a o _ n2 h => x a o n2 h
theorem ExD.of {d c : Addr} {H H1 : Hp} (x : Evl.Ex H H1) : ExD d c H H1 := fun a o _ _ h => x a o h
theorem dice_tab {H : Hp} {d PT : Addr} (h : Dice H d) (t : TabG H PT) : PT ≠ d := fun e => by
  obtain ⟨l, m, c, h⟩ := h
  obtain ⟨ps, t, _⟩ := t
  rw [e, h] at t
  cases t
theorem tab_exB {d PT : Addr} {H H' : Hp} (e : ExB d H H') (n : PT ≠ d) (t : TabG H PT) : TabG H' PT := by
  obtain ⟨ps, h1, h2⟩ := t
  exact ⟨ps, e PT _ n h1, h2⟩
theorem dice_exB {d c : Addr} {H H' : Hp} (e : ExB c H H') (n : d ≠ c) (t : Dice H d) : Dice H' d := by
  obtain ⟨l, m, k, h⟩ := t
  exact ⟨l, m, k, e d _ n h⟩
theorem scal_opt (a b : Option Nat) : scal (optV a) (optV b) = true := by cases a <;> cases b <;> rfl
theorem r_eqO {a b : Option Nat} {H : Hp} {Q : VK} (h : a = b) (q : Q (.bl true) H) : rEq (optV a) (optV b) H Q := ⟨scal_opt a b, by rw [h, decide_eq_true rfl]; exact q⟩
theorem r_neO {a b : Option Nat} {H : Hp} {Q : VK} (h : a = b) (q : Q (.bl false) H) : rNe (optV a) (optV b) H Q := ⟨scal_opt a b, by rw [h, decide_eq_true rfl]; exact q⟩
theorem opt_non (a : Option Nat) : decide (optV a = V.non) = a.isNone := by
  cases a with
  | none => rfl
  | some k => exact decide_eq_false fun z => nomatch z
theorem r_isO {a : Option Nat} {H : Hp} {Q : VK} (q : Q (.bl a.isNone) H) : rIsN (optV a) .non H Q := ⟨rfl, by rw [opt_non]; exact q⟩
abbrev s_law_right : Stmt := top 84
abbrev N_law_right : List Str := ["_law_dice_here", "_law_numbers", "_law_fault", "_law_row", "_law_due"]
theorem sc_law_right : FnScope N_law_right ["_law_dice_here"] (defScope s_law_right) := ⟨rfl, rfl, rfl, by decide +kernel, rfl, by decide +kernel, by decide +kernel⟩
def sp_law_right (K : PySem.W.Frag) (CM CW CR PT : Addr) : Sp := fun vs H Q _ => ∃ (d : Addr), vs = [.ref d] ∧ Dice H d ∧ TabG H PT ∧ ∀ H', ExD d PT H H' → Dice H' d → TabG H' PT → Q (.bl true) H'
theorem ok_law_right (B : Bt mg) (L : Cls K mg CT CR CM CW) (D : DefAt K mg "_law_right" s_law_right) (c_law_drawn : Cal P w K mg base "_law_drawn" 4 (sp_law_drawn K)) (c_law_gh_row : Cal P w K mg base "_law_gh_row" 4 (sp_law_gh_row K)) (c_law_by_row : Cal P w K mg base "_law_by_row" 5 (sp_law_by_row K)) (c_law_dd_is_row : Cal P w K mg base "_law_dd_is_row" 4 (sp_law_dd_is_row K CW CR)) (c_ghost_row : Cal P w K mg base "ghost_row" 10 (sp_ghost_row K CM CW CR PT)) (c_are_ghosts : Cal P w K mg base "are_ghosts" 5 (sp_are_ghosts K)) (c_law_by_signs : Cal P w K mg base "_law_by_signs" 7 (sp_law_by_signs K)) (c_law_by_primes : Cal P w K mg base "_law_by_primes" 2 (sp_law_by_primes K)) (c_ghost_fault : Cal P w K mg base "ghost_fault" 5 (sp_ghost_fault K)) : Cal P w K mg base "_law_right" 11 (sp_law_right K CM CW CR PT) := by
  refine D.cal sc_law_right (fun vs H Q E h => ?_) (fun _ _ _ _ _ _ us hl => match us, hl with | [_], _ => rfl) (fun cfa cdv cA cO cs H vs Q E hr h => ?_)
  · obtain ⟨d, rfl, hd, ht, q⟩ := h
    rfl
  obtain ⟨d, rfl, hd, ht, q⟩ := h
  refine ⟨_, (pss_cons (ps_set (i := 1) sc_law_right.nd rfl (by first | exact .inl rfl | exact .inr rfl) (pe_cal c_law_drawn (hr.mono (by decide)) (by rfl) (pa_cons (pv 0) pa_nil)))
      (pss_cons (ps_par (i := 3) (j := 4) (by rfl) sc_law_right.nd rfl rfl (by decide) rfl rfl (pa_cons (pe_cal c_law_gh_row (hr.mono (by decide)) (by rfl) (pa_cons (pv 1) pa_nil)) (pa_cons (pe_cal c_law_by_row (hr.mono (by decide)) (by rfl) (pa_cons (pv 1) pa_nil)) pa_nil)) (by rfl))
      (pss_cons (ps_if (PW.pt (pw_or (pt_not (pt_val (pe_cal c_law_dd_is_row (hr.mono (by decide)) (by rfl) (pa_cons (pe_cal c_ghost_row (hr.mono (by decide)) (by rfl) (pa_cons (pv 1) pa_nil)) (pa_cons (pv 3) (pa_cons pe_int pa_nil)))))) (pw_or1 (pt_cmpR op_ne (pe_cal c_are_ghosts (hr.mono (by decide)) (by rfl) (pa_cons (pv 1) pa_nil)) (pe_cmpR o_isN (pv 4) pe_non (nomark _)) (nomark _))))) (pss_one (ps_ret pe_bl)) pss_nil)
      (pss_cons (ps_if (PW.pt (pw_or (pt_cmpR op_ne (pe_cmpR o_isN (pe_cal c_law_by_signs (hr.mono (by decide)) (by rfl) (pa_cons (pv 1) pa_nil)) pe_non (nomark _)) (pe_cmpR o_isN (pv 4) pe_non (nomark _)) (nomark _)) (pw_or1 (pt_cmpR op_ne (pe_cmpR o_isN (pe_cal c_law_by_primes (hr.mono (by decide)) (by rfl) (pa_cons (pv 1) pa_nil)) pe_non (nomark _)) (pe_cmpR o_isN (pv 4) pe_non (nomark _)) (nomark _))))) (pss_one (ps_ret pe_bl)) pss_nil)
      (pss_cons (ps_set (i := 2) sc_law_right.nd rfl (by first | exact .inl rfl | exact .inr rfl) (pe_cal c_ghost_fault (hr.mono (by decide)) (by rfl) (pa_cons (pv 1) pa_nil)))
      (pss_cons (ps_if (pt_cmpR op_ne (pv 2) (pe_cal c_law_by_signs (hr.mono (by decide)) (by rfl) (pa_cons (pv 1) pa_nil)) (nomark _)) (pss_one (ps_ret pe_bl)) pss_nil)
      (pss_one (ps_ret (pe_or (pe_cmpR o_isN (pv 4) pe_non (nomark _)) (pe_one (pe_and (pe_cmpR op_eq (pv 2) (pv 4) (nomark _)) (pe_and (pe_cmpR op_eq (pe_cal c_law_by_primes (hr.mono (by decide)) (by rfl) (pa_cons (pv 1) pa_nil)) (pv 4) (nomark _)) (pe_one (pe_or (pe_cmpR op_eq (pv 4) pe_int (nomark _)) (pe_one (pe_cal c_are_ghosts (hr.mono (by decide)) (by rfl) (pa_cons (pe_slice sl_tup (pv 1) po_none (po_some (pe_op op_sub (pv 4) pe_int))) pa_nil))))))))))))))))), ?_⟩
  have hPd := dice_tab hd ht
  walk_at "rd"
  refine ⟨d, rfl, hd, fun ns hn hs p hp H1 e1 hd1 hk1 => ?_⟩
  have ht1 := tab_exB e1 hPd ht
  have hs40 : SmallN (2 ^ 40) ns := fun n h => Nat.le_trans (hs n h) (by decide)
  have hgood : Good ns := good_of (by omega) hs40
  have hdue := due_fault hn.2
  have hprim : primN ns = faultN ns := (due_prim hn.2).symm.trans hdue
  walk_at "rd"
  refine ⟨p, ns, rfl, hk1, by omega, hs40, fun R o ho H2 e2 ho2 hR => ?_⟩
  walk_at "rd"
  refine ⟨p, ns, rfl, e2 p _ hk1, by omega, hs40, fun H3 e3 => ?_⟩
  rw [hdue]
  have e13 := e2.trans e3
  have hk3 := e13 p _ hk1
  have ht3 := tab_ex e13 ht1
  have hd3 := hd1.ex e13
  walk_at "rd"
  refine ⟨p, ns, rfl, hk3, hn, hs40, ht3, fun x H4 hx e4 ht4 hrow => ?_⟩
  have hPp : p ≠ PT := fun e => by
    obtain ⟨ps, t1, _⟩ := ht3
    rw [← e, hk3] at t1
    cases t1
  have hPo : o ≠ PT := fun e => by
    obtain ⟨ps, t1, _⟩ := ht3
    rw [← e, e3 o _ ho2] at t1
    cases t1
  have hk4 := e4 p _ hPp hk3
  have ho4 := e4 o _ hPo (e3 o _ ho2)
  have hR4 : RowL H4 ns (ns.length + 1) R := ⟨hR.1, fun j hj => by
    obtain ⟨r, g1, g2⟩ := (hR.ex e3).2 j hj
    refine ⟨r, g1, e4 r _ (fun e => ?_) g2⟩
    obtain ⟨ps, t1, _⟩ := ht3
    rw [← e, g2] at t1
    cases t1⟩
  have hd4 := dice_exB e4 (Ne.symm hPd) hd3
  have hB0 := lnB_pos (numP_pos ns)
  walk_at "rd"
  refine ⟨x, rowTs ns, rowBo ns, o, R, ns, rfl, hrow, ho4, hR4, by unfold rowTs; rw [lnTs_len, expP_len], by omega, fun j hj => expP_redu (by omega) (by omega), fun H5 e5 => ?_⟩
  walk_at "rd"
  refine iteF ?_
  walk_at "rd"
  refine ⟨.ref p, _, rfl, .inr ⟨p, ns, rfl, e5 p _ hk4, hgood, rfl⟩, fun H6 e6 => ?_⟩
  walk_at "rd"
  refine ite_nd (fun e => absurd (opt_non _).symm e) (fun _ => ?_)
  walk_at "rd"
  refine ⟨p, ns, rfl, (e5.trans e6) p _ hk4, by omega, fun H7 e7 => ?_⟩
  walk_at "rd"
  refine ite_nd (fun e => absurd rfl e) (fun _ => ?_)
  walk_at "rd"
  refine ⟨p, ns, rfl, (e5.trans (e6.trans e7)) p _ hk4, by omega, fun H8 e8 => ?_⟩
  rw [hprim]
  walk_at "rd"
  refine ite_nd (fun e => absurd rfl e) (fun _ => ?_)
  walk_at "rd"
  refine ⟨p, ns, rfl, (e5.trans (e6.trans (e7.trans e8))) p _ hk4, hgood, fun H9 e9 => ?_⟩
  walk_at "rd"
  refine ⟨p, ns, rfl, (e5.trans (e6.trans (e7.trans (e8.trans e9)))) p _ hk4, by omega, fun H10 e10 => ?_⟩
  refine r_neO rfl ?_
  walk_at "rd"
  refine iteF ?_
  have e410 := e5.trans (e6.trans (e7.trans (e8.trans (e9.trans e10))))
  have hk10 := e410 p _ hk4
  have fin : ∀ H', Evl.Ex H10 H' → Q (.bl true) H' := fun H' e => q H' (((ExD.ofB e1).trans (.of e13)).trans ((ExD.ofC e4).trans (.of (e410.trans e)))) (hd4.ex (e410.trans e)) (tab_ex (e410.trans e) ht4)
  walk_at "rd"
  cases hf : faultN ns with
  | none =>
    refine iteT ?_
    exact fin H10 (.refl _)
  | some k =>
    obtain ⟨hk1', hk2'⟩ := fault_ge hf
    refine iteF ?_
    walk_at "rd"
    refine r_eqO rfl ?_
    walk_at "rd"
    refine iteT ?_
    walk_at "rd"
    refine ⟨p, ns, rfl, hk10, by omega, fun H11 e11 => ?_⟩
    rw [hprim, hf]
    walk_at "rd"
    refine r_eqO rfl ?_
    walk_at "rd"
    refine iteT ?_
    walk_at "rd"
    refine r_eqI (a := (k : Int)) ?_
    walk_at "rd"
    refine ite_d (fun _ => fin H11 e11) (fun e => ?_)
    walk_at "rd"
    refine r_sliceV ?_
    walk_at "rd"
    refine r_noPart ?_
    refine r_part ?_
    walk_at "rd"
    refine r_I0 (a := (k : Int)) (b := 1) ?_
    refine ⟨_, rfl, ?_⟩
    rw [show (k : Int) - 1 = ((k - 1 : Nat) : Int) by omega]
    refine r_slTake (sqT (e11 p _ hk10)) (by rw [List.length_map]; omega) fun t ht' => ?_
    walk_at "rd"
    rw [← List.map_take]
    have gt : Good (ns.take (k - 1)) := good_of (by rw [List.length_take]; have : k ≠ 1 := fun z => e (by rw [z]; rfl); omega) fun n hn' => hs40 n (List.mem_of_mem_take hn')
    refine ⟨.ref t, _, rfl, .inr ⟨t, ns.take (k - 1), rfl, upd_same, gt, rfl⟩, fun H12 e12 => ?_⟩
    rw [fault_before hf]
    exact fin H12 (e11.trans ((Evl.Ex.new ht').trans e12))
end
end G
set_option Elab.async false
set_option linter.all false
set_option maxRecDepth 100000
set_option maxHeartbeats 4000000
namespace G
open PySem PySem.Spec PyProof.Rows L2 SlX GxR
local macro_rules | `(tactic| walk_at "rd") => `(tactic| repeat (first
  | (with_reducible first
  | refine r_seq ?_ | refine r_asg ?_ | refine r_c ?_ | refine r_op ?_ | refine r_cons ?_ | refine r_nil ?_ | refine r_cb ?_ | refine r_cal ?_ | refine r_I0 ?_ | refine r_gname ?_
  | refine r_test ?_ | refine r_k ?_ | refine r_B ?_ | refine r_ifs ?_ | refine r_eqI ?_ | refine r_neI ?_ | refine r_un ?_ | refine r_U ?_ | refine r_par ?_ | refine r_vw ?_ | refine r_ret ?_ | refine r_drop ?_
  | refine r_next ?_ | refine r_not ?_ | refine r_and ?_ | refine r_or ?_ | refine r_if ?_ | refine r_chain ?_ | refine r_ipI ?_ | refine r_abs ?_ | refine r_int1 ?_ | refine r_int1b ?_ | refine r_eqB ?_ | refine r_neB ?_
  | refine r_max2 ?_ | refine r_min2 ?_ | refine r_gcd ?_ | refine r_tup ?_ | refine r_lst ?_ | refine r_bm ?_ | refine r_for ?_ | refine r_rng1 ?_ | refine r_rng2 ?_ | refine r_ilist ?_ | refine r_itup ?_ | refine r_yes ?_ | refine r_lc ?_ | refine r_sub ?_
  | refine r_ssl ?_ | refine r_make ?_ | refine r_meth ?_ | refine r_gcons ?_ | refine r_gnil ?_ | refine r_andV0 ?_ | refine r_orV0 ?_ | refine r_notV ?_ | refine r_par3 ?_ | refine r_vwz ?_ | refine r_isN ?_ | refine r_notN ?_)
  | ((with_reducible refine' r_var ?k1 ?_); (case k1 => exact rfl))
  | ((with_reducible refine' r_aug ?k1 ?_); (case k1 => exact rfl))))
section
variable {P : Program} {w : World} {K : PySem.W.Frag} {mg : Str → Option Value} {base : Heap} {CT CR CM CW PT : Addr}
/-- str(x), x an instance with an own def for it -/
def rStrOwn (C : Addr) (sp : Sp) : List V → Hp → VK → Prop := fun xs H Q => ∃ a dx vs, xs = [V.ref a] ∧ Slt H a C dx vs ∧ sp [.ref a] H (fun z H' => ∃ y, z = .str y ∧ Q z H') E0
theorem k_strOwn {X : Cx} {C : Addr} {k : Nat} {sp : Sp} {x : Str} (L : ClsAt X.K X.mg x C) (mc : MethC X.prog X.w X.K X.mg X.base C "__str__" k sp) (hr : Room (k + 2) X.A) : CallR X (.type "str") (rStrOwn C sp) := by
  intro pins s σ H xs us Q I r h
  obtain ⟨g, hm, F⟩ := mc
  obtain ⟨a, dx, vs, rfl, hsl, q⟩ := h
  obtain ⟨u, rfl, ru⟩ := r.one
  cases (show u = Value.ref a from ru)
  obtain ⟨sl, od, _, J, _⟩ := slt_inst I hsl
  have hr2 : Room k X.A.in1.in1 := (show Room (k + 1) X.A.in1 from Room.in1 hr).in1
  refine PySem.W.kso_call (Nat.lt_of_le_of_lt (Nat.le_succ _) (hu_of hr2)) I.kIn J hm.at_ hm.fn (wpAny_mono (wpAny_call (run_at (us := [.ref a]) (ws := [.ref a]) F hr2 I.env0.in1.in1 pass0 I (.cons rfl .nil) q)) (fun w s' z => ?_) fun _ _ x => x)
  obtain ⟨z', H', I', rz, y, ey, qz⟩ := z
  subst ey
  obtain ⟨t, e⟩ := (show ∃ t, w = Value.str y t from rz)
  cases e
  exact ⟨.str y, H', I', ⟨t, rfl⟩, qz⟩
/-- what stands in the list of odd values -/
inductive Odd (H : Hp) : V → Prop
  | non : Odd H .non
  | lst {p : Addr} {xs : List V} (h : H p = some (.lst xs)) : Odd H (.ref p)
  | tup {p : Addr} {xs : List V} (h : H p = some (.tup xs)) (hl : xs.length ≤ 1000) (hs : ∀ x ∈ xs, Sc x) (hn : numsOk xs = false) : Odd H (.ref p)
  | str (x : Str) : Odd H (.str x)
  | dK {p : Addr} (h : H p = some (.dK [])) : Odd H (.ref p)
  | int (i : Int) : Odd H (.int i)
theorem Odd.ex {H H' : Hp} {v : V} (e : Evl.Ex H H') (h : Odd H v) : Odd H' v := by
  cases h with
  | non => exact .non
  | lst h => exact .lst (e _ _ h)
  | tup h a b c => exact .tup (e _ _ h) a b c
  | str x => exact .str x
  | dK h => exact .dK (e _ _ h)
  | int i => exact .int i
theorem Odd.any {K : PySem.W.Frag} {H : Hp} {v : V} (h : Odd H v) : AnyV K H v false := by
  cases h with
  | non => exact .inl ⟨"NoneType", .base .non, by decide +kernel, rfl⟩
  | lst h => exact .inl ⟨"list", .base (.lst h), by decide +kernel, rfl⟩
  | tup h a b c => exact .inr ⟨_, _, rfl, h, a, b, c.symm⟩
  | str x => exact .inl ⟨"str", .base (.str x), by decide +kernel, rfl⟩
  | dK h => exact .inl ⟨"dict", .base (.dK h), by decide +kernel, rfl⟩
  | int i => exact .inl ⟨"int", .base (.int i), by decide +kernel, rfl⟩
theorem sqL_exB {K : PySem.W.Frag} {H H' : Hp} {PT a : Addr} {xs : List V} (e : ExB PT H H') (t : TabG H PT) (h : SqL K H a xs) : SqL K H' a xs := by
  have n : ∀ u, H a = some u → (∀ q, u ≠ .tbl q) → a ≠ PT := fun u hu hq z => by
    obtain ⟨ps, t1, _⟩ := t
    rw [← z, hu] at t1
    exact hq ps (Option.some.inj t1)
  rcases h with (h | ⟨o, h⟩) | h
  · exact .inl (.inl (e a _ (n _ h fun q z => by cases z) h))
  · exact .inl (.inr ⟨o, e a _ (n _ h fun q z => by cases z) h⟩)
  · exact .inr h
theorem r_repT {K : PySem.W.Frag} {H : Hp} {Q : VK} {l : Addr} {k : Int} {xs : List V} (h : SqT K H l xs) (hx : xs ≠ []) (h1 : 2 ≤ k) (h2 : k ≤ 1000) (h3 : xs.length ≤ 1000) (q : ∀ p, H p = none → Q (.ref p) (upd H p (.tup (List.replicate k.toNat xs).flatten))) : rRepT K (.ref l) (.int k) H Q := ⟨l, k, xs, rfl, rfl, h, hx, h1, h2, h3, q⟩
theorem r_dnewK {σ : L2.St} {H : Hp} {Q : VK} (q : ∀ p, H p = none → Q (.ref p) (upd H p (.dK []))) : tDNewK σ H Q := q
theorem r_strOwn {H : Hp} {Q : VK} {C a : Addr} {i : Nat} {v : V} {sp : Sp} (h : Has H C a i v) (q : sp [.ref a] H (fun z H' => ∃ y, z = .str y ∧ Q z H') E0) : rStrOwn C sp [.ref a] H Q := by
  obtain ⟨dx, vs, h1, _⟩ := h
  exact ⟨a, dx, vs, rfl, h1, q⟩
abbrev s_law : Stmt := top 85
abbrev N_law : List Str := ["_law_script", "_law_spot", "_law_dice_here", "_law_turn", "_law_odd", "_law_value", "_law_told"]
theorem sc_law : FnScope N_law ["_law_script"] (defScope s_law) := ⟨rfl, rfl, rfl, by decide +kernel, rfl, by decide +kernel, by decide +kernel⟩
def sp_law (K : PySem.W.Frag) (PT : Addr) : Sp := fun vs H Q _ => ∃ (a : Addr) (ns : List Int), vs = [.ref a] ∧ SqL K H a (ns.map V.int) ∧ TabG H PT ∧ ∀ H', Q (.bl true) H'
theorem ok_law (B : Bt mg) (L : Cls K mg CT CR CM CW) {f : Addr} {fd : FuncData} (D : FunD K "law" "law" (defArgs s_law) (defBody s_law) (defScope s_law) [] [] f fd) (c_law_dice : Cal P w K mg base "_law_dice" 1 (sp_law_dice K)) (c_law_right : Cal P w K mg base "_law_right" 11 (sp_law_right K CM CW CR PT)) (c_are_ghosts : Cal P w K mg base "are_ghosts" 5 (sp_are_ghosts K)) (c_ghost_row : Cal P w K mg base "ghost_row" 10 (sp_ghost_row K CM CW CR PT)) (c_Row_whole : MethC P w K mg base CW "whole" 1 (sp_Row_whole K CW)) (c_ghost_fault : Cal P w K mg base "ghost_fault" 5 (sp_ghost_fault K)) (c_Row___str__ : MethC P w K mg base CW "__str__" 3 (sp_Row___str__ K CW)) : FnOk P w K mg base CX0 12 f fd ["_law_script"] (sp_law K PT) := by
  refine fn_run D sc_law (fun vs H Q E h => ?_) (fun cfa cdv cA cO cs H vs Q E _ hr h => ?_)
  · obtain ⟨a, ns, rfl, ha, ht, q⟩ := h
    rfl
  obtain ⟨a, ns, rfl, ha, ht, q⟩ := h
  refine ⟨_, (pss_cons (ps_for PassesOwn.never rfl (pi_range1 (by rfl) B.range (pa_cons (pe_callB (k_max2 rfl) (by rfl) B.max (by decide +kernel) (pa_cons pe_int (pa_cons (pe_callB (k_min2 rfl) (by rfl) B.min (by decide +kernel) (pa_cons pe_int (pa_cons (pe_callB (k_len) (by rfl) B.len (by decide +kernel) (pa_cons (pv 0) pa_nil)) pa_nil))) pa_nil))) pa_nil)) (pg_name (i := 1) sc_law.nd rfl (by first | exact .inl rfl | exact .inr rfl)) (pss_cons (ps_set (i := 2) sc_law.nd rfl (by first | exact .inl rfl | exact .inr rfl) (pe_cal c_law_dice (hr.mono (by decide)) (by rfl) (pa_cons (pv 0) (pa_cons (pv 1) pa_nil))))
      (pss_one (ps_for PassesOwn.never rfl (pi_range1 (by rfl) B.range (pa_cons pe_int pa_nil)) (pg_name (i := 3) sc_law.nd rfl (by first | exact .inl rfl | exact .inr rfl)) (pss_one (ps_if (pt_not (pt_val (pe_cal c_law_right (hr.mono (by decide)) (by rfl) (pa_cons (pv 2) pa_nil)))) (pss_one (ps_ret pe_bl)) pss_nil))))))
      (pss_cons (ps_set (i := 4) sc_law.nd rfl (by first | exact .inl rfl | exact .inr rfl) (pe_lst (pa_cons pe_non (pa_cons (pe_tup pa_nil) (pa_cons (pe_lst (pa_cons pe_int (pa_cons pe_int pa_nil))) (pa_cons (pe_tup (pa_cons pe_int (pa_cons pe_non pa_nil))) (pa_cons (pe_tup (pa_cons pe_bl pa_nil)) (pa_cons pe_str (pa_cons (pe_op op_repT (pe_tup (pa_cons pe_int pa_nil)) pe_int) (pa_cons (pe_tup (pa_cons (pe_op op_pow pe_int pe_int) pa_nil)) (pa_cons pe_dnewK (pa_cons pe_int pa_nil))))))))))))
      (pss_cons (ps_if (PW.pt (pw_or (pt_cmpR (op_neD hr.units) (pe_lc (own := [("_law_value", 5)]) rfl sc_law.nd (pi_list (pv 4)) (blkOk_by (N := N_law) (sc := defScope s_law) (by decide +kernel)) (fun _ _ _ _ _ => (pg_name (x := "_law_value") (i := 5) sc_law.nd rfl (by first | exact .inl rfl | exact .inr rfl))) (fun _ _ _ _ _ => (pts_one (pt_val (pe_cal c_are_ghosts (hr.mono (by decide)) (by rfl) (pa_cons (pv 5) pa_nil))))) (fun _ _ _ _ _ => (pv 5))) (pe_lst pa_nil) (nomark _)) (pw_or1 (pt_not (pt_val (pe_cal c_are_ghosts (hr.mono (by decide)) (by rfl) (pa_cons (pe_op op_repT (pe_tup (pa_cons pe_int pa_nil)) pe_int) pa_nil))))))) (pss_one (ps_ret pe_bl)) pss_nil)
      (pss_cons (ps_set (i := 6) sc_law.nd rfl (by first | exact .inl rfl | exact .inr rfl) (pe_lst (pa_cons (pe_cal c_are_ghosts (hr.mono (by decide)) (by rfl) (pa_cons (pe_tup (pa_cons pe_int (pa_cons pe_int (pa_cons pe_int (pa_cons pe_int (pa_cons pe_int (pa_cons pe_int pa_nil))))))) pa_nil)) (pa_cons (pe_meth0 (pl := plainOf _ _) (pe_cal c_ghost_row (hr.mono (by decide)) (by rfl) (pa_cons (pe_tup (pa_cons pe_int (pa_cons pe_int (pa_cons pe_int (pa_cons pe_int (pa_cons pe_int (pa_cons pe_int pa_nil))))))) pa_nil)) L.W.cls c_Row_whole (hr.mono (by decide))) (pa_cons (pe_cal c_ghost_fault (hr.mono (by decide)) (by rfl) (pa_cons (pe_tup (pa_cons pe_int (pa_cons pe_int pa_nil))) pa_nil)) (pa_cons (pe_callTy (k_strOwn L.W c_Row___str__ (hr.mono (by decide))) (by rfl) B.str (by decide +kernel) (pa_cons (pe_cal c_ghost_row (hr.mono (by decide)) (by rfl) (pa_cons (pe_tup (pa_cons pe_int (pa_cons pe_int pa_nil))) pa_nil)) pa_nil)) pa_nil))))))
      (pss_one (ps_ret (pe_cmpR (op_eqD hr.units) (pv 6) (pe_lst (pa_cons pe_bl (pa_cons (pe_tup (pa_cons pe_int (pa_cons pe_int (pa_cons pe_int (pa_cons pe_int (pa_cons pe_int (pa_cons pe_int (pa_cons pe_int pa_nil)))))))) (pa_cons pe_int (pa_cons pe_str pa_nil))))) (nomark _)))))))), ?_⟩
  walk_at "rd"
  refine r_lenL ha ?_
  walk_at "rd"
  refine ⟨_, rfl, by split <;> split <;> omega, by split <;> split <;> omega, for_range (lo := 0) (n := _) (fun i σ' H' => ∃ y z u, σ' = [some (.ref a), y, z, u, none, none, none] ∧ ExB PT H H' ∧ TabG H' PT) ⟨_, _, _, rfl, .refl _ _, ht⟩ (fun i σ' H' hi hp => ?_) (fun σ' H' hp => ?_)⟩
  · obtain ⟨y, z, u, rfl, he, htb⟩ := hp
    have hi3 : i ≤ 1000 := by
      have : i < 3 + 1 := Nat.lt_of_lt_of_le hi (by split <;> split <;> omega)
      omega
    walk_at "rd"
    rw [Int.zero_add]
    refine ⟨a, ns, i, rfl, sqL_exB he ht ha, hi3, fun d l m c hd => ?_⟩
    walk_at "rd"
    have hd0 : H d = none := by
      cases k : H d with
      | none => rfl
      | some o =>
        have h1 := he d o (fun z => by
          obtain ⟨ps, t1, _⟩ := htb
          rw [z, t1] at hd
          cases hd) k
        rw [hd] at h1
        cases h1
    refine ⟨_, rfl, by decide, by decide, for_range (lo := 0) (n := (4 : Int).toNat) (fun j σ2 H2 => ∃ u, σ2 = [some (.ref a), some (.int (i : Int)), some (.ref d), u, none, none, none] ∧ ExB PT H H2 ∧ Dice H2 d ∧ TabG H2 PT) ⟨_, rfl, he.trans (.new hd), ⟨_, _, _, upd_same⟩, tab_ex (.new hd) htb⟩ (fun j σ2 H2 hj hp => ?_) (fun σ2 H2 hp => ?_)⟩
    · obtain ⟨u, rfl, he2, hdi, htb2⟩ := hp
      walk_at "rd"
      refine ⟨d, rfl, hdi, htb2, fun H3 e3 hd3 ht3 => ?_⟩
      walk_at "rd"
      refine iteF ?_
      walk_at "rd"
      exact ⟨_, rfl, fun x o n hx => e3 x o (fun z => by rw [z, hd0] at hx; cases hx) n (he2 x o n hx), hd3, ht3⟩
    · obtain ⟨u, rfl, he2, hdi, htb2⟩ := hp
      walk_at "rd"
      exact ⟨_, _, _, rfl, he2, htb2⟩
  · obtain ⟨y, z, u, rfl, he, htb⟩ := hp
    walk_at "rd"
    refine ⟨by show _ ≤ sizeLine; decide, fun t1 ht1 => ?_⟩
    have ft1 : upd H' t1 (.tup []) t1 = some (.tup []) := upd_same
    have e1 : Evl.Ex H' (upd H' t1 (.tup [])) := .new ht1
    generalize upd H' t1 (.tup []) = G1 at ft1 e1
    walk_at "rd"
    refine ⟨by show _ ≤ sizeLine; decide, fun l1 hl1 => ?_⟩
    have fl1 : upd G1 l1 (.lst [.int 1, .int 3]) l1 = some (.lst [.int 1, .int 3]) := upd_same
    have e2 : Evl.Ex G1 (upd G1 l1 (.lst [.int 1, .int 3])) := .new hl1
    generalize upd G1 l1 (.lst [.int 1, .int 3]) = G2 at fl1 e2
    walk_at "rd"
    refine ⟨by show _ ≤ sizeLine; decide, fun t2 ht2 => ?_⟩
    have ft2 : upd G2 t2 (.tup [.int 1, .non]) t2 = some (.tup [.int 1, .non]) := upd_same
    have e3 : Evl.Ex G2 (upd G2 t2 (.tup [.int 1, .non])) := .new ht2
    generalize upd G2 t2 (.tup [.int 1, .non]) = G3 at ft2 e3
    walk_at "rd"
    refine ⟨by show _ ≤ sizeLine; decide, fun t3 ht3 => ?_⟩
    have ft3 : upd G3 t3 (.tup [.bl true]) t3 = some (.tup [.bl true]) := upd_same
    have e4 : Evl.Ex G3 (upd G3 t3 (.tup [.bl true])) := .new ht3
    generalize upd G3 t3 (.tup [.bl true]) = G4 at ft3 e4
    walk_at "rd"
    refine ⟨by show _ ≤ sizeLine; decide, fun t4 ht4 => ?_⟩
    have ft4 : upd G4 t4 (.tup [.int 1]) t4 = some (.tup [.int 1]) := upd_same
    have e5 : Evl.Ex G4 (upd G4 t4 (.tup [.int 1])) := .new ht4
    generalize upd G4 t4 (.tup [.int 1]) = G5 at ft4 e5
    walk_at "rd"
    refine r_repT (sqT ft4) (by simp) (by decide) (by decide) (by decide) fun t5 ht5 => ?_
    have ft5 : upd G5 t5 (.tup (List.replicate (25 : Int).toNat [V.int 1]).flatten) t5 = some (.tup (List.replicate (25 : Int).toNat [V.int 1]).flatten) := upd_same
    have e6 : Evl.Ex G5 (upd G5 t5 (.tup (List.replicate (25 : Int).toNat [V.int 1]).flatten)) := .new ht5
    generalize upd G5 t5 (.tup (List.replicate (25 : Int).toNat [V.int 1]).flatten) = G6 at ft5 e6
    walk_at "rd"
    refine r_I ⟨by decide, by decide, by decide⟩ ?_
    walk_at "rd"
    refine ⟨by show _ ≤ sizeLine; decide, fun t6 ht6 => ?_⟩
    have et6 : numsOk [V.int ((10 : Int) ^ (60 : Int).toNat)] = false := by decide +kernel
    generalize ht10 : (10 : Int) ^ (60 : Int).toNat = ten at ht6 et6
    have ft6 : upd G6 t6 (.tup [.int ten]) t6 = some (.tup [.int ten]) := upd_same
    have e7 : Evl.Ex G6 (upd G6 t6 (.tup [.int ten])) := .new ht6
    generalize upd G6 t6 (.tup [.int ten]) = G7 at ft6 e7
    walk_at "rd"
    refine r_dnewK fun d1 hd1 => ?_
    have fd1 : upd G7 d1 (.dK []) d1 = some (.dK []) := upd_same
    have e8 : Evl.Ex G7 (upd G7 d1 (.dK [])) := .new hd1
    generalize upd G7 d1 (.dK []) = G8 at fd1 e8
    walk_at "rd"
    refine ⟨by show 10 ≤ sizeLine; decide, fun lo hlo => ?_⟩
    have flo : upd G8 lo (.lst [.non, .ref t1, .ref l1, .ref t2, .ref t3, .str "1", .ref t5, .ref t6, .ref d1, .int 5]) lo = some (.lst [.non, .ref t1, .ref l1, .ref t2, .ref t3, .str "1", .ref t5, .ref t6, .ref d1, .int 5]) := upd_same
    have e9 : Evl.Ex G8 (upd G8 lo (.lst [.non, .ref t1, .ref l1, .ref t2, .ref t3, .str "1", .ref t5, .ref t6, .ref d1, .int 5])) := .new hlo
    generalize upd G8 lo (.lst [.non, .ref t1, .ref l1, .ref t2, .ref t3, .str "1", .ref t5, .ref t6, .ref d1, .int 5]) = G9 at flo e9
    have u8 := e9
    have u7 := e8.trans u8
    have u6 := e7.trans u7
    have u5 := e6.trans u6
    have u4 := e5.trans u5
    have u3 := e4.trans u4
    have u2 := e3.trans u3
    have u1 := e2.trans u2
    have u0 := e1.trans u1
    have hodd : ∀ x ∈ ([.non, .ref t1, .ref l1, .ref t2, .ref t3, .str "1", .ref t5, .ref t6, .ref d1, .int 5] : List V), Odd G9 x := fun x hx => by
      rcases List.mem_cons.mp hx with rfl | hx
      · exact .non
      rcases List.mem_cons.mp hx with rfl | hx
      · exact .tup (u1 t1 _ ft1) (by decide) (fun x hx => nomatch hx) (by decide +kernel)
      rcases List.mem_cons.mp hx with rfl | hx
      · exact .lst (u2 l1 _ fl1)
      rcases List.mem_cons.mp hx with rfl | hx
      · refine .tup (u3 t2 _ ft2) (by decide) (fun x hx => ?_) (by decide +kernel)
        rcases List.mem_cons.mp hx with rfl | hx
        · exact .inr (.inr ⟨_, rfl⟩)
        · rw [List.mem_singleton.mp hx]; exact .inl rfl
      rcases List.mem_cons.mp hx with rfl | hx
      · refine .tup (u4 t3 _ ft3) (by decide) (fun x hx => ?_) (by decide +kernel)
        rw [List.mem_singleton.mp hx]
        exact .inr (.inl ⟨_, rfl⟩)
      rcases List.mem_cons.mp hx with rfl | hx
      · exact .str _
      rcases List.mem_cons.mp hx with rfl | hx
      · refine .tup (u6 t5 _ ft5) (by decide) (fun x hx => ?_) (by decide +kernel)
        obtain ⟨l, hl, hx⟩ := List.mem_flatten.mp hx
        rw [List.eq_of_mem_replicate hl] at hx
        rw [List.mem_singleton.mp hx]
        exact .inr (.inr ⟨_, rfl⟩)
      rcases List.mem_cons.mp hx with rfl | hx
      · refine .tup (u7 t6 _ ft6) (by show 1 ≤ 1000; decide) (fun x hx => ?_) et6
        rw [List.mem_singleton.mp hx]
        exact .inr (.inr ⟨_, rfl⟩)
      rcases List.mem_cons.mp hx with rfl | hx
      · exact .dK (u8 d1 _ fd1)
      · rw [List.mem_singleton.mp hx]; exact .int 5
    have tb9 := tab_ex u0 htb
    walk_at "rd"
    refine ⟨lo, rfl, ⟨_, sqL flo⟩, fun D hD => lc_list (xs := [.non, .ref t1, .ref l1, .ref t2, .ref t3, .str "1", .ref t5, .ref t6, .ref d1, .int 5]) (fun k H2 => Evl.Ex G9 H2 ∧ H2 D = some (.lst [])) ⟨Evl.Ex.new hD, upd_same⟩ (fun k H2 _ hp => sqL (hp.1 lo _ flo)) (fun k x H2 hx hp => ?_) (fun H2 hp => ?_)⟩
    · obtain ⟨he2, hl2⟩ := hp
      walk_at "rd"
      refine ⟨rfl, ?_⟩
      walk_at "rd"
      refine ⟨x, false, rfl, .inl ⟨((hodd x (List.mem_of_getElem? hx)).ex he2).any, rfl⟩, fun H3 he3 => ?_⟩
      walk_at "rd"
      refine iteF ?_
      exact ⟨he2.trans he3, he3 D _ hl2⟩
    · obtain ⟨he2, hl2⟩ := hp
      walk_at "rd"
      refine ⟨by show _ ≤ sizeLine; decide, fun nl hnl => ?_⟩
      have e10 := he2.trans (Evl.Ex.new (o := .lst []) hnl)
      refine r_neNil (ns := []) (sqL (by rw [upd_ne (ne_of_none hl2 hnl)]; exact hl2)) (sqL upd_same) ?_
      generalize upd H2 nl (.lst []) = G10 at e10
      walk_at "rd"
      refine iteF ?_
      walk_at "rd"
      refine ⟨by show _ ≤ sizeLine; decide, fun s1 hs1 => ?_⟩
      walk_at "rd"
      refine r_repT (sqT upd_same) (by simp) (by decide) (by decide) (by decide) fun s2 hs2 => ?_
      walk_at "rd"
      have e12 := e10.trans ((Evl.Ex.new (o := .tup [.int 7]) hs1).trans (Evl.Ex.new (o := .tup (List.replicate (24 : Int).toNat [V.int 7]).flatten) hs2))
      refine ⟨.ref s2, true, rfl, .inr ⟨s2, List.replicate 24 7, rfl, by rw [upd_same]; rfl, ⟨by decide, by decide, by decide +kernel⟩, by decide +kernel⟩, fun H13 e13 => ?_⟩
      have u13 := e12.trans e13
      walk_at "rd"
      refine iteF ?_
      walk_at "rd"
      refine ⟨by show _ ≤ sizeLine; decide, fun p1 hp1 => ?_⟩
      walk_at "rd"
      have eq1 : faultN [1, 3, 4, 7, 6, 12] = none := by decide +kernel
      refine ⟨.ref p1, true, rfl, .inr ⟨p1, [1, 3, 4, 7, 6, 12], rfl, upd_same, ⟨by decide, by decide, by decide +kernel⟩, by rw [eq1]; rfl⟩, fun H14 e14 => ?_⟩
      have u14 := u13.trans ((Evl.Ex.new hp1).trans e14)
      walk_at "rd"
      refine ⟨by show 6 ≤ sizeLine; decide, fun p2 hp2 => ?_⟩
      walk_at "rd"
      have tb14 := tab_ex (u14.trans (Evl.Ex.new (o := .tup [.int 1, .int 3, .int 4, .int 7, .int 6, .int 12]) hp2)) tb9
      refine ⟨p2, [1, 3, 4, 7, 6, 12], rfl, upd_same, ⟨by decide, by decide⟩, (show ∀ n ∈ ([1, 3, 4, 7, 6, 12] : List Int), n.natAbs ≤ 2 ^ 40 by decide +kernel), tb14, fun x1 H15 hx1 e15 tb15 hr1 => ?_⟩
      obtain ⟨T1, En1, es1, h0, h4, h2, h1, hT1, _⟩ := hr1
      have rB1 : rowBo [1, 3, 4, 7, 6, 12] = 1 := by decide +kernel
      have rT1 : rowTs [1, 3, 4, 7, 6, 12] = [1, 1, 2, 3, 5, 7, 11] := by decide +kernel
      rw [rB1] at h0
      rw [rT1] at hT1
      have h0c := h0
      obtain ⟨dx, vs, sl, hv⟩ := h0c
      refine ⟨x1, dx, vs, rfl, sl, ?_⟩
      walk_at "rd"
      refine ⟨x1, T1, rfl, h0, h4, ?_⟩
      walk_at "rd"
      refine ⟨by show 2 ≤ sizeLine; decide, fun p3 hp3 => ?_⟩
      walk_at "rd"
      have eq2 : faultN [1, 2] = some 2 := by decide +kernel
      refine ⟨p3, [1, 2], rfl, upd_same, ⟨by decide, by decide, by decide +kernel⟩, fun H16 e16 => ?_⟩
      rw [eq2]
      have u16 := (Evl.Ex.new (o := .tup [.int 1, .int 2]) hp3).trans e16
      walk_at "rd"
      refine ⟨by show 2 ≤ sizeLine; decide, fun p4 hp4 => ?_⟩
      walk_at "rd"
      have u17 := u16.trans (Evl.Ex.new (o := .tup [.int 1, .int 2]) hp4)
      have tb17 := tab_ex u17 tb15
      refine ⟨p4, [1, 2], rfl, upd_same, ⟨by decide, by decide⟩, (show ∀ n ∈ ([1, 2] : List Int), n.natAbs ≤ 2 ^ 40 by decide +kernel), tb17, fun x2 H18 hx2 e18 tb18 hr2 => ?_⟩
      obtain ⟨T2, En2, es2, g0, g4, g2, g1, hT2, _⟩ := hr2
      have rB2 : rowBo [1, 2] = 2 := by decide +kernel
      have rT2 : rowTs [1, 2] = [2, 2, 3] := by decide +kernel
      rw [rB2] at g0
      rw [rT2] at hT2
      have hT1' := e18 T1 _ (fun z => by
        obtain ⟨ps, t1, _⟩ := tb17
        rw [← z, u17 T1 _ hT1] at t1
        cases t1) (u17 T1 _ hT1)
      walk_at "rd"
      refine r_strOwn g0 ?_
      refine ⟨x2, T2, rfl, g0, g2, g4, hT2, fun H19 e19 => ⟨_, rfl, ?_⟩⟩
      walk_at "rd"
      refine ⟨by show 4 ≤ sizeLine; decide, fun tl htl => ?_⟩
      have ftl : upd H19 tl (.lst [.bl true, .ref T1, optV (some 2), .str "1 + x + 3/2*x^2 to 2"]) tl = some (.lst [.bl true, .ref T1, optV (some 2), .str "1 + x + 3/2*x^2 to 2"]) := upd_same
      have e20 : Evl.Ex H19 (upd H19 tl (.lst [.bl true, .ref T1, optV (some 2), .str "1 + x + 3/2*x^2 to 2"])) := .new htl
      generalize upd H19 tl (.lst [.bl true, .ref T1, optV (some 2), .str "1 + x + 3/2*x^2 to 2"]) = H20 at ftl e20
      walk_at "rd"
      refine ⟨by show 7 ≤ sizeLine; decide, fun p5 hp5 => ?_⟩
      have fp5 : upd H20 p5 (.tup [.int 1, .int 1, .int 2, .int 3, .int 5, .int 7, .int 11]) p5 = some (.tup [.int 1, .int 1, .int 2, .int 3, .int 5, .int 7, .int 11]) := upd_same
      have e21 : Evl.Ex H20 (upd H20 p5 (.tup [.int 1, .int 1, .int 2, .int 3, .int 5, .int 7, .int 11])) := .new hp5
      generalize upd H20 p5 (.tup [.int 1, .int 1, .int 2, .int 3, .int 5, .int 7, .int 11]) = H21 at fp5 e21
      walk_at "rd"
      refine ⟨by show 4 ≤ sizeLine; decide, fun p6 hp6 => ?_⟩
      have fp6 : upd H21 p6 (.lst [.bl true, .ref p5, .int 2, .str "1 + x + 3/2*x^2 to 2"]) p6 = some (.lst [.bl true, .ref p5, .int 2, .str "1 + x + 3/2*x^2 to 2"]) := upd_same
      have e22 : Evl.Ex H21 (upd H21 p6 (.lst [.bl true, .ref p5, .int 2, .str "1 + x + 3/2*x^2 to 2"])) := .new hp6
      generalize upd H21 p6 (.lst [.bl true, .ref p5, .int 2, .str "1 + x + 3/2*x^2 to 2"]) = H22 at fp6 e22
      have hT22 := (e19.trans (e20.trans (e21.trans e22))) T1 _ hT1'
      have htl22 := (e21.trans e22) tl _ ftl
      have hp522 := e22 p5 _ fp5
      refine ⟨.list [.bool true, .tuple ([1, 1, 2, 3, 5, 7, 11].map PyData.int), .int 2, .str "1 + x + 3/2*x^2 to 2"], .list [.bool true, .tuple ([1, 1, 2, 3, 5, 7, 11].map PyData.int), .int 2, .str "1 + x + 3/2*x^2 to 2"],
        .lst (sqL htl22) (.cons (.bl true) (.cons (.tup (sqT hT22) (dp_ints [1, 1, 2, 3, 5, 7, 11])) (.cons (.int 2) (.cons (.str _) .nil)))),
        .lst (sqL fp6) (.cons (.bl true) (.cons (.tup (sqT hp522) (dp_ints [1, 1, 2, 3, 5, 7, 11])) (.cons (.int 2) (.cons (.str _) .nil)))), by decide +kernel, by decide +kernel, ?_⟩
      rw [SeqAt.eqv_refl _ (by decide +kernel)]
      exact q _
end
end G
set_option Elab.async false
set_option linter.all false
set_option maxRecDepth 100000
set_option maxHeartbeats 4000000
namespace GH
open PySem PySem.Spec PyProof.Rows L2 SlX He
theorem prop_ok {K : Fr} {x f qual : Str} {st : Stmt} {fd : FuncData} (c : fProp x f K = true) (F : FunD K f qual (defArgs st) (defBody st) (defScope st) [] [] (pgA x f K) fd) : G.PropAt K (ga K x) f qual st := by
  obtain ⟨a, c⟩ := ba c
  obtain ⟨b, c⟩ := ba c
  obtain ⟨d, c⟩ := ba c
  refine ⟨ma K (ga K x) f, pgA x f K, fd, eqO_ok a, eqO_ok b, of_decide_eq_true d, ?_, F⟩
  unfold pgA
  split at c
  · rename_i g r e
    refine ⟨r, ?_⟩
    rw [e]
  · cases c
end GH
set_option Elab.async false
set_option linter.all false
set_option maxRecDepth 100000
set_option maxHeartbeats 0
namespace GH
open PySem PySem.Spec PyProof.Rows L2 SlX He G
theorem facts {w : World} {K : Fr} {h : Heap} {mg : Str → Option Value} {f : Addr} {n : Nat} (X : K.In h) (Gn : h.Ns mainGlobals mg) (hfa : mg ("law" : Str) = some (.ref f)) (c : Says mm fa fn K)
    (n1 : K.lookup (tabOf K (codeOf K (mm K))) = none) (n2 : h.get? (tabOf K (codeOf K (mm K))) = some { cls := .none, data := .fields #[] }) :
    LamX.LawAtS PySem.Challenge.rw_lawseries_k64_whole_tests_of_ghosts w K CX0 12 n "_law_script" mg f h := by
  have B : Bt mg := ⟨free_ok X Gn (c.fact 0 (f := fFree "abs") rfl), free_ok X Gn (c.fact 1 (f := fFree "all") rfl), free_ok X Gn (c.fact 2 (f := fFree "bool") rfl), free_ok X Gn (c.fact 3 (f := fFree "enumerate") rfl), free_ok X Gn (c.fact 4 (f := fFree "int") rfl), free_ok X Gn (c.fact 5 (f := fFree "isinstance") rfl), free_ok X Gn (c.fact 6 (f := fFree "len") rfl), free_ok X Gn (c.fact 7 (f := fFree "list") rfl), free_ok X Gn (c.fact 8 (f := fFree "max") rfl), free_ok X Gn (c.fact 9 (f := fFree "min") rfl), free_ok X Gn (c.fact 10 (f := fFree "next") rfl), free_ok X Gn (c.fact 11 (f := fFree "range") rfl), free_ok X Gn (c.fact 12 (f := fFree "sorted") rfl), free_ok X Gn (c.fact 13 (f := fFree "str") rfl), free_ok X Gn (c.fact 14 (f := fFree "sum") rfl), free_ok X Gn (c.fact 15 (f := fFree "tuple") rfl), blt_ok X Gn (c.fact 16 (f := fBlt "gcd" "math.gcd") rfl), int_ok X Gn (c.fact 17 (f := fInt "FAR" 1000000000000000000000000000000000000000000000000000000000000) rfl), int_ok X Gn (c.fact 18 (f := fInt "MAX_GHOSTS" 24) rfl), int_ok X Gn (c.fact 19 (f := fInt "MAX_FACTORED" 1000000000) rfl)⟩
  have L : Cls K mg (ga K "Terms") (ga K "Ratio") (ga K "Made") (ga K "Row") := ⟨⟨glo_ok X Gn (c.fact 20 (f := fGlo "Terms") rfl), cls_ok (c.fact 21 (f := fCls "Terms") rfl), (isi_ok (c.fact 22 (f := fIsi "Terms") rfl)).1, (isi_ok (c.fact 22 (f := fIsi "Terms") rfl)).2⟩, ⟨glo_ok X Gn (c.fact 24 (f := fGlo "Ratio") rfl), cls_ok (c.fact 25 (f := fCls "Ratio") rfl), (isi_ok (c.fact 26 (f := fIsi "Ratio") rfl)).1, (isi_ok (c.fact 26 (f := fIsi "Ratio") rfl)).2⟩, ⟨glo_ok X Gn (c.fact 28 (f := fGlo "Made") rfl), cls_ok (c.fact 29 (f := fCls "Made") rfl), (isi_ok (c.fact 30 (f := fIsi "Made") rfl)).1, (isi_ok (c.fact 30 (f := fIsi "Made") rfl)).2⟩, ⟨glo_ok X Gn (c.fact 32 (f := fGlo "Row") rfl), cls_ok (c.fact 33 (f := fCls "Row") rfl), (isi_ok (c.fact 34 (f := fIsi "Row") rfl)).1, (isi_ok (c.fact 34 (f := fIsi "Row") rfl)).2⟩, slot_ok (c.fact 36 (f := fSlot "Terms" "own_bottom" 0) rfl), slot_ok (c.fact 37 (f := fSlot "Terms" "own_top" 1) rfl), slot_ok (c.fact 38 (f := fSlot "Ratio" "own_bottom" 0) rfl), slot_ok (c.fact 39 (f := fSlot "Ratio" "own_top" 1) rfl), slot_ok (c.fact 40 (f := fSlot "Made" "own_line" 0) rfl), slot_ok (c.fact 41 (f := fSlot "Row" "own_bottom" 0) rfl), slot_ok (c.fact 42 (f := fSlot "Row" "own_entries" 1) rfl), slot_ok (c.fact 43 (f := fSlot "Row" "own_modulus" 2) rfl), slot_ok (c.fact 44 (f := fSlot "Row" "own_order" 3) rfl), slot_ok (c.fact 45 (f := fSlot "Row" "own_tops" 4) rfl)⟩
  obtain ⟨fd0, F0⟩ := c.def_ 0 (d := d0) rfl
  have D_law_gcd : DefAt K mg "_law_gcd" s_law_gcd := ⟨_, fd0, glo_ok X Gn (c.fact 47 (f := fGlo "_law_gcd") rfl), F0⟩
  obtain ⟨fd1, F1⟩ := c.def_ 1 (d := d1) rfl
  have D_law_ratio : DefAt K mg "_law_ratio" s_law_ratio := ⟨_, fd1, glo_ok X Gn (c.fact 48 (f := fGlo "_law_ratio") rfl), F1⟩
  obtain ⟨fd2, F2⟩ := c.def_ 2 (d := d2) rfl
  have D_law_ratio_sum : DefAt K mg "_law_ratio_sum" s_law_ratio_sum := ⟨_, fd2, glo_ok X Gn (c.fact 49 (f := fGlo "_law_ratio_sum") rfl), F2⟩
  obtain ⟨fd3, F3⟩ := c.def_ 3 (d := d3) rfl
  have D_law_gh_power : DefAt K mg "_law_gh_power" s_law_gh_power := ⟨_, fd3, glo_ok X Gn (c.fact 50 (f := fGlo "_law_gh_power") rfl), F3⟩
  obtain ⟨fd4, F4⟩ := c.def_ 4 (d := d4) rfl
  have D_law_gh_divisors : DefAt K mg "_law_gh_divisors" s_law_gh_divisors := ⟨_, fd4, glo_ok X Gn (c.fact 51 (f := fGlo "_law_gh_divisors") rfl), F4⟩
  obtain ⟨fd5, F5⟩ := c.def_ 5 (d := d5) rfl
  have D_law_primes_to : DefAt K mg "_law_primes_to" s_law_primes_to := ⟨_, fd5, glo_ok X Gn (c.fact 52 (f := fGlo "_law_primes_to") rfl), F5⟩
  obtain ⟨fd6, F6⟩ := c.def_ 6 (d := d6) rfl
  have D_is_plain : DefAt K mg "is_plain" s_is_plain := ⟨_, fd6, glo_ok X Gn (c.fact 53 (f := fGlo "is_plain") rfl), F6⟩
  obtain ⟨fd7, F7⟩ := c.def_ 7 (d := d7) rfl
  have D_is_short : DefAt K mg "is_short" s_is_short := ⟨_, fd7, glo_ok X Gn (c.fact 54 (f := fGlo "is_short") rfl), F7⟩
  obtain ⟨fd8, F8⟩ := c.def_ 8 (d := d8) rfl
  have D_is_integer : DefAt K mg "is_integer" s_is_integer := ⟨_, fd8, glo_ok X Gn (c.fact 55 (f := fGlo "is_integer") rfl), F8⟩
  obtain ⟨fd9, F9⟩ := c.def_ 9 (d := d9) rfl
  have D_require_least : DefAt K mg "require_least" s_require_least := ⟨_, fd9, glo_ok X Gn (c.fact 56 (f := fGlo "require_least") rfl), F9⟩
  obtain ⟨fd10, F10⟩ := c.def_ 10 (d := d10) rfl
  have D_require_factored : DefAt K mg "require_factored" s_require_factored := ⟨_, fd10, glo_ok X Gn (c.fact 57 (f := fGlo "require_factored") rfl), F10⟩
  obtain ⟨fd11, F11⟩ := c.def_ 11 (d := d11) rfl
  have D_law_dice : DefAt K mg "_law_dice" s_law_dice := ⟨_, fd11, glo_ok X Gn (c.fact 58 (f := fGlo "_law_dice") rfl), F11⟩
  obtain ⟨fd12, F12⟩ := c.def_ 12 (d := d12) rfl
  have D_law_roll : DefAt K mg "_law_roll" s_law_roll := ⟨_, fd12, glo_ok X Gn (c.fact 59 (f := fGlo "_law_roll") rfl), F12⟩
  obtain ⟨fd13, F13⟩ := c.def_ 13 (d := d13) rfl
  have D_law_pick : DefAt K mg "_law_pick" s_law_pick := ⟨_, fd13, glo_ok X Gn (c.fact 60 (f := fGlo "_law_pick") rfl), F13⟩
  obtain ⟨fd14, F14⟩ := c.def_ 14 (d := d14) rfl
  have D_powers_in : DefAt K mg "powers_in" s_powers_in := ⟨_, fd14, glo_ok X Gn (c.fact 61 (f := fGlo "powers_in") rfl), F14⟩
  obtain ⟨fd15, F15⟩ := c.def_ 15 (d := d15) rfl
  have D_divisors_in : DefAt K mg "divisors_in" s_divisors_in := ⟨_, fd15, glo_ok X Gn (c.fact 62 (f := fGlo "divisors_in") rfl), F15⟩
  obtain ⟨fd16, F16⟩ := c.def_ 16 (d := d16) rfl
  have D_moebius_in : DefAt K mg "moebius_in" s_moebius_in := ⟨_, fd16, glo_ok X Gn (c.fact 63 (f := fGlo "moebius_in") rfl), F16⟩
  obtain ⟨fd17, F17⟩ := c.def_ 17 (d := d17) rfl
  have D_moebius : DefAt K mg "moebius" s_moebius := ⟨_, fd17, glo_ok X Gn (c.fact 64 (f := fGlo "moebius") rfl), F17⟩
  obtain ⟨fd18, F18⟩ := c.def_ 18 (d := d18) rfl
  have D_test_total : DefAt K mg "test_total" s_test_total := ⟨_, fd18, glo_ok X Gn (c.fact 65 (f := fGlo "test_total") rfl), F18⟩
  obtain ⟨fd19, F19⟩ := c.def_ 19 (d := d19) rfl
  have D_fault_in : DefAt K mg "fault_in" s_fault_in := ⟨_, fd19, glo_ok X Gn (c.fact 66 (f := fGlo "fault_in") rfl), F19⟩
  obtain ⟨fd20, F20⟩ := c.def_ 20 (d := d20) rfl
  have D_are_numbers : DefAt K mg "are_numbers" s_are_numbers := ⟨_, fd20, glo_ok X Gn (c.fact 67 (f := fGlo "are_numbers") rfl), F20⟩
  obtain ⟨fd21, F21⟩ := c.def_ 21 (d := d21) rfl
  have D_require_numbers : DefAt K mg "require_numbers" s_require_numbers := ⟨_, fd21, glo_ok X Gn (c.fact 68 (f := fGlo "require_numbers") rfl), F21⟩
  obtain ⟨fd22, F22⟩ := c.def_ 22 (d := d22) rfl
  have D_are_ghosts : DefAt K mg "are_ghosts" s_are_ghosts := ⟨_, fd22, glo_ok X Gn (c.fact 69 (f := fGlo "are_ghosts") rfl), F22⟩
  obtain ⟨fd23, F23⟩ := c.def_ 23 (d := d23) rfl
  have D_ghost_fault : DefAt K mg "ghost_fault" s_ghost_fault := ⟨_, fd23, glo_ok X Gn (c.fact 70 (f := fGlo "ghost_fault") rfl), F23⟩
  obtain ⟨fd24, F24⟩ := c.def_ 24 (d := d24) rfl
  have D_law_by_signs : DefAt K mg "_law_by_signs" s_law_by_signs := ⟨_, fd24, glo_ok X Gn (c.fact 71 (f := fGlo "_law_by_signs") rfl), F24⟩
  obtain ⟨fd25, F25⟩ := c.def_ 25 (d := d25) rfl
  have D_law_by_primes : DefAt K mg "_law_by_primes" s_law_by_primes := ⟨_, fd25, glo_ok X Gn (c.fact 72 (f := fGlo "_law_by_primes") rfl), F25⟩
  obtain ⟨fd26, F26⟩ := c.def_ 26 (d := d26) rfl
  have D_law_gh_of : DefAt K mg "_law_gh_of" s_law_gh_of := ⟨_, fd26, glo_ok X Gn (c.fact 73 (f := fGlo "_law_gh_of") rfl), F26⟩
  obtain ⟨fd27, F27⟩ := c.def_ 27 (d := d27) rfl
  have D_law_gh_drawn : DefAt K mg "_law_gh_drawn" s_law_gh_drawn := ⟨_, fd27, glo_ok X Gn (c.fact 74 (f := fGlo "_law_gh_drawn") rfl), F27⟩
  obtain ⟨fd28, F28⟩ := c.def_ 28 (d := d28) rfl
  have D_law_gh_row : DefAt K mg "_law_gh_row" s_law_gh_row := ⟨_, fd28, glo_ok X Gn (c.fact 75 (f := fGlo "_law_gh_row") rfl), F28⟩
  obtain ⟨fd29, F29⟩ := c.def_ 29 (d := d29) rfl
  have D_law_by_row : DefAt K mg "_law_by_row" s_law_by_row := ⟨_, fd29, glo_ok X Gn (c.fact 76 (f := fGlo "_law_by_row") rfl), F29⟩
  obtain ⟨fd30, F30⟩ := c.def_ 30 (d := d30) rfl
  have D_law_drawn : DefAt K mg "_law_drawn" s_law_drawn := ⟨_, fd30, glo_ok X Gn (c.fact 77 (f := fGlo "_law_drawn") rfl), F30⟩
  obtain ⟨fd31, F31⟩ := c.def_ 31 (d := d31) rfl
  have D_Terms : InitAt K (ga K "Terms") "Terms.__init__" s_Terms___init__ [] [] := ⟨_, fd31, mkr_ok (c.fact 23 (f := fMkr "Terms") rfl), F31⟩
  obtain ⟨fd32, F32⟩ := c.def_ 32 (d := d32) rfl
  have D_terms_of : DefAt K mg "terms_of" s_terms_of := ⟨_, fd32, glo_ok X Gn (c.fact 78 (f := fGlo "terms_of") rfl), F32⟩
  obtain ⟨fd33, F33⟩ := c.def_ 33 (d := d33) rfl
  have D_told_terms : DefAt K mg "told_terms" s_told_terms := ⟨_, fd33, glo_ok X Gn (c.fact 79 (f := fGlo "told_terms") rfl), F33⟩
  obtain ⟨fd34, F34⟩ := c.def_ 34 (d := d34) rfl
  have D_Ratio : InitAt K (ga K "Ratio") "Ratio.__init__" s_Ratio___init__ [.int 1] [] := ⟨_, fd34, mkr_ok (c.fact 27 (f := fMkr "Ratio") rfl), F34⟩
  obtain ⟨fd35, F35⟩ := c.def_ 35 (d := d35) rfl
  have D_ratio_of : DefD1 K mg "ratio_of" s_ratio_of (.int 1) := ⟨_, fd35, glo_ok X Gn (c.fact 80 (f := fGlo "ratio_of") rfl), F35⟩
  obtain ⟨fd36, F36⟩ := c.def_ 36 (d := d36) rfl
  have D_Ratio_top : PropAt K (ga K "Ratio") "top" "Ratio.top" s_Ratio_top := prop_ok (c.fact 81 (f := fProp "Ratio" "top") rfl) F36
  obtain ⟨fd37, F37⟩ := c.def_ 37 (d := d37) rfl
  have D_Ratio_bottom : PropAt K (ga K "Ratio") "bottom" "Ratio.bottom" s_Ratio_bottom := prop_ok (c.fact 82 (f := fProp "Ratio" "bottom") rfl) F37
  obtain ⟨fd38, F38⟩ := c.def_ 38 (d := d38) rfl
  have D_line_of : DefAt K mg "line_of" s_line_of := ⟨_, fd38, glo_ok X Gn (c.fact 83 (f := fGlo "line_of") rfl), F38⟩
  obtain ⟨fd39, F39⟩ := c.def_ 39 (d := d39) rfl
  have D_line_of_pairs : DefAt K mg "line_of_pairs" s_line_of_pairs := ⟨_, fd39, glo_ok X Gn (c.fact 84 (f := fGlo "line_of_pairs") rfl), F39⟩
  obtain ⟨fd40, F40⟩ := c.def_ 40 (d := d40) rfl
  have D_line_exp : DefAt K mg "line_exp" s_line_exp := ⟨_, fd40, glo_ok X Gn (c.fact 85 (f := fGlo "line_exp") rfl), F40⟩
  obtain ⟨fd41, F41⟩ := c.def_ 41 (d := d41) rfl
  have D_Made : InitAt K (ga K "Made") "Made.__init__" s_Made___init__ [] [] := ⟨_, fd41, mkr_ok (c.fact 31 (f := fMkr "Made") rfl), F41⟩
  obtain ⟨fd42, F42⟩ := c.def_ 42 (d := d42) rfl
  have D_line_told : DefAt K mg "line_told" s_line_told := ⟨_, fd42, glo_ok X Gn (c.fact 86 (f := fGlo "line_told") rfl), F42⟩
  obtain ⟨fd43, F43⟩ := c.def_ 43 (d := d43) rfl
  obtain ⟨fd44, F44⟩ := c.def_ 44 (d := d44) rfl
  have D_row_with : DefD1 K mg "row_with" s_row_with (.bl true) := ⟨_, fd44, glo_ok X Gn (c.fact 87 (f := fGlo "row_with") rfl), F44⟩
  obtain ⟨fd45, F45⟩ := c.def_ 45 (d := d45) rfl
  have D_row_in : DefAt K mg "row_in" s_row_in := ⟨_, fd45, glo_ok X Gn (c.fact 88 (f := fGlo "row_in") rfl), F45⟩
  obtain ⟨fd46, F46⟩ := c.def_ 46 (d := d46) rfl
  have D_ghost_row : DefAt K mg "ghost_row" s_ghost_row := ⟨_, fd46, glo_ok X Gn (c.fact 89 (f := fGlo "ghost_row") rfl), F46⟩
  obtain ⟨fd47, F47⟩ := c.def_ 47 (d := d47) rfl
  have D_Row_entries : PropAt K (ga K "Row") "entries" "Row.entries" s_Row_entries := prop_ok (c.fact 90 (f := fProp "Row" "entries") rfl) F47
  obtain ⟨fd48, F48⟩ := c.def_ 48 (d := d48) rfl
  have D_Row_degree : PropAt K (ga K "Row") "degree" "Row.degree" s_Row_degree := prop_ok (c.fact 91 (f := fProp "Row" "degree") rfl) F48
  obtain ⟨fd49, F49⟩ := c.def_ 49 (d := d49) rfl
  have D_Row_modulus : PropAt K (ga K "Row") "modulus" "Row.modulus" s_Row_modulus := prop_ok (c.fact 92 (f := fProp "Row" "modulus") rfl) F49
  obtain ⟨fd50, F50⟩ := c.def_ 50 (d := d50) rfl
  have D_Row_whole : MethAt K (ga K "Row") "whole" "Row.whole" s_Row_whole := ⟨_, fd50, meth_ok (c.fact 93 (f := fMeth "Row" "whole") rfl), F50⟩
  obtain ⟨fd51, F51⟩ := c.def_ 51 (d := d51) rfl
  have D_term_text : DefAt K mg "term_text" s_term_text := ⟨_, fd51, glo_ok X Gn (c.fact 94 (f := fGlo "term_text") rfl), F51⟩
  obtain ⟨fd52, F52⟩ := c.def_ 52 (d := d52) rfl
  have D_row_text : DefAt K mg "row_text" s_row_text := ⟨_, fd52, glo_ok X Gn (c.fact 95 (f := fGlo "row_text") rfl), F52⟩
  obtain ⟨fd53, F53⟩ := c.def_ 53 (d := d53) rfl
  have D_Row___str__ : MethAt K (ga K "Row") "__str__" "Row.__str__" s_Row___str__ := ⟨_, fd53, meth_ok (c.fact 96 (f := fMeth "Row" "__str__") rfl), F53⟩
  obtain ⟨fd54, F54⟩ := c.def_ 54 (d := d54) rfl
  have D_law_pairs_of : DefAt K mg "_law_pairs_of" s_law_pairs_of := ⟨_, fd54, glo_ok X Gn (c.fact 97 (f := fGlo "_law_pairs_of") rfl), F54⟩
  obtain ⟨fd55, F55⟩ := c.def_ 55 (d := d55) rfl
  have D_law_dd_is_row : DefAt K mg "_law_dd_is_row" s_law_dd_is_row := ⟨_, fd55, glo_ok X Gn (c.fact 98 (f := fGlo "_law_dd_is_row") rfl), F55⟩
  obtain ⟨fd56, F56⟩ := c.def_ 56 (d := d56) rfl
  have D_law_right : DefAt K mg "_law_right" s_law_right := ⟨_, fd56, glo_ok X Gn (c.fact 99 (f := fGlo "_law_right") rfl), F56⟩
  obtain ⟨fd57, F57⟩ := c.def_ 57 (d := d57) rfl
  have ef := hfa.symm.trans (glo_ok X Gn (c.fact 100 (f := fGlo "law") rfl))
  cases ef
  have hc := code_ok (x := "Row") (c.fact 46 (f := fCode "Row") rfl) F43
  have hhd := codeHd_ok (x := "Row") X (c.fact 46 (f := fCode "Row") rfl)
  have hb := FunD.bindsA (ps := ["_law_script"]) F57 fun _ _ _ _ _ _ us hl => match us, hl with | [_], _ => rfl
  refine ⟨fd57, [(codeOf K (mm K), tabOf K (codeOf K (mm K)))], sp_law K (tabOf K (codeOf K (mm K))), fun p hp => ?_, fun p hp => ?_, fun p hp => ?_, fun s u => hb s [u] rfl, fun H a ns _ _ hT hS => ⟨a, ns, rfl, hS, ⟨#[], hT _ List.mem_cons_self, by first | trivial | simp [TriplesOk]⟩, fun _ => rfl⟩, fun base hK hN hT => ?_⟩
  · rw [List.mem_singleton.mp hp]; exact n2
  · rw [List.mem_singleton.mp hp]; exact n1
  · rw [List.mem_singleton.mp hp]; exact hhd
  have tb := hT _ List.mem_cons_self
  have TB : GxR.TabB base mg (codeOf K (mm K)) (tabOf K (codeOf K (mm K))) := ⟨tb.code, tb.bm, tb.gP⟩
  have D_Row : InitK K mg base (ga K "Row") (tabOf K (codeOf K (mm K))) "Row.__init__" s_Row___init__ := ⟨_, fd43, _, mkr_ok (c.fact 35 (f := fMkr "Row") rfl), F43, hc, TB⟩
  have c_law_gcd := ok_law_gcd (P := R.prog) (w := w) (base := base) B D_law_gcd
  have c_law_ratio := ok_law_ratio (P := R.prog) (w := w) (base := base) B D_law_ratio c_law_gcd
  have c_law_ratio_sum := ok_law_ratio_sum (P := R.prog) (w := w) (base := base) B D_law_ratio_sum c_law_ratio
  have c_law_gh_power := ok_law_gh_power (P := R.prog) (w := w) (base := base) B D_law_gh_power
  have c_law_gh_divisors := ok_law_gh_divisors (P := R.prog) (w := w) (base := base) B D_law_gh_divisors
  have c_law_primes_to := ok_law_primes_to (P := R.prog) (w := w) (base := base) B D_law_primes_to
  have c_is_plain := ok_is_plain (P := R.prog) (w := w) (base := base) B D_is_plain
  have c_is_short := ok_is_short (P := R.prog) (w := w) (base := base) B D_is_short c_is_plain
  have c_is_integer := ok_is_integer (P := R.prog) (w := w) (base := base) B D_is_integer c_is_short
  have c_require_least := ok_require_least (P := R.prog) (w := w) (base := base) B D_require_least c_is_integer
  have c_require_factored := ok_require_factored (P := R.prog) (w := w) (base := base) B D_require_factored c_require_least
  have c_law_dice := ok_law_dice (P := R.prog) (w := w) (base := base) B D_law_dice
  have c_law_roll := ok_law_roll (P := R.prog) (w := w) (base := base) B D_law_roll
  have c_law_pick := ok_law_pick (P := R.prog) (w := w) (base := base) B D_law_pick c_law_roll
  have c_powers_in := ok_powers_in (P := R.prog) (w := w) (base := base) B D_powers_in
  have c_divisors_in := ok_divisors_in (P := R.prog) (w := w) (base := base) B D_divisors_in c_powers_in
  have c_moebius_in := ok_moebius_in (P := R.prog) (w := w) (base := base) B D_moebius_in c_powers_in
  have c_moebius := ok_moebius (P := R.prog) (w := w) (base := base) B D_moebius c_require_factored c_moebius_in
  have c_test_total := ok_test_total (P := R.prog) (w := w) (base := base) B D_test_total c_divisors_in c_moebius_in
  have c_fault_in := ok_fault_in (P := R.prog) (w := w) (base := base) B D_fault_in c_test_total
  have c_are_numbers := ok_are_numbers (P := R.prog) (w := w) (base := base) B D_are_numbers c_is_short
  have c_require_numbers := ok_require_numbers (P := R.prog) (w := w) (base := base) B D_require_numbers c_are_numbers
  have c_are_ghosts := ok_are_ghosts (P := R.prog) (w := w) (base := base) B D_are_ghosts c_are_numbers c_fault_in
  have c_ghost_fault := ok_ghost_fault (P := R.prog) (w := w) (base := base) B D_ghost_fault c_require_numbers c_fault_in
  have c_law_by_signs := ok_law_by_signs (P := R.prog) (w := w) (base := base) B D_law_by_signs c_moebius c_law_gh_divisors
  have c_law_by_primes := ok_law_by_primes (P := R.prog) (w := w) (base := base) B D_law_by_primes c_law_primes_to
  have c_law_gh_of := ok_law_gh_of (P := R.prog) (w := w) (base := base) B D_law_gh_of c_law_gh_divisors c_law_gh_power
  have c_law_gh_drawn := ok_law_gh_drawn (P := R.prog) (w := w) (base := base) B D_law_gh_drawn c_law_pick c_law_roll
  have c_law_gh_row := ok_law_gh_row (P := R.prog) (w := w) (base := base) B D_law_gh_row c_law_ratio_sum c_law_ratio
  have c_law_by_row := ok_law_by_row (P := R.prog) (w := w) (base := base) B D_law_by_row c_law_gh_row
  have c_law_drawn := ok_law_drawn (P := R.prog) (w := w) (base := base) B D_law_drawn c_law_roll c_law_pick c_law_gh_drawn c_law_gh_of
  have c_Terms := ok_Terms___init__ (P := R.prog) (w := w) (base := base) B L D_Terms
  have c_terms_of := ok_terms_of (P := R.prog) (w := w) (base := base) B L D_terms_of c_Terms
  have c_told_terms := ok_told_terms (P := R.prog) (w := w) (base := base) B L D_told_terms
  have c_Ratio := ok_Ratio___init__ (P := R.prog) (w := w) (base := base) B L D_Ratio c_told_terms
  have c_ratio_of := ok_ratio_of (P := R.prog) (w := w) (base := base) B L D_ratio_of c_Ratio c_terms_of
  have c_Ratio_top := ok_Ratio_top (P := R.prog) (w := w) (base := base) B L D_Ratio_top
  have c_Ratio_bottom := ok_Ratio_bottom (P := R.prog) (w := w) (base := base) B L D_Ratio_bottom
  have c_line_of := ok_line_of (P := R.prog) (w := w) (base := base) B L D_line_of
  have c_line_of_pairs := ok_line_of_pairs (P := R.prog) (w := w) (base := base) B L D_line_of_pairs c_line_of
  have c_line_exp := ok_line_exp (P := R.prog) (w := w) (base := base) B L D_line_exp c_line_of_pairs
  have c_Made := ok_Made___init__ (P := R.prog) (w := w) (base := base) B L D_Made
  have c_line_told := ok_line_told (P := R.prog) (w := w) (base := base) B L D_line_told
  have c_Row := ok_Row___init__ (P := R.prog) (w := w) (base := base) B L D_Row c_line_told c_ratio_of
  have c_row_with := ok_row_with (P := R.prog) (w := w) (base := base) B L D_row_with c_Made c_Row
  have c_row_in := ok_row_in (P := R.prog) (w := w) (base := base) B L D_row_in c_row_with c_line_exp c_line_of_pairs
  have c_ghost_row := ok_ghost_row (P := R.prog) (w := w) (base := base) B L D_ghost_row c_require_numbers c_row_in
  have c_Row_entries := ok_Row_entries (P := R.prog) (w := w) (base := base) B L D_Row_entries
  have c_Row_degree := ok_Row_degree (P := R.prog) (w := w) (base := base) B L D_Row_degree
  have c_Row_modulus := ok_Row_modulus (P := R.prog) (w := w) (base := base) B L D_Row_modulus
  have c_Row_whole := ok_Row_whole (P := R.prog) (w := w) (base := base) B L D_Row_whole
  have c_term_text := ok_term_text (P := R.prog) (w := w) (base := base) B L D_term_text
  have c_row_text := ok_row_text (P := R.prog) (w := w) (base := base) B L D_row_text c_term_text
  have c_Row___str__ := ok_Row___str__ (P := R.prog) (w := w) (base := base) B L D_Row___str__ c_row_text
  have c_law_pairs_of := ok_law_pairs_of (P := R.prog) (w := w) (base := base) B L D_law_pairs_of c_Row_entries c_Ratio_top c_Ratio_bottom
  have c_law_dd_is_row := ok_law_dd_is_row (P := R.prog) (w := w) (base := base) B L D_law_dd_is_row c_Row_degree c_Row_modulus c_law_pairs_of
  have c_law_right := ok_law_right (P := R.prog) (w := w) (base := base) B L D_law_right c_law_drawn c_law_gh_row c_law_by_row c_law_dd_is_row c_ghost_row c_are_ghosts c_law_by_signs c_law_by_primes c_ghost_fault
  exact ok_law (P := R.prog) (w := w) (base := base) B L F57 c_law_dice c_law_right c_are_ghosts c_ghost_row c_Row_whole c_ghost_fault c_Row___str__
end GH
open PySem PySem.W PySem.Calls PyProof.Rows
theorem PySem.Challenge.cw_lawseries_k64_whole_tests_of_ghosts_holds : PySem.Challenge.rw_lawseries_k64_whole_tests_of_ghosts.Holds := by
  w_on; o_law
  refine HandSHeadRun.head_imp (r := OpenLaw.row PySem.Challenge.rw_lawseries_k64_whole_tests_of_ghosts) (q := view (OpenLaw.row PySem.Challenge.rw_lawseries_k64_whole_tests_of_ghosts).prog [0, 85]) (H := GH.hk) (ob := GH.ob) (M := 7800) (loose := GH.names) (d := HandSHeadRun.topDef (OpenLaw.row PySem.Challenge.rw_lawseries_k64_whole_tests_of_ghosts).prog 85) (kwd := []) GH.ob_eq
    GH.run (by kernel_rfl) (by kernel_rfl) (by kernel_rfl) (by rfl) (by first | assumption | decide +kernel) (by decide +kernel) ⟨rfl, rfl, rfl, rfl, rfl, by decide +kernel⟩ ?hw ?hc
  case hw => w_witness2
  case hc =>
    refine LamX.walk_ofTsE (l := PySem.Challenge.rw_lawseries_k64_whole_tests_of_ghosts) (n := 63) (k := 12) (x := "_law_script") (CX := fun _ => L2.CX0) rfl (by decide) (by kernel_rfl) ⟨rfl, by decide, by decide⟩ ?F (fun _ _ _ _ _ z => z)
    intro w mg fa h Y G hmg0
    obtain ⟨K, KX, c, n1, n2⟩ := Y
    have hmg : mg ("law" : PySem.Str) = some (.ref fa) := by
      have e : (HandSHeadRun.topDef (OpenLaw.row PySem.Challenge.rw_lawseries_k64_whole_tests_of_ghosts).prog 85).name = ("law" : PySem.Str) := by kernel_rfl
      rw [← e]
      exact hmg0
    exact ⟨K, KX, GH.facts KX G hmg c n1 n2⟩
