import PyProof.Rows.All
import Wide.All
import OpenK.AllK
import Wide.FinOn
import HandS.ForMost
import HandS.IsInst
import HandS.NoneIn
import HandS.ForExc
import HandS.Walk
import HandS.RaiseMore
import PyProof.StrLawsChain
import KE.IntTextText
import KE.KStateDown
import Lean
import HandS.More
import HandS.WordsExc
import HandS.Defaults
import HandS.Head0
import HandS.Head1
import HandS.Head2
import HandS.HeadEnd
import HandS.HeadHook1
import HandS.HeadHook2
import PySem.Challenge.RW_hadbeen_k01_expressions_written_and_read
set_option Elab.async false
set_option maxRecDepth 100000
set_option maxHeartbeats 4000000
set_option linter.all false
namespace K01
open PySem L2 TL

theorem same_new {H : Hp} {p : Addr} {o : HO} (h : H p = none) : Same H (upd H p o) := fun b u q => by rw [upd_ne (ne_of_none q h)]; exact q
theorem iteDT {p A B : Prop} [Decidable p] (h : p) (a : A) : if decide p = true then A else B := by rw [decide_eq_true h]; exact iteT a
theorem iteDF {p A B : Prop} [Decidable p] (h : ¬ p) (b : B) : if decide p = true then A else B := by rw [decide_eq_false h]; exact iteF b
theorem iteNT {p A B : Prop} [Decidable p] (h : ¬ p) (a : A) : if (!decide p) = true then A else B := by rw [decide_eq_false h]; exact iteT a
theorem iteNF {p A B : Prop} [Decidable p] (h : p) (b : B) : if (!decide p) = true then A else B := by rw [decide_eq_true h]; exact iteF b
theorem iteD2 {p A B : Prop} [Decidable p] (h1 : p → A) (h2 : ¬ p → B) : if decide p = true then A else B := by
  by_cases h : p
  · exact iteDT h (h1 h)
  · exact iteDF h (h2 h)
theorem iteN2 {p A B : Prop} [Decidable p] (h1 : ¬ p → A) (h2 : p → B) : if (!decide p) = true then A else B := by
  by_cases h : p
  · exact iteNF h (h2 h)
  · exact iteNT h (h1 h)
theorem iteB2 {b : Bool} {A B : Prop} (h1 : b = true → A) (h2 : b = false → B) : if b = true then A else B := by
  cases b with
  | true => exact iteT (h1 rfl)
  | false => exact iteF (h2 rfl)
theorem vint_ne {i j : Int} (h : i ≠ j) : ¬ V.int i = V.int j := fun e => h (V.int.inj e)
theorem vstr_ne {i j : Str} (h : i ≠ j) : ¬ V.str i = V.str j := fun e => h (V.str.inj e)
/-- all that was tracked stands, but what is at p -/
def KeepX (p : Addr) (H H' : Hp) : Prop := ∀ q o, q ≠ p → H q = some o → H' q = some o
theorem KeepX.refl (p : Addr) (H : Hp) : KeepX p H H := fun _ _ _ h => h
theorem KeepX.trans {p : Addr} {H H1 H2 : Hp} (a : KeepX p H H1) (b : KeepX p H1 H2) : KeepX p H H2 := fun q o n h => b q o n (a q o n h)
theorem keepX_of {p : Addr} {H H' : Hp} (a : Same H H') : KeepX p H H' := fun q o _ h => a q o h
theorem keepX_upd {p : Addr} {H : Hp} {o : HO} : KeepX p H (upd H p o) := fun q u n h => by rw [upd_ne n]; exact h
theorem KeepX.seq {K : PySem.W.Frag} {H H' : Hp} {p a : Addr} {xs : List V} (e : KeepX p H H') (n : a ≠ p) (h : SqL K H a xs) : SqL K H' a xs := by
  rcases h with (h | ⟨o, h⟩) | h
  · exact .inl (.inl (e _ _ n h))
  · exact .inl (.inr ⟨o, e _ _ n h⟩)
  · exact .inr h
theorem same_tup {K : PySem.W.Frag} {H H' : Hp} {a : Addr} {xs : List V} (e : Same H H') (h : SqT K H a xs) : SqT K H' a xs := by
  rcases h with (h | ⟨o, h⟩) | h
  · exact .inl (.inl (e _ _ h))
  · exact .inl (.inr ⟨o, e _ _ h⟩)
  · exact .inr h
/-- what is new behind H -/
theorem KeepX.same {p : Addr} {H H' : Hp} (n : H p = none) (e : KeepX p H H') : Same H H' := fun q o h => e q o (ne_of_none h n) h
/-- a def of which nothing is asked -/
theorem fn_none {P : Program} {w : World} {K : PySem.W.Frag} {mg : Str → Option Value} {base : Heap} {CX : CXT} {k : Nat} {f : Addr} {fd : FuncData} {ps : List Str} {sp : Sp} (no : ∀ vs H Q E, sp vs H Q E → False) : FnOk P w K mg base CX k f fd ps sp :=
  ⟨fun vs H Q E h => (no vs H Q E h).elim, fun A outer s H args us vs Q E _ _ _ _ h => (no vs H Q E h).elim⟩
theorem absV_rel {u : Value} {x : V} (h : absV u = some x) : RelV x u := by
  cases u <;> simp only [absV, Option.some.injEq, reduceCtorEq] at h <;> subst h <;> first | rfl | exact ⟨_, rfl⟩
theorem vals_of_absV : ∀ {us : List Value} {xs : List V}, us.map absV = xs.map some → Vals xs us
  | [], [], _ => .nil
  | [], _ :: _, h => by simp at h
  | _ :: _, [], h => by simp at h
  | u :: us, x :: xs, h => by
    rw [List.map_cons, List.map_cons, List.cons.injEq] at h
    exact .cons (absV_rel h.1) (vals_of_absV h.2)
theorem sqT_k {K : PySem.W.Frag} {H : Hp} {a : Addr} {xs : List V} {od : Option Addr} {its : Array Value} {n : Nat} {sl : Array (Option Value)} (l : K.lookup a = some ⟨.type "tuple", od, .seq its n, sl⟩) (w : its.toList.map absV = xs.map some) (z : xs.length ≤ sizeLine) : SqT K H a xs := by
  have v := vals_of_absV w
  have e := v.length
  refine .inr ⟨_, its, n, l, rfl, rfl, ?_, v⟩
  rw [← Array.length_toList, ← e]
  exact z
/-- the promise of one class's method -/
def Disp (P : Program) (w : World) (K : PySem.W.Frag) (mg : Str → Option Value) (base : Heap) (CX : CXT) (m : Str) (k : Nat) (C : Addr) (sp : Sp) : Prop :=
  ∃ f fd ps, Cls K C ∧ Meth K C m f ∧ FnOk P w K mg base CX k f fd ps sp ∧ Binds K fd ps []
/-- o.m(..) where o is an instance of one of some classes -/
def tMethP (Fam : Addr → Prop) (SP : Addr → Sp) (m : Str) (E : XK) (ta : TE) (t : TA) : TE := fun σ H Q => ta σ H fun x H1 => ∃ a C dx fs, x = .ref a ∧ H1 a = some (.ins C dx fs) ∧ fs.lookup m = none ∧ Fam C ∧
  t σ H1 fun vs H2 => SP C (x :: (vs ++ [])) H2 Q E
section
variable {X : Cx} {CX : CXT} {m : Str} {k : Nat} {Fam : Addr → Prop} {SP : Addr → Sp} {E : XK} {e o : Expr} {es : List Expr} {ta : TE} {t : TA} {pos apos : Pos}
theorem pe_methP {pl : Sem Bool} (he : PE X o ta) (D : ∀ C, Fam C → Disp X.prog X.w X.K X.mg X.base CX m k C (SP C)) (hr : Room k X.A) (hx : Passes CX X E) (ha : PA X (e :: es) t)
    (hst : starEach (e :: es) X.env = (false, eval e X.env) :: starEach es X.env := by rfl) (hpl : (backTo pos (starEach es X.env)).any (·.1) = false := by rfl)
    (ht : eval (.Call (.Attribute o m apos) (e :: es) [] pos) X.env = (do
      let ov ← eval o X.env
      standAt apos.atName
      let (f, first) ← holding [ov] (getMethod ov m pl)
      callWith pos f first (backTo pos (starEach (e :: es) X.env)) (backToKw pos (keywordEach [] X.env))) := by rfl) :
    PE X (.Call (.Attribute o m apos) (e :: es) [] pos) (tMethP Fam SP m E ta t) := by
  refine ⟨fun pins s σ H Q I h => ?_⟩
  refine PySem.W.methodCall_KW (pl := pl) (thn (he.run pins s σ H _ I h) fun u s1 ⟨x, H1, I1, rx, a, C, dx, fs, ex, ea, l, fam, q⟩ => ?_) ht
  subst ex
  obtain rfl : u = Value.ref a := rx
  obtain ⟨f, fd, ps, c, hm, F, hb⟩ := D C fam
  refine getmeth_ok I1 ea c hm l ?_
  refine PySem.W.callWith_K (first := [.ref a]) (h₀ := X.base) I.ok.mod.kin hm.kp (thn (ha.run pos pins s1 σ H1 _ I1 q) fun us s2 ⟨vs, H2, I2, r, q2⟩ => ⟨I2.kIn, ?_⟩) hst hpl
  exact run_fn (us := .ref a :: us) (vs := .ref a :: vs) F hr hb .nil hx I2 (.cons rfl r) q2
theorem pe_methP0 {pl : Sem Bool} (he : PE X o ta) (D : ∀ C, Fam C → Disp X.prog X.w X.K X.mg X.base CX m k C (SP C)) (hr : Room k X.A) (hx : Passes CX X E)
    (ht : eval (.Call (.Attribute o m apos) [] [] pos) X.env = (do
      let ov ← eval o X.env
      standAt apos.atName
      let (f, first) ← holding [ov] (getMethod ov m pl)
      callWith pos f first (backTo pos (starEach [] X.env)) (backToKw pos (keywordEach [] X.env))) := by rfl) :
    PE X (.Call (.Attribute o m apos) [] [] pos) (tMethP Fam SP m E ta tNil) := by
  refine ⟨fun pins s σ H Q I h => ?_⟩
  refine PySem.W.methodCall_KW (pl := pl) (thn (he.run pins s σ H _ I h) fun u s1 ⟨x, H1, I1, rx, a, C, dx, fs, ex, ea, l, fam, q⟩ => ?_) ht
  subst ex
  obtain rfl : u = Value.ref a := rx
  obtain ⟨f, fd, ps, c, hm, F, hb⟩ := D C fam
  refine getmeth_ok I1 ea c hm l ?_
  exact PySem.W.callWith_K0 (first := [.ref a]) I1.kIn hm.kp (run_fn (us := [.ref a]) (vs := [.ref a]) F hr hb .nil hx I1 (.cons rfl .nil) q)
end
theorem fresh_ne {H H' : Hp} {p q : Addr} {o : HO} (h : H p = some o) (n : H q = none) : q ≠ p := fun e => by rw [e, h] at n; cases n

/-- a choice whose test is reckoned ahead: b, and the heap behind it -/
def tIfC (c : TT) (t u : TS) : TS := fun D σ H => ∃ (b : Bool) (H1 : Hp), (∀ Z : Bool → Hp → Prop, Z b H1 → c σ H Z) ∧ (if b = true then t D σ H1 else u D σ H1)
theorem ps_ifC {X : Cx} {c : Expr} {a b : List Stmt} {tc : TT} {t u : TS} {pos : Pos} (hc : PT X c tc) (ha : PSs X a t) (hb : PSs X b u) : PS X (.If c a b pos) (tIfC tc t u) :=
  ⟨fun pins s σ H D I h => by
    obtain ⟨b, H1, h1, h2⟩ := h
    exact (ps_if hc ha hb).run pins s σ H D I (h1 _ h2)⟩
theorem zTrue {p : Prop} [Decidable p] {Z : Bool → Hp → Prop} {H : Hp} (h : Z (decide p) H) (q : p) : Z true H := by rw [decide_eq_true q] at h; exact h
theorem zFalse {p : Prop} [Decidable p] {Z : Bool → Hp → Prop} {H : Hp} (h : Z (decide p) H) (q : ¬ p) : Z false H := by rw [decide_eq_false q] at h; exact h

/-! the head's facts, by tests of one's own -/
abbrev FaM : Type := PySem.W.Frag → Bool
def obsM (fa : List FaM) (fn : List He.DefD) (K : PySem.W.Frag) : He.AlD := ((fa.all fun f => f K) && fn.all fun d => d.ok K, fn.map fun d => He.fnW K d.at_)
def SaysM (fa : List FaM) (fn : List He.DefD) (K : PySem.W.Frag) : Prop := obsM fa fn K = He.valD fn
def forceL {α : Type} : List Addr → (List Addr → α) → α
  | [], k => k []
  | a :: r, k => HandSHeadRun.frNat a fun a => forceL r fun r => k (a :: r)
theorem forceL_eq {α : Type} : ∀ (l : List Addr) (k : List Addr → α), forceL l k = k l
  | [], _ => rfl
  | a :: r, k => by
    show HandSHeadRun.frNat a (fun a => forceL r fun r => k (a :: r)) = _
    rw [HandSHeadRun.frNat_eq, forceL_eq r]
def nsOfM (g : Addr → Option Obj) (a : Addr) : List Addr := match g a with
  | some ⟨_, _, .cls cd, _⟩ => [cd.ns]
  | _ => []
def valsOfM (g : Addr → Option Obj) (a : Addr) : List Addr := match g a with
  | some ⟨_, _, .dict es _, _⟩ => es.toList.flatMap fun e => He.refV e.val
  | _ => []
def codeOfM (g : Addr → Option Obj) (a : Addr) : List Addr := match g a with
  | some ⟨_, _, .func fd, _⟩ => He.refV fd.code ++ (He.refV fd.defaults ++ He.refV fd.kwdefaults)
  | _ => []
/-- the module's names, the classes' own names, the functions' codes -/
def asM {α : Type} (names : List Str) (g : Addr → Option Obj) (k : List Addr → α) : α :=
  forceL (names.map (He.ga (He.frG g [mainGlobals]))) fun l1 => forceL (l1.flatMap (nsOfM g)) fun l2 => forceL (l2.flatMap (valsOfM g)) fun l3 => forceL ((l1 ++ l3).flatMap (codeOfM g)) fun l4 => k (mainGlobals :: (l1 ++ (l2 ++ (l3 ++ l4))))
def l1M (names : List Str) (g : Addr → Option Obj) : List Addr := names.map (He.ga (He.frG g [mainGlobals]))
def l2M (names : List Str) (g : Addr → Option Obj) : List Addr := (l1M names g).flatMap (nsOfM g)
def l3M (names : List Str) (g : Addr → Option Obj) : List Addr := (l2M names g).flatMap (valsOfM g)
def l4M (names : List Str) (g : Addr → Option Obj) : List Addr := (l1M names g ++ l3M names g).flatMap (codeOfM g)
theorem asM_eq {α : Type} (names : List Str) (g : Addr → Option Obj) : ∃ as : List Addr, ∀ k : List Addr → α, asM names g k = k as := by
  refine ⟨mainGlobals :: (l1M names g ++ (l2M names g ++ (l3M names g ++ l4M names g))), fun k => ?_⟩
  unfold asM
  rw [forceL_eq, forceL_eq, forceL_eq, forceL_eq]
  rfl
def obsMG (names : List Str) (fa : List FaM) (fn : List He.DefD) (g : Addr → Option Obj) : He.AlD := asM names g fun as => obsM fa fn (He.frG g as)
def hookM (names : List Str) (fa : List FaM) (fn : List He.DefD) : PySem.W.Hook where
  α := He.AlD
  obs := fun s => obsMG names fa fn s.heap.get?
  val := fun _ => He.valD fn
  says := fun _ h => ∃ K : PySem.W.Frag, K.In h ∧ SaysM fa fn K
  of := fun _ s e => by
    obtain ⟨as, ea⟩ := asM_eq (α := He.AlD) names s.heap.get?
    exact ⟨_, He.frG_in, (ea _).symm.trans e⟩
  keeps := fun _ _ _ ⟨K, hK, c⟩ k => ⟨K, PySem.W.Frag.In.keeps hK k, c⟩
theorem obsMG_eq {names : List Str} {fa : List FaM} {fn : List He.DefD} {g : Addr → Option Obj} {s : Shared} (h : ∀ a, g a = s.heap.get? a) : obsMG names fa fn g = (hookM names fa fn).obs s := by
  have e : g = s.heap.get? := funext h
  rw [e] <;> rfl
section
variable {fa : List FaM} {fn : List He.DefD} {K : PySem.W.Frag}
theorem SaysM.fact (c : SaysM fa fn K) (i : Nat) {f : FaM} (h : fa[i]? = some f) : f K = true := by
  have c1 := (He.ba (show ((fa.all fun f => f K) && fn.all fun d => d.ok K) = true from congrArg (fun z : He.AlD => z.1) c)).1
  exact List.all_eq_true.mp c1 f (List.mem_of_getElem? h)
theorem SaysM.def_ (c : SaysM fa fn K) (i : Nat) {d : He.DefD} (h : fn[i]? = some d) : ∃ fd, FunD K d.name d.qual d.params d.body d.scope (d.dvs K) (d.kws K) (He.fAd K d.at_) fd := by
  have c2 := (He.ba (show ((fa.all fun f => f K) && fn.all fun d => d.ok K) = true from congrArg (fun z : He.AlD => z.1) c)).2
  have e : fn.map (fun d => He.fnW K d.at_) = fn.map He.DefD.val := congrArg (fun z : He.AlD => z.2) c
  have e2 : (fn.map fun d => He.fnW K d.at_)[i]? = (fn.map He.DefD.val)[i]? := by rw [e]
  rw [List.getElem?_map, List.getElem?_map, h] at e2
  exact He.DefD.funD (Option.some.inj e2) (List.all_eq_true.mp c2 d (List.mem_of_getElem? h))
end
theorem fun_of {K : PySem.W.Frag} {x qual : Str} {st : Stmt} {f : Addr} {fd : FuncData} (F : FunD K x qual (defArgs st) (defBody st) (defScope st) [] [] f fd) : Fun K x qual st f fd := by
  obtain ⟨oc, od, dV, kV, doc, pm, an, cdv, ct, osl, rfl, lk, hcd, hD, hK⟩ := F.ex
  rcases hD with ⟨_, rfl⟩ | ⟨e, _⟩
  · exact ⟨⟨oc, od, kV, doc, pm, an, cdv, ct, osl, rfl, lk, hcd⟩, F.kp⟩
  · exact absurd rfl e

/-! ### words: values by their figures, names -/
def isLow (c : Nat) : Bool := decide (97 ≤ c) && decide (c ≤ 122)
def isDig (c : Nat) : Bool := decide (48 ≤ c) && decide (c ≤ 57)
theorem fig_mem (c : Nat) : decide (c ∈ (Str.ofString "0123456789").cps.toList) = isDig c := by
  have e : (Str.ofString "0123456789").cps.toList = [48, 49, 50, 51, 52, 53, 54, 55, 56, 57] := by decide +kernel
  rw [e]
  unfold isDig
  rw [Bool.eq_iff_iff]
  simp only [decide_eq_true_eq, Bool.and_eq_true, List.mem_cons, List.not_mem_nil, or_false]
  omega
theorem let_mem (c : Nat) : decide (c ∈ (Str.ofString "abcdefghijklmnopqrstuvwxyz").cps.toList) = isLow c := by
  have e : (Str.ofString "abcdefghijklmnopqrstuvwxyz").cps.toList = [97, 98, 99, 100, 101, 102, 103, 104, 105, 106, 107, 108, 109, 110, 111, 112, 113, 114, 115, 116, 117, 118, 119, 120, 121, 122] := by decide +kernel
  rw [e]
  unfold isLow
  rw [Bool.eq_iff_iff]
  simp only [decide_eq_true_eq, Bool.and_eq_true, List.mem_cons, List.not_mem_nil, or_false]
  omega
def PAIRW : List Str := ["plus", "minus", "times", "over", "rest", "less", "same"]
def ROWW : List Str := ["skip", "set", "put", "ask", "draw", "tell", "if", "while", "call"]
def OTHW : List Str := ["else", "end", "fun", "main", "give", "cell"]
def lenOk (s : Str) : Bool := decide (1 ≤ (tl s).length) && decide ((tl s).length ≤ 6)
def isValW (s : Str) : Bool := lenOk s && !((tl s).head? == some 48 && decide (s ≠ "0")) && (tl s).all isDig
def isNameW (s : Str) : Bool := lenOk s && !(decide (s ∈ PAIRW) || (decide (s ∈ ROWW) || decide (s ∈ OTHW))) && (tl s).all isLow
def valOf (s : Str) : Int := ((NumText.digitsVal (tl s) : Nat) : Int)
def numT (n : Int) : Str := Str.ofString (toString n)
theorem inV_str (s : Str) : ∀ l : List Str, inV (.str s) (l.map V.str) = decide (s ∈ l)
  | [] => by simp [inV]
  | x :: r => by
    have ih := inV_str s r
    unfold inV at ih ⊢
    rw [List.map_cons, List.any_cons, ih]
    have e : eqV (.str x) (.str s) = decide (s = x) := by
      show (x == s) = decide (s = x)
      by_cases h : s = x
      · subst h; simp
      · rw [decide_eq_false h]; exact beq_eq_false_iff_ne.mpr fun e => h e.symm
    rw [e]
    by_cases h : s = x <;> simp [h]
theorem digits_of_all {l : List Nat} (h : l.all isDig = true) : NumText.AllDigits l := fun c hc => by
  have := List.all_eq_true.mp h c hc
  unfold isDig at this
  simp only [Bool.and_eq_true, decide_eq_true_eq] at this
  exact this
theorem all_of_digits {l : List Nat} (h : NumText.AllDigits l) : l.all isDig = true := List.all_eq_true.mpr fun c hc => by
  have := h c hc
  unfold isDig
  simp only [Bool.and_eq_true, decide_eq_true_eq]
  exact this
theorem foldl_lt : ∀ (l : List Nat) (a : Nat), NumText.AllDigits l → l.foldl (fun acc c => acc * 10 + (c - 48)) a < (a + 1) * 10 ^ l.length
  | [], a, _ => by simp
  | c :: r, a, h => by
    have hc := h c List.mem_cons_self
    have ih := foldl_lt r (a * 10 + (c - 48)) fun d hd => h d (List.mem_cons_of_mem _ hd)
    have e : (a + 1) * 10 ^ (r.length + 1) = ((a + 1) * 10) * 10 ^ r.length := by rw [Nat.pow_succ, Nat.mul_comm (10 ^ r.length) 10, ← Nat.mul_assoc]
    rw [List.foldl_cons, List.length_cons, e]
    exact Nat.lt_of_lt_of_le ih (Nat.mul_le_mul_right _ (by omega))
theorem digitsVal_lt {l : List Nat} (h : NumText.AllDigits l) : NumText.digitsVal l < 10 ^ l.length := by
  have := foldl_lt l 0 h
  rw [Nat.zero_add, Nat.one_mul] at this
  exact this
theorem valW_parts {s : Str} (h : isValW s = true) : (1 ≤ (tl s).length ∧ (tl s).length ≤ 6) ∧ ((tl s).head? = some 48 → s = "0") ∧ NumText.AllDigits (tl s) := by
  unfold isValW lenOk at h
  simp only [Bool.and_eq_true, decide_eq_true_eq, Bool.not_eq_true', Bool.and_eq_false_iff, beq_eq_false_iff_ne, decide_eq_false_iff_not] at h
  obtain ⟨⟨⟨h1, h2⟩, h3⟩, h4⟩ := h
  refine ⟨⟨h1, h2⟩, fun e => ?_, digits_of_all h4⟩
  rcases h3 with h3 | h3
  · exact absurd e h3
  · exact Classical.not_not.mp h3
theorem valW_int {s : Str} (h : isValW s = true) : PySem.intText? s = some (valOf s) ∧ s.length ≤ 640 ∧ 0 ≤ valOf s ∧ valOf s < 1000000 := by
  obtain ⟨⟨h1, h2⟩, _, h4⟩ := valW_parts h
  have hl : s.length = (tl s).length := len_tl s
  refine ⟨PySem.intText_digits (x := s) h4 (fun e => ?_) (by omega), by omega, Int.natCast_nonneg _, ?_⟩
  · have e' : tl s = [] := e
    rw [e'] at h1; simp at h1
  · have := digitsVal_lt h4
    have p : 10 ^ (tl s).length ≤ 10 ^ 6 := Nat.pow_le_pow_right (by decide) h2
    unfold valOf
    omega
theorem numL_head : ∀ n : Nat, (numL n).head? = some 48 → n = 0 := by
  intro n
  induction n using Nat.strongRecOn with
  | _ n ih =>
    intro h
    by_cases c : n < 10
    · rw [numL_lt c] at h
      simp at h
      omega
    · rw [numL_step (by omega)] at h
      cases q : numL (n / 10) with
      | nil => exact absurd q (numL_ne _)
      | cons x r =>
        rw [q, List.cons_append, List.head?_cons] at h
        have := ih (n / 10) (by omega) (by rw [q, List.head?_cons]; exact h)
        omega
theorem tl_numT {n : Int} (h : 0 ≤ n) : tl (numT n) = numL n.toNat := by
  have e : n = ((n.toNat : Nat) : Int) := by omega
  unfold numT
  rw [e]
  exact tl_num _
theorem numT_valW {n : Int} (h0 : 0 ≤ n) (h1 : n < 1000000) : isValW (numT n) = true ∧ valOf (numT n) = n := by
  have et := tl_numT h0
  have hl : (numL n.toNat).length ≤ 6 := numL_len (by decide) (by omega)
  have hp : 1 ≤ (numL n.toNat).length := by
    cases q : numL n.toNat with
    | nil => exact absurd q (numL_ne _)
    | cons x r => simp
  refine ⟨?_, ?_⟩
  · unfold isValW lenOk
    rw [et]
    simp only [Bool.and_eq_true, decide_eq_true_eq, Bool.not_eq_true', Bool.and_eq_false_iff, beq_eq_false_iff_ne, decide_eq_false_iff_not]
    refine ⟨⟨⟨hp, hl⟩, ?_⟩, all_of_digits (numL_digits _)⟩
    by_cases c : (numL n.toNat).head? = some 48
    · have z := numL_head _ c
      right
      have : n = 0 := by omega
      subst this
      exact fun e => e (by decide +kernel)
    · exact .inl c
  · unfold valOf
    rw [et, numL_val]
    omega
theorem numT_inj {m n : Int} (hm : 0 ≤ m) (hn : 0 ≤ n) (e : numT m = numT n) : m = n := by
  have e' := congrArg tl e
  rw [tl_numT hm, tl_numT hn] at e'
  have := numL_inj e'
  omega
theorem toDigits_digitsVal' {l : List Nat} (h : NumText.AllDigits l) (h1 : 1 ≤ l.length) (c : ¬ l.head? = some 48) : numL (NumText.digitsVal l) = l := by
  unfold numL
  rw [NumText.toDigits_digitsVal (l.length - 1) l (by omega) h (Or.inr ?_), List.map_map]
  · conv => rhs; rw [← List.map_id l]
    refine List.map_congr_left fun d hd => ?_
    have hd' := h d hd
    show (Char.ofNat d).toNat = d
    obtain ⟨a, b⟩ := hd'
    have : ∀ k, k < 10 → (Char.ofNat (48 + k)).toNat = 48 + k := by decide
    have e : d = 48 + (d - 48) := by omega
    rw [e]
    exact this _ (by omega)
  · cases l with
    | nil => simp at h1
    | cons x r =>
      refine ⟨x, r, rfl, ?_⟩
      have := h x List.mem_cons_self
      have : x ≠ 48 := fun e => c (by rw [e]; rfl)
      omega
theorem valW_canon {s : Str} (h : isValW s = true) : numT (valOf s) = s := by
  obtain ⟨⟨h1, h2⟩, h3, h4⟩ := valW_parts h
  refine ext_tl ?_
  rw [tl_numT (valW_int h).2.2.1]
  show numL ((NumText.digitsVal (tl s) : Nat) : Int).toNat = tl s
  rw [Int.toNat_natCast]
  by_cases c : (tl s).head? = some 48
  · rw [h3 c]; decide +kernel
  · have key := toDigits_digitsVal' h4 h1 c
    exact key
theorem nameW_parts {s : Str} (h : isNameW s = true) : (1 ≤ (tl s).length ∧ (tl s).length ≤ 6) ∧ s ∉ PAIRW ∧ s ∉ ROWW ∧ s ∉ OTHW ∧ ∀ c ∈ tl s, 97 ≤ c ∧ c ≤ 122 := by
  unfold isNameW lenOk at h
  simp only [Bool.and_eq_true, decide_eq_true_eq, Bool.not_eq_true', Bool.or_eq_false_iff, decide_eq_false_iff_not] at h
  obtain ⟨⟨⟨h1, h2⟩, h3, h5, h6⟩, h4⟩ := h
  refine ⟨⟨h1, h2⟩, h3, h5, h6, fun c hc => ?_⟩
  have := List.all_eq_true.mp h4 c hc
  unfold isLow at this
  simp only [Bool.and_eq_true, decide_eq_true_eq] at this
  exact this
theorem name_not_val {s : Str} (h : isNameW s = true) : isValW s = false := by
  obtain ⟨⟨h1, _⟩, _, _, _, h4⟩ := nameW_parts h
  cases c : isValW s with
  | false => rfl
  | true =>
    obtain ⟨_, _, h5⟩ := valW_parts c
    cases q : tl s with
    | nil => rw [q] at h1; simp at h1
    | cons x r =>
      have a1 := h4 x (by rw [q]; exact List.mem_cons_self)
      have a2 := h5 x (by rw [q]; exact List.mem_cons_self)
      omega
theorem val_free {s : Str} {c : Nat} (h : isValW s = true) (hc : c < 48 ∨ 57 < c) : c ∉ tl s := fun hm => by
  obtain ⟨_, _, h5⟩ := valW_parts h
  have a2 := h5 c hm
  omega
theorem name_free {s : Str} {c : Nat} (h : isNameW s = true) (hc : c < 97 ∨ 122 < c) : c ∉ tl s := fun hm => by
  obtain ⟨_, _, _, _, h4⟩ := nameW_parts h
  have a1 := h4 c hm
  omega
theorem pair_free : ∀ s ∈ PAIRW, ∀ c ∈ tl s, 97 ≤ c ∧ c ≤ 122 := by decide +kernel
theorem pair_not_val : ∀ s ∈ PAIRW, isValW s = false ∧ isNameW s = false ∧ s ≠ "cell" ∧ (tl s).length ≤ 6 := by decide +kernel
theorem cell_not : isValW "cell" = false ∧ isNameW "cell" = false := by decide +kernel
/-! ### expressions -/
inductive Ex where
  | num (n : Int)
  | box (s : Str)
  | cell (e : Ex)
  | two (w : Str) (l r : Ex)
namespace Ex
def depth : Ex → Nat
  | num _ => 1
  | box _ => 1
  | cell e => e.depth + 1
  | two _ l r => max l.depth r.depth + 1
def parts : Ex → Nat
  | num _ => 1
  | box _ => 1
  | cell e => 1 + e.parts
  | two _ l r => 1 + l.parts + r.parts
def toks : Ex → List Str
  | num n => [numT n]
  | box s => [s]
  | cell e => "cell" :: e.toks
  | two w l r => w :: (l.toks ++ r.toks)
def Wf : Ex → Prop
  | num n => 0 ≤ n ∧ n < 1000000
  | box s => isNameW s = true
  | cell e => e.Wf
  | two w l r => w ∈ PAIRW ∧ l.Wf ∧ r.Wf
def told : Ex → PyData
  | num n => .tuple [.str "number", .int n]
  | box s => .tuple [.str "box", .str s]
  | cell e => .tuple [.str "cell", e.told]
  | two w l r => .tuple [.str w, l.told, r.told]
theorem depth_pos : ∀ e : Ex, 1 ≤ e.depth
  | num _ => Nat.le_refl 1
  | box _ => Nat.le_refl 1
  | cell _ => Nat.le_add_left _ _
  | two _ _ _ => Nat.le_add_left _ _
theorem parts_pos : ∀ e : Ex, 1 ≤ e.parts
  | num _ => Nat.le_refl 1
  | box _ => Nat.le_refl 1
  | cell _ => Nat.le_add_right _ _
  | two _ _ _ => Nat.le_trans (Nat.le_add_right 1 _) (Nat.le_add_right _ _)
theorem toks_len : ∀ e : Ex, e.toks.length = e.parts
  | num _ => rfl
  | box _ => rfl
  | cell e => by show e.toks.length + 1 = 1 + e.parts; rw [toks_len e]; omega
  | two w l r => by
    show (l.toks ++ r.toks).length + 1 = 1 + l.parts + r.parts
    rw [List.length_append, toks_len l, toks_len r]; omega
theorem parts_depth : ∀ e : Ex, e.depth ≤ e.parts
  | num _ => Nat.le_refl 1
  | box _ => Nat.le_refl 1
  | cell e => by have := parts_depth e; show e.depth + 1 ≤ 1 + e.parts; omega
  | two w l r => by have := parts_depth l; have := parts_depth r; show max l.depth r.depth + 1 ≤ 1 + l.parts + r.parts; omega
theorem toks_ok : ∀ {e : Ex}, e.Wf → ∀ s ∈ e.toks, (tl s).length ≤ 6 ∧ ∀ c ∈ tl s, (48 ≤ c ∧ c ≤ 57) ∨ (97 ≤ c ∧ c ≤ 122)
  | num n, h, s, hs => by
    rw [List.mem_singleton.mp hs]
    obtain ⟨⟨_, h2⟩, _, h4⟩ := valW_parts (numT_valW h.1 h.2).1
    exact ⟨h2, fun c hc => .inl (h4 c hc)⟩
  | box b, h, s, hs => by
    rw [List.mem_singleton.mp hs]
    obtain ⟨⟨_, h2⟩, _, _, _, h4⟩ := nameW_parts h
    exact ⟨h2, fun c hc => .inr (h4 c hc)⟩
  | cell e, h, s, hs => by
    rcases List.mem_cons.mp hs with rfl | hs
    · exact ⟨by decide +kernel, fun c hc => .inr ((by decide +kernel : ∀ c ∈ tl (Str.ofString "cell"), 97 ≤ c ∧ c ≤ 122) c hc)⟩
    · exact toks_ok (e := e) h s hs
  | two w l r, h, s, hs => by
    rcases List.mem_cons.mp hs with rfl | hs
    · exact ⟨(pair_not_val _ h.1).2.2.2, fun c hc => .inr (pair_free _ h.1 c hc)⟩
    · rcases List.mem_append.mp hs with hs | hs
      · exact toks_ok (e := l) h.2.1 s hs
      · exact toks_ok (e := r) h.2.2 s hs
end Ex
/-- the expression that begins the words, of at most so many parts within one another; what is behind it -/
def parseE : Nat → List Str → Option (Ex × List Str)
  | 0, _ => none
  | _ + 1, [] => none
  | d + 1, w :: r =>
    if isValW w = true then some (.num (valOf w), r)
    else if isNameW w = true then some (.box w, r)
    else if w = "cell" then (match parseE d r with
      | none => none
      | some (e, r1) => some (.cell e, r1))
    else if w ∈ PAIRW then (match parseE d r with
      | none => none
      | some (l, r1) => (match parseE d r1 with
        | none => none
        | some (e, r2) => some (.two w l e, r2)))
    else none
theorem parse_toks : ∀ {d : Nat} {e : Ex}, e.Wf → e.depth ≤ d → ∀ r, parseE d (e.toks ++ r) = some (e, r)
  | 0, e, _, hd, _ => absurd (e.depth_pos) (by omega)
  | d + 1, .num n, h, _, r => by
    have q := numT_valW h.1 h.2
    show parseE (d + 1) (numT n :: r) = _
    unfold parseE
    rw [if_pos q.1, q.2]
  | d + 1, .box s, h, _, r => by
    show parseE (d + 1) (s :: r) = _
    unfold parseE
    rw [if_neg (by rw [name_not_val h]; decide), if_pos (show isNameW s = true from h)]
  | d + 1, .cell e, h, hd, r => by
    show parseE (d + 1) ("cell" :: (e.toks ++ r)) = _
    unfold parseE
    rw [if_neg (by rw [cell_not.1]; decide), if_neg (by rw [cell_not.2]; decide), if_pos rfl, parse_toks (d := d) (e := e) h (by have : e.depth + 1 ≤ d + 1 := hd; omega) r]
  | d + 1, .two w l e, h, hd, r => by
    obtain ⟨hw, hl, he⟩ := h
    have hd' : max l.depth e.depth + 1 ≤ d + 1 := hd
    obtain ⟨q1, q2, q3, _⟩ := pair_not_val w hw
    show parseE (d + 1) (w :: ((l.toks ++ e.toks) ++ r)) = _
    unfold parseE
    rw [if_neg (by rw [q1]; decide), if_neg (by rw [q2]; decide), if_neg q3, if_pos hw, List.append_assoc, parse_toks (d := d) hl (by omega) (e.toks ++ r)]
    show (match parseE d (e.toks ++ r) with | none => none | some (e, r2) => some (Ex.two w l e, r2)) = _
    rw [parse_toks (d := d) he (by omega) r]
theorem parse_wf : ∀ {d : Nat} {ws : List Str} {e : Ex} {r : List Str}, parseE d ws = some (e, r) → e.Wf ∧ e.depth ≤ d ∧ ws = e.toks ++ r
  | 0, _, _, _, h => by simp [parseE] at h
  | _ + 1, [], _, _, h => by simp [parseE] at h
  | d + 1, w :: t, e, r, h => by
    unfold parseE at h
    by_cases c1 : isValW w = true
    · rw [if_pos c1] at h
      cases h
      obtain ⟨_, _, h3, h4⟩ := valW_int c1
      exact ⟨⟨h3, h4⟩, Nat.le_add_left _ _, by show w :: t = [numT (valOf w)] ++ t; rw [valW_canon c1]; rfl⟩
    rw [if_neg c1] at h
    by_cases c2 : isNameW w = true
    · rw [if_pos c2] at h
      cases h
      exact ⟨c2, Nat.le_add_left _ _, rfl⟩
    rw [if_neg c2] at h
    by_cases c3 : w = "cell"
    · rw [if_pos c3] at h
      cases q : parseE d t with
      | none => rw [q] at h; cases h
      | some p =>
        obtain ⟨e1, r1⟩ := p
        rw [q] at h
        cases h
        obtain ⟨a1, a2, a3⟩ := parse_wf q
        exact ⟨a1, Nat.succ_le_succ a2, by rw [c3, a3]; rfl⟩
    rw [if_neg c3] at h
    by_cases c4 : w ∈ PAIRW
    · rw [if_pos c4] at h
      cases q : parseE d t with
      | none => rw [q] at h; cases h
      | some p =>
        obtain ⟨e1, r1⟩ := p
        rw [q] at h
        simp only at h
        cases q2 : parseE d r1 with
        | none => rw [q2] at h; cases h
        | some p2 =>
          obtain ⟨e2, r2⟩ := p2
          rw [q2] at h
          cases h
          obtain ⟨a1, a2, a3⟩ := parse_wf q
          obtain ⟨b1, b2, b3⟩ := parse_wf q2
          exact ⟨⟨c4, a1, b1⟩, by show max e1.depth e2.depth + 1 ≤ d + 1; omega, by rw [a3, b3]; show _ = w :: (e1.toks ++ e2.toks) ++ r; rw [List.cons_append, List.append_assoc]⟩
    · rw [if_neg c4] at h; cases h
/-- all the expressions of a row of words -/
def parseAll : Nat → List Str → Option (List Ex)
  | _, [] => some []
  | 0, _ :: _ => none
  | n + 1, ws => match parseE 6 ws with
    | none => none
    | some (e, r) => if e.parts ≤ 15 then (match parseAll n r with
      | none => none
      | some es => some (e :: es)) else none

/-! ### objects -/
structure EC where
  num : Addr
  box : Addr
  cell : Addr
  two : Addr
def EC.Fam (c : EC) (C : Addr) : Prop := C = c.num ∨ C = c.box ∨ C = c.cell ∨ C = c.two
def EC.of (c : EC) : Ex → Addr
  | .num _ => c.num
  | .box _ => c.box
  | .cell _ => c.cell
  | .two _ _ _ => c.two
theorem EC.fam (c : EC) : ∀ e : Ex, c.Fam (c.of e)
  | .num _ => .inl rfl
  | .box _ => .inr (.inl rfl)
  | .cell _ => .inr (.inr (.inl rfl))
  | .two _ _ _ => .inr (.inr (.inr rfl))
def fNum (n : Int) : List (Str × V) := [("value", .int n)]
def fBox (s : Str) : List (Str × V) := [("name", .str s)]
def fCell (i : V) : List (Str × V) := [("inner", i)]
def fTwo (w : Str) (a b : V) : List (Str × V) := [("word", .str w), ("left", a), ("right", b)]
/-- v is an object of the expression e -/
def ObjE (c : EC) (H : Hp) : Ex → V → Prop
  | .num n, v => ∃ p dx, v = .ref p ∧ H p = some (.ins c.num dx (fNum n))
  | .box s, v => ∃ p dx, v = .ref p ∧ H p = some (.ins c.box dx (fBox s))
  | .cell e, v => ∃ p dx i, v = .ref p ∧ H p = some (.ins c.cell dx (fCell i)) ∧ ObjE c H e i
  | .two w l r, v => ∃ p dx a b, v = .ref p ∧ H p = some (.ins c.two dx (fTwo w a b)) ∧ ObjE c H l a ∧ ObjE c H r b
theorem ObjE.same {c : EC} {H H' : Hp} (s : Same H H') : ∀ {e : Ex} {v : V}, ObjE c H e v → ObjE c H' e v
  | .num n, v, ⟨p, dx, h1, h2⟩ => ⟨p, dx, h1, s _ _ h2⟩
  | .box n, v, ⟨p, dx, h1, h2⟩ => ⟨p, dx, h1, s _ _ h2⟩
  | .cell e, v, ⟨p, dx, i, h1, h2, h3⟩ => ⟨p, dx, i, h1, s _ _ h2, ObjE.same s h3⟩
  | .two w l r, v, ⟨p, dx, a, b, h1, h2, h3, h4⟩ => ⟨p, dx, a, b, h1, s _ _ h2, ObjE.same s h3, ObjE.same s h4⟩
abbrev exMeth (m : Str) : Prop := m ∈ (["told", "words", "parts", "levels", "reckon"] : List Str)
theorem look_none {m : Str} (h : exMeth m) : (∀ n, (fNum n).lookup m = none) ∧ (∀ s, (fBox s).lookup m = none) ∧ (∀ i, (fCell i).lookup m = none) ∧ (∀ w a b, (fTwo w a b).lookup m = none) := by
  have n : ∀ k ∈ (["value", "name", "inner", "word", "left", "right"] : List Str), (m == k) = false := by
    intro k hk
    have : ∀ x ∈ (["told", "words", "parts", "levels", "reckon"] : List Str), ∀ y ∈ (["value", "name", "inner", "word", "left", "right"] : List Str), (x == y) = false := by decide +kernel
    exact this m h k hk
  refine ⟨fun z => ?_, fun z => ?_, fun z => ?_, fun w a b => ?_⟩
  · show (match m == "value" with | true => some (V.int z) | false => none) = none
    rw [n "value" (by decide +kernel)]
  · show (match m == "name" with | true => some (V.str z) | false => none) = none
    rw [n "name" (by decide +kernel)]
  · show (match m == "inner" with | true => some z | false => none) = none
    rw [n "inner" (by decide +kernel)]
  · unfold fTwo
    rw [List.lookup_cons, n "word" (by decide +kernel)]
    simp only
    rw [List.lookup_cons, n "left" (by decide +kernel)]
    simp only
    rw [List.lookup_cons, n "right" (by decide +kernel)]
    rfl
theorem ObjE.at {c : EC} {H : Hp} {m : Str} (hm : exMeth m) : ∀ {e : Ex} {v : V}, ObjE c H e v → ∃ p dx fs, v = .ref p ∧ H p = some (.ins (c.of e) dx fs) ∧ fs.lookup m = none
  | .num n, v, ⟨p, dx, h1, h2⟩ => ⟨p, dx, _, h1, h2, (look_none hm).1 _⟩
  | .box n, v, ⟨p, dx, h1, h2⟩ => ⟨p, dx, _, h1, h2, (look_none hm).2.1 _⟩
  | .cell e, v, ⟨p, dx, i, h1, h2, h3⟩ => ⟨p, dx, _, h1, h2, (look_none hm).2.2.1 _⟩
  | .two w l r, v, ⟨p, dx, a, b, h1, h2, h3, h4⟩ => ⟨p, dx, _, h1, h2, (look_none hm).2.2.2 _ _ _⟩
/-! ### data told -/
theorem dp_same {K : PySem.W.Frag} {H H' : Hp} (s : Same H H') {v : V} {d : PyData} (h : Dp K H v d) : Dp K H' v d := by
  refine Dp.rec (motive_1 := fun v d _ => Dp K H' v d) (motive_2 := fun vs ds _ => DpAll K H' vs ds) ?_ ?_ ?_ ?_ ?_ ?_ ?_ ?_ h
  · exact .non
  · exact fun b => .bl b
  · exact fun i => .int i
  · exact fun x => .str x
  · exact fun h1 _ h2 => .lst (s.seq h1) h2
  · exact fun h1 _ h2 => .tup (same_tup s h1) h2
  · exact .nil
  · exact fun _ _ h1 h2 => .cons h1 h2
theorem dpAll_same {K : PySem.W.Frag} {H H' : Hp} (s : Same H H') : ∀ {vs : List V} {ds : List PyData}, DpAll K H vs ds → DpAll K H' vs ds
  | _, _, .nil => .nil
  | _, _, .cons a b => .cons (dp_same s a) (dpAll_same s b)
/-- v is told data, a tuple that stands by itself -/
def TupD (K : PySem.W.Frag) (H : Hp) (v : V) (ds : List PyData) : Prop := ∃ t xs, v = .ref t ∧ H t = some (.tup xs) ∧ DpAll K H xs ds
theorem TupD.dp {K : PySem.W.Frag} {H : Hp} {v : V} {ds : List PyData} (h : TupD K H v ds) : Dp K H v (.tuple ds) := by
  obtain ⟨t, xs, rfl, h1, h2⟩ := h
  exact .tup (SqT.of h1) h2
theorem TupD.same {K : PySem.W.Frag} {H H' : Hp} (s : Same H H') {v : V} {ds : List PyData} (h : TupD K H v ds) : TupD K H' v ds := by
  obtain ⟨t, xs, rfl, h1, h2⟩ := h
  exact ⟨t, xs, rfl, s _ _ h1, dpAll_same s h2⟩
def Ex.items : Ex → List PyData
  | .num n => [.str "number", .int n]
  | .box s => [.str "box", .str s]
  | .cell e => [.str "cell", e.told]
  | .two w l r => [.str w, l.told, r.told]
theorem Ex.told_items : ∀ e : Ex, e.told = .tuple e.items
  | .num _ => rfl
  | .box _ => rfl
  | .cell _ => rfl
  | .two _ _ _ => rfl
/-- v is the told tuple of e: each inner tuple stands by itself -/
def ToldE (K : PySem.W.Frag) (H : Hp) : Ex → V → Prop
  | .num n, v => ∃ t, v = .ref t ∧ H t = some (.tup [.str "number", .int n])
  | .box s, v => ∃ t, v = .ref t ∧ H t = some (.tup [.str "box", .str s])
  | .cell e, v => ∃ t i, v = .ref t ∧ H t = some (.tup [.str "cell", i]) ∧ ToldE K H e i
  | .two w l r, v => ∃ t a b, v = .ref t ∧ H t = some (.tup [.str w, a, b]) ∧ ToldE K H l a ∧ ToldE K H r b
theorem ToldE.same {K : PySem.W.Frag} {H H' : Hp} (s : Same H H') : ∀ {e : Ex} {v : V}, ToldE K H e v → ToldE K H' e v
  | .num n, v, ⟨p, h1, h2⟩ => ⟨p, h1, s _ _ h2⟩
  | .box n, v, ⟨p, h1, h2⟩ => ⟨p, h1, s _ _ h2⟩
  | .cell e, v, ⟨p, i, h1, h2, h3⟩ => ⟨p, i, h1, s _ _ h2, ToldE.same s h3⟩
  | .two w l r, v, ⟨p, a, b, h1, h2, h3, h4⟩ => ⟨p, a, b, h1, s _ _ h2, ToldE.same s h3, ToldE.same s h4⟩
theorem ToldE.dp {K : PySem.W.Frag} {H : Hp} : ∀ {e : Ex} {v : V}, ToldE K H e v → Dp K H v e.told
  | .num n, v, ⟨p, h1, h2⟩ => by rw [h1]; exact .tup (SqT.of h2) (.cons (.str _) (.cons (.int _) .nil))
  | .box n, v, ⟨p, h1, h2⟩ => by rw [h1]; exact .tup (SqT.of h2) (.cons (.str _) (.cons (.str _) .nil))
  | .cell e, v, ⟨p, i, h1, h2, h3⟩ => by rw [h1]; exact .tup (SqT.of h2) (.cons (.str _) (.cons (ToldE.dp h3) .nil))
  | .two w l r, v, ⟨p, a, b, h1, h2, h3, h4⟩ => by rw [h1]; exact .tup (SqT.of h2) (.cons (.str _) (.cons (ToldE.dp h3) (.cons (ToldE.dp h4) .nil)))
theorem ToldE.ref {K : PySem.W.Frag} {H : Hp} : ∀ {e : Ex} {v : V}, ToldE K H e v → ∃ t xs, v = .ref t ∧ H t = some (.tup xs)
  | .num n, v, ⟨p, h1, h2⟩ => ⟨p, _, h1, h2⟩
  | .box n, v, ⟨p, h1, h2⟩ => ⟨p, _, h1, h2⟩
  | .cell e, v, ⟨p, i, h1, h2, h3⟩ => ⟨p, _, h1, h2⟩
  | .two w l r, v, ⟨p, a, b, h1, h2, h3, h4⟩ => ⟨p, _, h1, h2⟩
theorem strOk_of {s : Str} (h : ∀ c ∈ tl s, c ≤ 122) : PyData.strOk s = true := by
  unfold PyData.strOk
  rw [← Array.all_toList]
  refine List.all_eq_true.mpr fun c hc => ?_
  have := h c hc
  simp only [decide_eq_true_eq]
  omega
theorem Ex.lay : ∀ {e : Ex}, e.Wf → e.told.canLay0 = true
  | .num n, _ => by
    show (PyData.strOk _ && (true && true)) = true
    rw [strOk_of (by decide +kernel)]; rfl
  | .box s, h => by
    obtain ⟨_, _, _, _, h4⟩ := nameW_parts (s := s) h
    show (PyData.strOk _ && (PyData.strOk s && true)) = true
    rw [strOk_of (by decide +kernel), strOk_of fun c hc => (h4 c hc).2]; rfl
  | .cell e, h => by
    have ih := Ex.lay (e := e) h
    show (PyData.strOk _ && (e.told.canLay0 && true)) = true
    rw [strOk_of (by decide +kernel), ih]; rfl
  | .two w l r, h => by
    have h1 := Ex.lay (e := l) h.2.1
    have h2 := Ex.lay (e := r) h.2.2
    show (PyData.strOk w && (l.told.canLay0 && (r.told.canLay0 && true))) = true
    rw [strOk_of fun c hc => (pair_free w h.1 c hc).2, h1, h2]; rfl
theorem Ex.told_depth : ∀ e : Ex, e.told.depth ≤ e.depth
  | .num _ => by show max 0 (max 0 0) + 1 ≤ 1; omega
  | .box _ => by show max 0 (max 0 0) + 1 ≤ 1; omega
  | .cell e => by
    have := Ex.told_depth e
    show max 0 (max e.told.depth 0) + 1 ≤ e.depth + 1; omega
  | .two w l r => by
    have := Ex.told_depth l
    have := Ex.told_depth r
    show max 0 (max l.told.depth (max r.told.depth 0)) + 1 ≤ max l.depth r.depth + 1; omega
theorem Ex.shaped {e : Ex} (h : e.Wf) (hd : e.depth ≤ 60) : SeqAt.shaped e.told = true := by
  have h1 := Ex.lay h
  have h2 := Ex.told_depth e
  show (e.told.canLay0 && decide (e.told.depth ≤ 64)) = true
  rw [h1, decide_eq_true (by omega)]; rfl
theorem Ex.eqv {e : Ex} (h : e.Wf) : PyData.eqv e.told e.told = true := SeqAt.eqv_refl _ (Ex.lay h)
/-! ### texts -/
def Ex.text : Ex → Str
  | .num n => numT n
  | .box s => s
  | .cell e => (Str.ofString "cell ") ++ e.text
  | .two w l r => Txt.join (Str.ofString " ") [w, l.text, r.text]
theorem Ex.text_len : ∀ {e : Ex}, e.Wf → e.text.length + 1 ≤ 7 * e.parts
  | .num n, h => by
    have := Ex.toks_ok (e := .num n) h (numT n) (List.mem_singleton.mpr rfl)
    show (numT n).length + 1 ≤ 7 * 1
    rw [len_tl]; omega
  | .box s, h => by
    have := Ex.toks_ok (e := .box s) h s (List.mem_singleton.mpr rfl)
    show s.length + 1 ≤ 7 * 1
    rw [len_tl]; omega
  | .cell e, h => by
    have ih := Ex.text_len (e := e) h
    show (Str.ofString "cell " ++ e.text).length + 1 ≤ 7 * (1 + e.parts)
    rw [len_tl, tl_append, List.length_append]
    have : (tl (Str.ofString "cell ")).length = 5 := by decide +kernel
    rw [len_tl] at ih
    omega
  | .two w l r, h => by
    have h1 := Ex.text_len (e := l) h.2.1
    have h2 := Ex.text_len (e := r) h.2.2
    have h3 := (pair_not_val w h.1).2.2.2
    have b : (tl (Str.ofString " ")).length = 1 := by decide +kernel
    show (Txt.join (Str.ofString " ") [w, l.text, r.text]).length + 1 ≤ 7 * (1 + l.parts + r.parts)
    rw [join_eq, len_tl, tl_join]
    rw [len_tl] at h1 h2
    simp only [List.map_cons, List.map_nil, joinL, List.length_append, b]
    omega
theorem Ex.text_toks : ∀ {e : Ex}, tl e.text = joinL [32] (e.toks.map tl)
  | .num n => rfl
  | .box s => rfl
  | .cell e => by
    have ih := Ex.text_toks (e := e)
    show tl (Str.ofString "cell " ++ e.text) = joinL [32] ((Str.ofString "cell" :: e.toks).map tl)
    rw [tl_append, ih]
    have c1 : tl (Str.ofString "cell ") = tl (Str.ofString "cell") ++ [32] := by decide +kernel
    rw [c1]
    cases q : e.toks with
    | nil => have := e.toks_len; rw [q] at this; have := e.parts_pos; simp at *; omega
    | cons x r =>
      show _ = tl (Str.ofString "cell") ++ ([32] ++ joinL [32] ((x :: r).map tl))
      rw [List.append_assoc]
  | .two w l r => by
    have h1 := Ex.text_toks (e := l)
    have h2 := Ex.text_toks (e := r)
    show tl (Txt.join (Str.ofString " ") [w, l.text, r.text]) = joinL [32] ((w :: (l.toks ++ r.toks)).map tl)
    have b : tl (Str.ofString " ") = [32] := by decide +kernel
    rw [join_eq, tl_join, b]
    show tl w ++ ([32] ++ (tl l.text ++ ([32] ++ tl r.text))) = _
    rw [h1, h2, List.map_cons, List.map_append]
    have key : ∀ (a b : List (List Nat)), a ≠ [] → b ≠ [] → joinL [32] a ++ ([32] ++ joinL [32] b) = joinL [32] (a ++ b) := by
      intro a
      induction a with
      | nil => intro b h; exact absurd rfl h
      | cons x a ih =>
        intro b _ hb
        cases a with
        | nil =>
          cases b with
          | nil => exact absurd rfl hb
          | cons y b => rfl
        | cons x2 a =>
          have := ih b (by simp) hb
          show (x ++ ([32] ++ joinL [32] (x2 :: a))) ++ _ = x ++ ([32] ++ joinL [32] ((x2 :: a) ++ b))
          rw [← this]
          simp only [List.append_assoc]
    have n1 : l.toks.map tl ≠ [] := fun e => by have := congrArg List.length e; rw [List.length_map, l.toks_len] at this; have := l.parts_pos; simp at *; omega
    have n2 : r.toks.map tl ≠ [] := fun e => by have := congrArg List.length e; rw [List.length_map, r.toks_len] at this; have := r.parts_pos; simp at *; omega
    rw [key _ _ n1 n2]
    cases q : (l.toks.map tl ++ r.toks.map tl) with
    | nil => exact absurd (List.append_eq_nil_iff.mp q).1 n1
    | cons x z => rfl
theorem Ex.split_text {e : Ex} (h : e.Wf) : Txt.split e.text (Str.ofString " ") = e.toks := by
  have b : tl (Str.ofString " ") = 32 :: [] := by decide +kernel
  have ej : e.text = Txt.join (Str.ofString " ") e.toks := by
    refine ext_tl ?_
    rw [join_eq, tl_join, b, Ex.text_toks]
  rw [ej]
  refine split_join b (by decide +kernel) (fun q => ?_) fun p hp => ?_
  · have := e.toks_len; rw [q] at this; have := e.parts_pos; simp at *; omega
  · intro hm
    rcases (Ex.toks_ok h p hp).2 32 hm with c | c <;> omega
/-! ### promises -/
/-- one text in, a truth out; nothing else is touched -/
def spTruthS (f : Str → Bool) : Sp := fun vs H Q _ => ∃ s : Str, vs = [.str s] ∧ s.length ≤ 100000 ∧ ∀ H', Same H H' → Q (.bl (f s)) H'
def spInit1 (C : Addr) (f : Str) : Sp := fun vs H Q _ => ∃ (p dx : Addr) (x : V), vs = [.ref p, x] ∧ H p = some (.ins C dx []) ∧ Q .non (upd H p (.ins C dx [(f, x)]))
def spTwoI (C : Addr) : Sp := fun vs H Q _ => ∃ (p dx : Addr) (w : Str) (a b : V), vs = [.ref p, .str w, a, b] ∧ H p = some (.ins C dx []) ∧ Q .non (upd H p (.ins C dx (fTwo w a b)))
def spTold (K : PySem.W.Frag) (c : EC) (n : Nat) (C : Addr) : Sp := fun vs H Q _ => ∃ (e : Ex) (v : V), vs = [v] ∧ ObjE c H e v ∧ c.of e = C ∧ e.depth ≤ n ∧ ∀ r H', Same H H' → ToldE K H' e r → Q r H'
def spWords (c : EC) (n : Nat) (C : Addr) : Sp := fun vs H Q _ => ∃ (e : Ex) (v : V), vs = [v] ∧ ObjE c H e v ∧ c.of e = C ∧ e.depth ≤ n ∧ e.Wf ∧ e.parts ≤ 1000 ∧ ∀ H', Same H H' → Q (.str e.text) H'
def spParts (c : EC) (n : Nat) (C : Addr) : Sp := fun vs H Q _ => ∃ (e : Ex) (v : V), vs = [v] ∧ ObjE c H e v ∧ c.of e = C ∧ e.depth ≤ n ∧ Q (.int e.parts) H
def spExprAt (K : PySem.W.Frag) (c : EC) (N : Addr) (n : Nat) : Sp := fun vs H Q E => ∃ (a : Addr) (ws : List Str) (i d : Nat), vs = [.ref a, .int i, .int (7 - (d : Int))] ∧ SqL K H a (ws.map V.str) ∧ ws.length ≤ 100000 ∧ (∀ s ∈ ws, s.length ≤ 100000) ∧ d < n ∧ d ≤ 7 ∧
  (∀ e r, parseE d (ws.drop i) = some (e, r) → ∀ t H' v, Same H H' → H' t = some (.tup [v, .int ((ws.length - r.length : Nat) : Int)]) → ObjE c H' e v → Q (.ref t) H') ∧
  (parseE d (ws.drop i) = none → ∀ H', Same H H' → E (.ref N) none H')
inductive AllE (c : EC) (H : Hp) : List Ex → List V → Prop where
  | nil : AllE c H [] []
  | cons {e : Ex} {v : V} {es : List Ex} {vs : List V} : ObjE c H e v → AllE c H es vs → AllE c H (e :: es) (v :: vs)
theorem AllE.same {c : EC} {H H' : Hp} (s : Same H H') : ∀ {es : List Ex} {vs : List V}, AllE c H es vs → AllE c H' es vs
  | _, _, .nil => .nil
  | _, _, .cons a b => .cons (a.same s) (b.same s)
theorem AllE.snoc {c : EC} {H : Hp} {e : Ex} {v : V} (h : ObjE c H e v) : ∀ {es : List Ex} {vs : List V}, AllE c H es vs → AllE c H (es ++ [e]) (vs ++ [v])
  | _, _, .nil => .cons h .nil
  | _, _, .cons a b => .cons a (b.snoc h)
theorem AllE.length {c : EC} {H : Hp} : ∀ {es : List Ex} {vs : List V}, AllE c H es vs → es.length = vs.length
  | _, _, .nil => rfl
  | _, _, .cons _ b => congrArg (· + 1) b.length
def spExprs (K : PySem.W.Frag) (c : EC) (N : Addr) : Sp := fun vs H Q E => ∃ (a : Addr) (ws : List Str), vs = [.ref a] ∧ SqL K H a (ws.map V.str) ∧ ws.length ≤ 100000 ∧ (∀ s ∈ ws, s.length ≤ 100000) ∧
  (∀ es, parseAll ws.length ws = some es → ∀ l H' os, Same H H' → H' l = some (.lst os) → AllE c H' es os → Q (.ref l) H') ∧ (parseAll ws.length ws = none → ∀ H', Same H H' → E (.ref N) none H')
def spReadE (c : EC) (N : Addr) : Sp := fun vs H Q E => ∃ (s : Str), vs = [.str s] ∧ s.length ≤ 99999 ∧
  (∀ e, parseAll (Txt.split s " ").length (Txt.split s " ") = some [e] → ∀ v H', Same H H' → ObjE c H' e v → Q v H') ∧
  ((∀ e, parseAll (Txt.split s " ").length (Txt.split s " ") ≠ some [e]) → ∀ H', Same H H' → E (.ref N) none H')

theorem valW_false1 {s : Str} (h : ¬ 1 ≤ (tl s).length ∨ ¬ (tl s).length ≤ 6) : isValW s = false := by
  unfold isValW lenOk
  rcases h with h | h
  · rw [decide_eq_false h]; rfl
  · rw [decide_eq_false h, Bool.and_false]; rfl
theorem valW_false2 {s : Str} (h : (tl s).head? = some 48) (h2 : s ≠ "0") : isValW s = false := by
  unfold isValW
  have e : ((tl s).head? == some 48) = true := by rw [h]; rfl
  rw [e, decide_eq_true h2]
  simp
theorem valW_true {s : Str} (h1 : 1 ≤ (tl s).length) (h2 : (tl s).length ≤ 6) (h3 : (tl s).head? = some 48 → s = "0") : isValW s = (tl s).all isDig := by
  unfold isValW lenOk
  rw [decide_eq_true h1, decide_eq_true h2]
  by_cases c : (tl s).head? = some 48
  · rw [h3 c, decide_eq_false (fun e => e rfl)]; simp
  · have e : ((tl s).head? == some 48) = false := beq_eq_false_iff_ne.mpr c
    rw [e]; simp
theorem nameW_false1 {s : Str} (h : ¬ 1 ≤ (tl s).length ∨ ¬ (tl s).length ≤ 6) : isNameW s = false := by
  unfold isNameW lenOk
  rcases h with h | h
  · rw [decide_eq_false h]; rfl
  · rw [decide_eq_false h, Bool.and_false]; rfl
theorem nameW_false2 {s : Str} (h : s ∈ PAIRW ∨ s ∈ ROWW ∨ s ∈ OTHW) : isNameW s = false := by
  unfold isNameW
  have e : (decide (s ∈ PAIRW) || (decide (s ∈ ROWW) || decide (s ∈ OTHW))) = true := by
    rcases h with h | h | h <;> simp [h]
  rw [e]; simp
theorem nameW_true {s : Str} (h1 : 1 ≤ (tl s).length) (h2 : (tl s).length ≤ 6) (h3 : s ∉ PAIRW) (h4 : s ∉ ROWW) (h5 : s ∉ OTHW) : isNameW s = (tl s).all isLow := by
  unfold isNameW lenOk
  rw [decide_eq_true h1, decide_eq_true h2, decide_eq_false h3, decide_eq_false h4, decide_eq_false h5]; simp
theorem len_line {s : Str} (h : s.length ≤ 100000) : s.length ≤ sizeLine := Nat.le_trans h (by decide)

theorem log_small {n : Nat} (h : n < 2 ^ 20) : n.log2 < 1920 := by
  by_cases h0 : n = 0
  · subst h0; decide
  · exact Nat.lt_of_lt_of_le ((Nat.log2_lt h0).mpr h) (by decide)

theorem while_m {c : TT} {tb : TS} {D : Ends} {σ : St} {H : Hp} (Pv : Nat → St → Hp → Prop) (m0 : Nat) (h0 : Pv m0 σ H)
    (hs : ∀ m σ H, Pv m σ H → c σ H fun b H1 => if b = true then ∃ N : St → Hp → Prop, (∀ σ' H', N σ' H' → ∃ m', m' < m ∧ Pv m' σ' H') ∧ tb { D with nx := N, ct := N, bk := D.nx } σ H1 else D.nx σ H1) : tWhile c tb D σ H := ⟨Pv, ⟨m0, h0⟩, hs⟩
theorem made_same {H : Hp} {x dx : Addr} {o o1 o2 : HO} (hx : H x = none) (hd : H dx = none) : Same H (upd (upd (upd H dx o) x o1) x o2) := fun b u e => by
  have n1 : b ≠ x := ne_of_none e hx
  rw [upd_ne n1, upd_ne n1, upd_ne (ne_of_none e hd)]
  exact e
theorem mk_init {C : Addr} {f : Str} {H : Hp} {v : V} {Q : Hp → Prop} {E : XK} {x dx : Addr} (hx : H x = none) (hd : H dx = none) (k : ∀ H', Same H H' → H' x = some (.ins C dx [(f, v)]) → Q H') :
    spInit1 C f [.ref x, v] (upd (upd H dx (.own x)) x (.ins C dx [])) (fun v H2 => v = .non ∧ Q H2) E :=
  ⟨x, dx, v, rfl, upd_same, rfl, k _ (made_same hx hd) upd_same⟩
theorem mk_two {C : Addr} {H : Hp} {wd : Str} {a b : V} {Q : Hp → Prop} {E : XK} {x dx : Addr} (hx : H x = none) (hd : H dx = none) (k : ∀ H', Same H H' → H' x = some (.ins C dx (fTwo wd a b)) → Q H') :
    spTwoI C [.ref x, .str wd, a, b] (upd (upd H dx (.own x)) x (.ins C dx [])) (fun v H2 => v = .non ∧ Q H2) E :=
  ⟨x, dx, wd, a, b, rfl, upd_same, rfl, k _ (made_same hx hd) upd_same⟩
theorem parse_len {d : Nat} {ws : List Str} {e : Ex} {r : List Str} (h : parseE d ws = some (e, r)) : r.length < ws.length ∧ ws.drop (ws.length - r.length) = r := by
  obtain ⟨_, _, h3⟩ := parse_wf h
  have n1 := e.toks_len
  have n2 := e.parts_pos
  have hl : ws.length = e.toks.length + r.length := by rw [h3, List.length_append]
  refine ⟨by omega, ?_⟩
  have e1 : ws.length - r.length = e.toks.length := by omega
  rw [e1, h3, List.drop_left]
theorem parse_at {d i : Nat} {ws : List Str} {e : Ex} {r : List Str} (h : parseE d (ws.drop i) = some (e, r)) : i < ws.length - r.length ∧ ws.length - r.length ≤ ws.length ∧ ws.drop (ws.length - r.length) = r := by
  obtain ⟨_, _, h3⟩ := parse_wf h
  have n1 := e.toks_len
  have n2 := e.parts_pos
  have hl : (ws.drop i).length = e.toks.length + r.length := by rw [h3, List.length_append]
  rw [List.length_drop] at hl
  refine ⟨by omega, Nat.sub_le _ _, ?_⟩
  have e1 : ws.length - r.length = i + e.toks.length := by omega
  rw [e1, ← List.drop_drop, h3, List.drop_left]
theorem at_str {ws : List Str} {i : Nat} {s : Str} {r : List Str} (h : ws.drop i = s :: r) : i < ws.length ∧ atI (ws.map V.str) (i : Int) = some (.str s) ∧ ws.drop (i + 1) = r ∧ r.length = ws.length - (i + 1) ∧ s ∈ ws := by
  have hl : (ws.drop i).length = r.length + 1 := by rw [h]; rfl
  rw [List.length_drop] at hl
  have hi : i < ws.length := by omega
  have e1 : ws.drop i = ws[i] :: ws.drop (i + 1) := List.drop_eq_getElem_cons hi
  rw [h, List.cons.injEq] at e1
  refine ⟨hi, atI_nat (by rw [List.getElem?_map, List.getElem?_eq_getElem hi, ← e1.1]; rfl), e1.2.symm, by omega, ?_⟩
  rw [e1.1]; exact List.getElem_mem hi
theorem parseE_cons {d : Nat} {w : Str} {r : List Str} : parseE (d + 1) (w :: r) = (if isValW w = true then some (.num (valOf w), r)
    else if isNameW w = true then some (.box w, r)
    else if w = "cell" then (match parseE d r with
      | none => none
      | some (e, r1) => some (.cell e, r1))
    else if w ∈ PAIRW then (match parseE d r with
      | none => none
      | some (l, r1) => (match parseE d r1 with
        | none => none
        | some (e, r2) => some (.two w l e, r2)))
    else none) := rfl
theorem parseAll_fuel : ∀ (n : Nat) (ws : List Str), ws.length ≤ n → parseAll n ws = parseAll ws.length ws := by
  intro n
  induction n using Nat.strongRecOn with
  | _ n ih =>
    intro ws h
    cases ws with
    | nil => cases n <;> rfl
    | cons x t =>
      cases n with
      | zero => simp at h
      | succ n =>
        show (match parseE 6 (x :: t) with | none => none | some (e, r) => if e.parts ≤ 15 then (match parseAll n r with | none => none | some es => some (e :: es)) else none) = parseAll (t.length + 1) (x :: t)
        show _ = (match parseE 6 (x :: t) with | none => none | some (e, r) => if e.parts ≤ 15 then (match parseAll t.length r with | none => none | some es => some (e :: es)) else none)
        cases q : parseE 6 (x :: t) with
        | none => rfl
        | some p =>
          obtain ⟨e, r⟩ := p
          have hr := (parse_len q).1
          have hr' : r.length < t.length + 1 := hr
          have ht : t.length + 1 ≤ n + 1 := h
          show (if e.parts ≤ 15 then (match parseAll n r with | none => none | some es => some (e :: es)) else none) = (if e.parts ≤ 15 then (match parseAll t.length r with | none => none | some es => some (e :: es)) else none)
          rw [ih n (by omega) r (by omega)]
          by_cases c : t.length = n
          · rw [c, ih n (by omega) r (by omega)]
          · rw [ih t.length (by omega) r (by omega)]
/-- the words from here on, in one step -/
theorem parseAll_step {x : Str} {t : List Str} : parseAll (x :: t).length (x :: t) = (match parseE 6 (x :: t) with | none => none | some (e, r) => if e.parts ≤ 15 then (match parseAll r.length r with | none => none | some es => some (e :: es)) else none) := by
  show (match parseE 6 (x :: t) with | none => none | some (e, r) => if e.parts ≤ 15 then (match parseAll t.length r with | none => none | some es => some (e :: es)) else none) = _
  cases q : parseE 6 (x :: t) with
  | none => rfl
  | some p =>
    obtain ⟨e, r⟩ := p
    have hr := (parse_len q).1
    have hr' : r.length < t.length + 1 := hr
    show (if e.parts ≤ 15 then (match parseAll t.length r with | none => none | some es => some (e :: es)) else none) = (if e.parts ≤ 15 then (match parseAll r.length r with | none => none | some es => some (e :: es)) else none)
    rw [parseAll_fuel t.length r (by omega)]
def after (es : List Ex) : Option (List Ex) → Option (List Ex)
  | none => none
  | some fs => some (es ++ fs)

theorem objE_upd {c : EC} {H : Hp} {l : Addr} {xs ys : List V} (h : H l = some (.lst xs)) : ∀ {e : Ex} {v : V}, ObjE c H e v → ObjE c (upd H l (.lst ys)) e v
  | .num n, v, ⟨p, dx, h1, h2⟩ => ⟨p, dx, h1, by rw [upd_ne (ne_of h2 h (by intro z; cases z))]; exact h2⟩
  | .box n, v, ⟨p, dx, h1, h2⟩ => ⟨p, dx, h1, by rw [upd_ne (ne_of h2 h (by intro z; cases z))]; exact h2⟩
  | .cell e, v, ⟨p, dx, i, h1, h2, h3⟩ => ⟨p, dx, i, h1, by rw [upd_ne (ne_of h2 h (by intro z; cases z))]; exact h2, objE_upd h h3⟩
  | .two w l r, v, ⟨p, dx, a, b, h1, h2, h3, h4⟩ => ⟨p, dx, a, b, h1, by rw [upd_ne (ne_of h2 h (by intro z; cases z))]; exact h2, objE_upd h h3, objE_upd h h4⟩
theorem allE_upd {c : EC} {H : Hp} {l : Addr} {xs ys : List V} (h : H l = some (.lst xs)) : ∀ {es : List Ex} {vs : List V}, AllE c H es vs → AllE c (upd H l (.lst ys)) es vs
  | _, _, .nil => .nil
  | _, _, .cons a b => .cons (objE_upd h a) (allE_upd h b)
theorem allE_snoc_upd {c : EC} {H : Hp} {l : Addr} {xs ys : List V} {e : Ex} {v : V} {es : List Ex} {vs : List V} (h : H l = some (.lst xs)) (a : AllE c H es vs) (o : ObjE c H e v) : AllE c (upd H l (.lst ys)) (es ++ [e]) (vs ++ [v]) := (allE_upd h a).snoc (objE_upd h o)

theorem joinL_len : ∀ L : List (List Nat), L.length ≤ (joinL [32] L).length + 1 ∧ ∀ p ∈ L, p.length ≤ (joinL [32] L).length
  | [] => ⟨Nat.zero_le _, fun _ h => by cases h⟩
  | [x] => ⟨by simp, fun p h => by rw [List.mem_singleton.mp h]; exact Nat.le_refl _⟩
  | x :: y :: r => by
    have ih := joinL_len (y :: r)
    have e : joinL [32] (x :: y :: r) = x ++ ([32] ++ joinL [32] (y :: r)) := rfl
    rw [e, List.length_append, List.length_append]
    refine ⟨by have := ih.1; simp only [List.length_cons, List.length_nil] at this ⊢; omega, fun p h => ?_⟩
    rcases List.mem_cons.mp h with rfl | h
    · omega
    · have := ih.2 p h; omega
theorem split_small {s : Str} (h : s.length ≤ 100000 - 1) : (Txt.split s " ").length ≤ 100000 ∧ ∀ p ∈ Txt.split s " ", p.length ≤ 100000 := by
  have e := PySem.StrLaws.join_split s (Str.ofString " ")
  have e2 := congrArg tl e
  have b : tl (Str.ofString " ") = [32] := by decide +kernel
  rw [tl_join, b] at e2
  have q := joinL_len ((Txt.split s (Str.ofString " ")).map tl)
  rw [e2, List.length_map, ← len_tl s] at q
  refine ⟨by have := q.1; omega, fun p hp => ?_⟩
  have := q.2 (tl p) (List.mem_map.mpr ⟨p, hp, rfl⟩)
  rw [← len_tl p] at this
  omega

/-- all([sign in F for sign in s]) -/
theorem rd_all {K : PySem.W.Frag} {σ : St} {H : Hp} {s F : Str} {f : Nat → Bool} {Q : VK} {i j : Nat} (hi : σ[i]? = some (some (.str s))) (hj : j < σ.length) (hn : j ≠ i) (hl : s.length ≤ 16000000) (hf : ∀ c, decide (c ∈ F.cps.toList) = f c)
    (q : ∀ H', Same H H' → Q (.bl ((tl s).all f)) H') :
    tCB (rAll K) (tCons (tLc (iStr (tVar i)) (gName j) tYes (tOp (fun x y H Q => ∃ (c : Nat) (z : Str), x = .str ⟨#[c]⟩ ∧ y = .str z ∧ Q (.bl (decide (c ∈ z.cps.toList))) H) (tVar j) (tC (.str F))) [j]) tNil) σ H Q := by
  refine ⟨_, hi, s, rfl, fun D hD => lc_it walk_str (fun k H' => H' D = some (.lst ((((tl s).take k).map f).map V.bl)) ∧ Same H H') ⟨by rw [upd_same]; rfl, same_new hD⟩ (fun _ _ _ _ => trivial) ?_ ?_⟩
  · rintro k x H1 H2 hk ⟨h1, h2⟩ ⟨rfl, c, hc, rfl⟩
    have hjl : (wipe σ [j]).length = σ.length := wipe_length _ _
    refine ⟨by show ((σ.set j none).set j _).set j none = _; simp [wipe], ?_⟩
    refine ⟨_, by rw [List.getElem?_set_self (by rw [hjl]; exact hj)], c, F, rfl, rfl, ?_⟩
    have hs : k < (tl s).length := by
      have : s.cps.size = (tl s).length := by simp [tl]
      omega
    refine ⟨_, h1, ?_, ?_⟩
    · rw [List.length_map, List.length_map]
      have : s.length = (tl s).length := len_tl s
      refine Nat.lt_of_le_of_lt (List.length_take_le _ _) (by show k < 16777216; omega)
    · refine ⟨?_, fun b o e => ?_⟩
      · rw [upd_same]
        have e1 : (tl s)[k]? = some c := by rw [← hc]; simp [tl]
        rw [List.take_add_one, e1, hf c]
        simp
      · rw [upd_ne (ne_of_none e hD)]
        exact h2 b o e
  · rintro H' ⟨h1, h2⟩
    have hs : s.cps.size = (tl s).length := by simp [tl]
    rw [hs, List.take_length] at h1
    refine ⟨D, _, rfl, SqL.of h1, ?_⟩
    have e : ((tl s).map f).all id = (tl s).all f := by rw [List.all_map]; rfl
    rw [e]
    exact q H' h2

def spCell (K : PySem.W.Frag) : Sp := fun vs H Q _ => ∃ (a : Addr) (ns : List Int) (k : Int), vs = [.ref a, .int k] ∧ SqL K H a (ns.map V.int) ∧ 0 ≤ k ∧ ∀ n : Int, Q (.int n) H
/-- two ints go in, some int comes out -/
def spI2 : Sp := fun vs H Q _ => ∃ (a b : Int), vs = [.int a, .int b] ∧ ∀ n : Int, Q (.int n) H
def WellAt (H : Hp) (p : Addr) : Prop := ∃ a b c d : Int, H p = some (.lst [.int a, .int b, .int c, .int d])
def spWell (K : PySem.W.Frag) : Sp := fun vs H Q _ => ∃ (a : Addr) (ns : List Int) (k : Int), vs = [.ref a, .int k] ∧ SqL K H a (ns.map V.int) ∧ 0 ≤ k ∧ ∀ p H', H p = none → Same H H' → WellAt H' p → Q (.ref p) H'
def spDraw : Sp := fun vs H Q _ => ∃ (p : Addr) (m : Int), vs = [.ref p, .int m] ∧ WellAt H p ∧ 0 < m ∧ m ≤ 1000000 ∧ ∀ (n : Int) H', 0 ≤ n → n < m → KeepX p H H' → WellAt H' p → Q (.int n) H'
theorem at_int {ns : List Int} {k : Int} (h0 : 0 ≤ k) (h : k < (ns.length : Int)) : ∃ v : Int, atI (ns.map V.int) k = some (.int v) := by
  have hk : k.toNat < ns.length := by omega
  have ek : k = ((k.toNat : Nat) : Int) := by omega
  have q : atI (ns.map V.int) ((k.toNat : Nat) : Int) = some (.int ns[k.toNat]) := atI_nat (by rw [List.getElem?_map, List.getElem?_eq_getElem hk] <;> rfl)
  rw [← ek] at q
  exact ⟨_, q⟩
theorem mod64 {x y : Int} : CMul (x % 2147483647) y := Or.inl ⟨by omega, by omega⟩
theorem WellAt.ne {H : Hp} {p t : Addr} (W : WellAt H p) {o : HO} (h : H t = some o) (no : ∀ xs, o ≠ .lst xs) : t ≠ p := fun e => by
  obtain ⟨a, b, c, d, w⟩ := W
  rw [e, w] at h
  exact no _ (Option.some.inj h).symm
theorem KeepX.tup {p : Addr} {H H' : Hp} (k : KeepX p H H') (W : WellAt H p) {t : Addr} {xs : List V} (h : H t = some (.tup xs)) : H' t = some (.tup xs) := k _ _ (W.ne h (by intro _ e; cases e)) h
theorem WellAt.same {H H' : Hp} {p : Addr} (s : Same H H') : WellAt H p → WellAt H' p := fun ⟨a, b, c, d, w⟩ => ⟨a, b, c, d, s _ _ w⟩
/-- f i for all i below n -/
def seqV (f : Nat → V) (n : Nat) : List V := (List.range n).map f
theorem seqV_succ (f : Nat → V) (n : Nat) : seqV f (n + 1) = seqV f n ++ [f n] := by
  unfold seqV
  rw [List.range_succ, List.map_append]; rfl
theorem seqV_length (f : Nat → V) (n : Nat) : (seqV f n).length = n := by unfold seqV; rw [List.length_map, List.length_range]
/-- [e(x) for x in w]: each e gives a value that is known ahead -/
theorem lc_map {J : It} {n : Nat} {G : Hp → Prop} {Y : Nat → Hp → V → Hp → Prop} (w : Walk J n G Y) (f : Nat → V) {j : Nat} {te : TE} {σ : St} {H1 : Hp} {D : Addr} {Qd : Hp → Prop} (hD : H1 D = none) (hn : n < 16777216) (hj : j < σ.length)
    (hG : ∀ H, Same H1 H → G H) (hY : ∀ i H x H', Y i H x H' → H' = H)
    (step : ∀ i x H (Z : VK), i < n → Same H1 H → Y i H x H → (∀ H', Same H H' → Z (f i) H') → te ((σ.set j none).set j (some x)) H Z)
    (hd : ∀ H, Same H1 H → H D = some (.lst (seqV f n)) → Qd H) :
    ∃ W : Nat → Nat → Hp → Prop, (∃ m, W 0 m (upd H1 D (.lst []))) ∧ ∀ i m H, W i m H →
      (J.stop i H ∧ Qd H) ∨ (J.go i H ∧ ∃ Nx : Hp → Prop, (∀ H', Nx H' → ∃ m', m' < m ∧ W (i + 1) m' H') ∧ ∀ x H', J.yld i H x H' → gName j x (wipe σ [j]) H' fun σ2 H2 => wipe σ2 [j] = wipe σ [j] ∧ tYes σ2 H2 fun b H3 =>
        if b = true then te σ2 H3 fun y H4 => ∃ acc, H4 D = some (.lst acc) ∧ acc.length < sizeLine ∧ Nx (upd H4 D (.lst (acc ++ [y]))) else Nx H3) := by
  refine lc_it w (fun i H => H D = some (.lst (seqV f i)) ∧ Same H1 H) ⟨upd_same, same_new hD⟩ (fun i H _ h => hG H h.2) ?_ fun H h => hd H h.2 h.1
  rintro i x H H2 hi ⟨h1, h2⟩ y
  have e := hY _ _ _ _ y
  subst e
  have hw : wipe ((wipe σ [j]).set j (some x)) [j] = wipe σ [j] := by
    show ((σ.set j none).set j (some x)).set j none = σ.set j none
    simp
  refine ⟨hw, ?_⟩
  refine step i x _ _ hi h2 y fun H3 s3 => ⟨_, s3 _ _ h1, ?_, ?_⟩
  · rw [seqV_length]; exact Nat.lt_of_lt_of_le (Nat.lt_trans hi hn) (by decide)
  · refine ⟨by rw [upd_same, seqV_succ], fun b o hb => ?_⟩
    rw [upd_ne (ne_of_none hb hD)]
    exact s3 _ _ (h2 b o hb)
/-- one proof for a goal that is asked more than once -/
theorem twice_asked {A B : Prop} (b : B) (f : B → A) : A := f b
def spValue : Sp := fun vs H Q _ => ∃ (p : Addr), vs = [.ref p] ∧ WellAt H p ∧ ∀ (n : Int) H', 0 ≤ n → n < 1000000 → KeepX p H H' → WellAt H' p → Q (.int n) H'
def spName : Sp := fun vs H Q _ => ∃ (p : Addr), vs = [.ref p] ∧ WellAt H p ∧ ∀ (s : Str) H', isNameW s = true → KeepX p H H' → WellAt H' p → Q (.str s) H'

def SOMEN : List Str := ["a", "b", "i", "zz", "iff", "en", "cells", "giver", "mainly", "lesss", "sets", "whil"]
def BAD1 : List Str := ["if", "end", "ask", "set", "put", "fun", "main", "else", "skip", "draw", "tell", "call", "give"]
def BAD2 : List Str := ["cell", "plus", "over", "rest", "less", "same", "while", "minus", "times"]
theorem someN_ok : ∀ s ∈ SOMEN, isNameW s = true := by decide +kernel
theorem bad1_ok : ∀ s ∈ BAD1, isNameW (s ++ Str.ofString "x") = true ∧ s.length ≤ 6 := by decide +kernel
theorem bad2_ok : ∀ s ∈ BAD2, isNameW (Str.ofString "x" ++ s) = true ∧ s.length ≤ 6 := by decide +kernel
theorem words_bad : ∀ s ∈ PAIRW ++ (ROWW ++ OTHW), s ∈ BAD1 ∨ s ∈ BAD2 := by decide +kernel
theorem at_strs {ss : List Str} {n : Int} (h0 : 0 ≤ n) (h1 : n < (ss.length : Int)) : ∃ s ∈ ss, atI (ss.map V.str) n = some (.str s) := by
  have hk : n.toNat < ss.length := by omega
  have ek : n = ((n.toNat : Nat) : Int) := by omega
  have q : atI (ss.map V.str) ((n.toNat : Nat) : Int) = some (.str ss[n.toNat]) := atI_nat (by rw [List.getElem?_map, List.getElem?_eq_getElem hk] <;> rfl)
  rw [← ek] at q
  exact ⟨_, List.getElem_mem hk, q⟩
/-- the k-th letter -/
theorem letter_at {n : Int} (h0 : 0 ≤ n) (h1 : n < 26) : ∃ c : Nat, atI (tl (Str.ofString "abcdefghijklmnopqrstuvwxyz")) n = some c ∧ 97 ≤ c ∧ c ≤ 122 := by
  have e : tl (Str.ofString "abcdefghijklmnopqrstuvwxyz") = (List.range 26).map (97 + ·) := by decide +kernel
  have hk : n.toNat < 26 := by omega
  have ek : n = ((n.toNat : Nat) : Int) := by omega
  rw [e, ek]
  refine ⟨97 + n.toNat, atI_nat ?_, by omega, by omega⟩
  rw [List.getElem?_map, List.getElem?_range hk]
  rfl
theorem name_of {s : Str} (h1 : 1 ≤ (tl s).length) (h2 : (tl s).length ≤ 6) (h3 : ∀ c ∈ tl s, 97 ≤ c ∧ c ≤ 122) (h4 : s ∉ BAD1) (h5 : s ∉ BAD2) : isNameW s = true := by
  have no : ∀ l : List Str, (∀ x ∈ l, x ∈ PAIRW ++ (ROWW ++ OTHW)) → s ∉ l := fun l hl hs => by
    rcases words_bad s (hl s hs) with h | h
    · exact h4 h
    · exact h5 h
  rw [nameW_true h1 h2 (no _ fun x hx => List.mem_append_left _ hx) (no _ fun x hx => List.mem_append_right _ (List.mem_append_left _ hx)) (no _ fun x hx => List.mem_append_right _ (List.mem_append_right _ hx))]
  refine List.all_eq_true.mpr fun c hc => ?_
  have := h3 c hc
  unfold isLow
  simp only [Bool.and_eq_true, decide_eq_true_eq]
  exact this

/-! ### told tuples of the law -/
theorem ToldE.keep {K : PySem.W.Frag} {p : Addr} {H H' : Hp} (k : KeepX p H H') (W : WellAt H p) : ∀ {e : Ex} {v : V}, ToldE K H e v → ToldE K H' e v
  | .num n, v, ⟨t, h1, h2⟩ => ⟨t, h1, k.tup W h2⟩
  | .box n, v, ⟨t, h1, h2⟩ => ⟨t, h1, k.tup W h2⟩
  | .cell e, v, ⟨t, i, h1, h2, h3⟩ => ⟨t, i, h1, k.tup W h2, ToldE.keep k W h3⟩
  | .two w l r, v, ⟨t, a, b, h1, h2, h3, h4⟩ => ⟨t, a, b, h1, k.tup W h2, ToldE.keep k W h3, ToldE.keep k W h4⟩
theorem in_num : inV (.str "number") [.str "number", .str "box"] = true := by decide +kernel
theorem in_box : inV (.str "box") [.str "number", .str "box"] = true := by decide +kernel
theorem in_cell : inV (.str "cell") [.str "number", .str "box"] = false := by decide +kernel
theorem in_pair {w : Str} (h : w ∈ PAIRW) : inV (.str w) [.str "number", .str "box"] = false := by
  have : ∀ w ∈ PAIRW, inV (.str w) [.str "number", .str "box"] = false := by decide +kernel
  exact this w h
theorem pair_ne {w : Str} (h : w ∈ PAIRW) : w ≠ "number" ∧ w ≠ "box" ∧ w ≠ "cell" := by
  have : ∀ w ∈ PAIRW, w ≠ "number" ∧ w ≠ "box" ∧ w ≠ "cell" := by decide +kernel
  exact this w h
def rStrAny : List V → Hp → VK → Prop := fun xs H Q => (∃ i, xs = [.int i] ∧ i.natAbs.log2 < 1920 ∧ Q (.str (toString i)) H) ∨ (∃ a, xs = [.str a] ∧ Q (.str a) H)
theorem call_str_any {X : Cx} : CallR X (.type "str") rStrAny := by
  intro pins s σ H xs us Q I r h
  rcases h with h | h
  · exact call_str_int pins s σ H xs us Q I r h
  · exact SkE.call_str_str pins s σ H xs us Q I r h
def spLParts (K : PySem.W.Frag) (n : Nat) : Sp := fun vs H Q _ => ∃ (e : Ex) (v : V), vs = [v] ∧ ToldE K H e v ∧ e.Wf ∧ e.depth ≤ n ∧ ∀ H', Same H H' → Q (.int e.parts) H'
def spLWords (K : PySem.W.Frag) (n : Nat) : Sp := fun vs H Q _ => ∃ (e : Ex) (v : V), vs = [v] ∧ ToldE K H e v ∧ e.Wf ∧ e.parts ≤ 1000 ∧ e.depth ≤ n ∧ ∀ H', Same H H' → Q (.str e.text) H'
def spLExpr (K : PySem.W.Frag) (n : Nat) : Sp := fun vs H Q _ => ∃ (p : Addr) (d m : Int), vs = [.ref p, .int d, .int m] ∧ WellAt H p ∧ 1 ≤ d ∧ d ≤ n ∧ n ≤ 8 ∧ 1 ≤ m ∧ ∀ e v H', e.Wf → (e.depth : Int) ≤ d → (e.parts : Int) ≤ m → ToldE K H' e v → KeepX p H H' → WellAt H' p → Q v H'
theorem text_cell (e : Ex) : Txt.join (Str.ofString " ") [Str.ofString "cell", e.text] = (Ex.cell e).text := by
  refine ext_tl ?_
  have b : tl (Str.ofString " ") = [32] := by decide +kernel
  have c1 : tl (Str.ofString "cell ") = tl (Str.ofString "cell") ++ [32] := by decide +kernel
  show _ = tl (Str.ofString "cell " ++ e.text)
  rw [join_eq, tl_join, b, tl_append, c1, List.append_assoc]
  rfl

def spLMade (K : PySem.W.Frag) (c : EC) (n : Nat) : Sp := fun vs H Q _ => ∃ (e : Ex) (v : V), vs = [v] ∧ ToldE K H e v ∧ e.Wf ∧ e.depth ≤ n ∧ ∀ r H', Same H H' → ObjE c H' e r → Q r H'
def spLRight (K : PySem.W.Frag) (c : EC) (n : Nat) : Sp := fun vs H Q _ => ∃ (e : Ex) (v t : V), vs = [v, t] ∧ ObjE c H e v ∧ ToldE K H e t ∧ e.Wf ∧ e.depth ≤ n ∧ n ≤ 6 ∧ e.parts ≤ 1000 ∧ ∀ H', Same H H' → Q (.bl true) H'
theorem parse_all {e : Ex} (h : e.Wf) (hd : e.depth ≤ 6) (hp : e.parts ≤ 15) : parseAll e.toks.length e.toks = some [e] := by
  have q := parse_toks h hd []
  rw [List.append_nil] at q
  cases h2 : e.toks with
  | nil => have := e.toks_len; rw [h2] at this; have := e.parts_pos; simp at *; omega
  | cons x r =>
    rw [h2] at q
    rw [parseAll_step, q]
    show (if e.parts ≤ 15 then some [e] else none) = some [e]
    rw [if_pos hp]

def spLaw (K : PySem.W.Frag) : Sp := fun vs H Q _ => ∃ (a : Addr) (ns : List Int), vs = [.ref a] ∧ SqL K H a (ns.map V.int) ∧ ns.length ≤ 63 ∧ ∀ H', Q (.bl true) H'

end K01
namespace K01
open PySem L2 TL
def top (i : Nat) : Stmt := PySem.Challenge.pw_hadbeen_k01_expressions_written_and_read.main.body.getD i (.Pass ⟨0, 0, 0, 0⟩)
abbrev s_is_name : Stmt := top 12
abbrev s_is_value_word : Stmt := top 13
abbrev s_Number_init : Stmt := inClass (top 15) 0
abbrev s_Box_init : Stmt := inClass (top 16) 0
abbrev s_Cell_init : Stmt := inClass (top 17) 0
abbrev s_Two_init : Stmt := inClass (top 18) 0
abbrev s_Number_told : Stmt := inClass (top 15) 1
abbrev s_Box_told : Stmt := inClass (top 16) 1
abbrev s_Cell_told : Stmt := inClass (top 17) 1
abbrev s_Two_told : Stmt := inClass (top 18) 1
abbrev s_Number_words : Stmt := inClass (top 15) 2
abbrev s_Box_words : Stmt := inClass (top 16) 2
abbrev s_Cell_words : Stmt := inClass (top 17) 2
abbrev s_Two_words : Stmt := inClass (top 18) 2
abbrev s_Expr_parts : Stmt := inClass (top 14) 3
abbrev s_Cell_parts : Stmt := inClass (top 17) 4
abbrev s_Two_parts : Stmt := inClass (top 18) 4
abbrev s_expr_at : Stmt := top 19
abbrev s_exprs_of : Stmt := top 20
abbrev s_read_expr : Stmt := top 21
abbrev s_l_cell : Stmt := top 23
abbrev s_l_mixed : Stmt := top 24
abbrev s_l_twice : Stmt := top 25
abbrev s_l_well : Stmt := top 26
abbrev s_l_draw : Stmt := top 27
abbrev s_l_value : Stmt := top 28
abbrev s_l_name : Stmt := top 29
abbrev s_l_parts : Stmt := top 30
abbrev s_l_expr : Stmt := top 31
abbrev s_l_words_of : Stmt := top 32
abbrev s_l_made : Stmt := top 33
abbrev s_l_right : Stmt := top 34
abbrev s_law : Stmt := top 35
abbrev N_is_name : List Str := ["thing", "sign"]
theorem sc_is_name : FnScope ["thing", "sign"] ["thing"] (defScope s_is_name) := ⟨rfl, rfl, rfl, by decide +kernel, rfl, by decide +kernel, by decide +kernel⟩
abbrev N_is_value_word : List Str := ["word", "sign"]
theorem sc_is_value_word : FnScope ["word", "sign"] ["word"] (defScope s_is_value_word) := ⟨rfl, rfl, rfl, by decide +kernel, rfl, by decide +kernel, by decide +kernel⟩
abbrev N_Number_init : List Str := ["self", "value"]
theorem sc_Number_init : FnScope ["self", "value"] ["self", "value"] (defScope s_Number_init) := ⟨rfl, rfl, rfl, by decide +kernel, rfl, by decide +kernel, by decide +kernel⟩
abbrev N_Box_init : List Str := ["self", "name"]
theorem sc_Box_init : FnScope ["self", "name"] ["self", "name"] (defScope s_Box_init) := ⟨rfl, rfl, rfl, by decide +kernel, rfl, by decide +kernel, by decide +kernel⟩
abbrev N_Cell_init : List Str := ["self", "inner"]
theorem sc_Cell_init : FnScope ["self", "inner"] ["self", "inner"] (defScope s_Cell_init) := ⟨rfl, rfl, rfl, by decide +kernel, rfl, by decide +kernel, by decide +kernel⟩
abbrev N_Two_init : List Str := ["self", "word", "left", "right"]
theorem sc_Two_init : FnScope ["self", "word", "left", "right"] ["self", "word", "left", "right"] (defScope s_Two_init) := ⟨rfl, rfl, rfl, by decide +kernel, rfl, by decide +kernel, by decide +kernel⟩
abbrev N_Number_told : List Str := ["self"]
theorem sc_Number_told : FnScope ["self"] ["self"] (defScope s_Number_told) := ⟨rfl, rfl, rfl, by decide +kernel, rfl, by decide +kernel, by decide +kernel⟩
abbrev N_Box_told : List Str := ["self"]
theorem sc_Box_told : FnScope ["self"] ["self"] (defScope s_Box_told) := ⟨rfl, rfl, rfl, by decide +kernel, rfl, by decide +kernel, by decide +kernel⟩
abbrev N_Cell_told : List Str := ["self"]
theorem sc_Cell_told : FnScope ["self"] ["self"] (defScope s_Cell_told) := ⟨rfl, rfl, rfl, by decide +kernel, rfl, by decide +kernel, by decide +kernel⟩
abbrev N_Two_told : List Str := ["self"]
theorem sc_Two_told : FnScope ["self"] ["self"] (defScope s_Two_told) := ⟨rfl, rfl, rfl, by decide +kernel, rfl, by decide +kernel, by decide +kernel⟩
abbrev N_Number_words : List Str := ["self"]
theorem sc_Number_words : FnScope ["self"] ["self"] (defScope s_Number_words) := ⟨rfl, rfl, rfl, by decide +kernel, rfl, by decide +kernel, by decide +kernel⟩
abbrev N_Box_words : List Str := ["self"]
theorem sc_Box_words : FnScope ["self"] ["self"] (defScope s_Box_words) := ⟨rfl, rfl, rfl, by decide +kernel, rfl, by decide +kernel, by decide +kernel⟩
abbrev N_Cell_words : List Str := ["self"]
theorem sc_Cell_words : FnScope ["self"] ["self"] (defScope s_Cell_words) := ⟨rfl, rfl, rfl, by decide +kernel, rfl, by decide +kernel, by decide +kernel⟩
abbrev N_Two_words : List Str := ["self"]
theorem sc_Two_words : FnScope ["self"] ["self"] (defScope s_Two_words) := ⟨rfl, rfl, rfl, by decide +kernel, rfl, by decide +kernel, by decide +kernel⟩
abbrev N_Expr_parts : List Str := ["self"]
theorem sc_Expr_parts : FnScope ["self"] ["self"] (defScope s_Expr_parts) := ⟨rfl, rfl, rfl, by decide +kernel, rfl, by decide +kernel, by decide +kernel⟩
abbrev N_Cell_parts : List Str := ["self"]
theorem sc_Cell_parts : FnScope ["self"] ["self"] (defScope s_Cell_parts) := ⟨rfl, rfl, rfl, by decide +kernel, rfl, by decide +kernel, by decide +kernel⟩
abbrev N_Two_parts : List Str := ["self"]
theorem sc_Two_parts : FnScope ["self"] ["self"] (defScope s_Two_parts) := ⟨rfl, rfl, rfl, by decide +kernel, rfl, by decide +kernel, by decide +kernel⟩
abbrev N_expr_at : List Str := ["row", "at", "deep", "word", "inner", "behind", "left", "middle", "right"]
theorem sc_expr_at : FnScope ["row", "at", "deep", "word", "inner", "behind", "left", "middle", "right"] ["row", "at", "deep"] (defScope s_expr_at) := ⟨rfl, rfl, rfl, by decide +kernel, rfl, by decide +kernel, by decide +kernel⟩
abbrev N_exprs_of : List Str := ["row", "found", "at", "one"]
theorem sc_exprs_of : FnScope ["row", "found", "at", "one"] ["row"] (defScope s_exprs_of) := ⟨rfl, rfl, rfl, by decide +kernel, rfl, by decide +kernel, by decide +kernel⟩
abbrev N_read_expr : List Str := ["text", "found"]
theorem sc_read_expr : FnScope ["text", "found"] ["text"] (defScope s_read_expr) := ⟨rfl, rfl, rfl, by decide +kernel, rfl, by decide +kernel, by decide +kernel⟩
abbrev N_l_cell : List Str := ["_law_script", "_law_k"]
theorem sc_l_cell : FnScope ["_law_script", "_law_k"] ["_law_script", "_law_k"] (defScope s_l_cell) := ⟨rfl, rfl, rfl, by decide +kernel, rfl, by decide +kernel, by decide +kernel⟩
abbrev N_l_mixed : List Str := ["_law_cell_here", "_law_k", "_law_number"]
theorem sc_l_mixed : FnScope ["_law_cell_here", "_law_k", "_law_number"] ["_law_cell_here", "_law_k"] (defScope s_l_mixed) := ⟨rfl, rfl, rfl, by decide +kernel, rfl, by decide +kernel, by decide +kernel⟩
abbrev N_l_twice : List Str := ["_law_cell_here", "_law_k", "_law_number"]
theorem sc_l_twice : FnScope ["_law_cell_here", "_law_k", "_law_number"] ["_law_cell_here", "_law_k"] (defScope s_l_twice) := ⟨rfl, rfl, rfl, by decide +kernel, rfl, by decide +kernel, by decide +kernel⟩
abbrev N_l_well : List Str := ["_law_script", "_law_k"]
theorem sc_l_well : FnScope ["_law_script", "_law_k"] ["_law_script", "_law_k"] (defScope s_l_well) := ⟨rfl, rfl, rfl, by decide +kernel, rfl, by decide +kernel, by decide +kernel⟩
abbrev N_l_draw : List Str := ["_law_well_here", "_law_most", "_law_number"]
theorem sc_l_draw : FnScope ["_law_well_here", "_law_most", "_law_number"] ["_law_well_here", "_law_most"] (defScope s_l_draw) := ⟨rfl, rfl, rfl, by decide +kernel, rfl, by decide +kernel, by decide +kernel⟩
abbrev N_l_value : List Str := ["_law_well_here", "_law_way"]
theorem sc_l_value : FnScope ["_law_well_here", "_law_way"] ["_law_well_here"] (defScope s_l_value) := ⟨rfl, rfl, rfl, by decide +kernel, rfl, by decide +kernel, by decide +kernel⟩
abbrev N_l_name : List Str := ["_law_well_here", "_law_some", "_law_name_here", "_law_k"]
theorem sc_l_name : FnScope ["_law_well_here", "_law_some", "_law_name_here", "_law_k"] ["_law_well_here"] (defScope s_l_name) := ⟨rfl, rfl, rfl, by decide +kernel, rfl, by decide +kernel, by decide +kernel⟩
abbrev N_l_parts : List Str := ["_law_told", "_law_one"]
theorem sc_l_parts : FnScope ["_law_told", "_law_one"] ["_law_told"] (defScope s_l_parts) := ⟨rfl, rfl, rfl, by decide +kernel, rfl, by decide +kernel, by decide +kernel⟩
abbrev N_l_expr : List Str := ["_law_well_here", "_law_deep", "_law_most", "_law_way", "_law_word", "_law_left"]
theorem sc_l_expr : FnScope ["_law_well_here", "_law_deep", "_law_most", "_law_way", "_law_word", "_law_left"] ["_law_well_here", "_law_deep", "_law_most"] (defScope s_l_expr) := ⟨rfl, rfl, rfl, by decide +kernel, rfl, by decide +kernel, by decide +kernel⟩
abbrev N_l_words_of : List Str := ["_law_told", "_law_one"]
theorem sc_l_words_of : FnScope ["_law_told", "_law_one"] ["_law_told"] (defScope s_l_words_of) := ⟨rfl, rfl, rfl, by decide +kernel, rfl, by decide +kernel, by decide +kernel⟩
abbrev N_l_made : List Str := ["_law_told"]
theorem sc_l_made : FnScope ["_law_told"] ["_law_told"] (defScope s_l_made) := ⟨rfl, rfl, rfl, by decide +kernel, rfl, by decide +kernel, by decide +kernel⟩
abbrev N_l_right : List Str := ["_law_expr_here", "_law_told", "_law_turn", "_law_value_here"]
theorem sc_l_right : FnScope ["_law_expr_here", "_law_told", "_law_turn", "_law_value_here"] ["_law_expr_here", "_law_told"] (defScope s_l_right) := ⟨rfl, rfl, rfl, by decide +kernel, rfl, by decide +kernel, by decide +kernel⟩
abbrev N_law : List Str := ["_law_script", "_law_k", "_law_told"]
theorem sc_law : FnScope ["_law_script", "_law_k", "_law_told"] ["_law_script"] (defScope s_law) := ⟨rfl, rfl, rfl, by decide +kernel, rfl, by decide +kernel, by decide +kernel⟩
structure Ads where
  is_name : Addr
  is_name_d : FuncData
  is_value_word : Addr
  is_value_word_d : FuncData
  Number_init : Addr
  Number_init_d : FuncData
  Box_init : Addr
  Box_init_d : FuncData
  Cell_init : Addr
  Cell_init_d : FuncData
  Two_init : Addr
  Two_init_d : FuncData
  Number_told : Addr
  Number_told_d : FuncData
  Box_told : Addr
  Box_told_d : FuncData
  Cell_told : Addr
  Cell_told_d : FuncData
  Two_told : Addr
  Two_told_d : FuncData
  Number_words : Addr
  Number_words_d : FuncData
  Box_words : Addr
  Box_words_d : FuncData
  Cell_words : Addr
  Cell_words_d : FuncData
  Two_words : Addr
  Two_words_d : FuncData
  Expr_parts : Addr
  Expr_parts_d : FuncData
  Cell_parts : Addr
  Cell_parts_d : FuncData
  Two_parts : Addr
  Two_parts_d : FuncData
  expr_at : Addr
  expr_at_d : FuncData
  exprs_of : Addr
  exprs_of_d : FuncData
  read_expr : Addr
  read_expr_d : FuncData
  l_cell : Addr
  l_cell_d : FuncData
  l_mixed : Addr
  l_mixed_d : FuncData
  l_twice : Addr
  l_twice_d : FuncData
  l_well : Addr
  l_well_d : FuncData
  l_draw : Addr
  l_draw_d : FuncData
  l_value : Addr
  l_value_d : FuncData
  l_name : Addr
  l_name_d : FuncData
  l_parts : Addr
  l_parts_d : FuncData
  l_expr : Addr
  l_expr_d : FuncData
  l_words_of : Addr
  l_words_of_d : FuncData
  l_made : Addr
  l_made_d : FuncData
  l_right : Addr
  l_right_d : FuncData
  law : Addr
  law_d : FuncData
  Number : Addr
  Box : Addr
  Cell : Addr
  Two : Addr
  Expr : Addr
  PAIRS : Addr
  ROWS : Addr
  OTHERS : Addr
  NoProgram : Addr
structure Txt (K : PySem.W.Frag) (mg : Str → Option Value) (A : Ads) : Prop where
  F_is_name : Fun K "is_name" "is_name" s_is_name A.is_name A.is_name_d
  b_is_name : Binds K A.is_name_d ["thing"] []
  m_is_name : mg "is_name" = some (.ref A.is_name)
  F_is_value_word : Fun K "is_value_word" "is_value_word" s_is_value_word A.is_value_word A.is_value_word_d
  b_is_value_word : Binds K A.is_value_word_d ["word"] []
  m_is_value_word : mg "is_value_word" = some (.ref A.is_value_word)
  F_Number_init : Fun K "__init__" "Number.__init__" s_Number_init A.Number_init A.Number_init_d
  b_Number_init : Binds K A.Number_init_d ["self", "value"] []
  F_Box_init : Fun K "__init__" "Box.__init__" s_Box_init A.Box_init A.Box_init_d
  b_Box_init : Binds K A.Box_init_d ["self", "name"] []
  F_Cell_init : Fun K "__init__" "Cell.__init__" s_Cell_init A.Cell_init A.Cell_init_d
  b_Cell_init : Binds K A.Cell_init_d ["self", "inner"] []
  F_Two_init : Fun K "__init__" "Two.__init__" s_Two_init A.Two_init A.Two_init_d
  b_Two_init : Binds K A.Two_init_d ["self", "word", "left", "right"] []
  F_Number_told : Fun K "told" "Number.told" s_Number_told A.Number_told A.Number_told_d
  b_Number_told : Binds K A.Number_told_d ["self"] []
  F_Box_told : Fun K "told" "Box.told" s_Box_told A.Box_told A.Box_told_d
  b_Box_told : Binds K A.Box_told_d ["self"] []
  F_Cell_told : Fun K "told" "Cell.told" s_Cell_told A.Cell_told A.Cell_told_d
  b_Cell_told : Binds K A.Cell_told_d ["self"] []
  F_Two_told : Fun K "told" "Two.told" s_Two_told A.Two_told A.Two_told_d
  b_Two_told : Binds K A.Two_told_d ["self"] []
  F_Number_words : Fun K "words" "Number.words" s_Number_words A.Number_words A.Number_words_d
  b_Number_words : Binds K A.Number_words_d ["self"] []
  F_Box_words : Fun K "words" "Box.words" s_Box_words A.Box_words A.Box_words_d
  b_Box_words : Binds K A.Box_words_d ["self"] []
  F_Cell_words : Fun K "words" "Cell.words" s_Cell_words A.Cell_words A.Cell_words_d
  b_Cell_words : Binds K A.Cell_words_d ["self"] []
  F_Two_words : Fun K "words" "Two.words" s_Two_words A.Two_words A.Two_words_d
  b_Two_words : Binds K A.Two_words_d ["self"] []
  F_Expr_parts : Fun K "parts" "Expr.parts" s_Expr_parts A.Expr_parts A.Expr_parts_d
  b_Expr_parts : Binds K A.Expr_parts_d ["self"] []
  F_Cell_parts : Fun K "parts" "Cell.parts" s_Cell_parts A.Cell_parts A.Cell_parts_d
  b_Cell_parts : Binds K A.Cell_parts_d ["self"] []
  F_Two_parts : Fun K "parts" "Two.parts" s_Two_parts A.Two_parts A.Two_parts_d
  b_Two_parts : Binds K A.Two_parts_d ["self"] []
  F_expr_at : Fun K "expr_at" "expr_at" s_expr_at A.expr_at A.expr_at_d
  b_expr_at : Binds K A.expr_at_d ["row", "at", "deep"] []
  m_expr_at : mg "expr_at" = some (.ref A.expr_at)
  F_exprs_of : Fun K "exprs_of" "exprs_of" s_exprs_of A.exprs_of A.exprs_of_d
  b_exprs_of : Binds K A.exprs_of_d ["row"] []
  m_exprs_of : mg "exprs_of" = some (.ref A.exprs_of)
  F_read_expr : Fun K "read_expr" "read_expr" s_read_expr A.read_expr A.read_expr_d
  b_read_expr : Binds K A.read_expr_d ["text"] []
  m_read_expr : mg "read_expr" = some (.ref A.read_expr)
  F_l_cell : Fun K "_law_cell" "_law_cell" s_l_cell A.l_cell A.l_cell_d
  b_l_cell : Binds K A.l_cell_d ["_law_script", "_law_k"] []
  m_l_cell : mg "_law_cell" = some (.ref A.l_cell)
  F_l_mixed : Fun K "_law_mixed" "_law_mixed" s_l_mixed A.l_mixed A.l_mixed_d
  b_l_mixed : Binds K A.l_mixed_d ["_law_cell_here", "_law_k"] []
  m_l_mixed : mg "_law_mixed" = some (.ref A.l_mixed)
  F_l_twice : Fun K "_law_twice" "_law_twice" s_l_twice A.l_twice A.l_twice_d
  b_l_twice : Binds K A.l_twice_d ["_law_cell_here", "_law_k"] []
  m_l_twice : mg "_law_twice" = some (.ref A.l_twice)
  F_l_well : Fun K "_law_well" "_law_well" s_l_well A.l_well A.l_well_d
  b_l_well : Binds K A.l_well_d ["_law_script", "_law_k"] []
  m_l_well : mg "_law_well" = some (.ref A.l_well)
  F_l_draw : Fun K "_law_draw" "_law_draw" s_l_draw A.l_draw A.l_draw_d
  b_l_draw : Binds K A.l_draw_d ["_law_well_here", "_law_most"] []
  m_l_draw : mg "_law_draw" = some (.ref A.l_draw)
  F_l_value : Fun K "_law_value" "_law_value" s_l_value A.l_value A.l_value_d
  b_l_value : Binds K A.l_value_d ["_law_well_here"] []
  m_l_value : mg "_law_value" = some (.ref A.l_value)
  F_l_name : Fun K "_law_name" "_law_name" s_l_name A.l_name A.l_name_d
  b_l_name : Binds K A.l_name_d ["_law_well_here"] []
  m_l_name : mg "_law_name" = some (.ref A.l_name)
  F_l_parts : Fun K "_law_parts" "_law_parts" s_l_parts A.l_parts A.l_parts_d
  b_l_parts : Binds K A.l_parts_d ["_law_told"] []
  m_l_parts : mg "_law_parts" = some (.ref A.l_parts)
  F_l_expr : Fun K "_law_expr" "_law_expr" s_l_expr A.l_expr A.l_expr_d
  b_l_expr : Binds K A.l_expr_d ["_law_well_here", "_law_deep", "_law_most"] []
  m_l_expr : mg "_law_expr" = some (.ref A.l_expr)
  F_l_words_of : Fun K "_law_words_of" "_law_words_of" s_l_words_of A.l_words_of A.l_words_of_d
  b_l_words_of : Binds K A.l_words_of_d ["_law_told"] []
  m_l_words_of : mg "_law_words_of" = some (.ref A.l_words_of)
  F_l_made : Fun K "_law_made" "_law_made" s_l_made A.l_made A.l_made_d
  b_l_made : Binds K A.l_made_d ["_law_told"] []
  m_l_made : mg "_law_made" = some (.ref A.l_made)
  F_l_right : Fun K "_law_right" "_law_right" s_l_right A.l_right A.l_right_d
  b_l_right : Binds K A.l_right_d ["_law_expr_here", "_law_told"] []
  m_l_right : mg "_law_right" = some (.ref A.l_right)
  F_law : Fun K "law" "law" s_law A.law A.law_d
  b_law : Binds K A.law_d ["_law_script"] []
  m_law : mg "law" = some (.ref A.law)
  m_Number : mg "Number" = some (.ref A.Number)
  cl_Number : Cls K A.Number
  mk_Number : PySem.W.makesIn K A.Number = true
  n_Number_value : NoAttr K A.Number "value"
  k_Number : Mk K A.Number A.Number_init
  m_Box : mg "Box" = some (.ref A.Box)
  cl_Box : Cls K A.Box
  mk_Box : PySem.W.makesIn K A.Box = true
  n_Box_name : NoAttr K A.Box "name"
  k_Box : Mk K A.Box A.Box_init
  m_Cell : mg "Cell" = some (.ref A.Cell)
  cl_Cell : Cls K A.Cell
  mk_Cell : PySem.W.makesIn K A.Cell = true
  n_Cell_inner : NoAttr K A.Cell "inner"
  k_Cell : Mk K A.Cell A.Cell_init
  m_Two : mg "Two" = some (.ref A.Two)
  cl_Two : Cls K A.Two
  mk_Two : PySem.W.makesIn K A.Two = true
  n_Two_word : NoAttr K A.Two "word"
  n_Two_left : NoAttr K A.Two "left"
  n_Two_right : NoAttr K A.Two "right"
  k_Two : Mk K A.Two A.Two_init
  m_Expr : mg "Expr" = some (.ref A.Expr)
  cl_Expr : Cls K A.Expr
  mk_Expr : PySem.W.makesIn K A.Expr = true
  me_Number_told : Meth K A.Number "told" A.Number_told
  me_Box_told : Meth K A.Box "told" A.Box_told
  me_Cell_told : Meth K A.Cell "told" A.Cell_told
  me_Two_told : Meth K A.Two "told" A.Two_told
  me_Number_words : Meth K A.Number "words" A.Number_words
  me_Box_words : Meth K A.Box "words" A.Box_words
  me_Cell_words : Meth K A.Cell "words" A.Cell_words
  me_Two_words : Meth K A.Two "words" A.Two_words
  me_Number_parts : Meth K A.Number "parts" A.Expr_parts
  me_Box_parts : Meth K A.Box "parts" A.Expr_parts
  me_Cell_parts : Meth K A.Cell "parts" A.Cell_parts
  me_Two_parts : Meth K A.Two "parts" A.Two_parts
  m_PAIRS : mg "PAIRS" = some (.ref A.PAIRS)
  q_PAIRS : ∀ H, SqT K H A.PAIRS [V.str "plus", V.str "minus", V.str "times", V.str "over", V.str "rest", V.str "less", V.str "same"]
  m_ROWS : mg "ROWS" = some (.ref A.ROWS)
  q_ROWS : ∀ H, SqT K H A.ROWS [V.str "skip", V.str "set", V.str "put", V.str "ask", V.str "draw", V.str "tell", V.str "if", V.str "while", V.str "call"]
  m_OTHERS : mg "OTHERS" = some (.ref A.OTHERS)
  q_OTHERS : ∀ H, SqT K H A.OTHERS [V.str "else", V.str "end", V.str "fun", V.str "main", V.str "give", V.str "cell"]
  m_NoProgram : mg "NoProgram" = some (.ref A.NoProgram)
  x_NoProgram : PySem.W.excIn K A.NoProgram [.type "ValueError", .type "Exception", .type "BaseException", .type "object"] "ValueError.__new__" = true
  kk_NoProgram : PySem.W.keepIn K (.ref A.NoProgram) = true
  bb_NoProgram : PySem.W.subIn K (.ref A.NoProgram) (.type "BaseException") = some true
  tt_NoProgram : PySem.W.typeIn K (.ref A.NoProgram) = some (.type "type")
  ne_num_box : A.Number ≠ A.Box
  ne_num_cell : A.Number ≠ A.Cell
  ne_num_two : A.Number ≠ A.Two
  ne_box_num : A.Box ≠ A.Number
  ne_box_cell : A.Box ≠ A.Cell
  ne_box_two : A.Box ≠ A.Two
  ne_cell_num : A.Cell ≠ A.Number
  ne_cell_box : A.Cell ≠ A.Box
  ne_cell_two : A.Cell ≠ A.Two
  ne_two_num : A.Two ≠ A.Number
  ne_two_box : A.Two ≠ A.Box
  ne_two_cell : A.Two ≠ A.Cell
  ga_Number : PySem.W.findIn K (.ref A.Number) "__class__" = some (some (.builtin "object.__class__"))
  gm_Number : PySem.W.mroIn K A.Number (.type "object") = some true
  ge_Number : PySem.W.kitOne K (.ref A.Number) (.ref A.Expr) = some true
  ga_Box : PySem.W.findIn K (.ref A.Box) "__class__" = some (some (.builtin "object.__class__"))
  gm_Box : PySem.W.mroIn K A.Box (.type "object") = some true
  ge_Box : PySem.W.kitOne K (.ref A.Box) (.ref A.Expr) = some true
  ga_Cell : PySem.W.findIn K (.ref A.Cell) "__class__" = some (some (.builtin "object.__class__"))
  gm_Cell : PySem.W.mroIn K A.Cell (.type "object") = some true
  ge_Cell : PySem.W.kitOne K (.ref A.Cell) (.ref A.Expr) = some true
  ga_Two : PySem.W.findIn K (.ref A.Two) "__class__" = some (some (.builtin "object.__class__"))
  gm_Two : PySem.W.mroIn K A.Two (.type "object") = some true
  ge_Two : PySem.W.kitOne K (.ref A.Two) (.ref A.Expr) = some true
  g_n : PySem.W.specialIn K (.builtin "object.__class__") "__get__" = some (some (.builtin "getset_descriptor.__get__"))
  g_t : PySem.W.takesIn K (.builtin "object.__class__") = some true
  c_LETTERS : ∃ t, mg "LETTERS" = some (.str "abcdefghijklmnopqrstuvwxyz" t)
  c_FIGURES : ∃ t, mg "FIGURES" = some (.str "0123456789" t)
  c_MOST_DEEP : ∃ t, mg "MOST_DEEP" = some (.int 6 t)
  c_MOST_PARTS : ∃ t, mg "MOST_PARTS" = some (.int 15 t)
  z_str : mg "str" = none
  z_isinstance : mg "isinstance" = none
  z_len : mg "len" = none
  z_all : mg "all" = none
  z_int : mg "int" = none
  z_range : mg "range" = none
  z_sum : mg "sum" = none
  z_tuple : mg "tuple" = none
  z_bool : mg "bool" = none
abbrev Ads.ec (A : Ads) : EC := ⟨A.Number, A.Box, A.Cell, A.Two⟩

section
variable {K : PySem.W.Frag} {mg : Str → Option Value} {A : Ads} {H : Hp}
theorem ty_obj (T : Txt K mg A) : ∀ {e : Ex} {v : V}, ObjE A.ec H e v → TyX K H v (.ref (A.ec.of e))
  | .num _, _, ⟨_, _, h1, h2⟩ => by rw [h1]; exact .base (.ins h2 T.cl_Number T.ga_Number T.g_n T.g_t T.gm_Number)
  | .box _, _, ⟨_, _, h1, h2⟩ => by rw [h1]; exact .base (.ins h2 T.cl_Box T.ga_Box T.g_n T.g_t T.gm_Box)
  | .cell _, _, ⟨_, _, _, h1, h2, _⟩ => by rw [h1]; exact .base (.ins h2 T.cl_Cell T.ga_Cell T.g_n T.g_t T.gm_Cell)
  | .two _ _ _, _, ⟨_, _, _, _, h1, h2, _⟩ => by rw [h1]; exact .base (.ins h2 T.cl_Two T.ga_Two T.g_n T.g_t T.gm_Two)
theorem is_expr (T : Txt K mg A) : ∀ e : Ex, PySem.W.kitOne K (.ref (A.ec.of e)) (.ref A.Expr) = some true
  | .num _ => T.ge_Number
  | .box _ => T.ge_Box
  | .cell _ => T.ge_Cell
  | .two _ _ _ => T.ge_Two
theorem is_self (C : Addr) : PySem.W.kitOne K (.ref C) (.ref C) = some true := by
  unfold PySem.W.kitOne
  rw [if_pos (by simp)]
end
end K01
open PySem L2 TL

local macro_rules | `(tactic| walk_at "rd") => `(tactic| repeat (first
  | refine ⟨_, rfl, ?_⟩
  | refine ⟨_, _, rfl, rfl, ?_⟩
  | refine ⟨Or.inl ⟨by decide, by decide⟩, ?_⟩
  | refine ⟨Or.inr ⟨by decide, by decide⟩, ?_⟩
  | refine ⟨(⟨by decide, by decide⟩ : CDiv _ _), ?_⟩
  | refine ⟨(⟨by decide, by decide, by decide⟩ : CPow _ _), ?_⟩
  | refine ⟨(by show (0 : Int) < _; decide), ?_⟩
  | refine ⟨K01.mod64, ?_⟩))
namespace K01
open PySem L2 TL
section
variable {P : Program} {w : World} {K : PySem.W.Frag} {mg : Str → Option Value} {base : Heap} {A : Ads}
theorem ok_is_name (T : Txt K mg A) : FnOk P w K mg base CX0 1 A.is_name A.is_name_d ["thing"] (spTruthS isNameW) := by
  refine T.F_is_name.ok sc_is_name (fun vs H Q E h => ?_) (fun cdv A0 outer s H vs Q E hr h => ?_)
  · obtain ⟨s, rfl, hl, q⟩ := h
    rfl
  obtain ⟨s, rfl, hl, q⟩ := h
  refine ⟨_, (pss_cons (ps_if (PW.pt (pw_or (pt_not (pt_val (pe_callB call_isi (by rfl) T.z_isinstance (by decide +kernel) (pa_cons (pv 0) (pa_cons (pe_bltn (v := .ty "str") (by rfl) T.z_str (by decide +kernel) rfl) pa_nil))))) (pw_or1 (pt_not (pt_chain op_le op_le pe_int (pe_callB call_len_str (by rfl) T.z_len (by decide +kernel) (pa_cons (pv 0) pa_nil)) pe_int)))))
    (pss_one (ps_ret pe_bl))
    pss_nil)
   (pss_cons (ps_if (PW.pt (pw_or (pt_cmpR op_in_seq (pv 0) (pe_glob (v := .ref A.PAIRS) (by rfl) T.m_PAIRS rfl) (by rfl)) (pw_or (pt_cmpR op_in_seq (pv 0) (pe_glob (v := .ref A.ROWS) (by rfl) T.m_ROWS rfl) (by rfl)) (pw_or1 (pt_cmpR op_in_seq (pv 0) (pe_glob (v := .ref A.OTHERS) (by rfl) T.m_OTHERS rfl) (by rfl))))))
    (pss_one (ps_ret pe_bl))
    pss_nil)
   (pss_one (ps_ret (pe_callB (cr_all rfl) (by rfl) T.z_all (by decide +kernel) (pa_cons (pe_lc (own := [("sign", 1)]) (g := gName 1) (tt := tYes) rfl sc_is_name.nd (pi_str (pv 0)) (blkOk_by (own := [("sign", 1)]) (N := N_is_name) (sc := defScope s_is_name) (by decide +kernel)) (fun _ _ _ _ _ => pg_name (i := 1) sc_is_name.nd rfl (Or.inl rfl)) (fun _ _ _ _ _ => pts_nil) (fun _ _ _ _ _ => (pe_cmpR op_in_sign (pv 1) (pe_glob (v := .str "abcdefghijklmnopqrstuvwxyz") (by rfl) T.c_LETTERS.choose_spec ⟨_, rfl⟩) rfl))) pa_nil)))))), ?_⟩
  have hs : s.length = (tl s).length := len_tl s
  refine ⟨_, rfl, _, _, _, _, true, rfl, .ty _, .base (.str _), kit_ty (by decide +kernel), _, rfl, iteF ?_⟩
  refine ⟨_, rfl, _, rfl, len_line hl, _, _, rfl, rfl, _, rfl, ?_⟩
  refine iteD2 (fun c1 => ?_) (fun c1 => ?_)
  · refine ⟨_, _, rfl, rfl, _, rfl, iteN2 (fun c2 => ?_) (fun c2 => ?_)⟩
    · refine (nameW_false1 (s := s) (Or.inr ?_)) ▸ q _ (Same.refl H)
      omega
    · refine ⟨_, rfl, A.PAIRS, PAIRW.map V.str, rfl, .inr (T.q_PAIRS _), rfl, rfl, _, rfl, ?_⟩
      rw [if_neg Bool.false_ne_true, inV_str]
      refine iteD2 (fun c3 => (nameW_false2 (s := s) (.inl c3)) ▸ q _ (Same.refl H)) (fun c3 => ?_)
      refine ⟨_, rfl, A.ROWS, ROWW.map V.str, rfl, .inr (T.q_ROWS _), rfl, rfl, _, rfl, ?_⟩
      rw [if_neg Bool.false_ne_true, inV_str]
      refine iteD2 (fun c4 => (nameW_false2 (s := s) (.inr (.inl c4))) ▸ q _ (Same.refl H)) (fun c4 => ?_)
      refine ⟨_, rfl, A.OTHERS, OTHW.map V.str, rfl, .inr (T.q_OTHERS _), rfl, rfl, _, rfl, ?_⟩
      rw [if_neg Bool.false_ne_true, inV_str]
      refine iteD2 (fun c5 => (nameW_false2 (s := s) (.inr (.inr c5))) ▸ q _ (Same.refl H)) (fun c5 => ?_)
      exact rd_all (f := isLow) rfl (by show 1 < 2; decide) (by decide) (by omega) let_mem fun H' s' => (nameW_true (s := s) (by omega) (by omega) c3 c4 c5) ▸ q H' s'
  · refine ⟨_, rfl, iteT ?_⟩
    refine (nameW_false1 (s := s) (Or.inl ?_)) ▸ q _ (Same.refl H)
    omega

theorem ok_is_value_word (T : Txt K mg A) : FnOk P w K mg base CX0 1 A.is_value_word A.is_value_word_d ["word"] (spTruthS isValW) := by
  refine T.F_is_value_word.ok sc_is_value_word (fun vs H Q E h => ?_) (fun cdv A0 outer s H vs Q E hr h => ?_)
  · obtain ⟨s, rfl, hl, q⟩ := h
    rfl
  obtain ⟨s, rfl, hl, q⟩ := h
  refine ⟨_, (pss_cons (ps_if (PW.pt (pw_or (pt_not (pt_chain op_le op_le pe_int (pe_callB call_len_str (by rfl) T.z_len (by decide +kernel) (pa_cons (pv 0) pa_nil)) pe_int)) (pw_or1 (PW.pt (pw_and (pt_cmpR op_eq (pe_ix ix_str (pv 0) pe_int (fun _ _ => rfl)) pe_str (nomark _)) (pw_and1 (pt_cmpR op_ne (pv 0) pe_str (nomark _))))))))
    (pss_one (ps_ret pe_bl))
    pss_nil)
   (pss_one (ps_ret (pe_callB (cr_all rfl) (by rfl) T.z_all (by decide +kernel) (pa_cons (pe_lc (own := [("sign", 1)]) (g := gName 1) (tt := tYes) rfl sc_is_value_word.nd (pi_str (pv 0)) (blkOk_by (own := [("sign", 1)]) (N := N_is_value_word) (sc := defScope s_is_value_word) (by decide +kernel)) (fun _ _ _ _ _ => pg_name (i := 1) sc_is_value_word.nd rfl (Or.inl rfl)) (fun _ _ _ _ _ => pts_nil) (fun _ _ _ _ _ => (pe_cmpR op_in_sign (pv 1) (pe_glob (v := .str "0123456789") (by rfl) T.c_FIGURES.choose_spec ⟨_, rfl⟩) rfl))) pa_nil))))), ?_⟩
  have hs : s.length = (tl s).length := len_tl s
  refine ⟨_, rfl, _, rfl, len_line hl, _, _, rfl, rfl, _, rfl, ?_⟩
  refine iteD2 (fun c1 => ?_) (fun c1 => ?_)
  · refine ⟨_, _, rfl, rfl, _, rfl, iteN2 (fun c2 => ?_) (fun c2 => ?_)⟩
    · refine (valW_false1 (s := s) (Or.inr ?_)) ▸ q _ (Same.refl H)
      omega
    · have h6 : (tl s).length ≤ 6 ∧ 1 ≤ (tl s).length := by omega
      obtain ⟨c, r, hc⟩ : ∃ c r, tl s = c :: r := by
        cases e : tl s with
        | nil => rw [e] at h6; simp at h6
        | cons c r => exact ⟨c, r, rfl⟩
      refine ⟨_, rfl, s, 0, c, rfl, rfl, len_line hl, (by show atI (tl s) ((0 : Nat) : Int) = some c; rw [hc]; exact atI_nat rfl), rfl, _, rfl, ?_⟩
      refine iteD2 (fun c3 => ?_) (fun c3 => ?_)
      · refine ⟨_, rfl, rfl, _, rfl, iteN2 (fun c4 => ?_) (fun c4 => ?_)⟩
        · refine (valW_false2 (s := s) ?_ (fun e => c4 (congrArg V.str e))) ▸ q _ (Same.refl H)
          rw [hc]
          have := congrArg tl (V.str.inj c3)
          have z : tl (Str.ofString "0") = [48] := by decide +kernel
          rw [z] at this
          have e2 : [c] = [48] := this
          rw [List.cons.injEq] at e2
          rw [e2.1]; rfl
        · exact rd_all (f := isDig) rfl (by show 1 < 2; decide) (by decide) (by omega) fig_mem fun H' s' => (valW_true (s := s) h6.2 h6.1 (fun _ => V.str.inj c4)) ▸ q H' s'
      · refine rd_all (f := isDig) rfl (by show 1 < 2; decide) (by decide) (by omega) fig_mem fun H' s' => (valW_true (s := s) h6.2 h6.1 (fun e => ?_)) ▸ q H' s'
        rw [hc, List.head?_cons] at e
        refine absurd (congrArg V.str ?_) c3
        refine ext_tl ?_
        have z : tl (Str.ofString "0") = [48] := by decide +kernel
        rw [z, Option.some.inj e]
  · refine ⟨_, rfl, iteT ?_⟩
    refine (valW_false1 (s := s) (Or.inl ?_)) ▸ q _ (Same.refl H)
    omega

end
end K01
namespace K01
open PySem L2 TL
section
variable {P : Program} {w : World} {K : PySem.W.Frag} {mg : Str → Option Value} {base : Heap} {A : Ads}
theorem ok_Number_init (T : Txt K mg A) : FnOk P w K mg base CX0 1 A.Number_init A.Number_init_d ["self", "value"] (spInit1 A.Number "value") := by
  refine T.F_Number_init.ok sc_Number_init (fun vs H Q E h => ?_) (fun cdv A0 outer s H vs Q E hr h => ?_)
  · obtain ⟨p, dx, x, rfl, hp, q⟩ := h
    rfl
  obtain ⟨p, dx, x, rfl, hp, q⟩ := h
  refine ⟨_, (pss_one (ps_fld (pv 0) (pv 1) rfl)), ?_⟩
  exact ⟨_, rfl, _, rfl, p, A.Number, dx, [], rfl, hp, T.cl_Number, T.n_Number_value, (by show 0 < 1000; decide), q⟩

theorem ok_Box_init (T : Txt K mg A) : FnOk P w K mg base CX0 1 A.Box_init A.Box_init_d ["self", "name"] (spInit1 A.Box "name") := by
  refine T.F_Box_init.ok sc_Box_init (fun vs H Q E h => ?_) (fun cdv A0 outer s H vs Q E hr h => ?_)
  · obtain ⟨p, dx, x, rfl, hp, q⟩ := h
    rfl
  obtain ⟨p, dx, x, rfl, hp, q⟩ := h
  refine ⟨_, (pss_one (ps_fld (pv 0) (pv 1) rfl)), ?_⟩
  exact ⟨_, rfl, _, rfl, p, A.Box, dx, [], rfl, hp, T.cl_Box, T.n_Box_name, (by show 0 < 1000; decide), q⟩

theorem ok_Cell_init (T : Txt K mg A) : FnOk P w K mg base CX0 1 A.Cell_init A.Cell_init_d ["self", "inner"] (spInit1 A.Cell "inner") := by
  refine T.F_Cell_init.ok sc_Cell_init (fun vs H Q E h => ?_) (fun cdv A0 outer s H vs Q E hr h => ?_)
  · obtain ⟨p, dx, x, rfl, hp, q⟩ := h
    rfl
  obtain ⟨p, dx, x, rfl, hp, q⟩ := h
  refine ⟨_, (pss_one (ps_fld (pv 0) (pv 1) rfl)), ?_⟩
  exact ⟨_, rfl, _, rfl, p, A.Cell, dx, [], rfl, hp, T.cl_Cell, T.n_Cell_inner, (by show 0 < 1000; decide), q⟩

theorem ok_Two_init (T : Txt K mg A) : FnOk P w K mg base CX0 1 A.Two_init A.Two_init_d ["self", "word", "left", "right"] (spTwoI A.Two) := by
  refine T.F_Two_init.ok sc_Two_init (fun vs H Q E h => ?_) (fun cdv A0 outer s H vs Q E hr h => ?_)
  · obtain ⟨p, dx, wd, l, r, rfl, hp, q⟩ := h
    rfl
  obtain ⟨p, dx, wd, l, r, rfl, hp, q⟩ := h
  refine ⟨_, (pss_cons (ps_fld (pv 0) (pv 1) rfl)
   (pss_cons (ps_fld (pv 0) (pv 2) rfl)
   (pss_one (ps_fld (pv 0) (pv 3) rfl)))), ?_⟩
  refine ⟨_, rfl, _, rfl, p, A.Two, dx, [], rfl, hp, T.cl_Two, T.n_Two_word, (by show 0 < 1000; decide), ?_⟩
  refine ⟨_, rfl, _, rfl, p, A.Two, dx, _, rfl, upd_same, T.cl_Two, T.n_Two_left, (by show 1 < 1000; decide), ?_⟩
  refine ⟨_, rfl, _, rfl, p, A.Two, dx, _, rfl, upd_same, T.cl_Two, T.n_Two_right, (by show 2 < 1000; decide), ?_⟩
  rw [upd_upd, upd_upd]
  exact q

end
end K01
namespace K01
open PySem L2 TL
section
variable {P : Program} {w : World} {K : PySem.W.Frag} {mg : Str → Option Value} {base : Heap} {A : Ads}
theorem ok_Number_told (T : Txt K mg A) {n : Nat} : FnOk P w K mg base CX0 (n + 2) A.Number_told A.Number_told_d ["self"] (spTold K A.ec (n + 1) A.Number) := by
  refine T.F_Number_told.ok sc_Number_told (fun vs H Q E h => ?_) (fun cdv A0 outer s H vs Q E hr h => ?_)
  · obtain ⟨e, v, rfl, ho, hc, hd, q⟩ := h
    rfl
  obtain ⟨e, v, rfl, ho, hc, hd, q⟩ := h
  refine ⟨_, (pss_one (ps_ret (pe_tup (pa_cons pe_str (pa_cons (pe_fld (pv 0) rfl) pa_nil))))), ?_⟩
  cases e with
  | num n =>
    obtain ⟨p, dx, rfl, h1⟩ := ho
    refine ⟨_, rfl, p, A.Number, dx, _, _, rfl, h1, T.cl_Number, T.n_Number_value, rfl, by show 2 ≤ sizeLine; decide, fun t ht => ?_⟩
    exact q _ _ (same_new ht) ⟨t, rfl, upd_same⟩
  | box z => exact (T.ne_box_num hc).elim
  | cell e => exact (T.ne_cell_num hc).elim
  | two wd l r => exact (T.ne_two_num hc).elim

theorem ok_Box_told (T : Txt K mg A) {n : Nat} : FnOk P w K mg base CX0 (n + 2) A.Box_told A.Box_told_d ["self"] (spTold K A.ec (n + 1) A.Box) := by
  refine T.F_Box_told.ok sc_Box_told (fun vs H Q E h => ?_) (fun cdv A0 outer s H vs Q E hr h => ?_)
  · obtain ⟨e, v, rfl, ho, hc, hd, q⟩ := h
    rfl
  obtain ⟨e, v, rfl, ho, hc, hd, q⟩ := h
  refine ⟨_, (pss_one (ps_ret (pe_tup (pa_cons pe_str (pa_cons (pe_fld (pv 0) rfl) pa_nil))))), ?_⟩
  cases e with
  | num n => exact (T.ne_num_box hc).elim
  | box z =>
    obtain ⟨p, dx, rfl, h1⟩ := ho
    refine ⟨_, rfl, p, A.Box, dx, _, _, rfl, h1, T.cl_Box, T.n_Box_name, rfl, by show 2 ≤ sizeLine; decide, fun t ht => ?_⟩
    exact q _ _ (same_new ht) ⟨t, rfl, upd_same⟩
  | cell e => exact (T.ne_cell_box hc).elim
  | two wd l r => exact (T.ne_two_box hc).elim

theorem ok_Cell_told (T : Txt K mg A) {n : Nat} (D_told : ∀ C, A.ec.Fam C → Disp P w K mg base CX0 "told" (n + 1) C (spTold K A.ec n C)) : FnOk P w K mg base CX0 (n + 2) A.Cell_told A.Cell_told_d ["self"] (spTold K A.ec (n + 1) A.Cell) := by
  refine T.F_Cell_told.ok sc_Cell_told (fun vs H Q E h => ?_) (fun cdv A0 outer s H vs Q E hr h => ?_)
  · obtain ⟨e, v, rfl, ho, hc, hd, q⟩ := h
    rfl
  obtain ⟨e, v, rfl, ho, hc, hd, q⟩ := h
  refine ⟨_, (pss_one (ps_ret (pe_tup (pa_cons pe_str (pa_cons (pe_methP0 (pe_fld (pv 0) rfl) D_told (hr.mono (by omega)) pass0) pa_nil))))), ?_⟩
  cases e with
  | num n => exact (T.ne_num_cell hc).elim
  | box z => exact (T.ne_box_cell hc).elim
  | cell e =>
    obtain ⟨p, dx, i, rfl, h1, h2⟩ := ho
    have hd' : e.depth ≤ n := Nat.le_of_succ_le_succ hd
    obtain ⟨p2, d2, f2, e2, g1, g2⟩ := h2.at (m := "told") (by decide +kernel)
    refine ⟨_, rfl, p, A.Cell, dx, _, _, rfl, h1, T.cl_Cell, T.n_Cell_inner, rfl, p2, _, d2, f2, e2, g1, g2, A.ec.fam e, e, i, rfl, h2, rfl, hd', fun r H1 s1 t1 => ?_⟩
    refine ⟨by show 2 ≤ sizeLine; decide, fun t ht => ?_⟩
    exact q _ _ (s1.trans (same_new ht)) ⟨t, r, rfl, upd_same, t1.same (same_new ht)⟩
  | two wd l r => exact (T.ne_two_cell hc).elim

theorem ok_Two_told (T : Txt K mg A) {n : Nat} (D_told : ∀ C, A.ec.Fam C → Disp P w K mg base CX0 "told" (n + 1) C (spTold K A.ec n C)) : FnOk P w K mg base CX0 (n + 2) A.Two_told A.Two_told_d ["self"] (spTold K A.ec (n + 1) A.Two) := by
  refine T.F_Two_told.ok sc_Two_told (fun vs H Q E h => ?_) (fun cdv A0 outer s H vs Q E hr h => ?_)
  · obtain ⟨e, v, rfl, ho, hc, hd, q⟩ := h
    rfl
  obtain ⟨e, v, rfl, ho, hc, hd, q⟩ := h
  refine ⟨_, (pss_one (ps_ret (pe_tup (pa_cons (pe_fld (pv 0) rfl) (pa_cons (pe_methP0 (pe_fld (pv 0) rfl) D_told (hr.mono (by omega)) pass0) (pa_cons (pe_methP0 (pe_fld (pv 0) rfl) D_told (hr.mono (by omega)) pass0) pa_nil)))))), ?_⟩
  cases e with
  | num n => exact (T.ne_num_two hc).elim
  | box z => exact (T.ne_box_two hc).elim
  | cell e => exact (T.ne_cell_two hc).elim
  | two wd l r =>
    obtain ⟨p, dx, a, b, rfl, h1, h2, h3⟩ := ho
    have hd' : max l.depth r.depth ≤ n := Nat.le_of_succ_le_succ hd
    obtain ⟨p2, d2, f2, e2, g1, g2⟩ := h2.at (m := "told") (by decide +kernel)
    refine ⟨_, rfl, p, A.Two, dx, _, _, rfl, h1, T.cl_Two, T.n_Two_word, rfl, _, rfl, p, A.Two, dx, _, _, rfl, h1, T.cl_Two, T.n_Two_left, rfl, p2, _, d2, f2, e2, g1, g2, A.ec.fam l, l, a, rfl, h2, rfl, by omega, fun v1 H1 s1 t1 => ?_⟩
    obtain ⟨p3, d3, f3, e3, k1, k2⟩ := (h3.same s1).at (m := "told") (by decide +kernel)
    refine ⟨_, rfl, p, A.Two, dx, _, _, rfl, s1 _ _ h1, T.cl_Two, T.n_Two_right, rfl, p3, _, d3, f3, e3, k1, k2, A.ec.fam r, r, b, rfl, h3.same s1, rfl, by omega, fun v2 H2 s2 t2 => ?_⟩
    refine ⟨by show 3 ≤ sizeLine; decide, fun t ht => ?_⟩
    exact q _ _ (s1.trans (s2.trans (same_new ht))) ⟨t, v1, v2, rfl, upd_same, t1.same (s2.trans (same_new ht)), t2.same (same_new ht)⟩

theorem disp_told (T : Txt K mg A) : ∀ (n : Nat) (C : Addr), A.ec.Fam C → Disp P w K mg base CX0 "told" (n + 1) C (spTold K A.ec n C)
  | 0, C, h => by
    have no : ∀ vs H Q E, spTold K A.ec 0 C vs H Q E → False := fun vs H Q E ⟨e, v, _, _, _, hd, _⟩ => by have := e.depth_pos; omega
    rcases h with rfl | rfl | rfl | rfl
    · exact ⟨_, A.Number_told_d, _, T.cl_Number, T.me_Number_told, fn_none (ps := ["self"]) no, T.b_Number_told⟩
    · exact ⟨_, A.Box_told_d, _, T.cl_Box, T.me_Box_told, fn_none (ps := ["self"]) no, T.b_Box_told⟩
    · exact ⟨_, A.Cell_told_d, _, T.cl_Cell, T.me_Cell_told, fn_none (ps := ["self"]) no, T.b_Cell_told⟩
    · exact ⟨_, A.Two_told_d, _, T.cl_Two, T.me_Two_told, fn_none (ps := ["self"]) no, T.b_Two_told⟩
  | n + 1, C, h => by
    have D := disp_told T n
    rcases h with rfl | rfl | rfl | rfl
    · exact ⟨_, _, _, T.cl_Number, T.me_Number_told, ok_Number_told T, T.b_Number_told⟩
    · exact ⟨_, _, _, T.cl_Box, T.me_Box_told, ok_Box_told T, T.b_Box_told⟩
    · exact ⟨_, _, _, T.cl_Cell, T.me_Cell_told, ok_Cell_told T D, T.b_Cell_told⟩
    · exact ⟨_, _, _, T.cl_Two, T.me_Two_told, ok_Two_told T D, T.b_Two_told⟩

end
end K01
namespace K01
open PySem L2 TL
section
variable {P : Program} {w : World} {K : PySem.W.Frag} {mg : Str → Option Value} {base : Heap} {A : Ads}
theorem ok_Number_words (T : Txt K mg A) {n : Nat} : FnOk P w K mg base CX0 (n + 2) A.Number_words A.Number_words_d ["self"] (spWords A.ec (n + 1) A.Number) := by
  refine T.F_Number_words.ok sc_Number_words (fun vs H Q E h => ?_) (fun cdv A0 outer s H vs Q E hr h => ?_)
  · obtain ⟨e, v, rfl, ho, hc, hd, hw, hp, q⟩ := h
    rfl
  obtain ⟨e, v, rfl, ho, hc, hd, hw, hp, q⟩ := h
  refine ⟨_, (pss_one (ps_ret (pe_callTy call_str_int (by rfl) T.z_str (by decide +kernel) (pa_cons (pe_fld (pv 0) rfl) pa_nil)))), ?_⟩
  cases e with
  | num n =>
    obtain ⟨p, dx, rfl, h1⟩ := ho
    have hl : n.natAbs < 2 ^ 20 := by have := hw.1; have := hw.2; omega
    refine ⟨_, rfl, p, A.Number, dx, _, _, rfl, h1, T.cl_Number, T.n_Number_value, rfl, n, rfl, log_small hl, ?_⟩
    exact q H (Same.refl H)
  | box z => exact (T.ne_box_num hc).elim
  | cell e => exact (T.ne_cell_num hc).elim
  | two wd l r => exact (T.ne_two_num hc).elim

theorem ok_Box_words (T : Txt K mg A) {n : Nat} : FnOk P w K mg base CX0 (n + 2) A.Box_words A.Box_words_d ["self"] (spWords A.ec (n + 1) A.Box) := by
  refine T.F_Box_words.ok sc_Box_words (fun vs H Q E h => ?_) (fun cdv A0 outer s H vs Q E hr h => ?_)
  · obtain ⟨e, v, rfl, ho, hc, hd, hw, hp, q⟩ := h
    rfl
  obtain ⟨e, v, rfl, ho, hc, hd, hw, hp, q⟩ := h
  refine ⟨_, (pss_one (ps_ret (pe_fld (pv 0) rfl))), ?_⟩
  cases e with
  | num n => exact (T.ne_num_box hc).elim
  | box z =>
    obtain ⟨p, dx, rfl, h1⟩ := ho
    exact ⟨_, rfl, p, A.Box, dx, _, _, rfl, h1, T.cl_Box, T.n_Box_name, rfl, q H (Same.refl H)⟩
  | cell e => exact (T.ne_cell_box hc).elim
  | two wd l r => exact (T.ne_two_box hc).elim

theorem ok_Cell_words (T : Txt K mg A) {n : Nat} (D_words : ∀ C, A.ec.Fam C → Disp P w K mg base CX0 "words" (n + 1) C (spWords A.ec n C)) : FnOk P w K mg base CX0 (n + 2) A.Cell_words A.Cell_words_d ["self"] (spWords A.ec (n + 1) A.Cell) := by
  refine T.F_Cell_words.ok sc_Cell_words (fun vs H Q E h => ?_) (fun cdv A0 outer s H vs Q E hr h => ?_)
  · obtain ⟨e, v, rfl, ho, hc, hd, hw, hp, q⟩ := h
    rfl
  obtain ⟨e, v, rfl, ho, hc, hd, hw, hp, q⟩ := h
  refine ⟨_, (pss_one (ps_ret (pe_op op_add_str pe_str (pe_methP0 (pe_fld (pv 0) rfl) D_words (hr.mono (by omega)) pass0)))), ?_⟩
  cases e with
  | num n => exact (T.ne_num_cell hc).elim
  | box z => exact (T.ne_box_cell hc).elim
  | cell e =>
    obtain ⟨p, dx, i, rfl, h1, h2⟩ := ho
    have hd' : e.depth ≤ n := Nat.le_of_succ_le_succ hd
    have hp' : 1 + e.parts ≤ 1000 := hp
    have hw' : e.Wf := hw
    obtain ⟨p2, d2, f2, e2, g1, g2⟩ := h2.at (m := "words") (by decide +kernel)
    refine ⟨_, rfl, p, A.Cell, dx, _, _, rfl, h1, T.cl_Cell, T.n_Cell_inner, rfl, p2, _, d2, f2, e2, g1, g2, A.ec.fam e, e, i, rfl, h2, rfl, hd', hw', by omega, fun H1 s1 => ?_⟩
    have := Ex.text_len hw'
    refine ⟨_, _, rfl, rfl, by show 5 + e.text.length ≤ 16777216; omega, ?_⟩
    exact q H1 s1
  | two wd l r => exact (T.ne_two_cell hc).elim

theorem ok_Two_words (T : Txt K mg A) {n : Nat} (D_words : ∀ C, A.ec.Fam C → Disp P w K mg base CX0 "words" (n + 1) C (spWords A.ec n C)) : FnOk P w K mg base CX0 (n + 2) A.Two_words A.Two_words_d ["self"] (spWords A.ec (n + 1) A.Two) := by
  refine T.F_Two_words.ok sc_Two_words (fun vs H Q E h => ?_) (fun cdv A0 outer s H vs Q E hr h => ?_)
  · obtain ⟨e, v, rfl, ho, hc, hd, hw, hp, q⟩ := h
    rfl
  obtain ⟨e, v, rfl, ho, hc, hd, hw, hp, q⟩ := h
  refine ⟨_, (pss_one (ps_ret (pe_join pe_str (pe_lst (pa_cons (pe_fld (pv 0) rfl) (pa_cons (pe_methP0 (pe_fld (pv 0) rfl) D_words (hr.mono (by omega)) pass0) (pa_cons (pe_methP0 (pe_fld (pv 0) rfl) D_words (hr.mono (by omega)) pass0) pa_nil))))))), ?_⟩
  cases e with
  | num n => exact (T.ne_num_two hc).elim
  | box z => exact (T.ne_box_two hc).elim
  | cell e => exact (T.ne_cell_two hc).elim
  | two wd l r =>
    obtain ⟨p, dx, a, b, rfl, h1, h2, h3⟩ := ho
    have hd' : max l.depth r.depth ≤ n := Nat.le_of_succ_le_succ hd
    have hp' : 1 + l.parts + r.parts ≤ 1000 := hp
    obtain ⟨hw0, hw1, hw2⟩ : wd ∈ PAIRW ∧ l.Wf ∧ r.Wf := hw
    obtain ⟨p2, d2, f2, e2, g1, g2⟩ := h2.at (m := "words") (by decide +kernel)
    refine ⟨⟨_, rfl⟩, _, rfl, p, A.Two, dx, _, _, rfl, h1, T.cl_Two, T.n_Two_word, rfl, _, rfl, p, A.Two, dx, _, _, rfl, h1, T.cl_Two, T.n_Two_left, rfl, p2, _, d2, f2, e2, g1, g2, A.ec.fam l, l, a, rfl, h2, rfl, by omega, hw1, by omega, fun H1 s1 => ?_⟩
    obtain ⟨p3, d3, f3, e3, k1, k2⟩ := (h3.same s1).at (m := "words") (by decide +kernel)
    refine ⟨_, rfl, p, A.Two, dx, _, _, rfl, s1 _ _ h1, T.cl_Two, T.n_Two_right, rfl, p3, _, d3, f3, e3, k1, k2, A.ec.fam r, r, b, rfl, h3.same s1, rfl, by omega, hw2, by omega, fun H2 s2 => ?_⟩
    refine ⟨by show 3 ≤ sizeLine; decide, fun t ht => ?_⟩
    have q1 := Ex.text_len hw1
    have q2 := Ex.text_len hw2
    have q3 := (pair_not_val wd hw0).2.2.2
    refine ⟨_, t, [wd, l.text, r.text], rfl, rfl, .inl (SqL.of upd_same), ?_, ?_⟩
    · have : wd.length = (tl wd).length := len_tl wd
      show wd.length + (l.text.length + (r.text.length + 0)) + 3 * 1 ≤ 16777216
      omega
    · exact q _ (s1.trans (s2.trans (same_new ht)))

theorem disp_words (T : Txt K mg A) : ∀ (n : Nat) (C : Addr), A.ec.Fam C → Disp P w K mg base CX0 "words" (n + 1) C (spWords A.ec n C)
  | 0, C, h => by
    have no : ∀ vs H Q E, spWords A.ec 0 C vs H Q E → False := fun vs H Q E ⟨e, v, _, _, _, hd, _⟩ => by have := e.depth_pos; omega
    rcases h with rfl | rfl | rfl | rfl
    · exact ⟨_, A.Number_words_d, _, T.cl_Number, T.me_Number_words, fn_none (ps := ["self"]) no, T.b_Number_words⟩
    · exact ⟨_, A.Box_words_d, _, T.cl_Box, T.me_Box_words, fn_none (ps := ["self"]) no, T.b_Box_words⟩
    · exact ⟨_, A.Cell_words_d, _, T.cl_Cell, T.me_Cell_words, fn_none (ps := ["self"]) no, T.b_Cell_words⟩
    · exact ⟨_, A.Two_words_d, _, T.cl_Two, T.me_Two_words, fn_none (ps := ["self"]) no, T.b_Two_words⟩
  | n + 1, C, h => by
    have D := disp_words T n
    rcases h with rfl | rfl | rfl | rfl
    · exact ⟨_, _, _, T.cl_Number, T.me_Number_words, ok_Number_words T, T.b_Number_words⟩
    · exact ⟨_, _, _, T.cl_Box, T.me_Box_words, ok_Box_words T, T.b_Box_words⟩
    · exact ⟨_, _, _, T.cl_Cell, T.me_Cell_words, ok_Cell_words T D, T.b_Cell_words⟩
    · exact ⟨_, _, _, T.cl_Two, T.me_Two_words, ok_Two_words T D, T.b_Two_words⟩

end
end K01
namespace K01
open PySem L2 TL
section
variable {P : Program} {w : World} {K : PySem.W.Frag} {mg : Str → Option Value} {base : Heap} {A : Ads}
theorem ok_Expr_parts (T : Txt K mg A) {n : Nat} {C : Addr} (hC : C = A.Number ∨ C = A.Box) : FnOk P w K mg base CX0 (n + 2) A.Expr_parts A.Expr_parts_d ["self"] (spParts A.ec (n + 1) C) := by
  refine T.F_Expr_parts.ok sc_Expr_parts (fun vs H Q E h => ?_) (fun cdv A0 outer s H vs Q E hr h => ?_)
  · obtain ⟨e, v, rfl, ho, hc, hd, q⟩ := h
    rfl
  obtain ⟨e, v, rfl, ho, hc, hd, q⟩ := h
  refine ⟨_, (pss_one (ps_ret pe_int)), ?_⟩
  cases e with
  | num n => exact q
  | box s => exact q
  | cell e =>
    rcases hC with h | h
    · exact (T.ne_cell_num (hc.trans h)).elim
    · exact (T.ne_cell_box (hc.trans h)).elim
  | two w l r =>
    rcases hC with h | h
    · exact (T.ne_two_num (hc.trans h)).elim
    · exact (T.ne_two_box (hc.trans h)).elim

theorem ok_Cell_parts (T : Txt K mg A) {n : Nat} (D_parts : ∀ C, A.ec.Fam C → Disp P w K mg base CX0 "parts" (n + 1) C (spParts A.ec n C)) : FnOk P w K mg base CX0 (n + 2) A.Cell_parts A.Cell_parts_d ["self"] (spParts A.ec (n + 1) A.Cell) := by
  refine T.F_Cell_parts.ok sc_Cell_parts (fun vs H Q E h => ?_) (fun cdv A0 outer s H vs Q E hr h => ?_)
  · obtain ⟨e, v, rfl, ho, hc, hd, q⟩ := h
    rfl
  obtain ⟨e, v, rfl, ho, hc, hd, q⟩ := h
  refine ⟨_, (pss_one (ps_ret (pe_op op_add pe_int (pe_methP0 (pe_fld (pv 0) rfl) D_parts (hr.mono (by omega)) pass0)))), ?_⟩
  cases e with
  | num n => exact (T.ne_num_cell hc).elim
  | box z => exact (T.ne_box_cell hc).elim
  | cell e =>
    obtain ⟨p, dx, i, rfl, h1, h2⟩ := ho
    have hd' : e.depth ≤ n := Nat.le_of_succ_le_succ hd
    obtain ⟨p2, d2, f2, e2, g1, g2⟩ := h2.at (m := "parts") (by decide +kernel)
    refine ⟨_, rfl, p, A.Cell, dx, _, _, rfl, h1, T.cl_Cell, T.n_Cell_inner, rfl, p2, _, d2, f2, e2, g1, g2, A.ec.fam e, e, i, rfl, h2, rfl, hd', ?_⟩
    refine ⟨_, _, rfl, rfl, ?_⟩
    have e1 : (1 : Int) + (e.parts : Int) = ((Ex.cell e).parts : Int) := by show (1 : Int) + (e.parts : Int) = ((1 + e.parts : Nat) : Int); omega
    show Q (.int ((1 : Int) + (e.parts : Int))) H
    rw [e1]
    exact q
  | two wd l r => exact (T.ne_two_cell hc).elim

theorem ok_Two_parts (T : Txt K mg A) {n : Nat} (D_parts : ∀ C, A.ec.Fam C → Disp P w K mg base CX0 "parts" (n + 1) C (spParts A.ec n C)) : FnOk P w K mg base CX0 (n + 2) A.Two_parts A.Two_parts_d ["self"] (spParts A.ec (n + 1) A.Two) := by
  refine T.F_Two_parts.ok sc_Two_parts (fun vs H Q E h => ?_) (fun cdv A0 outer s H vs Q E hr h => ?_)
  · obtain ⟨e, v, rfl, ho, hc, hd, q⟩ := h
    rfl
  obtain ⟨e, v, rfl, ho, hc, hd, q⟩ := h
  refine ⟨_, (pss_one (ps_ret (pe_op op_add (pe_op op_add pe_int (pe_methP0 (pe_fld (pv 0) rfl) D_parts (hr.mono (by omega)) pass0)) (pe_methP0 (pe_fld (pv 0) rfl) D_parts (hr.mono (by omega)) pass0)))), ?_⟩
  cases e with
  | num n => exact (T.ne_num_two hc).elim
  | box z => exact (T.ne_box_two hc).elim
  | cell e => exact (T.ne_cell_two hc).elim
  | two wd l r =>
    obtain ⟨p, dx, a, b, rfl, h1, h2, h3⟩ := ho
    have hd' : max l.depth r.depth ≤ n := Nat.le_of_succ_le_succ hd
    obtain ⟨p2, d2, f2, e2, g1, g2⟩ := h2.at (m := "parts") (by decide +kernel)
    obtain ⟨p3, d3, f3, e3, k1, k2⟩ := h3.at (m := "parts") (by decide +kernel)
    refine ⟨_, rfl, p, A.Two, dx, _, _, rfl, h1, T.cl_Two, T.n_Two_left, rfl, p2, _, d2, f2, e2, g1, g2, A.ec.fam l, l, a, rfl, h2, rfl, by omega, ?_⟩
    refine ⟨_, _, rfl, rfl, ?_⟩
    refine ⟨_, rfl, p, A.Two, dx, _, _, rfl, h1, T.cl_Two, T.n_Two_right, rfl, p3, _, d3, f3, e3, k1, k2, A.ec.fam r, r, b, rfl, h3, rfl, by omega, ?_⟩
    refine ⟨_, _, rfl, rfl, ?_⟩
    have e1 : (1 : Int) + (l.parts : Int) + (r.parts : Int) = ((Ex.two wd l r).parts : Int) := by show (1 : Int) + (l.parts : Int) + (r.parts : Int) = ((1 + l.parts + r.parts : Nat) : Int); omega
    show Q (.int ((1 : Int) + (l.parts : Int) + (r.parts : Int))) H
    rw [e1]
    exact q

theorem disp_parts (T : Txt K mg A) : ∀ (n : Nat) (C : Addr), A.ec.Fam C → Disp P w K mg base CX0 "parts" (n + 1) C (spParts A.ec n C)
  | 0, C, h => by
    have no : ∀ vs H Q E, spParts A.ec 0 C vs H Q E → False := fun vs H Q E ⟨e, v, _, _, _, hd, _⟩ => by have := e.depth_pos; omega
    rcases h with rfl | rfl | rfl | rfl
    · exact ⟨_, A.Expr_parts_d, _, T.cl_Number, T.me_Number_parts, fn_none (ps := ["self"]) no, T.b_Expr_parts⟩
    · exact ⟨_, A.Expr_parts_d, _, T.cl_Box, T.me_Box_parts, fn_none (ps := ["self"]) no, T.b_Expr_parts⟩
    · exact ⟨_, A.Cell_parts_d, _, T.cl_Cell, T.me_Cell_parts, fn_none (ps := ["self"]) no, T.b_Cell_parts⟩
    · exact ⟨_, A.Two_parts_d, _, T.cl_Two, T.me_Two_parts, fn_none (ps := ["self"]) no, T.b_Two_parts⟩
  | n + 1, C, h => by
    have D := disp_parts T n
    rcases h with rfl | rfl | rfl | rfl
    · exact ⟨_, _, _, T.cl_Number, T.me_Number_parts, ok_Expr_parts T (.inl rfl), T.b_Expr_parts⟩
    · exact ⟨_, _, _, T.cl_Box, T.me_Box_parts, ok_Expr_parts T (.inr rfl), T.b_Expr_parts⟩
    · exact ⟨_, _, _, T.cl_Cell, T.me_Cell_parts, ok_Cell_parts T D, T.b_Cell_parts⟩
    · exact ⟨_, _, _, T.cl_Two, T.me_Two_parts, ok_Two_parts T D, T.b_Two_parts⟩

end
end K01
namespace K01
open PySem L2 TL
section
variable {P : Program} {w : World} {K : PySem.W.Frag} {mg : Str → Option Value} {base : Heap} {A : Ads}
theorem ok_expr_at (T : Txt K mg A) : ∀ n : Nat, FnOk P w K mg base (L2.CX P w) (n + 2) A.expr_at A.expr_at_d ["row", "at", "deep"] (spExprAt K A.ec A.NoProgram n)
| 0 => fn_none fun vs H Q E h => by
    obtain ⟨_, _, _, d, _, _, _, _, hd, _⟩ := h; omega
| n + 1 => by
  have G_expr_at := ok_expr_at T n
  have G_is_value_word := ok_is_value_word (P := P) (w := w) (base := base) T
  have G_Number_init := ok_Number_init (P := P) (w := w) (base := base) T
  have G_is_name := ok_is_name (P := P) (w := w) (base := base) T
  have G_Box_init := ok_Box_init (P := P) (w := w) (base := base) T
  have G_Cell_init := ok_Cell_init (P := P) (w := w) (base := base) T
  have G_Two_init := ok_Two_init (P := P) (w := w) (base := base) T
  refine T.F_expr_at.okX sc_expr_at (fun vs H Q E h => ?_) (fun cdv A0 outer s H vs Q E hr h => ?_)
  · obtain ⟨a, ws, i, d, rfl, hS, hlen, hws, hdn, hd7, q1, q2⟩ := h
    rfl
  obtain ⟨a, ws, i, d, rfl, hS, hlen, hws, hdn, hd7, q1, q2⟩ := h
  refine ⟨_, (pss_cons (ps_if (PW.pt (pw_or (pt_cmpR op_gt (pv 2) (pe_glob (v := .int 6) (by rfl) T.c_MOST_DEEP.choose_spec ⟨_, rfl⟩) (nomark _)) (pw_or1 (pt_cmpR op_ge (pv 1) (pe_callB call_len_seq (by rfl) T.z_len (by decide +kernel) (pa_cons (pv 0) pa_nil)) (nomark _)))))
    (pss_one (ps_raise rfl (takes_of rfl rfl rfl rfl) (pmk_own PySem.F.excBase_ValueError T.x_NoProgram T.m_NoProgram T.kk_NoProgram (raises_own T.bb_NoProgram T.tt_NoProgram) (by exact rfl))))
    pss_nil)
   (pss_cons (ps_set (i := 3) sc_expr_at.nd rfl (Or.inl rfl) (pe_ix ix_list (pv 0) (pv 1) (fun _ _ => rfl)))
   (pss_cons (ps_if (pt_val (pe_call G_is_value_word (hr.mono (by omega)) rfl T.m_is_value_word T.F_is_value_word.kp T.b_is_value_word .nil pass0 (pa_cons (pv 3) pa_nil)))
    (pss_one (ps_ret (pe_tup (pa_cons (pe_make T.k_Number G_Number_init (hr.mono (by omega)) rfl T.m_Number T.b_Number_init .nil pass0 (pa_cons (pe_callTy call_int_str (by rfl) T.z_int (by decide +kernel) (pa_cons (pv 3) pa_nil)) pa_nil)) (pa_cons (pe_op op_add (pv 1) pe_int) pa_nil)))))
    pss_nil)
   (pss_cons (ps_if (pt_val (pe_call G_is_name (hr.mono (by omega)) rfl T.m_is_name T.F_is_name.kp T.b_is_name .nil pass0 (pa_cons (pv 3) pa_nil)))
    (pss_one (ps_ret (pe_tup (pa_cons (pe_make T.k_Box G_Box_init (hr.mono (by omega)) rfl T.m_Box T.b_Box_init .nil pass0 (pa_cons (pv 3) pa_nil)) (pa_cons (pe_op op_add (pv 1) pe_int) pa_nil)))))
    pss_nil)
   (pss_cons (ps_if (pt_cmpR op_eq (pv 3) pe_str (nomark _))
    (pss_cons (ps_asg (pe_call G_expr_at (hr.mono (by omega)) rfl T.m_expr_at T.F_expr_at.kp T.b_expr_at .nil (passes_call (takes_of rfl rfl rfl rfl) (fun _ _ _ _ h => h)) (pa_cons (pv 0) (pa_cons (pe_op op_add (pv 1) pe_int) (pa_cons (pe_op op_add (pv 2) pe_int) pa_nil)))) (pg_tup (by rfl) (pgs_cons (pg_name (i := 4) sc_expr_at.nd rfl (Or.inl rfl)) (pgs_cons (pg_name (i := 5) sc_expr_at.nd rfl (Or.inl rfl)) pgs_nil))))
   (pss_one (ps_ret (pe_tup (pa_cons (pe_make T.k_Cell G_Cell_init (hr.mono (by omega)) rfl T.m_Cell T.b_Cell_init .nil pass0 (pa_cons (pv 4) pa_nil)) (pa_cons (pv 5) pa_nil))))))
    pss_nil)
   (pss_cons (ps_if (pt_cmpR op_notIn_seq (pv 3) (pe_glob (v := .ref A.PAIRS) (by rfl) T.m_PAIRS rfl) (by rfl))
    (pss_one (ps_raise rfl (takes_of rfl rfl rfl rfl) (pmk_own PySem.F.excBase_ValueError T.x_NoProgram T.m_NoProgram T.kk_NoProgram (raises_own T.bb_NoProgram T.tt_NoProgram) (by exact rfl))))
    pss_nil)
   (pss_cons (ps_asg (pe_call G_expr_at (hr.mono (by omega)) rfl T.m_expr_at T.F_expr_at.kp T.b_expr_at .nil (passes_call (takes_of rfl rfl rfl rfl) (fun _ _ _ _ h => h)) (pa_cons (pv 0) (pa_cons (pe_op op_add (pv 1) pe_int) (pa_cons (pe_op op_add (pv 2) pe_int) pa_nil)))) (pg_tup (by rfl) (pgs_cons (pg_name (i := 6) sc_expr_at.nd rfl (Or.inl rfl)) (pgs_cons (pg_name (i := 7) sc_expr_at.nd rfl (Or.inl rfl)) pgs_nil))))
   (pss_cons (ps_asg (pe_call G_expr_at (hr.mono (by omega)) rfl T.m_expr_at T.F_expr_at.kp T.b_expr_at .nil (passes_call (takes_of rfl rfl rfl rfl) (fun _ _ _ _ h => h)) (pa_cons (pv 0) (pa_cons (pv 7) (pa_cons (pe_op op_add (pv 2) pe_int) pa_nil)))) (pg_tup (by rfl) (pgs_cons (pg_name (i := 8) sc_expr_at.nd rfl (Or.inl rfl)) (pgs_cons (pg_name (i := 5) sc_expr_at.nd rfl (Or.inl rfl)) pgs_nil))))
   (pss_one (ps_ret (pe_tup (pa_cons (pe_make T.k_Two G_Two_init (hr.mono (by omega)) rfl T.m_Two T.b_Two_init .nil pass0 (pa_cons (pv 3) (pa_cons (pv 6) (pa_cons (pv 8) pa_nil)))) (pa_cons (pv 5) pa_nil))))))))))))), ?_⟩
  refine ⟨_, rfl, _, _, rfl, rfl, _, rfl, ?_⟩
  refine iteD2 (fun c1 => ?_) (fun c1 => ?_)
  · have d0 : d = 0 := by omega
    subst d0
    exact q2 rfl H (Same.refl H)
  obtain ⟨d', rfl⟩ : ∃ d', d = d' + 1 := ⟨d - 1, by omega⟩
  refine ⟨_, rfl, _, rfl, a, _, rfl, .inl hS, _, _, rfl, rfl, _, rfl, ?_⟩
  rw [List.length_map]
  refine iteD2 (fun c2 => ?_) (fun c2 => ?_)
  · refine q2 ?_ H (Same.refl H)
    rw [List.drop_eq_nil_of_le (by omega)]
    rfl
  obtain ⟨w1, r1, hw⟩ : ∃ w1 r1, ws.drop i = w1 :: r1 := ⟨_, _, List.drop_eq_getElem_cons (by omega)⟩
  obtain ⟨hi, hat, hdr, hrl, hmem⟩ := at_str hw
  rw [hw, parseE_cons] at q1 q2
  have hl1 := hws _ hmem
  refine ⟨_, rfl, _, rfl, a, _, _, _, rfl, rfl, hS, hat, ?_⟩
  refine ⟨_, rfl, w1, rfl, hl1, fun H1 s1 => ⟨_, rfl, iteB2 (fun c3 => ?_) (fun c3 => ?_)⟩⟩
  · rw [if_pos c3] at q1
    have hv := valW_int c3
    refine ⟨_, rfl, w1, valOf w1, rfl, hv.1, hv.2.1, fun x dx hx hdx _ => mk_init hx hdx fun H2 s2 h2 => ?_⟩
    refine ⟨_, rfl, _, _, rfl, rfl, by show 2 ≤ sizeLine; decide, fun t ht => ?_⟩
    refine q1 _ _ rfl t _ (.ref x) (s1.trans (s2.trans (same_new ht))) ?_ ⟨x, dx, rfl, (same_new ht) _ _ h2⟩
    rw [upd_same, hrl]
    have : ((ws.length - (ws.length - (i + 1)) : Nat) : Int) = (i : Int) + 1 := by omega
    rw [this]
  rw [if_neg (by rw [c3]; decide)] at q1 q2
  refine ⟨_, rfl, w1, rfl, hl1, fun H2 s2 => ⟨_, rfl, iteB2 (fun c4 => ?_) (fun c4 => ?_)⟩⟩
  · rw [if_pos c4] at q1
    refine ⟨_, rfl, fun x dx hx hdx _ => mk_init hx hdx fun H3 s3 h3 => ?_⟩
    refine ⟨_, rfl, _, _, rfl, rfl, by show 2 ≤ sizeLine; decide, fun t ht => ?_⟩
    refine q1 _ _ rfl t _ (.ref x) (s1.trans (s2.trans (s3.trans (same_new ht)))) ?_ ⟨x, dx, rfl, (same_new ht) _ _ h3⟩
    rw [upd_same, hrl]
    have : ((ws.length - (ws.length - (i + 1)) : Nat) : Int) = (i : Int) + 1 := by omega
    rw [this]
  rw [if_neg (by rw [c4]; decide)] at q1 q2
  have s12 := s1.trans s2
  have e1 : (i : Int) + 1 = ((i + 1 : Nat) : Int) := by omega
  have e2 : (7 : Int) - ((d' + 1 : Nat) : Int) + 1 = 7 - (d' : Int) := by omega
  refine ⟨_, rfl, rfl, _, rfl, ?_⟩
  refine iteD2 (fun c5 => ?_) (fun c5 => ?_)
  · rw [if_pos (V.str.inj c5)] at q1 q2
    refine ⟨_, rfl, _, rfl, _, _, rfl, rfl, _, rfl, _, _, rfl, rfl, a, ws, i + 1, d', (by show [V.ref a, V.int ((i : Int) + 1), V.int ((7 : Int) - ((d' + 1 : Nat) : Int) + 1)] = _; rw [e1, e2]), s12.seq hS, hlen, hws, by omega, by omega, fun e3 r3 p3 t H3 v s3 ht ho => ?_, fun p3 H3 s3 => ?_⟩
    · rw [hdr] at p3
      rw [p3] at q1
      refine ⟨t, _, rfl, SqT.of ht, rfl, _, _, rfl, _, _, rfl, rfl, ?_⟩
      refine ⟨_, rfl, fun x dx hx hdx _ => mk_init hx hdx fun H4 s4 h4 => ?_⟩
      refine ⟨_, rfl, by show 2 ≤ sizeLine; decide, fun t2 ht2 => ?_⟩
      exact q1 _ _ rfl t2 _ (.ref x) (s12.trans (s3.trans (s4.trans (same_new ht2)))) upd_same ⟨x, dx, v, rfl, (same_new ht2) _ _ h4, ho.same (s4.trans (same_new ht2))⟩
    · rw [hdr] at p3
      rw [p3] at q2
      exact q2 rfl H3 (s12.trans s3)
  rw [if_neg (fun e => c5 (congrArg V.str e))] at q1 q2
  refine ⟨_, rfl, A.PAIRS, PAIRW.map V.str, rfl, .inr (T.q_PAIRS _), rfl, rfl, _, rfl, ?_⟩
  rw [if_pos rfl, inV_str]
  refine iteN2 (fun c6 => ?_) (fun c6 => ?_)
  · rw [if_neg c6] at q2
    exact q2 rfl H2 s12
  rw [if_pos c6] at q1 q2
  refine ⟨_, rfl, _, rfl, _, _, rfl, rfl, _, rfl, _, _, rfl, rfl, a, ws, i + 1, d', (by show [V.ref a, V.int ((i : Int) + 1), V.int ((7 : Int) - ((d' + 1 : Nat) : Int) + 1)] = _; rw [e1, e2]), s12.seq hS, hlen, hws, by omega, by omega, fun e3 r3 p3 t H3 v s3 ht ho => ?_, fun p3 H3 s3 => ?_⟩
  · rw [hdr] at p3
    rw [p3] at q1 q2
    have pa := parse_at (i := i + 1) (d := d') (ws := ws) (by rw [hdr]; exact p3)
    refine ⟨t, _, rfl, SqT.of ht, rfl, _, _, rfl, _, _, rfl, rfl, ?_⟩
    refine ⟨_, rfl, _, rfl, _, rfl, _, _, rfl, rfl, a, ws, ws.length - r3.length, d', (by show [V.ref a, V.int _, V.int ((7 : Int) - ((d' + 1 : Nat) : Int) + 1)] = _; rw [e2]), s3.seq (s12.seq hS), hlen, hws, by omega, by omega, fun e4 r4 p4 t2 H4 v2 s4 ht2 ho2 => ?_, fun p4 H4 s4 => ?_⟩
    · rw [pa.2.2] at p4
      simp only at q1
      rw [p4] at q1
      refine ⟨t2, _, rfl, SqT.of ht2, rfl, _, _, rfl, _, _, rfl, rfl, ?_⟩
      refine ⟨_, rfl, _, rfl, _, rfl, fun x dx hx hdx _ => mk_two hx hdx fun H5 s5 h5 => ?_⟩
      refine ⟨_, rfl, by show 2 ≤ sizeLine; decide, fun t3 ht3 => ?_⟩
      exact q1 _ _ rfl t3 _ (.ref x) (s12.trans (s3.trans (s4.trans (s5.trans (same_new ht3))))) upd_same ⟨x, dx, v, v2, rfl, (same_new ht3) _ _ h5, ho.same (s4.trans (s5.trans (same_new ht3))), ho2.same (s5.trans (same_new ht3))⟩
    · rw [pa.2.2] at p4
      simp only at q2
      rw [p4] at q2
      exact q2 rfl H4 (s12.trans (s3.trans s4))
  · rw [hdr] at p3
    rw [p3] at q2
    exact q2 rfl H3 (s12.trans s3)

end
end K01
namespace K01
open PySem L2 TL
section
variable {P : Program} {w : World} {K : PySem.W.Frag} {mg : Str → Option Value} {base : Heap} {A : Ads}
theorem ok_exprs_of (T : Txt K mg A) : FnOk P w K mg base (L2.CX P w) 11 A.exprs_of A.exprs_of_d ["row"] (spExprs K A.ec A.NoProgram) := by
  have G_expr_at := ok_expr_at (P := P) (w := w) (base := base) T 8
  have D_parts := disp_parts (P := P) (w := w) (base := base) T 7
  refine T.F_exprs_of.okX sc_exprs_of (fun vs H Q E h => ?_) (fun cdv A0 outer s H vs Q E hr h => ?_)
  · obtain ⟨a, ws, rfl, hS, hlen, hws, q1, q2⟩ := h
    rfl
  obtain ⟨a, ws, rfl, hS, hlen, hws, q1, q2⟩ := h
  refine ⟨_, (pss_cons (ps_set (i := 1) sc_exprs_of.nd rfl (Or.inl rfl) (pe_lst pa_nil))
   (pss_cons (ps_set (i := 2) sc_exprs_of.nd rfl (Or.inl rfl) pe_int)
   (pss_cons (ps_while (passes_of rfl) (pt_cmpR op_lt (pv 2) (pe_callB call_len_seq (by rfl) T.z_len (by decide +kernel) (pa_cons (pv 0) pa_nil)) (nomark _))
    (pss_cons (ps_asg (pe_call G_expr_at (hr.mono (by decide)) rfl T.m_expr_at T.F_expr_at.kp T.b_expr_at .nil (passes_call (takes_of rfl rfl rfl rfl) (fun _ _ _ _ h => h)) (pa_cons (pv 0) (pa_cons (pv 2) (pa_cons pe_int pa_nil)))) (pg_tup (by rfl) (pgs_cons (pg_name (i := 3) sc_exprs_of.nd rfl (Or.inl rfl)) (pgs_cons (pg_name (i := 2) sc_exprs_of.nd rfl (Or.inl rfl)) pgs_nil))))
   (pss_cons (ps_if (pt_cmpR op_gt (pe_methP0 (pv 3) D_parts (hr.mono (by decide)) pass0) (pe_glob (v := .int 15) (by rfl) T.c_MOST_PARTS.choose_spec ⟨_, rfl⟩) (nomark _))
    (pss_one (ps_raise rfl (takes_of rfl rfl rfl rfl) (pmk_own PySem.F.excBase_ValueError T.x_NoProgram T.m_NoProgram T.kk_NoProgram (raises_own T.bb_NoProgram T.tt_NoProgram) (by exact rfl))))
    pss_nil)
   (pss_one (ps_expr (pe_bm PySem.F.plainAttrs_list PySem.F.slot_list_append PySem.F.type_list_append mt_append (pv 1) (pa_cons (pv 3) pa_nil)))))))
   (pss_one (ps_ret (pv 1)))))), ?_⟩
  refine ⟨by show 0 ≤ sizeLine; decide, fun l hl => ?_⟩
  refine while_m (fun m σ H' => ∃ (i : Nat) (es : List Ex) (os : List V) (z : Option V), σ = [some (.ref a), some (.ref l), some (.int i), z] ∧ m = ws.length - i ∧ i ≤ ws.length ∧ Same H H' ∧ H' l = some (.lst os) ∧ os.length ≤ i ∧ AllE A.ec H' es os ∧ after es (parseAll (ws.drop i).length (ws.drop i)) = parseAll ws.length ws) ws.length
    ⟨0, [], [], none, rfl, rfl, Nat.zero_le _, same_new hl, upd_same, Nat.le_refl _, .nil, by rw [List.drop_zero]; cases parseAll ws.length ws <;> rfl⟩ ?_
  rintro m σ H1 ⟨i, es, os, z, rfl, rfl, hi, s1, h1, hos, ha, hp⟩
  refine ⟨_, rfl, _, rfl, a, _, rfl, .inl (s1.seq hS), _, _, rfl, rfl, _, rfl, ?_⟩
  rw [List.length_map]
  refine iteD2 (fun c1 => ?_) (fun c1 => ?_)
  · refine ⟨fun σ' H' => ∃ (i' : Nat) (es : List Ex) (os : List V) (z : Option V), i < i' ∧ σ' = [some (.ref a), some (.ref l), some (.int i'), z] ∧ i' ≤ ws.length ∧ Same H H' ∧ H' l = some (.lst os) ∧ os.length ≤ i' ∧ AllE A.ec H' es os ∧ after es (parseAll (ws.drop i').length (ws.drop i')) = parseAll ws.length ws,
      fun σ' H' ⟨i', es, os, z, hi', hσ, k⟩ => ⟨ws.length - i', by omega, i', es, os, z, hσ, rfl, k⟩, ?_⟩
    obtain ⟨w1, r1, hw⟩ : ∃ w1 r1, ws.drop i = w1 :: r1 := ⟨_, _, List.drop_eq_getElem_cons (by omega)⟩
    rw [hw, parseAll_step, ← hw] at hp
    refine ⟨_, rfl, _, rfl, a, ws, i, 6, rfl, s1.seq hS, hlen, hws, by decide, by decide, fun e r p t H2 v s2 ht ho => ?_, fun p H2 s2 => ?_⟩
    · rw [p] at hp
      have pa := parse_at p
      simp only at hp
      refine ⟨t, _, rfl, SqT.of ht, rfl, _, _, rfl, _, _, rfl, rfl, ?_⟩
      obtain ⟨p2, d2, f2, e2, g1, g2⟩ := ho.at (m := "parts") (by decide +kernel)
      refine ⟨_, rfl, p2, _, d2, f2, e2, g1, g2, A.ec.fam e, e, v, by rw [e2]; rfl, ho, rfl, by have := (parse_wf p).2.1; omega, ?_⟩
      refine ⟨_, _, rfl, rfl, _, rfl, ?_⟩
      refine iteD2 (fun c2 => ?_) (fun c2 => ?_)
      · rw [if_neg (by omega)] at hp
        exact q2 hp.symm H2 (s1.trans s2)
      · rw [if_pos (by omega)] at hp
        have h2 := s2 _ _ h1
        refine ⟨_, rfl, .inl ⟨rfl, _, SqL.of h2⟩, _, rfl, l, _, _, rfl, rfl, h2, Nat.lt_of_le_of_lt (Nat.le_trans hos (Nat.le_trans hi hlen)) (by decide), ?_⟩
        have kx : ∀ b o, H b = some o → upd H2 l (.lst (os ++ [v])) b = some o := fun b o hb => by rw [upd_ne (ne_of_none hb hl)]; exact (s1.trans s2) b o hb
        have hol : ∀ {e : Ex} {v : V} {X : Hp}, Same X H2 → ObjE A.ec X e v → ObjE A.ec (upd H2 l (.lst (os ++ [v]))) e v := fun sx hx => objE_upd h2 (hx.same sx)
        refine ⟨ws.length - r.length, es ++ [e], os ++ [v], _, pa.1, rfl, pa.2.1, kx, upd_same, by rw [List.length_append, List.length_singleton]; omega, allE_snoc_upd h2 (ha.same s2) ho, ?_⟩
        rw [pa.2.2, ← hp]
        cases q : parseAll r.length r with
        | none => rfl
        | some fs => show some ((es ++ [e]) ++ fs) = some (es ++ (e :: fs)); rw [List.append_assoc]; rfl
    · rw [p] at hp
      exact q2 hp.symm H2 (s1.trans s2)
  · have ei : i = ws.length := by omega
    subst ei
    rw [List.drop_length] at hp
    have hp' : some es = parseAll ws.length ws := by
      rw [← hp]; show _ = some (es ++ []); rw [List.append_nil]
    exact ⟨_, rfl, q1 es hp'.symm l H1 os s1 h1 ha⟩

end
end K01
namespace K01
open PySem L2 TL
section
variable {P : Program} {w : World} {K : PySem.W.Frag} {mg : Str → Option Value} {base : Heap} {A : Ads}
theorem ok_read_expr (T : Txt K mg A) : FnOk P w K mg base (L2.CX P w) 12 A.read_expr A.read_expr_d ["text"] (spReadE A.ec A.NoProgram) := by
  have G_exprs_of := ok_exprs_of (P := P) (w := w) (base := base) T
  refine T.F_read_expr.okX sc_read_expr (fun vs H Q E h => ?_) (fun cdv A0 outer s H vs Q E hr h => ?_)
  · obtain ⟨s, rfl, hl, q1, q2⟩ := h
    rfl
  obtain ⟨s, rfl, hl, q1, q2⟩ := h
  refine ⟨_, (pss_cons (ps_if (pt_not (pt_val (pe_callB call_isi (by rfl) T.z_isinstance (by decide +kernel) (pa_cons (pv 0) (pa_cons (pe_bltn (v := .ty "str") (by rfl) T.z_str (by decide +kernel) rfl) pa_nil)))))
    (pss_one (ps_raise rfl (takes_of rfl rfl rfl rfl) (pmk_own PySem.F.excBase_ValueError T.x_NoProgram T.m_NoProgram T.kk_NoProgram (raises_own T.bb_NoProgram T.tt_NoProgram) (by exact rfl))))
    pss_nil)
   (pss_cons (ps_set (i := 1) sc_read_expr.nd rfl (Or.inl rfl) (pe_call G_exprs_of (hr.mono (by decide)) rfl T.m_exprs_of T.F_exprs_of.kp T.b_exprs_of .nil (passes_call (takes_of rfl rfl rfl rfl) (fun _ _ _ _ h => h)) (pa_cons (pe_split (pv 0) pe_str) pa_nil)))
   (pss_cons (ps_if (pt_cmpR op_ne (pe_callB call_len_seq (by rfl) T.z_len (by decide +kernel) (pa_cons (pv 1) pa_nil)) pe_int (nomark _))
    (pss_one (ps_raise rfl (takes_of rfl rfl rfl rfl) (pmk_own PySem.F.excBase_ValueError T.x_NoProgram T.m_NoProgram T.kk_NoProgram (raises_own T.bb_NoProgram T.tt_NoProgram) (by exact rfl))))
    pss_nil)
   (pss_one (ps_ret (pe_ix ix_list (pv 1) pe_int (fun _ _ => rfl))))))), ?_⟩
  refine ⟨_, rfl, _, _, _, _, true, rfl, .ty _, .base (.str _), kit_ty (by decide +kernel), _, rfl, iteF ?_⟩
  have hs := split_small (s := s) hl
  refine ⟨_, rfl, ⟨_, rfl⟩, s, _, rfl, rfl, (by decide +kernel), Nat.le_trans (Nat.add_le_add_right hl 2) (by decide), fun l hn => ?_⟩
  refine ⟨l, Txt.split s " ", rfl, SqL.of upd_same, hs.1, hs.2, fun es p t H1 os s1 h1 ha => ?_, fun p H1 s1 => ?_⟩
  · refine ⟨_, rfl, t, _, rfl, .inl (SqL.of h1), rfl, _, rfl, ?_⟩
    have hlen := ha.length
    refine iteN2 (fun c => ?_) (fun c => ?_)
    · refine q2 (fun e pe => ?_) H1 ((same_new hn).trans s1)
      rw [p] at pe
      have : es = [e] := Option.some.inj pe
      rw [this] at hlen
      exact c (congrArg V.int (by rw [← hlen]; rfl))
    · have c' := V.int.inj c
      cases ha with
      | nil => simp at c'
      | cons o r =>
        cases r with
        | cons o2 r2 => simp at c'; omega
        | nil => exact ⟨_, rfl, t, _, _, _, rfl, rfl, SqL.of h1, rfl, q1 _ p _ H1 ((same_new hn).trans s1) o⟩
  · exact q2 (fun e pe => by rw [p] at pe; cases pe) H1 ((same_new hn).trans s1)

end
end K01
namespace K01
open PySem L2 TL
section
variable {P : Program} {w : World} {K : PySem.W.Frag} {mg : Str → Option Value} {base : Heap} {A : Ads}
theorem ok_l_cell (T : Txt K mg A) : FnOk P w K mg base CX0 1 A.l_cell A.l_cell_d ["_law_script", "_law_k"] (spCell K) := by
  refine T.F_l_cell.ok sc_l_cell (fun vs H Q E h => ?_) (fun cdv A0 outer s H vs Q E hr h => ?_)
  · obtain ⟨a, ns, k, rfl, hS, hk, q⟩ := h
    rfl
  obtain ⟨a, ns, k, rfl, hS, hk, q⟩ := h
  refine ⟨_, (pss_cons (ps_if (pt_cmpR op_lt (pv 1) (pe_callB call_len_seq (by rfl) T.z_len (by decide +kernel) (pa_cons (pv 0) pa_nil)) (nomark _))
    (pss_one (ps_ret (pe_ix ix_list (pv 0) (pv 1) (fun _ _ => rfl))))
    pss_nil)
   (pss_one (ps_ret pe_int))), ?_⟩
  refine ⟨_, rfl, _, rfl, a, _, rfl, .inl hS, _, _, rfl, rfl, _, rfl, ?_⟩
  refine iteD2 (fun c => ?_) (fun c => ?_)
  · obtain ⟨v, hv⟩ := at_int (ns := ns) hk (by rw [List.length_map] at c; exact c)
    exact ⟨_, rfl, _, rfl, a, _, _, _, rfl, rfl, hS, hv, q v⟩
  · exact q 0

theorem ok_l_mixed (T : Txt K mg A) : FnOk P w K mg base CX0 1 A.l_mixed A.l_mixed_d ["_law_cell_here", "_law_k"] spI2 := by
  refine T.F_l_mixed.ok sc_l_mixed (fun vs H Q E h => ?_) (fun cdv A0 outer s H vs Q E hr h => ?_)
  · obtain ⟨a, b, rfl, q⟩ := h
    rfl
  obtain ⟨a, b, rfl, q⟩ := h
  refine ⟨_, (pss_cons (ps_set (i := 2) sc_l_mixed.nd rfl (Or.inl rfl) (pe_op op_mod (pe_op op_mul (pe_op op_add (pe_op op_add (pv 0) (pe_op op_mul pe_int (pv 1))) pe_int) pe_int) pe_int))
   (pss_one (ps_ret (pe_op op_mod (pe_op op_mul (pv 2) (pe_op op_add (pe_op op_fdiv (pv 2) pe_int) pe_int)) pe_int)))), ?_⟩
  walk_at "rd"
  exact q _

theorem ok_l_twice (T : Txt K mg A) : FnOk P w K mg base CX0 2 A.l_twice A.l_twice_d ["_law_cell_here", "_law_k"] spI2 := by
  have G_l_mixed := ok_l_mixed (P := P) (w := w) (base := base) T
  refine T.F_l_twice.ok sc_l_twice (fun vs H Q E h => ?_) (fun cdv A0 outer s H vs Q E hr h => ?_)
  · obtain ⟨a, b, rfl, q⟩ := h
    rfl
  obtain ⟨a, b, rfl, q⟩ := h
  refine ⟨_, (pss_cons (ps_set (i := 2) sc_l_twice.nd rfl (Or.inl rfl) (pe_op op_mod (pe_op op_mul (pe_op op_add (pe_op op_add (pe_call G_l_mixed (hr.mono (by decide)) rfl T.m_l_mixed T.F_l_mixed.kp T.b_l_mixed .nil pass0 (pa_cons (pv 0) (pa_cons (pv 1) pa_nil))) (pe_op op_mul pe_int (pv 1))) pe_int) pe_int) pe_int))
   (pss_one (ps_ret (pe_op op_mod (pe_op op_mul (pv 2) (pe_op op_add (pe_op op_fdiv (pv 2) pe_int) pe_int)) pe_int)))), ?_⟩
  walk_at "rd"
  refine ⟨_, _, rfl, fun n => ?_⟩
  walk_at "rd"
  exact q _

theorem ok_l_well (T : Txt K mg A) : FnOk P w K mg base CX0 2 A.l_well A.l_well_d ["_law_script", "_law_k"] (spWell K) := by
  have G_l_cell := ok_l_cell (P := P) (w := w) (base := base) T
  refine T.F_l_well.ok sc_l_well (fun vs H Q E h => ?_) (fun cdv A0 outer s H vs Q E hr h => ?_)
  · obtain ⟨a, ns, k, rfl, hS, hk, q⟩ := h
    rfl
  obtain ⟨a, ns, k, rfl, hS, hk, q⟩ := h
  refine ⟨_, (pss_one (ps_ret (pe_lst (pa_cons (pe_op op_mod (pe_call G_l_cell (hr.mono (by decide)) rfl T.m_l_cell T.F_l_cell.kp T.b_l_cell .nil pass0 (pa_cons (pv 0) (pa_cons pe_int pa_nil))) pe_int) (pa_cons (pe_call G_l_cell (hr.mono (by decide)) rfl T.m_l_cell T.F_l_cell.kp T.b_l_cell .nil pass0 (pa_cons (pv 0) (pa_cons (pv 1) pa_nil))) (pa_cons pe_int (pa_cons (pe_op op_add (pe_call G_l_cell (hr.mono (by decide)) rfl T.m_l_cell T.F_l_cell.kp T.b_l_cell .nil pass0 (pa_cons (pv 0) (pa_cons (pv 1) pa_nil))) (pv 1)) pa_nil))))))), ?_⟩
  refine ⟨_, rfl, a, ns, 0, rfl, hS, Int.le_refl 0, fun n1 => ?_⟩
  walk_at "rd"
  refine ⟨a, ns, k, rfl, hS, hk, fun n2 => ?_⟩
  walk_at "rd"
  refine ⟨a, ns, k, rfl, hS, hk, fun n3 => ?_⟩
  walk_at "rd"
  exact ⟨by show 4 ≤ sizeLine; decide, fun p hp => q p _ hp (same_new hp) ⟨_, _, _, _, upd_same⟩⟩

theorem ok_l_draw (T : Txt K mg A) : FnOk P w K mg base CX0 3 A.l_draw A.l_draw_d ["_law_well_here", "_law_most"] spDraw := by
  have G_l_twice := ok_l_twice (P := P) (w := w) (base := base) T
  refine T.F_l_draw.ok sc_l_draw (fun vs H Q E h => ?_) (fun cdv A0 outer s H vs Q E hr h => ?_)
  · obtain ⟨p, m, rfl, ⟨a, b, c, d, h⟩, hm0, hm1, q⟩ := h
    rfl
  obtain ⟨p, m, rfl, ⟨a, b, c, d, h⟩, hm0, hm1, q⟩ := h
  refine ⟨_, (pss_cons (ps_if (PW.pt (pw_and (pt_cmpR op_eq (pe_ix ix_list (pv 0) pe_int (fun _ _ => rfl)) pe_int (nomark _)) (pw_and1 (pt_cmpR op_notIn_seq (pe_ix ix_list (pv 0) pe_int (fun _ _ => rfl)) (pe_tup (pa_cons pe_int (pa_cons (pe_un un_neg pe_int) pa_nil))) (by rfl)))))
    (pss_cons (ps_set (i := 2) sc_l_draw.nd rfl (Or.inl rfl) (pe_op op_modN (pe_ix ix_list (pv 0) pe_int (fun _ _ => rfl)) (pv 1)))
   (pss_cons (ps_asg (pe_op op_fdivN (pe_ix ix_list (pv 0) pe_int (fun _ _ => rfl)) (pv 1)) (pg_sub (pv 0) pe_int set_list))
   (pss_one (ps_ret (pv 2)))))
    pss_nil)
   (pss_cons (ps_asg (pe_op op_add (pe_ix ix_list (pv 0) pe_int (fun _ _ => rfl)) pe_int) (pg_sub (pv 0) pe_int set_list))
   (pss_one (ps_ret (pe_op op_modN (pe_call G_l_twice (hr.mono (by decide)) rfl T.m_l_twice T.F_l_twice.kp T.b_l_twice .nil pass0 (pa_cons (pe_ix ix_list (pv 0) pe_int (fun _ _ => rfl)) (pa_cons (pe_ix ix_list (pv 0) pe_int (fun _ _ => rfl)) pa_nil))) (pv 1)))))), ?_⟩
  have hm : m ≠ 0 := by omega
  refine ⟨_, rfl, p, _, _, _, rfl, rfl, SqL.of h, rfl, rfl, _, rfl, ?_⟩
  refine iteD2 (fun c1 => ?_) (fun c1 => ?_)
  · refine ⟨_, rfl, p, _, _, _, rfl, rfl, SqL.of h, rfl, _, rfl, by show 2 ≤ sizeLine; decide, fun t ht => ?_⟩
    have npt : p ≠ t := ne_of_none h ht
    have h1 : ∀ o, upd H t o p = some (.lst [.int a, .int b, .int c, .int d]) := fun o => by rw [upd_ne npt]; exact h
    refine ⟨t, _, rfl, .inr (SqT.of upd_same), rfl, rfl, _, rfl, ?_⟩
    refine iteB2 (fun c2 => ?_) (fun c2 => ?_)
    · refine ⟨_, rfl, p, _, _, _, rfl, rfl, SqL.of (h1 _), rfl, _, rfl, _, _, rfl, rfl, hm, ?_⟩
      refine ⟨_, rfl, p, _, _, _, rfl, rfl, SqL.of (h1 _), rfl, _, rfl, _, _, rfl, rfl, ⟨hm, by omega⟩, ?_⟩
      refine ⟨_, rfl, p, _, _, 1, rfl, rfl, h1 _, rfl, _, rfl, ?_⟩
      exact q _ _ (Int.fmod_nonneg_of_pos _ hm0) (Int.fmod_lt_of_pos _ hm0) ((keepX_of (same_new ht)).trans keepX_upd) ⟨_, _, _, _, upd_same⟩
    · refine ⟨_, rfl, p, _, _, _, rfl, rfl, SqL.of (h1 _), rfl, _, _, rfl, rfl, _, rfl, p, _, _, 2, rfl, rfl, h1 _, rfl, ?_⟩
      refine ⟨_, rfl, p, _, _, _, rfl, rfl, SqL.of upd_same, rfl, _, rfl, p, _, _, _, rfl, rfl, SqL.of upd_same, rfl, _, _, rfl, fun n => ?_⟩
      refine ⟨_, rfl, _, _, rfl, rfl, hm, ?_⟩
      exact q _ _ (Int.fmod_nonneg_of_pos _ hm0) (Int.fmod_lt_of_pos _ hm0) ((keepX_of (same_new ht)).trans keepX_upd) ⟨_, _, _, _, upd_same⟩
  · refine ⟨_, rfl, p, _, _, _, rfl, rfl, SqL.of h, rfl, _, _, rfl, rfl, _, rfl, p, _, _, 2, rfl, rfl, h, rfl, ?_⟩
    refine ⟨_, rfl, p, _, _, _, rfl, rfl, SqL.of upd_same, rfl, _, rfl, p, _, _, _, rfl, rfl, SqL.of upd_same, rfl, _, _, rfl, fun n => ?_⟩
    refine ⟨_, rfl, _, _, rfl, rfl, hm, ?_⟩
    exact q _ _ (Int.fmod_nonneg_of_pos _ hm0) (Int.fmod_lt_of_pos _ hm0) keepX_upd ⟨_, _, _, _, upd_same⟩

end
end K01
namespace K01
open PySem L2 TL
section
variable {P : Program} {w : World} {K : PySem.W.Frag} {mg : Str → Option Value} {base : Heap} {A : Ads}
theorem ok_l_value (T : Txt K mg A) : FnOk P w K mg base CX0 4 A.l_value A.l_value_d ["_law_well_here"] spValue := by
  have G_l_draw := ok_l_draw (P := P) (w := w) (base := base) T
  refine T.F_l_value.ok sc_l_value (fun vs H Q E h => ?_) (fun cdv A0 outer s H vs Q E hr h => ?_)
  · obtain ⟨p, rfl, W, q⟩ := h
    rfl
  obtain ⟨p, rfl, W, q⟩ := h
  refine ⟨_, (pss_cons (ps_set (i := 1) sc_l_value.nd rfl (Or.inl rfl) (pe_call G_l_draw (hr.mono (by decide)) rfl T.m_l_draw T.F_l_draw.kp T.b_l_draw .nil pass0 (pa_cons (pv 0) (pa_cons pe_int pa_nil))))
   (pss_cons (ps_if (pt_cmpR op_eq (pv 1) pe_int (nomark _))
    (pss_one (ps_ret (pe_call G_l_draw (hr.mono (by decide)) rfl T.m_l_draw T.F_l_draw.kp T.b_l_draw .nil pass0 (pa_cons (pv 0) (pa_cons (pe_op op_pow pe_int pe_int) pa_nil)))))
    pss_nil)
   (pss_cons (ps_if (pt_cmpR op_eq (pv 1) pe_int (nomark _))
    (pss_one (ps_ret (pe_op op_sub pe_int (pe_call G_l_draw (hr.mono (by decide)) rfl T.m_l_draw T.F_l_draw.kp T.b_l_draw .nil pass0 (pa_cons (pv 0) (pa_cons pe_int pa_nil))))))
    pss_nil)
   (pss_one (ps_ret (pe_call G_l_draw (hr.mono (by decide)) rfl T.m_l_draw T.F_l_draw.kp T.b_l_draw .nil pass0 (pa_cons (pv 0) (pa_cons pe_int pa_nil)))))))), ?_⟩
  refine ⟨_, rfl, p, 4, rfl, W, by decide, by decide, fun n H1 hn0 hn1 k1 W1 => ?_⟩
  refine ⟨_, rfl, rfl, _, rfl, ?_⟩
  refine iteD2 (fun c1 => ?_) (fun c1 => ?_)
  · refine ⟨_, rfl, _, _, rfl, rfl, ⟨by decide, by decide, by decide⟩, p, _, rfl, W1, by decide, by decide, fun m H2 hm0 hm1 k2 W2 => ?_⟩
    have e6 : (10 : Int) ^ ((6 : Int).toNat) = 1000000 := by decide
    rw [e6] at hm1
    exact q m H2 hm0 hm1 (k1.trans k2) W2
  refine ⟨_, rfl, rfl, _, rfl, ?_⟩
  refine iteD2 (fun c2 => ?_) (fun c2 => ?_)
  · refine ⟨_, rfl, p, 3, rfl, W1, by decide, by decide, fun m H2 hm0 hm1 k2 W2 => ?_⟩
    exact ⟨_, _, rfl, rfl, q _ H2 (by omega) (by omega) (k1.trans k2) W2⟩
  · refine ⟨_, rfl, p, 4, rfl, W1, by decide, by decide, fun m H2 hm0 hm1 k2 W2 => ?_⟩
    exact q m H2 hm0 (by omega) (k1.trans k2) W2

theorem ok_l_name (T : Txt K mg A) : FnOk P w K mg base CX0 4 A.l_name A.l_name_d ["_law_well_here"] spName := by
  have G_l_draw := ok_l_draw (P := P) (w := w) (base := base) T
  refine T.F_l_name.ok sc_l_name (fun vs H Q E h => ?_) (fun cdv A0 outer s H vs Q E hr h => ?_)
  · obtain ⟨p, rfl, W, q⟩ := h
    rfl
  obtain ⟨p, rfl, W, q⟩ := h
  refine ⟨_, (pss_cons (ps_if (pt_cmpR op_eq (pe_call G_l_draw (hr.mono (by decide)) rfl T.m_l_draw T.F_l_draw.kp T.b_l_draw .nil pass0 (pa_cons (pv 0) (pa_cons pe_int pa_nil))) pe_int (nomark _))
    (pss_cons (ps_set (i := 1) sc_l_name.nd rfl (Or.inl rfl) (pe_lst (pa_cons pe_str (pa_cons pe_str (pa_cons pe_str (pa_cons pe_str (pa_cons pe_str (pa_cons pe_str (pa_cons pe_str (pa_cons pe_str (pa_cons pe_str (pa_cons pe_str (pa_cons pe_str (pa_cons pe_str pa_nil))))))))))))))
   (pss_one (ps_ret (pe_ix ix_list (pv 1) (pe_call G_l_draw (hr.mono (by decide)) rfl T.m_l_draw T.F_l_draw.kp T.b_l_draw .nil pass0 (pa_cons (pv 0) (pa_cons pe_int pa_nil))) (fun _ _ => rfl)))))
    pss_nil)
   (pss_cons (ps_set (i := 2) sc_l_name.nd rfl (Or.inl rfl) pe_str)
   (pss_cons (ps_for PassesOwn.never rfl (pi_range1 (by rfl) T.z_range (pa_cons (pe_op op_add pe_int (pe_call G_l_draw (hr.mono (by decide)) rfl T.m_l_draw T.F_l_draw.kp T.b_l_draw .nil pass0 (pa_cons (pv 0) (pa_cons pe_int pa_nil)))) pa_nil)) (pg_name (i := 3) sc_l_name.nd rfl (Or.inl rfl))
    (pss_one (ps_set (i := 2) sc_l_name.nd rfl (Or.inl rfl) (pe_op op_add_str (pv 2) (pe_ix ix_str pe_str (pe_call G_l_draw (hr.mono (by decide)) rfl T.m_l_draw T.F_l_draw.kp T.b_l_draw .nil pass0 (pa_cons (pv 0) (pa_cons pe_int pa_nil))) (fun _ _ => rfl))))))
   (pss_cons (ps_if (pt_cmpR op_in_seq (pv 2) (pe_lst (pa_cons pe_str (pa_cons pe_str (pa_cons pe_str (pa_cons pe_str (pa_cons pe_str (pa_cons pe_str (pa_cons pe_str (pa_cons pe_str (pa_cons pe_str (pa_cons pe_str (pa_cons pe_str (pa_cons pe_str (pa_cons pe_str pa_nil)))))))))))))) (by rfl))
    (pss_one (ps_ret (pe_op op_add_str (pv 2) pe_str)))
    pss_nil)
   (pss_cons (ps_if (pt_cmpR op_in_seq (pv 2) (pe_lst (pa_cons pe_str (pa_cons pe_str (pa_cons pe_str (pa_cons pe_str (pa_cons pe_str (pa_cons pe_str (pa_cons pe_str (pa_cons pe_str (pa_cons pe_str pa_nil)))))))))) (by rfl))
    (pss_one (ps_ret (pe_op op_add_str pe_str (pv 2))))
    pss_nil)
   (pss_one (ps_ret (pv 2)))))))), ?_⟩
  refine ⟨_, rfl, p, 2, rfl, W, by decide, by decide, fun n H1 hn0 hn1 k1 W1 => ?_⟩
  refine ⟨rfl, _, rfl, ?_⟩
  refine iteD2 (fun c1 => ?_) (fun c1 => ?_)
  · refine ⟨by show 12 ≤ sizeLine; decide, fun l hl => ?_⟩
    refine ⟨_, rfl, _, rfl, p, 12, rfl, W1.same (same_new hl), by decide, by decide, fun m H2 hm0 hm1 k2 W2 => ?_⟩
    have npl : l ≠ p := fun e => by obtain ⟨_, _, _, _, w⟩ := W1; rw [← e, hl] at w; cases w
    have hl2 := k2 _ _ npl upd_same
    obtain ⟨s, hs, es⟩ := at_strs (ss := SOMEN) hm0 hm1
    refine ⟨l, SOMEN.map V.str, _, _, rfl, rfl, SqL.of hl2, es, ?_⟩
    exact q s H2 (someN_ok s hs) (k1.trans ((keepX_of (same_new hl)).trans k2)) W2
  · refine ⟨_, rfl, p, 6, rfl, W1, by decide, by decide, fun m H2 hm0 hm1 k2 W2 => ?_⟩
    refine ⟨_, _, rfl, rfl, ?_⟩
    refine ⟨1 + m, rfl, by omega, by omega, for_range (n := (1 + m).toNat) (fun i σ H' => ∃ (s : Str) (v1 v2 : Option V), σ = [some (.ref p), v1, some (.str s), v2] ∧ (tl s).length = i ∧ (∀ c ∈ tl s, 97 ≤ c ∧ c ≤ 122) ∧ KeepX p H H' ∧ WellAt H' p)
      ⟨"", none, none, rfl, rfl, (fun c hc => by have : tl (Str.ofString "") = [] := by decide +kernel
                                                 rw [this] at hc; cases hc), k1.trans k2, W2⟩ ?_ ?_⟩
    · rintro i σ H3 hi ⟨s, v1, v2, rfl, hl, hc, k3, W3⟩
      refine ⟨_, rfl, _, rfl, p, 26, rfl, W3, by decide, by decide, fun z H4 hz0 hz1 k4 W4 => ?_⟩
      obtain ⟨c, hat, hc1, hc2⟩ := letter_at hz0 hz1
      have et : tl (s ++ (⟨#[c]⟩ : Str)) = tl s ++ [c] := by rw [tl_append]
      refine ⟨_, _, c, rfl, rfl, by decide +kernel, hat, ?_⟩
      refine ⟨_, _, rfl, rfl, ?_, s ++ (⟨#[c]⟩ : Str), _, _, rfl, by rw [et, List.length_append, hl]; rfl, fun x hx => ?_, k3.trans k4, W4⟩
      · have : s.length = (tl s).length := len_tl s
        show s.length + 1 ≤ 16777216
        omega
      · rw [et] at hx
        rcases List.mem_append.mp hx with h | h
        · exact hc x h
        · rw [List.mem_singleton.mp h]; exact ⟨hc1, hc2⟩
    · rintro σ H3 ⟨s, v1, v2, rfl, hl, hc, k3, W3⟩
      have hl1 : 1 ≤ (tl s).length := by omega
      have hl6 : (tl s).length ≤ 6 := by omega
      have hls : s.length = (tl s).length := len_tl s
      refine ⟨_, rfl, by show 13 ≤ sizeLine; decide, fun l1 hl1' => ?_⟩
      refine ⟨l1, BAD1.map V.str, rfl, .inl (SqL.of upd_same), rfl, rfl, _, rfl, ?_⟩
      rw [if_neg Bool.false_ne_true, inV_str]
      have k4 := k3.trans (keepX_of (same_new (o := .lst (BAD1.map V.str)) hl1'))
      refine iteD2 (fun c2 => ?_) (fun c2 => ?_)
      · refine ⟨_, rfl, _, _, rfl, rfl, by show s.length + 1 ≤ 16777216; omega, ?_⟩
        exact q _ _ (bad1_ok s c2).1 k4 (W3.same (same_new hl1'))
      refine ⟨_, rfl, by show 9 ≤ sizeLine; decide, fun l2 hl2 => ?_⟩
      refine ⟨l2, BAD2.map V.str, rfl, .inl (SqL.of upd_same), rfl, rfl, _, rfl, ?_⟩
      rw [if_neg Bool.false_ne_true, inV_str]
      have k5 := k4.trans (keepX_of (same_new (o := .lst (BAD2.map V.str)) hl2))
      have W5 := (W3.same (same_new (o := .lst (BAD1.map V.str)) hl1')).same (same_new (o := .lst (BAD2.map V.str)) hl2)
      refine iteD2 (fun c3 => ?_) (fun c3 => ?_)
      · refine ⟨_, rfl, _, _, rfl, rfl, by show 1 + s.length ≤ 16777216; omega, ?_⟩
        exact q _ _ (bad2_ok s c3).1 k5 W5
      · exact ⟨_, rfl, q _ _ (name_of hl1 hl6 hc c2 c3) k5 W5⟩

end
end K01
namespace K01
open PySem L2 TL
section
variable {P : Program} {w : World} {K : PySem.W.Frag} {mg : Str → Option Value} {base : Heap} {A : Ads}
theorem ok_l_parts (T : Txt K mg A) : ∀ n : Nat, FnOk P w K mg base CX0 (n + 2) A.l_parts A.l_parts_d ["_law_told"] (spLParts K n)
| 0 => fn_none fun vs H Q E h => by
    obtain ⟨e, _, _, _, _, hd, _⟩ := h; have := e.depth_pos; omega
| n + 1 => by
  have G_l_parts := ok_l_parts T n
  refine T.F_l_parts.ok sc_l_parts (fun vs H Q E h => ?_) (fun cdv A0 outer s H vs Q E hr h => ?_)
  · obtain ⟨e, v, rfl, ht, hw, hd, q⟩ := h
    rfl
  obtain ⟨e, v, rfl, ht, hw, hd, q⟩ := h
  refine ⟨_, (pss_cons (ps_if (pt_cmpR op_in_seq (pe_ix ix_tup (pv 0) pe_int (fun _ _ => rfl)) (pe_tup (pa_cons pe_str (pa_cons pe_str pa_nil))) (by rfl))
    (pss_one (ps_ret pe_int))
    pss_nil)
   (pss_one (ps_ret (pe_op op_add pe_int (pe_callB (cr_sum rfl) (by rfl) T.z_sum (by decide +kernel) (pa_cons (pe_lc (own := [("_law_one", 1)]) (g := gName 1) (tt := tYes) rfl sc_l_parts.nd (pi_tup (pe_slice sl_tup (pv 0) (po_some pe_int) po_none)) (blkOk_by (own := [("_law_one", 1)]) (N := N_l_parts) (sc := defScope s_l_parts) (by decide +kernel)) (fun _ _ _ _ _ => pg_name (i := 1) sc_l_parts.nd rfl (Or.inl rfl)) (fun _ _ _ _ _ => pts_nil) (fun _ _ _ _ _ => (pe_call G_l_parts (hr.mono (by omega)) rfl T.m_l_parts T.F_l_parts.kp T.b_l_parts .nil pass0 (pa_cons (pv 1) pa_nil)))) pa_nil)))))), ?_⟩
  cases e with
  | num z =>
    obtain ⟨t, rfl, h1⟩ := ht
    refine ⟨_, rfl, t, _, _, _, rfl, rfl, SqT.of h1, rfl, by show 2 ≤ sizeLine; decide, fun u hu => ?_⟩
    refine ⟨u, [.str "number", .str "box"], rfl, .inr (SqT.of upd_same), rfl, rfl, _, rfl, ?_⟩
    rw [if_neg Bool.false_ne_true, in_num]
    exact iteT (q _ (same_new hu))
  | box z =>
    obtain ⟨t, rfl, h1⟩ := ht
    refine ⟨_, rfl, t, _, _, _, rfl, rfl, SqT.of h1, rfl, by show 2 ≤ sizeLine; decide, fun u hu => ?_⟩
    refine ⟨u, [.str "number", .str "box"], rfl, .inr (SqT.of upd_same), rfl, rfl, _, rfl, ?_⟩
    rw [if_neg Bool.false_ne_true, in_box]
    exact iteT (q _ (same_new hu))
  | cell e =>
    obtain ⟨t, i, rfl, h1, h2⟩ := ht
    have hd' : e.depth ≤ n := Nat.le_of_succ_le_succ hd
    refine ⟨_, rfl, t, _, _, _, rfl, rfl, SqT.of h1, rfl, by show 2 ≤ sizeLine; decide, fun u hu => ?_⟩
    refine ⟨u, [.str "number", .str "box"], rfl, .inr (SqT.of upd_same), rfl, rfl, _, rfl, ?_⟩
    rw [if_neg Bool.false_ne_true, in_cell]
    refine iteF ?_
    have s1 := same_new (o := .tup [.str "number", .str "box"]) hu
    refine ⟨_, rfl, 1, rfl, t, [.str "cell", i], rfl, SqT.of (s1 _ _ h1), (by show ¬(HT.sIx 2 0 (some 1) = 0 ∧ HT.sIx 2 2 none = 2); decide), fun p hp => ?_⟩
    have s2 := s1.trans (same_new (o := .tup [i]) hp)
    refine ⟨p, rfl, ⟨_, SqT.of upd_same⟩, fun D hD => lc_map (walk_tup (xs := [i])) (fun _ => .int e.parts) hD (by show 1 < 16777216; decide) (by show 1 < 2; decide) (fun H' s' => SqT.of (s' _ _ upd_same)) (fun _ _ _ _ y => y.1) ?_ ?_⟩
    · rintro k x H' Z hk s' ⟨_, hx⟩ z
      obtain rfl : k = 0 := by have : k < 1 := hk; omega
      cases hx
      exact ⟨_, rfl, e, i, rfl, h2.same (s2.trans s'), hw, hd', z⟩
    · intro H' s' hD'
      refine ⟨D, [(e.parts : Int)], rfl, SqL.of hD', ?_⟩
      refine ⟨_, _, rfl, rfl, ?_⟩
      have e1 : (1 : Int) + ([(e.parts : Int)].sum) = ((Ex.cell e).parts : Int) := by show (1 : Int) + ((e.parts : Int) + 0) = ((1 + e.parts : Nat) : Int); omega
      show Q (.int ((1 : Int) + ([(e.parts : Int)].sum))) H'
      rw [e1]
      exact q H' (s2.trans s')
  | two wd l r =>
    obtain ⟨t, a, b, rfl, h1, h2, h3⟩ := ht
    have hd' : max l.depth r.depth ≤ n := Nat.le_of_succ_le_succ hd
    obtain ⟨hw0, hw1, hw2⟩ : wd ∈ PAIRW ∧ l.Wf ∧ r.Wf := hw
    refine ⟨_, rfl, t, _, _, _, rfl, rfl, SqT.of h1, rfl, by show 2 ≤ sizeLine; decide, fun u hu => ?_⟩
    refine ⟨u, [.str "number", .str "box"], rfl, .inr (SqT.of upd_same), rfl, rfl, _, rfl, ?_⟩
    rw [if_neg Bool.false_ne_true, in_pair hw0]
    refine iteF ?_
    have s1 := same_new (o := .tup [.str "number", .str "box"]) hu
    refine ⟨_, rfl, 1, rfl, t, [.str wd, a, b], rfl, SqT.of (s1 _ _ h1), (by show ¬(HT.sIx 3 0 (some 1) = 0 ∧ HT.sIx 3 3 none = 3); decide), fun p hp => ?_⟩
    have s2 := s1.trans (same_new (o := .tup [a, b]) hp)
    refine ⟨p, rfl, ⟨_, SqT.of upd_same⟩, fun D hD => lc_map (walk_tup (xs := [a, b])) (fun k => if k = 0 then .int l.parts else .int r.parts) hD (by show 2 < 16777216; decide) (by show 1 < 2; decide) (fun H' s' => SqT.of (s' _ _ upd_same)) (fun _ _ _ _ y => y.1) ?_ ?_⟩
    · rintro k x H' Z hk s' ⟨_, hx⟩ z
      have : k = 0 ∨ k = 1 := by have : k < 2 := hk; omega
      rcases this with rfl | rfl
      · cases hx
        exact ⟨_, rfl, l, a, rfl, h2.same (s2.trans s'), hw1, by omega, z⟩
      · cases hx
        exact ⟨_, rfl, r, b, rfl, h3.same (s2.trans s'), hw2, by omega, z⟩
    · intro H' s' hD'
      refine ⟨D, [(l.parts : Int), (r.parts : Int)], rfl, SqL.of hD', ?_⟩
      refine ⟨_, _, rfl, rfl, ?_⟩
      have e1 : (1 : Int) + ([(l.parts : Int), (r.parts : Int)].sum) = ((Ex.two wd l r).parts : Int) := by show (1 : Int) + ((l.parts : Int) + ((r.parts : Int) + 0)) = ((1 + l.parts + r.parts : Nat) : Int); omega
      show Q (.int ((1 : Int) + ([(l.parts : Int), (r.parts : Int)].sum))) H'
      rw [e1]
      exact q H' (s2.trans s')

end
end K01
namespace K01
open PySem L2 TL
section
variable {P : Program} {w : World} {K : PySem.W.Frag} {mg : Str → Option Value} {base : Heap} {A : Ads}
theorem ok_l_expr (T : Txt K mg A) : ∀ n : Nat, FnOk P w K mg base CX0 (n + 9) A.l_expr A.l_expr_d ["_law_well_here", "_law_deep", "_law_most"] (spLExpr K n)
| 0 => fn_none fun vs H Q E h => by
    obtain ⟨_, _, _, _, _, h1, h2, _⟩ := h; omega
| n + 1 => by
  have G_l_expr := ok_l_expr T n
  have G_l_draw := ok_l_draw (P := P) (w := w) (base := base) T
  have G_l_parts := ok_l_parts (P := P) (w := w) (base := base) T 7
  have G_l_value := ok_l_value (P := P) (w := w) (base := base) T
  have G_l_name := ok_l_name (P := P) (w := w) (base := base) T
  refine T.F_l_expr.ok sc_l_expr (fun vs H Q E h => ?_) (fun cdv A0 outer s H vs Q E hr h => ?_)
  · obtain ⟨p, d, m, rfl, W, hd1, hdn, hn8, hm1, q⟩ := h
    rfl
  obtain ⟨p, d, m, rfl, W, hd1, hdn, hn8, hm1, q⟩ := h
  refine ⟨_, (pss_cons (ps_set (i := 3) sc_l_expr.nd rfl (Or.inl rfl) (pe_call G_l_draw (hr.mono (by omega)) rfl T.m_l_draw T.F_l_draw.kp T.b_l_draw .nil pass0 (pa_cons (pv 0) (pa_cons pe_int pa_nil))))
   (pss_cons (ps_ifC (PW.pt (pw_and (pt_cmpR op_eq (pv 3) pe_int (nomark _)) (pw_and (pt_cmpR op_gt (pv 1) pe_int (nomark _)) (pw_and1 (pt_cmpR op_gt (pv 2) pe_int (nomark _))))))
    (pss_one (ps_ret (pe_tup (pa_cons pe_str (pa_cons (pe_call G_l_expr (hr.mono (by omega)) rfl T.m_l_expr T.F_l_expr.kp T.b_l_expr .nil pass0 (pa_cons (pv 0) (pa_cons (pe_op op_sub (pv 1) pe_int) (pa_cons (pe_op op_sub (pv 2) pe_int) pa_nil)))) pa_nil)))))
    pss_nil)
   (pss_cons (ps_ifC (PW.pt (pw_and (pt_cmpR op_gt (pv 3) pe_int (nomark _)) (pw_and (pt_cmpR op_gt (pv 1) pe_int (nomark _)) (pw_and1 (pt_cmpR op_gt (pv 2) pe_int (nomark _))))))
    (pss_cons (ps_set (i := 4) sc_l_expr.nd rfl (Or.inl rfl) (pe_ix ix_list (pe_lst (pa_cons pe_str (pa_cons pe_str (pa_cons pe_str (pa_cons pe_str (pa_cons pe_str (pa_cons pe_str (pa_cons pe_str pa_nil)))))))) (pe_call G_l_draw (hr.mono (by omega)) rfl T.m_l_draw T.F_l_draw.kp T.b_l_draw .nil pass0 (pa_cons (pv 0) (pa_cons pe_int pa_nil))) (fun _ _ => rfl)))
   (pss_cons (ps_set (i := 5) sc_l_expr.nd rfl (Or.inl rfl) (pe_call G_l_expr (hr.mono (by omega)) rfl T.m_l_expr T.F_l_expr.kp T.b_l_expr .nil pass0 (pa_cons (pv 0) (pa_cons (pe_op op_sub (pv 1) pe_int) (pa_cons (pe_op op_sub (pv 2) pe_int) pa_nil)))))
   (pss_one (ps_ret (pe_tup (pa_cons (pv 4) (pa_cons (pv 5) (pa_cons (pe_call G_l_expr (hr.mono (by omega)) rfl T.m_l_expr T.F_l_expr.kp T.b_l_expr .nil pass0 (pa_cons (pv 0) (pa_cons (pe_op op_sub (pv 1) pe_int) (pa_cons (pe_op op_sub (pe_op op_sub (pv 2) pe_int) (pe_call G_l_parts (hr.mono (by omega)) rfl T.m_l_parts T.F_l_parts.kp T.b_l_parts .nil pass0 (pa_cons (pv 5) pa_nil))) pa_nil)))) pa_nil))))))))
    pss_nil)
   (pss_cons (ps_if (pt_cmpR op_eq (pe_call G_l_draw (hr.mono (by omega)) rfl T.m_l_draw T.F_l_draw.kp T.b_l_draw .nil pass0 (pa_cons (pv 0) (pa_cons pe_int pa_nil))) pe_int (nomark _))
    (pss_one (ps_ret (pe_tup (pa_cons pe_str (pa_cons (pe_call G_l_value (hr.mono (by omega)) rfl T.m_l_value T.F_l_value.kp T.b_l_value .nil pass0 (pa_cons (pv 0) pa_nil)) pa_nil)))))
    pss_nil)
   (pss_one (ps_ret (pe_tup (pa_cons pe_str (pa_cons (pe_call G_l_name (hr.mono (by omega)) rfl T.m_l_name T.F_l_name.kp T.b_l_name .nil pass0 (pa_cons (pv 0) pa_nil)) pa_nil))))))))), ?_⟩
  refine ⟨_, rfl, p, 4, rfl, W, by decide, by decide, fun way H1 hw0 hw1 k1 W1 => ?_⟩
  refine ⟨decide (way = 1 ∧ 1 < d ∧ 1 < m), H1, fun Z hZ => ?_, ?_⟩
  · refine ⟨_, rfl, rfl, _, rfl, iteD2 (fun c1 => ?_) (fun c1 => zFalse hZ fun h => c1 (congrArg V.int h.1))⟩
    refine ⟨_, rfl, _, _, rfl, rfl, _, rfl, iteD2 (fun c2 => ?_) (fun c2 => zFalse hZ fun h => c2 h.2.1)⟩
    refine ⟨_, rfl, _, _, rfl, rfl, _, rfl, ?_⟩
    by_cases c3 : 1 < m
    · rw [decide_eq_true c3]; exact zTrue hZ ⟨V.int.inj c1, c2, c3⟩
    · rw [decide_eq_false c3]; exact zFalse hZ fun h => c3 h.2.2
  refine iteD2 (fun c => ?_) (fun c => ?_)
  · obtain ⟨c1, c2, c3⟩ := c
    refine ⟨_, rfl, _, rfl, _, _, rfl, rfl, _, rfl, _, _, rfl, rfl, p, d - 1, m - 1, rfl, W1, by omega, by omega, by omega, by omega, fun e v H2 a1 a2 a3 a4 k2 W2 => ?_⟩
    refine ⟨by show 2 ≤ sizeLine; decide, fun t ht => ?_⟩
    have s := same_new (o := .tup [.str "cell", v]) ht
    exact q (.cell e) _ _ a1 (by show ((e.depth + 1 : Nat) : Int) ≤ d; omega) (by show ((1 + e.parts : Nat) : Int) ≤ m; omega) ⟨t, v, rfl, upd_same, a4.same s⟩ (k1.trans (k2.trans (keepX_of s))) (W2.same s)
  refine ⟨decide (1 < way ∧ 1 < d ∧ 2 < m), H1, fun Z hZ => ?_, ?_⟩
  · refine ⟨_, rfl, _, _, rfl, rfl, _, rfl, iteD2 (fun c1 => ?_) (fun c1 => zFalse hZ fun h => c1 h.1)⟩
    refine ⟨_, rfl, _, _, rfl, rfl, _, rfl, iteD2 (fun c2 => ?_) (fun c2 => zFalse hZ fun h => c2 h.2.1)⟩
    refine ⟨_, rfl, _, _, rfl, rfl, _, rfl, ?_⟩
    by_cases c3 : 2 < m
    · rw [decide_eq_true c3]; exact zTrue hZ ⟨c1, c2, c3⟩
    · rw [decide_eq_false c3]; exact zFalse hZ fun h => c3 h.2.2
  refine iteD2 (fun c => ?_) (fun c => ?_)
  · obtain ⟨c1, c2, c3⟩ := c
    refine ⟨by show 7 ≤ sizeLine; decide, fun l hl => ?_⟩
    have s0 := same_new (o := .lst (PAIRW.map V.str)) hl
    refine ⟨_, rfl, p, 7, rfl, W1.same s0, by decide, by decide, fun z H2 hz0 hz1 k2 W2 => ?_⟩
    have npl : l ≠ p := fun e => by obtain ⟨_, _, _, _, w⟩ := W1; rw [← e, hl] at w; cases w
    have hl2 := k2 _ _ npl (upd_same (H := H1) (o := .lst (PAIRW.map V.str)))
    obtain ⟨wd, hs, es⟩ := at_strs (ss := PAIRW) hz0 hz1
    refine ⟨l, PAIRW.map V.str, _, _, rfl, rfl, SqL.of hl2, es, ?_⟩
    have k12 := k1.trans ((keepX_of s0).trans k2)
    refine ⟨_, rfl, _, rfl, _, _, rfl, rfl, _, rfl, _, _, rfl, rfl, p, d - 1, m - 2, rfl, W2, by omega, by omega, by omega, by omega, fun e v H3 a1 a2 a3 a4 k3 W3 => ?_⟩
    refine ⟨_, rfl, _, rfl, _, rfl, _, rfl, _, _, rfl, rfl, _, rfl, _, _, rfl, rfl, _, rfl, e, v, rfl, a4, a1, by omega, fun H4 s4 => ?_⟩
    refine ⟨_, _, rfl, rfl, ?_⟩
    refine ⟨p, d - 1, m - 1 - e.parts, rfl, W3.same s4, by omega, by omega, by omega, by omega, fun e2 v2 H5 b1 b2 b3 b4 k5 W5 => ?_⟩
    refine ⟨by show 3 ≤ sizeLine; decide, fun t ht => ?_⟩
    have s := same_new (o := .tup [.str wd, v, v2]) ht
    exact q (.two wd e e2) _ _ ⟨hs, a1, b1⟩ (by show ((max e.depth e2.depth + 1 : Nat) : Int) ≤ d; omega) (by show ((1 + e.parts + e2.parts : Nat) : Int) ≤ m; omega)
      ⟨t, v, v2, rfl, upd_same, ((a4.same s4).keep k5 (W3.same s4)).same s, b4.same s⟩ (k12.trans (k3.trans ((keepX_of s4).trans (k5.trans (keepX_of s))))) (W5.same s)
  refine ⟨_, rfl, p, 2, rfl, W1, by decide, by decide, fun z H2 hz0 hz1 k2 W2 => ?_⟩
  refine ⟨rfl, _, rfl, ?_⟩
  refine iteD2 (fun c1 => ?_) (fun c1 => ?_)
  · refine ⟨_, rfl, p, rfl, W2, fun x H3 hx0 hx1 k3 W3 => ?_⟩
    refine ⟨by show 2 ≤ sizeLine; decide, fun t ht => ?_⟩
    have s := same_new (o := .tup [.str "number", .int x]) ht
    exact q (.num x) _ _ ⟨hx0, hx1⟩ (by show ((1 : Nat) : Int) ≤ d; omega) (by show ((1 : Nat) : Int) ≤ m; omega) ⟨t, rfl, upd_same⟩ (k1.trans (k2.trans (k3.trans (keepX_of s)))) (W3.same s)
  · refine ⟨_, rfl, p, rfl, W2, fun x H3 hx k3 W3 => ?_⟩
    refine ⟨by show 2 ≤ sizeLine; decide, fun t ht => ?_⟩
    have s := same_new (o := .tup [.str "box", .str x]) ht
    exact q (.box x) _ _ hx (by show ((1 : Nat) : Int) ≤ d; omega) (by show ((1 : Nat) : Int) ≤ m; omega) ⟨t, rfl, upd_same⟩ (k1.trans (k2.trans (k3.trans (keepX_of s)))) (W3.same s)

end
end K01
namespace K01
open PySem L2 TL
section
variable {P : Program} {w : World} {K : PySem.W.Frag} {mg : Str → Option Value} {base : Heap} {A : Ads}
theorem ok_l_words_of (T : Txt K mg A) : ∀ n : Nat, FnOk P w K mg base CX0 (n + 2) A.l_words_of A.l_words_of_d ["_law_told"] (spLWords K n)
| 0 => fn_none fun vs H Q E h => by
    obtain ⟨e, _, _, _, _, _, hd, _⟩ := h; have := e.depth_pos; omega
| n + 1 => by
  have G_l_words_of := ok_l_words_of T n
  refine T.F_l_words_of.ok sc_l_words_of (fun vs H Q E h => ?_) (fun cdv A0 outer s H vs Q E hr h => ?_)
  · obtain ⟨e, v, rfl, ht, hw, hpp, hd, q⟩ := h
    rfl
  obtain ⟨e, v, rfl, ht, hw, hpp, hd, q⟩ := h
  refine ⟨_, (pss_cons (ps_if (pt_cmpR op_in_seq (pe_ix ix_tup (pv 0) pe_int (fun _ _ => rfl)) (pe_tup (pa_cons pe_str (pa_cons pe_str pa_nil))) (by rfl))
    (pss_one (ps_ret (pe_callTy call_str_any (by rfl) T.z_str (by decide +kernel) (pa_cons (pe_ix ix_tup (pv 0) pe_int (fun _ _ => rfl)) pa_nil))))
    pss_nil)
   (pss_one (ps_ret (pe_join pe_str (pe_op op_cat (pe_lst (pa_cons (pe_ix ix_tup (pv 0) pe_int (fun _ _ => rfl)) pa_nil)) (pe_lc (own := [("_law_one", 1)]) (g := gName 1) (tt := tYes) rfl sc_l_words_of.nd (pi_tup (pe_slice sl_tup (pv 0) (po_some pe_int) po_none)) (blkOk_by (own := [("_law_one", 1)]) (N := N_l_words_of) (sc := defScope s_l_words_of) (by decide +kernel)) (fun _ _ _ _ _ => pg_name (i := 1) sc_l_words_of.nd rfl (Or.inl rfl)) (fun _ _ _ _ _ => pts_nil) (fun _ _ _ _ _ => (pe_call G_l_words_of (hr.mono (by omega)) rfl T.m_l_words_of T.F_l_words_of.kp T.b_l_words_of .nil pass0 (pa_cons (pv 1) pa_nil))))))))), ?_⟩
  cases e with
  | num z =>
    obtain ⟨t, rfl, h1⟩ := ht
    refine ⟨_, rfl, t, _, _, _, rfl, rfl, SqT.of h1, rfl, by show 2 ≤ sizeLine; decide, fun u hu => ?_⟩
    refine ⟨u, [.str "number", .str "box"], rfl, .inr (SqT.of upd_same), rfl, rfl, _, rfl, ?_⟩
    rw [if_neg Bool.false_ne_true, in_num]
    have hl : z.natAbs < 2 ^ 20 := by have := hw.1; have := hw.2; omega
    refine iteT ⟨_, rfl, t, _, _, _, rfl, rfl, SqT.of ((same_new hu) _ _ h1), rfl, .inl ⟨z, rfl, log_small hl, ?_⟩⟩
    exact q _ (same_new hu)
  | box z =>
    obtain ⟨t, rfl, h1⟩ := ht
    refine ⟨_, rfl, t, _, _, _, rfl, rfl, SqT.of h1, rfl, by show 2 ≤ sizeLine; decide, fun u hu => ?_⟩
    refine ⟨u, [.str "number", .str "box"], rfl, .inr (SqT.of upd_same), rfl, rfl, _, rfl, ?_⟩
    rw [if_neg Bool.false_ne_true, in_box]
    refine iteT ⟨_, rfl, t, _, _, _, rfl, rfl, SqT.of ((same_new hu) _ _ h1), rfl, .inr ⟨z, rfl, ?_⟩⟩
    exact q _ (same_new hu)
  | cell e =>
    obtain ⟨t, i, rfl, h1, h2⟩ := ht
    have hd' : e.depth ≤ n := Nat.le_of_succ_le_succ hd
    have hp' : 1 + e.parts ≤ 1000 := hpp
    refine ⟨_, rfl, t, _, _, _, rfl, rfl, SqT.of h1, rfl, by show 2 ≤ sizeLine; decide, fun u hu => ?_⟩
    refine ⟨u, [.str "number", .str "box"], rfl, .inr (SqT.of upd_same), rfl, rfl, _, rfl, ?_⟩
    rw [if_neg Bool.false_ne_true, in_cell]
    refine iteF ?_
    have s1 := same_new (o := .tup [.str "number", .str "box"]) hu
    refine ⟨⟨_, rfl⟩, _, rfl, t, _, _, _, rfl, rfl, SqT.of (s1 _ _ h1), rfl, by show 1 ≤ sizeLine; decide, fun l1 hl1 => ?_⟩
    have s3 := s1.trans (same_new (o := .lst [.str "cell"]) hl1)
    refine ⟨_, rfl, 1, rfl, t, [.str "cell", i], rfl, SqT.of (s3 _ _ h1), (by show ¬(HT.sIx 2 0 (some 1) = 0 ∧ HT.sIx 2 2 none = 2); decide), fun p hp => ?_⟩
    have s2 := s3.trans (same_new (o := .tup [i]) hp)
    refine ⟨p, rfl, ⟨_, SqT.of upd_same⟩, fun D hD => lc_map (walk_tup (xs := [i])) (fun _ => .str e.text) hD (by show 1 < 16777216; decide) (by show 1 < 2; decide) (fun H' s' => SqT.of (s' _ _ upd_same)) (fun _ _ _ _ y => y.1) ?_ ?_⟩
    · rintro k x H' Z hk s' ⟨_, hx⟩ z
      obtain rfl : k = 0 := by have : k < 1 := hk; omega
      cases hx
      exact ⟨_, rfl, e, i, rfl, h2.same (s2.trans s'), hw, by omega, hd', z⟩
    · intro H' s' hD'
      have g1 := s' _ _ ((same_new (o := .tup [i]) hp) _ _ upd_same)
      refine ⟨l1, D, [.str "cell"], [.str e.text], rfl, rfl, g1, hD', by show 2 ≤ sizeLine; decide, fun l2 hl2 => ?_⟩
      have q1 := Ex.text_len (e := e) hw
      refine ⟨_, l2, [Str.ofString "cell", e.text], rfl, rfl, .inl (SqL.of upd_same), ?_, ?_⟩
      · show 4 + (e.text.length + 0) + 2 * 1 ≤ 16777216
        omega
      · rw [text_cell]
        exact q _ (s2.trans (s'.trans (same_new hl2)))
  | two wd l r =>
    obtain ⟨t, a, b, rfl, h1, h2, h3⟩ := ht
    have hd' : max l.depth r.depth ≤ n := Nat.le_of_succ_le_succ hd
    have hp' : 1 + l.parts + r.parts ≤ 1000 := hpp
    obtain ⟨hw0, hw1, hw2⟩ : wd ∈ PAIRW ∧ l.Wf ∧ r.Wf := hw
    refine ⟨_, rfl, t, _, _, _, rfl, rfl, SqT.of h1, rfl, by show 2 ≤ sizeLine; decide, fun u hu => ?_⟩
    refine ⟨u, [.str "number", .str "box"], rfl, .inr (SqT.of upd_same), rfl, rfl, _, rfl, ?_⟩
    rw [if_neg Bool.false_ne_true, in_pair hw0]
    refine iteF ?_
    have s1 := same_new (o := .tup [.str "number", .str "box"]) hu
    refine ⟨⟨_, rfl⟩, _, rfl, t, _, _, _, rfl, rfl, SqT.of (s1 _ _ h1), rfl, by show 1 ≤ sizeLine; decide, fun l1 hl1 => ?_⟩
    have s3 := s1.trans (same_new (o := .lst [.str wd]) hl1)
    refine ⟨_, rfl, 1, rfl, t, [.str wd, a, b], rfl, SqT.of (s3 _ _ h1), (by show ¬(HT.sIx 3 0 (some 1) = 0 ∧ HT.sIx 3 3 none = 3); decide), fun p hp => ?_⟩
    have s2 := s3.trans (same_new (o := .tup [a, b]) hp)
    refine ⟨p, rfl, ⟨_, SqT.of upd_same⟩, fun D hD => lc_map (walk_tup (xs := [a, b])) (fun k => if k = 0 then .str l.text else .str r.text) hD (by show 2 < 16777216; decide) (by show 1 < 2; decide) (fun H' s' => SqT.of (s' _ _ upd_same)) (fun _ _ _ _ y => y.1) ?_ ?_⟩
    · rintro k x H' Z hk s' ⟨_, hx⟩ z
      have : k = 0 ∨ k = 1 := by have : k < 2 := hk; omega
      rcases this with rfl | rfl
      · cases hx
        exact ⟨_, rfl, l, a, rfl, h2.same (s2.trans s'), hw1, by omega, by omega, z⟩
      · cases hx
        exact ⟨_, rfl, r, b, rfl, h3.same (s2.trans s'), hw2, by omega, by omega, z⟩
    · intro H' s' hD'
      have g1 := s' _ _ ((same_new (o := .tup [a, b]) hp) _ _ upd_same)
      refine ⟨l1, D, [.str wd], [.str l.text, .str r.text], rfl, rfl, g1, hD', by show 3 ≤ sizeLine; decide, fun l2 hl2 => ?_⟩
      have q1 := Ex.text_len hw1
      have q2 := Ex.text_len hw2
      have q3 := (pair_not_val wd hw0).2.2.2
      refine ⟨_, l2, [wd, l.text, r.text], rfl, rfl, .inl (SqL.of upd_same), ?_, ?_⟩
      · have : wd.length = (tl wd).length := len_tl wd
        show wd.length + (l.text.length + (r.text.length + 0)) + 3 * 1 ≤ 16777216
        omega
      · exact q _ (s2.trans (s'.trans (same_new hl2)))

end
end K01
namespace K01
open PySem L2 TL
section
variable {P : Program} {w : World} {K : PySem.W.Frag} {mg : Str → Option Value} {base : Heap} {A : Ads}
theorem ok_l_made (T : Txt K mg A) : ∀ n : Nat, FnOk P w K mg base CX0 (n + 3) A.l_made A.l_made_d ["_law_told"] (spLMade K A.ec n)
| 0 => fn_none fun vs H Q E h => by
    obtain ⟨e, _, _, _, _, hd, _⟩ := h; have := e.depth_pos; omega
| n + 1 => by
  have G_l_made := ok_l_made T n
  have G_Number_init := ok_Number_init (P := P) (w := w) (base := base) T
  have G_Box_init := ok_Box_init (P := P) (w := w) (base := base) T
  have G_Cell_init := ok_Cell_init (P := P) (w := w) (base := base) T
  have G_Two_init := ok_Two_init (P := P) (w := w) (base := base) T
  refine T.F_l_made.ok sc_l_made (fun vs H Q E h => ?_) (fun cdv A0 outer s H vs Q E hr h => ?_)
  · obtain ⟨e, v, rfl, ht, hw, hd, q⟩ := h
    rfl
  obtain ⟨e, v, rfl, ht, hw, hd, q⟩ := h
  refine ⟨_, (pss_cons (ps_if (pt_cmpR op_eq (pe_ix ix_tup (pv 0) pe_int (fun _ _ => rfl)) pe_str (nomark _))
    (pss_one (ps_ret (pe_make T.k_Number G_Number_init (hr.mono (by omega)) rfl T.m_Number T.b_Number_init .nil pass0 (pa_cons (pe_ix ix_tup (pv 0) pe_int (fun _ _ => rfl)) pa_nil))))
    pss_nil)
   (pss_cons (ps_if (pt_cmpR op_eq (pe_ix ix_tup (pv 0) pe_int (fun _ _ => rfl)) pe_str (nomark _))
    (pss_one (ps_ret (pe_make T.k_Box G_Box_init (hr.mono (by omega)) rfl T.m_Box T.b_Box_init .nil pass0 (pa_cons (pe_ix ix_tup (pv 0) pe_int (fun _ _ => rfl)) pa_nil))))
    pss_nil)
   (pss_cons (ps_if (pt_cmpR op_eq (pe_ix ix_tup (pv 0) pe_int (fun _ _ => rfl)) pe_str (nomark _))
    (pss_one (ps_ret (pe_make T.k_Cell G_Cell_init (hr.mono (by omega)) rfl T.m_Cell T.b_Cell_init .nil pass0 (pa_cons (pe_call G_l_made (hr.mono (by omega)) rfl T.m_l_made T.F_l_made.kp T.b_l_made .nil pass0 (pa_cons (pe_ix ix_tup (pv 0) pe_int (fun _ _ => rfl)) pa_nil)) pa_nil))))
    pss_nil)
   (pss_one (ps_ret (pe_make T.k_Two G_Two_init (hr.mono (by omega)) rfl T.m_Two T.b_Two_init .nil pass0 (pa_cons (pe_ix ix_tup (pv 0) pe_int (fun _ _ => rfl)) (pa_cons (pe_call G_l_made (hr.mono (by omega)) rfl T.m_l_made T.F_l_made.kp T.b_l_made .nil pass0 (pa_cons (pe_ix ix_tup (pv 0) pe_int (fun _ _ => rfl)) pa_nil)) (pa_cons (pe_call G_l_made (hr.mono (by omega)) rfl T.m_l_made T.F_l_made.kp T.b_l_made .nil pass0 (pa_cons (pe_ix ix_tup (pv 0) pe_int (fun _ _ => rfl)) pa_nil)) pa_nil))))))))), ?_⟩
  cases e with
  | num z =>
    obtain ⟨t, rfl, h1⟩ := ht
    refine ⟨_, rfl, t, _, _, _, rfl, rfl, SqT.of h1, rfl, rfl, _, rfl, iteDT rfl ?_⟩
    refine ⟨_, rfl, t, _, _, _, rfl, rfl, SqT.of h1, rfl, fun x dx hx hdx _ => mk_init hx hdx fun H1 s1 g1 => ?_⟩
    exact q _ _ s1 ⟨x, dx, rfl, g1⟩
  | box z =>
    obtain ⟨t, rfl, h1⟩ := ht
    refine ⟨_, rfl, t, _, _, _, rfl, rfl, SqT.of h1, rfl, rfl, _, rfl, iteDF (vstr_ne (by decide +kernel)) ?_⟩
    refine ⟨_, rfl, t, _, _, _, rfl, rfl, SqT.of h1, rfl, rfl, _, rfl, iteDT rfl ?_⟩
    refine ⟨_, rfl, t, _, _, _, rfl, rfl, SqT.of h1, rfl, fun x dx hx hdx _ => mk_init hx hdx fun H1 s1 g1 => ?_⟩
    exact q _ _ s1 ⟨x, dx, rfl, g1⟩
  | cell e =>
    obtain ⟨t, i, rfl, h1, h2⟩ := ht
    have hd' : e.depth ≤ n := Nat.le_of_succ_le_succ hd
    refine ⟨_, rfl, t, _, _, _, rfl, rfl, SqT.of h1, rfl, rfl, _, rfl, iteDF (vstr_ne (by decide +kernel)) ?_⟩
    refine ⟨_, rfl, t, _, _, _, rfl, rfl, SqT.of h1, rfl, rfl, _, rfl, iteDF (vstr_ne (by decide +kernel)) ?_⟩
    refine ⟨_, rfl, t, _, _, _, rfl, rfl, SqT.of h1, rfl, rfl, _, rfl, iteDT rfl ?_⟩
    refine ⟨_, rfl, t, _, _, _, rfl, rfl, SqT.of h1, rfl, e, i, rfl, h2, hw, hd', fun r H1 s1 o1 => ?_⟩
    refine fun x dx hx hdx _ => mk_init hx hdx fun H2 s2 g2 => ?_
    exact q _ _ (s1.trans s2) ⟨x, dx, r, rfl, g2, o1.same s2⟩
  | two wd l r =>
    obtain ⟨t, a, b, rfl, h1, h2, h3⟩ := ht
    have hd' : max l.depth r.depth ≤ n := Nat.le_of_succ_le_succ hd
    obtain ⟨hw0, hw1, hw2⟩ : wd ∈ PAIRW ∧ l.Wf ∧ r.Wf := hw
    obtain ⟨n1, n2, n3⟩ := pair_ne hw0
    refine ⟨_, rfl, t, _, _, _, rfl, rfl, SqT.of h1, rfl, rfl, _, rfl, iteDF (vstr_ne n1) ?_⟩
    refine ⟨_, rfl, t, _, _, _, rfl, rfl, SqT.of h1, rfl, rfl, _, rfl, iteDF (vstr_ne n2) ?_⟩
    refine ⟨_, rfl, t, _, _, _, rfl, rfl, SqT.of h1, rfl, rfl, _, rfl, iteDF (vstr_ne n3) ?_⟩
    refine ⟨_, rfl, t, _, _, _, rfl, rfl, SqT.of h1, rfl, _, rfl, t, _, _, _, rfl, rfl, SqT.of h1, rfl, l, a, rfl, h2, hw1, by omega, fun v1 H1 s1 o1 => ?_⟩
    refine ⟨_, rfl, t, _, _, _, rfl, rfl, SqT.of (s1 _ _ h1), rfl, r, b, rfl, h3.same s1, hw2, by omega, fun v2 H2 s2 o2 => ?_⟩
    refine fun x dx hx hdx _ => mk_two hx hdx fun H3 s3 g3 => ?_
    exact q _ _ (s1.trans (s2.trans s3)) ⟨x, dx, v1, v2, rfl, g3, o1.same (s2.trans s3), o2.same s3⟩

end
end K01
namespace K01
open PySem L2 TL
section
variable {P : Program} {w : World} {K : PySem.W.Frag} {mg : Str → Option Value} {base : Heap} {A : Ads}
theorem ok_l_right (T : Txt K mg A) : ∀ n : Nat, FnOk P w K mg base CX0 (n + 12) A.l_right A.l_right_d ["_law_expr_here", "_law_told"] (spLRight K A.ec n)
| 0 => fn_none fun vs H Q E h => by
    obtain ⟨e, _, _, _, _, _, _, hd, _⟩ := h; have := e.depth_pos; omega
| n + 1 => by
  have G_l_right := ok_l_right T n
  have G_l_words_of := ok_l_words_of (P := P) (w := w) (base := base) T 7
  have D_told := disp_told (P := P) (w := w) (base := base) T 7
  have D_words := disp_words (P := P) (w := w) (base := base) T 7
  refine T.F_l_right.ok sc_l_right (fun vs H Q E h => ?_) (fun cdv A0 outer s H vs Q E hr h => ?_)
  · obtain ⟨e, v, t, rfl, ho, ht, hw, hd, hn, hp, q⟩ := h
    rfl
  obtain ⟨e, v, t, rfl, ho, ht, hw, hd, hn, hp, q⟩ := h
  refine ⟨_, (pss_cons (ps_if (pt_not (pt_val (pe_callB call_isi (by rfl) T.z_isinstance (by decide +kernel) (pa_cons (pv 0) (pa_cons (pe_glob (v := .ref A.Expr) (by rfl) T.m_Expr rfl) pa_nil)))))
    (pss_one (ps_ret pe_bl))
    pss_nil)
   (pss_cons (ps_for PassesOwn.never rfl (pi_range1 (by rfl) T.z_range (pa_cons pe_int pa_nil)) (pg_name (i := 2) sc_l_right.nd rfl (Or.inl rfl))
    (pss_one (ps_if (PW.pt (pw_or (pt_cmpR (op_neD hr.units) (pe_methP0 (pv 0) D_told (hr.mono (by omega)) pass0) (pv 1) (nomark _)) (pw_or (pt_cmpR op_ne (pe_methP0 (pv 0) D_words (hr.mono (by omega)) pass0) (pe_call G_l_words_of (hr.mono (by omega)) rfl T.m_l_words_of T.F_l_words_of.kp T.b_l_words_of .nil pass0 (pa_cons (pv 1) pa_nil)) (nomark _)) (pw_or1 (pt_not (pt_val (pe_callB call_isi (by rfl) T.z_isinstance (by decide +kernel) (pa_cons (pe_methP0 (pv 0) D_told (hr.mono (by omega)) pass0) (pa_cons (pe_bltn (v := .ty "tuple") (by rfl) T.z_tuple (by decide +kernel) rfl) pa_nil)))))))))
    (pss_one (ps_ret pe_bl))
    pss_nil)))
   (pss_cons (ps_if (pt_cmpR op_eq (pe_ix ix_tup (pv 1) pe_int (fun _ _ => rfl)) pe_str (nomark _))
    (pss_cons (ps_set (i := 3) sc_l_right.nd rfl (Or.inl rfl) (pe_fld (pv 0) rfl))
   (pss_one (ps_ret (pe_and (pe_callB call_isi (by rfl) T.z_isinstance (by decide +kernel) (pa_cons (pv 0) (pa_cons (pe_glob (v := .ref A.Number) (by rfl) T.m_Number rfl) pa_nil))) (pe_and (pe_callB call_isi (by rfl) T.z_isinstance (by decide +kernel) (pa_cons (pv 3) (pa_cons (pe_bltn (v := .ty "int") (by rfl) T.z_int (by decide +kernel) rfl) pa_nil))) (pe_and (pe_not (pe_callB call_isi (by rfl) T.z_isinstance (by decide +kernel) (pa_cons (pv 3) (pa_cons (pe_bltn (v := .ty "bool") (by rfl) T.z_bool (by decide +kernel) rfl) pa_nil)))) (pe_one (pe_cmpR op_eq (pv 3) (pe_ix ix_tup (pv 1) pe_int (fun _ _ => rfl)) (nomark _)))))))))
    pss_nil)
   (pss_cons (ps_if (pt_cmpR op_eq (pe_ix ix_tup (pv 1) pe_int (fun _ _ => rfl)) pe_str (nomark _))
    (pss_one (ps_ret (pe_and (pe_callB call_isi (by rfl) T.z_isinstance (by decide +kernel) (pa_cons (pv 0) (pa_cons (pe_glob (v := .ref A.Box) (by rfl) T.m_Box rfl) pa_nil))) (pe_one (pe_cmpR op_eq (pe_fld (pv 0) rfl) (pe_ix ix_tup (pv 1) pe_int (fun _ _ => rfl)) (nomark _))))))
    pss_nil)
   (pss_cons (ps_if (pt_cmpR op_eq (pe_ix ix_tup (pv 1) pe_int (fun _ _ => rfl)) pe_str (nomark _))
    (pss_one (ps_ret (pe_and (pe_callB call_isi (by rfl) T.z_isinstance (by decide +kernel) (pa_cons (pv 0) (pa_cons (pe_glob (v := .ref A.Cell) (by rfl) T.m_Cell rfl) pa_nil))) (pe_one (pe_call G_l_right (hr.mono (by omega)) rfl T.m_l_right T.F_l_right.kp T.b_l_right .nil pass0 (pa_cons (pe_fld (pv 0) rfl) (pa_cons (pe_ix ix_tup (pv 1) pe_int (fun _ _ => rfl)) pa_nil)))))))
    pss_nil)
   (pss_cons (ps_if (PW.pt (pw_or (pt_not (pt_val (pe_callB call_isi (by rfl) T.z_isinstance (by decide +kernel) (pa_cons (pv 0) (pa_cons (pe_glob (v := .ref A.Two) (by rfl) T.m_Two rfl) pa_nil))))) (pw_or1 (pt_cmpR op_ne (pe_fld (pv 0) rfl) (pe_ix ix_tup (pv 1) pe_int (fun _ _ => rfl)) (nomark _)))))
    (pss_one (ps_ret pe_bl))
    pss_nil)
   (pss_one (ps_ret (pe_and (pe_call G_l_right (hr.mono (by omega)) rfl T.m_l_right T.F_l_right.kp T.b_l_right .nil pass0 (pa_cons (pe_fld (pv 0) rfl) (pa_cons (pe_ix ix_tup (pv 1) pe_int (fun _ _ => rfl)) pa_nil))) (pe_one (pe_call G_l_right (hr.mono (by omega)) rfl T.m_l_right T.F_l_right.kp T.b_l_right .nil pass0 (pa_cons (pe_fld (pv 0) rfl) (pa_cons (pe_ix ix_tup (pv 1) pe_int (fun _ _ => rfl)) pa_nil))))))))))))), ?_⟩
  refine ⟨_, rfl, _, _, _, _, true, rfl, .own A.Expr, ty_obj T ho, is_expr T e, _, rfl, iteF ?_⟩
  refine ⟨2, rfl, by decide, by decide, for_range (n := 2) (fun i σ H' => ∃ v1 v2 : Option V, σ = [some v, some t, v1, v2] ∧ Same H H') ⟨_, _, rfl, Same.refl H⟩ ?_ ?_⟩
  · rintro i σ H1 hi ⟨v1, v2, rfl, s1⟩
    obtain ⟨p2, d2, f2, e2, g1, g2⟩ := (ho.same s1).at (m := "told") (by decide +kernel)
    refine ⟨_, rfl, p2, _, d2, f2, e2, g1, g2, A.ec.fam e, e, v, by rw [e2]; rfl, ho.same s1, rfl, by omega, fun r1 H2 s2 t2 => ?_⟩
    have sh := Ex.shaped hw (by omega)
    refine ⟨_, rfl, e.told, e.told, t2.dp, (ht.same (s1.trans s2)).dp, sh, sh, _, rfl, ?_⟩
    rw [Ex.eqv hw]
    refine iteF ?_
    obtain ⟨p3, d3, f3, e3, k1, k2⟩ := (ho.same (s1.trans s2)).at (m := "words") (by decide +kernel)
    refine ⟨_, rfl, p3, _, d3, f3, e3, k1, k2, A.ec.fam e, e, v, by rw [e3]; rfl, ho.same (s1.trans s2), rfl, by omega, hw, hp, fun H3 s3 => ?_⟩
    refine ⟨_, rfl, e, t, rfl, ht.same (s1.trans (s2.trans s3)), hw, hp, by omega, fun H4 s4 => ?_⟩
    refine ⟨rfl, _, rfl, iteNF rfl ?_⟩
    have s14 := s1.trans (s2.trans (s3.trans s4))
    obtain ⟨p5, d5, f5, e5, m1, m2⟩ := (ho.same s14).at (m := "told") (by decide +kernel)
    refine ⟨_, rfl, p5, _, d5, f5, e5, m1, m2, A.ec.fam e, e, v, by rw [e5]; rfl, ho.same s14, rfl, by omega, fun r2 H5 s5 t5 => ?_⟩
    obtain ⟨ta, xs, rfl, h5⟩ := t5.ref
    refine ⟨_, _, _, _, true, rfl, .ty _, .base (.tup h5), kit_ty (by decide +kernel), _, rfl, iteF ?_⟩
    exact ⟨_, _, rfl, s14.trans s5⟩
  · rintro σ H1 ⟨v1, v2, rfl, s1⟩
    have ho := ho.same s1
    have ht := ht.same s1
    cases e with
    | num z =>
      obtain ⟨t, rfl, h1⟩ := ht
      obtain ⟨p, dx, rfl, g1⟩ := id ho
      refine ⟨_, rfl, t, _, _, _, rfl, rfl, SqT.of h1, rfl, rfl, _, rfl, iteDT rfl ?_⟩
      refine ⟨_, rfl, p, A.Number, dx, _, _, rfl, g1, T.cl_Number, T.n_Number_value, rfl, ?_⟩
      refine ⟨_, rfl, _, _, _, _, true, rfl, .own A.Number, ty_obj T ho, is_self _, ?_⟩
      refine ⟨_, rfl, iteT ?_⟩
      refine ⟨_, rfl, _, _, _, _, true, rfl, .ty _, .base (.int _), kit_ty (by decide +kernel), ?_⟩
      refine ⟨_, rfl, iteT ?_⟩
      refine ⟨_, rfl, _, _, _, _, false, rfl, .ty _, .base (.int _), kit_ty (by decide +kernel), ?_⟩
      refine ⟨_, rfl, _, rfl, iteT ?_⟩
      refine ⟨_, rfl, _, rfl, t, _, _, _, rfl, rfl, SqT.of h1, rfl, rfl, ?_⟩
      show Q (.bl (decide (V.int z = V.int z))) _
      rw [decide_eq_true rfl]
      exact q _ s1
    | box z =>
      obtain ⟨t, rfl, h1⟩ := ht
      obtain ⟨p, dx, rfl, g1⟩ := id ho
      refine ⟨_, rfl, t, _, _, _, rfl, rfl, SqT.of h1, rfl, rfl, _, rfl, iteDF (vstr_ne (by decide +kernel)) ?_⟩
      refine ⟨_, rfl, t, _, _, _, rfl, rfl, SqT.of h1, rfl, rfl, _, rfl, iteDT rfl ?_⟩
      refine ⟨_, rfl, _, _, _, _, true, rfl, .own A.Box, ty_obj T ho, is_self _, ?_⟩
      refine ⟨_, rfl, iteT ?_⟩
      refine ⟨_, rfl, p, A.Box, dx, _, _, rfl, g1, T.cl_Box, T.n_Box_name, rfl, _, rfl, t, _, _, _, rfl, rfl, SqT.of h1, rfl, rfl, ?_⟩
      show Q (.bl (decide (V.str z = V.str z))) _
      rw [decide_eq_true rfl]
      exact q _ s1
    | cell e =>
      obtain ⟨t, i, rfl, h1, h2⟩ := ht
      obtain ⟨p, dx, j, rfl, g1, g2⟩ := id ho
      have hd' : e.depth ≤ n := Nat.le_of_succ_le_succ hd
      have hp' : 1 + e.parts ≤ 1000 := hp
      refine ⟨_, rfl, t, _, _, _, rfl, rfl, SqT.of h1, rfl, rfl, _, rfl, iteDF (vstr_ne (by decide +kernel)) ?_⟩
      refine ⟨_, rfl, t, _, _, _, rfl, rfl, SqT.of h1, rfl, rfl, _, rfl, iteDF (vstr_ne (by decide +kernel)) ?_⟩
      refine ⟨_, rfl, t, _, _, _, rfl, rfl, SqT.of h1, rfl, rfl, _, rfl, iteDT rfl ?_⟩
      refine ⟨_, rfl, _, _, _, _, true, rfl, .own A.Cell, ty_obj T ho, is_self _, ?_⟩
      refine ⟨_, rfl, iteT ?_⟩
      refine ⟨_, rfl, p, A.Cell, dx, _, _, rfl, g1, T.cl_Cell, T.n_Cell_inner, rfl, _, rfl, t, _, _, _, rfl, rfl, SqT.of h1, rfl, e, j, i, rfl, g2, h2, hw, hd', by omega, by omega, fun H2 s2 => ?_⟩
      exact q _ (s1.trans s2)
    | two wd l r =>
      obtain ⟨t, a, b, rfl, h1, h2, h3⟩ := ht
      obtain ⟨p, dx, x, y, rfl, g1, g2, g3⟩ := id ho
      have hd' : max l.depth r.depth ≤ n := Nat.le_of_succ_le_succ hd
      have hp' : 1 + l.parts + r.parts ≤ 1000 := hp
      obtain ⟨hw0, hw1, hw2⟩ : wd ∈ PAIRW ∧ l.Wf ∧ r.Wf := hw
      obtain ⟨n1, n2, n3⟩ := pair_ne hw0
      refine ⟨_, rfl, t, _, _, _, rfl, rfl, SqT.of h1, rfl, rfl, _, rfl, iteDF (vstr_ne n1) ?_⟩
      refine ⟨_, rfl, t, _, _, _, rfl, rfl, SqT.of h1, rfl, rfl, _, rfl, iteDF (vstr_ne n2) ?_⟩
      refine ⟨_, rfl, t, _, _, _, rfl, rfl, SqT.of h1, rfl, rfl, _, rfl, iteDF (vstr_ne n3) ?_⟩
      refine ⟨_, rfl, _, _, _, _, true, rfl, .own A.Two, ty_obj T ho, is_self _, _, rfl, iteF ?_⟩
      refine ⟨_, rfl, p, A.Two, dx, _, _, rfl, g1, T.cl_Two, T.n_Two_word, rfl, _, rfl, t, _, _, _, rfl, rfl, SqT.of h1, rfl, rfl, _, rfl, iteNF rfl ?_⟩
      refine ⟨_, rfl, p, A.Two, dx, _, _, rfl, g1, T.cl_Two, T.n_Two_left, rfl, _, rfl, t, _, _, _, rfl, rfl, SqT.of h1, rfl, l, x, a, rfl, g2, h2, hw1, by omega, by omega, by omega, fun H2 s2 => ?_⟩
      refine ⟨_, rfl, iteT ?_⟩
      refine ⟨_, rfl, p, A.Two, dx, _, _, rfl, s2 _ _ g1, T.cl_Two, T.n_Two_right, rfl, _, rfl, t, _, _, _, rfl, rfl, SqT.of (s2 _ _ h1), rfl, r, y, b, rfl, g3.same s2, h3.same s2, hw2, by omega, by omega, by omega, fun H3 s3 => ?_⟩
      exact q _ (s1.trans (s2.trans s3))

end
end K01
namespace K01
open PySem L2 TL
section
variable {P : Program} {w : World} {K : PySem.W.Frag} {mg : Str → Option Value} {base : Heap} {A : Ads}
theorem ok_law (T : Txt K mg A) : FnOk P w K mg base CX0 19 A.law A.law_d ["_law_script"] (spLaw K) := by
  have G_l_expr := ok_l_expr (P := P) (w := w) (base := base) T 8
  have G_l_well := ok_l_well (P := P) (w := w) (base := base) T
  have G_l_right := ok_l_right (P := P) (w := w) (base := base) T 6
  have G_read_expr := ok_read_expr (P := P) (w := w) (base := base) T
  have G_l_words_of := ok_l_words_of (P := P) (w := w) (base := base) T 7
  have G_l_made := ok_l_made (P := P) (w := w) (base := base) T 7
  refine T.F_law.ok sc_law (fun vs H Q E h => ?_) (fun cdv A0 outer s H vs Q E hr h => ?_)
  · obtain ⟨a, ns, rfl, hS, hlen, q⟩ := h
    rfl
  obtain ⟨a, ns, rfl, hS, hlen, q⟩ := h
  refine ⟨_, (pss_cons (ps_for PassesOwn.never rfl (pi_range2 (by rfl) T.z_range (pa_cons pe_int (pa_cons pe_int pa_nil))) (pg_name (i := 1) sc_law.nd rfl (Or.inl rfl))
    (pss_cons (ps_set (i := 2) sc_law.nd rfl (Or.inl rfl) (pe_call G_l_expr (hr.mono (by decide)) rfl T.m_l_expr T.F_l_expr.kp T.b_l_expr .nil pass0 (pa_cons (pe_call G_l_well (hr.mono (by decide)) rfl T.m_l_well T.F_l_well.kp T.b_l_well .nil pass0 (pa_cons (pv 0) (pa_cons (pv 1) pa_nil))) (pa_cons pe_int (pa_cons pe_int pa_nil)))))
   (pss_one (ps_if (PW.pt (pw_or (pt_not (pt_val (pe_call G_l_right (hr.mono (by decide)) rfl T.m_l_right T.F_l_right.kp T.b_l_right .nil pass0 (pa_cons (pe_call G_read_expr (hr.mono (by decide)) rfl T.m_read_expr T.F_read_expr.kp T.b_read_expr .nil passL (pa_cons (pe_call G_l_words_of (hr.mono (by decide)) rfl T.m_l_words_of T.F_l_words_of.kp T.b_l_words_of .nil pass0 (pa_cons (pv 2) pa_nil)) pa_nil)) (pa_cons (pv 2) pa_nil))))) (pw_or1 (pt_not (pt_val (pe_call G_l_right (hr.mono (by decide)) rfl T.m_l_right T.F_l_right.kp T.b_l_right .nil pass0 (pa_cons (pe_call G_l_made (hr.mono (by decide)) rfl T.m_l_made T.F_l_made.kp T.b_l_made .nil pass0 (pa_cons (pv 2) pa_nil)) (pa_cons (pv 2) pa_nil))))))))
    (pss_one (ps_ret pe_bl))
    pss_nil))))
   (pss_one (ps_ret pe_bl))), ?_⟩
  refine ⟨1, 4, rfl, ⟨by decide, by decide, by decide, by decide⟩, for_range (lo := 1) (n := 3) (fun i σ H' => ∃ (v1 v2 : Option V), σ = [some (.ref a), v1, v2] ∧ Same H H')
    ⟨none, none, rfl, Same.refl H⟩ ?_ ?_⟩
  · rintro i σ H1 hi ⟨v1, v2, rfl, s1⟩
    refine ⟨_, rfl, _, rfl, a, ns, _, rfl, s1.seq hS, by omega, fun p H2 hp s2 W => ?_⟩
    refine ⟨p, 6, 15, rfl, W, by decide, by decide, by decide, by decide, fun e t H3 hw hd hpt ht k3 W3 => ?_⟩
    have s3 : Same H1 H3 := KeepX.same hp (fun z o n e => k3 z o n (s2 z o e))
    refine ⟨_, rfl, e, t, rfl, ht, hw, by omega, by omega, fun H4 s4 => ?_⟩
    have hd6 : e.depth ≤ 6 := by omega
    have hp15 : e.parts ≤ 15 := by omega
    have hsp := Ex.split_text hw
    have hpa := parse_all hw hd6 hp15
    have hlt := Ex.text_len hw
    refine ⟨e.text, rfl, by omega, fun e1 pe v H5 s5 ho => ?_, fun no => absurd (by rw [hsp]; exact hpa) (no e)⟩
    rw [hsp, hpa] at pe
    obtain rfl : e = e1 := by injection pe with pe; injection pe
    refine ⟨_, rfl, e, v, t, rfl, ho, ht.same (s4.trans s5), hw, hd6, by decide, by omega, fun H6 s6 => ?_⟩
    refine ⟨_, rfl, iteF ?_⟩
    have s46 := s4.trans (s5.trans s6)
    refine ⟨_, rfl, e, t, rfl, ht.same s46, hw, by omega, fun r H7 s7 o7 => ?_⟩
    refine ⟨_, rfl, e, r, t, rfl, o7, ht.same (s46.trans s7), hw, hd6, by decide, by omega, fun H8 s8 => ?_⟩
    refine ⟨_, rfl, iteF ?_⟩
    exact ⟨_, _, rfl, s1.trans (s3.trans (s46.trans (s7.trans s8)))⟩
  · rintro σ H1 ⟨v1, v2, rfl, s1⟩
    exact q _

end
end K01
namespace K01
open PySem PySem.Spec PyProof.Rows L2 TL
def hD_is_name : He.DefD := ⟨("is_name", none), "is_name", "is_name", defArgs s_is_name, defBody s_is_name, defScope s_is_name, [], []⟩
def hD_is_value_word : He.DefD := ⟨("is_value_word", none), "is_value_word", "is_value_word", defArgs s_is_value_word, defBody s_is_value_word, defScope s_is_value_word, [], []⟩
def hD_Number_init : He.DefD := ⟨("Number", some "__init__"), "__init__", "Number.__init__", defArgs s_Number_init, defBody s_Number_init, defScope s_Number_init, [], []⟩
def hD_Box_init : He.DefD := ⟨("Box", some "__init__"), "__init__", "Box.__init__", defArgs s_Box_init, defBody s_Box_init, defScope s_Box_init, [], []⟩
def hD_Cell_init : He.DefD := ⟨("Cell", some "__init__"), "__init__", "Cell.__init__", defArgs s_Cell_init, defBody s_Cell_init, defScope s_Cell_init, [], []⟩
def hD_Two_init : He.DefD := ⟨("Two", some "__init__"), "__init__", "Two.__init__", defArgs s_Two_init, defBody s_Two_init, defScope s_Two_init, [], []⟩
def hD_Number_told : He.DefD := ⟨("Number", some "told"), "told", "Number.told", defArgs s_Number_told, defBody s_Number_told, defScope s_Number_told, [], []⟩
def hD_Box_told : He.DefD := ⟨("Box", some "told"), "told", "Box.told", defArgs s_Box_told, defBody s_Box_told, defScope s_Box_told, [], []⟩
def hD_Cell_told : He.DefD := ⟨("Cell", some "told"), "told", "Cell.told", defArgs s_Cell_told, defBody s_Cell_told, defScope s_Cell_told, [], []⟩
def hD_Two_told : He.DefD := ⟨("Two", some "told"), "told", "Two.told", defArgs s_Two_told, defBody s_Two_told, defScope s_Two_told, [], []⟩
def hD_Number_words : He.DefD := ⟨("Number", some "words"), "words", "Number.words", defArgs s_Number_words, defBody s_Number_words, defScope s_Number_words, [], []⟩
def hD_Box_words : He.DefD := ⟨("Box", some "words"), "words", "Box.words", defArgs s_Box_words, defBody s_Box_words, defScope s_Box_words, [], []⟩
def hD_Cell_words : He.DefD := ⟨("Cell", some "words"), "words", "Cell.words", defArgs s_Cell_words, defBody s_Cell_words, defScope s_Cell_words, [], []⟩
def hD_Two_words : He.DefD := ⟨("Two", some "words"), "words", "Two.words", defArgs s_Two_words, defBody s_Two_words, defScope s_Two_words, [], []⟩
def hD_Expr_parts : He.DefD := ⟨("Expr", some "parts"), "parts", "Expr.parts", defArgs s_Expr_parts, defBody s_Expr_parts, defScope s_Expr_parts, [], []⟩
def hD_Cell_parts : He.DefD := ⟨("Cell", some "parts"), "parts", "Cell.parts", defArgs s_Cell_parts, defBody s_Cell_parts, defScope s_Cell_parts, [], []⟩
def hD_Two_parts : He.DefD := ⟨("Two", some "parts"), "parts", "Two.parts", defArgs s_Two_parts, defBody s_Two_parts, defScope s_Two_parts, [], []⟩
def hD_expr_at : He.DefD := ⟨("expr_at", none), "expr_at", "expr_at", defArgs s_expr_at, defBody s_expr_at, defScope s_expr_at, [], []⟩
def hD_exprs_of : He.DefD := ⟨("exprs_of", none), "exprs_of", "exprs_of", defArgs s_exprs_of, defBody s_exprs_of, defScope s_exprs_of, [], []⟩
def hD_read_expr : He.DefD := ⟨("read_expr", none), "read_expr", "read_expr", defArgs s_read_expr, defBody s_read_expr, defScope s_read_expr, [], []⟩
def hD_l_cell : He.DefD := ⟨("_law_cell", none), "_law_cell", "_law_cell", defArgs s_l_cell, defBody s_l_cell, defScope s_l_cell, [], []⟩
def hD_l_mixed : He.DefD := ⟨("_law_mixed", none), "_law_mixed", "_law_mixed", defArgs s_l_mixed, defBody s_l_mixed, defScope s_l_mixed, [], []⟩
def hD_l_twice : He.DefD := ⟨("_law_twice", none), "_law_twice", "_law_twice", defArgs s_l_twice, defBody s_l_twice, defScope s_l_twice, [], []⟩
def hD_l_well : He.DefD := ⟨("_law_well", none), "_law_well", "_law_well", defArgs s_l_well, defBody s_l_well, defScope s_l_well, [], []⟩
def hD_l_draw : He.DefD := ⟨("_law_draw", none), "_law_draw", "_law_draw", defArgs s_l_draw, defBody s_l_draw, defScope s_l_draw, [], []⟩
def hD_l_value : He.DefD := ⟨("_law_value", none), "_law_value", "_law_value", defArgs s_l_value, defBody s_l_value, defScope s_l_value, [], []⟩
def hD_l_name : He.DefD := ⟨("_law_name", none), "_law_name", "_law_name", defArgs s_l_name, defBody s_l_name, defScope s_l_name, [], []⟩
def hD_l_parts : He.DefD := ⟨("_law_parts", none), "_law_parts", "_law_parts", defArgs s_l_parts, defBody s_l_parts, defScope s_l_parts, [], []⟩
def hD_l_expr : He.DefD := ⟨("_law_expr", none), "_law_expr", "_law_expr", defArgs s_l_expr, defBody s_l_expr, defScope s_l_expr, [], []⟩
def hD_l_words_of : He.DefD := ⟨("_law_words_of", none), "_law_words_of", "_law_words_of", defArgs s_l_words_of, defBody s_l_words_of, defScope s_l_words_of, [], []⟩
def hD_l_made : He.DefD := ⟨("_law_made", none), "_law_made", "_law_made", defArgs s_l_made, defBody s_l_made, defScope s_l_made, [], []⟩
def hD_l_right : He.DefD := ⟨("_law_right", none), "_law_right", "_law_right", defArgs s_l_right, defBody s_l_right, defScope s_l_right, [], []⟩
def hD_law : He.DefD := ⟨("law", none), "law", "law", defArgs s_law, defBody s_law, defScope s_law, [], []⟩
def hFn : List He.DefD := ([hD_is_name, hD_is_value_word, hD_Number_init, hD_Box_init, hD_Cell_init, hD_Two_init, hD_Number_told, hD_Box_told, hD_Cell_told, hD_Two_told, hD_Number_words, hD_Box_words, hD_Cell_words, hD_Two_words, hD_Expr_parts, hD_Cell_parts, hD_Two_parts, hD_expr_at, hD_exprs_of, hD_read_expr, hD_l_cell, hD_l_mixed, hD_l_twice, hD_l_well, hD_l_draw, hD_l_value, hD_l_name, hD_l_parts, hD_l_expr, hD_l_words_of] : List He.DefD) ++ ([hD_l_made, hD_l_right, hD_law] : List He.DefD)
def hFa : List FaM := ([fun K => (He.Fa.glo "is_name").ok K,
  fun K => (He.Fa.glo "is_value_word").ok K,
  fun K => (He.Fa.glo "expr_at").ok K,
  fun K => (He.Fa.glo "exprs_of").ok K,
  fun K => (He.Fa.glo "read_expr").ok K,
  fun K => (He.Fa.glo "_law_cell").ok K,
  fun K => (He.Fa.glo "_law_mixed").ok K,
  fun K => (He.Fa.glo "_law_twice").ok K,
  fun K => (He.Fa.glo "_law_well").ok K,
  fun K => (He.Fa.glo "_law_draw").ok K,
  fun K => (He.Fa.glo "_law_value").ok K,
  fun K => (He.Fa.glo "_law_name").ok K,
  fun K => (He.Fa.glo "_law_parts").ok K,
  fun K => (He.Fa.glo "_law_expr").ok K,
  fun K => (He.Fa.glo "_law_words_of").ok K,
  fun K => (He.Fa.glo "_law_made").ok K,
  fun K => (He.Fa.glo "_law_right").ok K,
  fun K => (He.Fa.glo "law").ok K,
  fun K => (He.Fa.glo "Number").ok K,
  fun K => (He.Fa.cls "Number").ok K] : List FaM) ++
  ([fun K => PySem.W.makesIn K (He.ga K "Number"),
  fun K => (He.Fa.noat "Number" "value").ok K,
  fun K => (He.Fa.mkr "Number").ok K,
  fun K => (He.Fa.glo "Box").ok K,
  fun K => (He.Fa.cls "Box").ok K,
  fun K => PySem.W.makesIn K (He.ga K "Box"),
  fun K => (He.Fa.noat "Box" "name").ok K,
  fun K => (He.Fa.mkr "Box").ok K,
  fun K => (He.Fa.glo "Cell").ok K,
  fun K => (He.Fa.cls "Cell").ok K,
  fun K => PySem.W.makesIn K (He.ga K "Cell"),
  fun K => (He.Fa.noat "Cell" "inner").ok K,
  fun K => (He.Fa.mkr "Cell").ok K,
  fun K => (He.Fa.glo "Two").ok K,
  fun K => (He.Fa.cls "Two").ok K,
  fun K => PySem.W.makesIn K (He.ga K "Two"),
  fun K => (He.Fa.noat "Two" "word").ok K,
  fun K => (He.Fa.noat "Two" "left").ok K,
  fun K => (He.Fa.noat "Two" "right").ok K,
  fun K => (He.Fa.mkr "Two").ok K] : List FaM) ++
  ([fun K => (He.Fa.glo "Expr").ok K,
  fun K => (He.Fa.cls "Expr").ok K,
  fun K => PySem.W.makesIn K (He.ga K "Expr"),
  fun K => (He.Fa.meth "Number" "told").ok K,
  fun K => (He.Fa.meth "Box" "told").ok K,
  fun K => (He.Fa.meth "Cell" "told").ok K,
  fun K => (He.Fa.meth "Two" "told").ok K,
  fun K => (He.Fa.meth "Number" "words").ok K,
  fun K => (He.Fa.meth "Box" "words").ok K,
  fun K => (He.Fa.meth "Cell" "words").ok K,
  fun K => (He.Fa.meth "Two" "words").ok K,
  fun K => (He.Fa.meth "Number" "parts").ok K,
  fun K => decide (He.ma K (He.ga K "Number") "parts" = He.ma K (He.ga K "Expr") "parts"),
  fun K => (He.Fa.meth "Box" "parts").ok K,
  fun K => decide (He.ma K (He.ga K "Box") "parts" = He.ma K (He.ga K "Expr") "parts"),
  fun K => (He.Fa.meth "Cell" "parts").ok K,
  fun K => (He.Fa.meth "Two" "parts").ok K,
  fun K => (He.Fa.glo "PAIRS").ok K,
  fun K => He.tupB K "PAIRS" [.str "plus", .str "minus", .str "times", .str "over", .str "rest", .str "less", .str "same"],
  fun K => (He.Fa.glo "ROWS").ok K] : List FaM) ++
  ([fun K => He.tupB K "ROWS" [.str "skip", .str "set", .str "put", .str "ask", .str "draw", .str "tell", .str "if", .str "while", .str "call"],
  fun K => (He.Fa.glo "OTHERS").ok K,
  fun K => He.tupB K "OTHERS" [.str "else", .str "end", .str "fun", .str "main", .str "give", .str "cell"],
  fun K => (He.Fa.exc "NoProgram").ok K,
  fun K => (He.Fa.glo "NoProgram").ok K,
  fun K => decide ((He.ga K "Number") ≠ (He.ga K "Box")),
  fun K => decide ((He.ga K "Number") ≠ (He.ga K "Cell")),
  fun K => decide ((He.ga K "Number") ≠ (He.ga K "Two")),
  fun K => decide ((He.ga K "Box") ≠ (He.ga K "Number")),
  fun K => decide ((He.ga K "Box") ≠ (He.ga K "Cell")),
  fun K => decide ((He.ga K "Box") ≠ (He.ga K "Two")),
  fun K => decide ((He.ga K "Cell") ≠ (He.ga K "Number")),
  fun K => decide ((He.ga K "Cell") ≠ (He.ga K "Box")),
  fun K => decide ((He.ga K "Cell") ≠ (He.ga K "Two")),
  fun K => decide ((He.ga K "Two") ≠ (He.ga K "Number")),
  fun K => decide ((He.ga K "Two") ≠ (He.ga K "Box")),
  fun K => decide ((He.ga K "Two") ≠ (He.ga K "Cell")),
  fun K => decide (PySem.W.findIn K (.ref (He.ga K "Number")) "__class__" = some (some (.builtin "object.__class__"))),
  fun K => decide (PySem.W.mroIn K (He.ga K "Number") (.type "object") = some true),
  fun K => decide (PySem.W.kitOne K (.ref (He.ga K "Number")) (.ref (He.ga K "Expr")) = some true)] : List FaM) ++
  ([fun K => decide (PySem.W.findIn K (.ref (He.ga K "Box")) "__class__" = some (some (.builtin "object.__class__"))),
  fun K => decide (PySem.W.mroIn K (He.ga K "Box") (.type "object") = some true),
  fun K => decide (PySem.W.kitOne K (.ref (He.ga K "Box")) (.ref (He.ga K "Expr")) = some true),
  fun K => decide (PySem.W.findIn K (.ref (He.ga K "Cell")) "__class__" = some (some (.builtin "object.__class__"))),
  fun K => decide (PySem.W.mroIn K (He.ga K "Cell") (.type "object") = some true),
  fun K => decide (PySem.W.kitOne K (.ref (He.ga K "Cell")) (.ref (He.ga K "Expr")) = some true),
  fun K => decide (PySem.W.findIn K (.ref (He.ga K "Two")) "__class__" = some (some (.builtin "object.__class__"))),
  fun K => decide (PySem.W.mroIn K (He.ga K "Two") (.type "object") = some true),
  fun K => decide (PySem.W.kitOne K (.ref (He.ga K "Two")) (.ref (He.ga K "Expr")) = some true),
  fun K => decide (PySem.W.specialIn K (.builtin "object.__class__") "__get__" = some (some (.builtin "getset_descriptor.__get__"))),
  fun K => decide (PySem.W.takesIn K (.builtin "object.__class__") = some true),
  fun K => (He.Fa.str "LETTERS" "abcdefghijklmnopqrstuvwxyz").ok K,
  fun K => (He.Fa.str "FIGURES" "0123456789").ok K,
  fun K => (He.Fa.int "MOST_DEEP" 6).ok K,
  fun K => (He.Fa.int "MOST_PARTS" 15).ok K,
  fun K => (He.Fa.free "str").ok K,
  fun K => (He.Fa.free "isinstance").ok K,
  fun K => (He.Fa.free "len").ok K,
  fun K => (He.Fa.free "all").ok K,
  fun K => (He.Fa.free "int").ok K] : List FaM) ++
  ([fun K => (He.Fa.free "range").ok K,
  fun K => (He.Fa.free "sum").ok K,
  fun K => (He.Fa.free "tuple").ok K,
  fun K => (He.Fa.free "bool").ok K] : List FaM)
def loose : List Str := (["_wall", "HadError", "NoProgram", "MOST_PARTS", "MOST_DEEP", "LETTERS", "FIGURES", "PAIRS", "ROWS", "OTHERS", "is_name", "is_value_word", "Expr", "Number", "Box"] : List Str) ++ (["Cell", "Two", "expr_at", "exprs_of", "read_expr", "_law_cell", "_law_mixed", "_law_twice", "_law_well", "_law_draw", "_law_value", "_law_name", "_law_parts", "_law_expr", "_law_words_of"] : List Str) ++ (["_law_made", "_law_right"] : List Str)
abbrev R : PySem.W.OpenRow := PySem.W.OpenLaw.row PySem.Challenge.rw_hadbeen_k01_expressions_written_and_read
abbrev hk : PySem.W.Hook := hookM ("law" :: loose) hFa hFn
def ob (s : PySem.W.SharedT) : He.AlD := obsMG ("law" :: loose) hFa hFn (HandSHeadRun.getT s)
theorem ob_eq (s : PySem.W.SharedT) : ob s = hk.obs s.abs := obsMG_eq (HandSHeadRun.getT_eq s)
end K01
namespace K01
open PySem PySem.Spec PyProof.Rows L2 TL
theorem run (w : World) : HandSHeadRun.RunEq R (PySem.W.view R.prog [35]) hk ob 4000 loose w := by
  intro os
  kernel_rfl
end K01
namespace K01
open PySem PySem.Spec PyProof.Rows L2 TL
set_option maxHeartbeats 0 in
theorem facts {P : Program} {w : World} {K : PySem.W.Frag} {h : Heap} {mg : Str → Option Value} {f : Addr} (X : K.In h) (G : h.Ns mainGlobals mg) (hfa : mg ("law" : Str) = some (.ref f)) (c : SaysM hFa hFn K) :
    ∃ fd : FuncData, (∀ (s : Shared) (v : Value), BindsTo s fd ⟨[v], []⟩ [("_law_script", v)]) ∧ ∀ base : Heap, K.In base → base.Ns mainGlobals mg → FnOk P w K mg base CX0 19 f fd ["_law_script"] (spLaw K) := by
  obtain ⟨d0, F0⟩ := c.def_ 0 (d := hD_is_name) rfl
  obtain ⟨d1, F1⟩ := c.def_ 1 (d := hD_is_value_word) rfl
  obtain ⟨d2, F2⟩ := c.def_ 2 (d := hD_Number_init) rfl
  obtain ⟨d3, F3⟩ := c.def_ 3 (d := hD_Box_init) rfl
  obtain ⟨d4, F4⟩ := c.def_ 4 (d := hD_Cell_init) rfl
  obtain ⟨d5, F5⟩ := c.def_ 5 (d := hD_Two_init) rfl
  obtain ⟨d6, F6⟩ := c.def_ 6 (d := hD_Number_told) rfl
  obtain ⟨d7, F7⟩ := c.def_ 7 (d := hD_Box_told) rfl
  obtain ⟨d8, F8⟩ := c.def_ 8 (d := hD_Cell_told) rfl
  obtain ⟨d9, F9⟩ := c.def_ 9 (d := hD_Two_told) rfl
  obtain ⟨d10, F10⟩ := c.def_ 10 (d := hD_Number_words) rfl
  obtain ⟨d11, F11⟩ := c.def_ 11 (d := hD_Box_words) rfl
  obtain ⟨d12, F12⟩ := c.def_ 12 (d := hD_Cell_words) rfl
  obtain ⟨d13, F13⟩ := c.def_ 13 (d := hD_Two_words) rfl
  obtain ⟨d14, F14⟩ := c.def_ 14 (d := hD_Expr_parts) rfl
  obtain ⟨d15, F15⟩ := c.def_ 15 (d := hD_Cell_parts) rfl
  obtain ⟨d16, F16⟩ := c.def_ 16 (d := hD_Two_parts) rfl
  obtain ⟨d17, F17⟩ := c.def_ 17 (d := hD_expr_at) rfl
  obtain ⟨d18, F18⟩ := c.def_ 18 (d := hD_exprs_of) rfl
  obtain ⟨d19, F19⟩ := c.def_ 19 (d := hD_read_expr) rfl
  obtain ⟨d20, F20⟩ := c.def_ 20 (d := hD_l_cell) rfl
  obtain ⟨d21, F21⟩ := c.def_ 21 (d := hD_l_mixed) rfl
  obtain ⟨d22, F22⟩ := c.def_ 22 (d := hD_l_twice) rfl
  obtain ⟨d23, F23⟩ := c.def_ 23 (d := hD_l_well) rfl
  obtain ⟨d24, F24⟩ := c.def_ 24 (d := hD_l_draw) rfl
  obtain ⟨d25, F25⟩ := c.def_ 25 (d := hD_l_value) rfl
  obtain ⟨d26, F26⟩ := c.def_ 26 (d := hD_l_name) rfl
  obtain ⟨d27, F27⟩ := c.def_ 27 (d := hD_l_parts) rfl
  obtain ⟨d28, F28⟩ := c.def_ 28 (d := hD_l_expr) rfl
  obtain ⟨d29, F29⟩ := c.def_ 29 (d := hD_l_words_of) rfl
  obtain ⟨d30, F30⟩ := c.def_ 30 (d := hD_l_made) rfl
  obtain ⟨d31, F31⟩ := c.def_ 31 (d := hD_l_right) rfl
  obtain ⟨d32, F32⟩ := c.def_ 32 (d := hD_law) rfl
  have e := hfa.symm.trans (He.glo_ok (x := "law") X G (c.fact 17 rfl))
  cases e
  let A : Ads := ⟨He.fAd K ("is_name", none), d0, He.fAd K ("is_value_word", none), d1, He.fAd K ("Number", some "__init__"), d2, He.fAd K ("Box", some "__init__"), d3, He.fAd K ("Cell", some "__init__"), d4, He.fAd K ("Two", some "__init__"), d5, He.fAd K ("Number", some "told"), d6, He.fAd K ("Box", some "told"), d7, He.fAd K ("Cell", some "told"), d8, He.fAd K ("Two", some "told"), d9, He.fAd K ("Number", some "words"), d10, He.fAd K ("Box", some "words"), d11, He.fAd K ("Cell", some "words"), d12, He.fAd K ("Two", some "words"), d13, He.fAd K ("Expr", some "parts"), d14, He.fAd K ("Cell", some "parts"), d15, He.fAd K ("Two", some "parts"), d16, He.fAd K ("expr_at", none), d17, He.fAd K ("exprs_of", none), d18, He.fAd K ("read_expr", none), d19, He.fAd K ("_law_cell", none), d20, He.fAd K ("_law_mixed", none), d21, He.fAd K ("_law_twice", none), d22, He.fAd K ("_law_well", none), d23, He.fAd K ("_law_draw", none), d24, He.fAd K ("_law_value", none), d25, He.fAd K ("_law_name", none), d26, He.fAd K ("_law_parts", none), d27, He.fAd K ("_law_expr", none), d28, He.fAd K ("_law_words_of", none), d29, He.fAd K ("_law_made", none), d30, He.fAd K ("_law_right", none), d31, He.fAd K ("law", none), d32, He.ga K "Number", He.ga K "Box", He.ga K "Cell", He.ga K "Two", He.ga K "Expr", He.ga K "PAIRS", He.ga K "ROWS", He.ga K "OTHERS", He.ga K "NoProgram"⟩
  have T : Txt K mg A :=
    { F_is_name := fun_of F0,
      b_is_name := FunD.bindsN (ps := ["thing"]) F0 fun _ _ _ _ _ _ us hl => match us, hl with | [_], _ => rfl,
      m_is_name := He.glo_ok (x := "is_name") X G (c.fact 0 rfl),
      F_is_value_word := fun_of F1,
      b_is_value_word := FunD.bindsN (ps := ["word"]) F1 fun _ _ _ _ _ _ us hl => match us, hl with | [_], _ => rfl,
      m_is_value_word := He.glo_ok (x := "is_value_word") X G (c.fact 1 rfl),
      F_Number_init := fun_of F2,
      b_Number_init := FunD.bindsN (ps := ["self", "value"]) F2 fun _ _ _ _ _ _ us hl => match us, hl with | [_, _], _ => rfl,
      F_Box_init := fun_of F3,
      b_Box_init := FunD.bindsN (ps := ["self", "name"]) F3 fun _ _ _ _ _ _ us hl => match us, hl with | [_, _], _ => rfl,
      F_Cell_init := fun_of F4,
      b_Cell_init := FunD.bindsN (ps := ["self", "inner"]) F4 fun _ _ _ _ _ _ us hl => match us, hl with | [_, _], _ => rfl,
      F_Two_init := fun_of F5,
      b_Two_init := FunD.bindsN (ps := ["self", "word", "left", "right"]) F5 fun _ _ _ _ _ _ us hl => match us, hl with | [_, _, _, _], _ => rfl,
      F_Number_told := fun_of F6,
      b_Number_told := FunD.bindsN (ps := ["self"]) F6 fun _ _ _ _ _ _ us hl => match us, hl with | [_], _ => rfl,
      F_Box_told := fun_of F7,
      b_Box_told := FunD.bindsN (ps := ["self"]) F7 fun _ _ _ _ _ _ us hl => match us, hl with | [_], _ => rfl,
      F_Cell_told := fun_of F8,
      b_Cell_told := FunD.bindsN (ps := ["self"]) F8 fun _ _ _ _ _ _ us hl => match us, hl with | [_], _ => rfl,
      F_Two_told := fun_of F9,
      b_Two_told := FunD.bindsN (ps := ["self"]) F9 fun _ _ _ _ _ _ us hl => match us, hl with | [_], _ => rfl,
      F_Number_words := fun_of F10,
      b_Number_words := FunD.bindsN (ps := ["self"]) F10 fun _ _ _ _ _ _ us hl => match us, hl with | [_], _ => rfl,
      F_Box_words := fun_of F11,
      b_Box_words := FunD.bindsN (ps := ["self"]) F11 fun _ _ _ _ _ _ us hl => match us, hl with | [_], _ => rfl,
      F_Cell_words := fun_of F12,
      b_Cell_words := FunD.bindsN (ps := ["self"]) F12 fun _ _ _ _ _ _ us hl => match us, hl with | [_], _ => rfl,
      F_Two_words := fun_of F13,
      b_Two_words := FunD.bindsN (ps := ["self"]) F13 fun _ _ _ _ _ _ us hl => match us, hl with | [_], _ => rfl,
      F_Expr_parts := fun_of F14,
      b_Expr_parts := FunD.bindsN (ps := ["self"]) F14 fun _ _ _ _ _ _ us hl => match us, hl with | [_], _ => rfl,
      F_Cell_parts := fun_of F15,
      b_Cell_parts := FunD.bindsN (ps := ["self"]) F15 fun _ _ _ _ _ _ us hl => match us, hl with | [_], _ => rfl,
      F_Two_parts := fun_of F16,
      b_Two_parts := FunD.bindsN (ps := ["self"]) F16 fun _ _ _ _ _ _ us hl => match us, hl with | [_], _ => rfl,
      F_expr_at := fun_of F17,
      b_expr_at := FunD.bindsN (ps := ["row", "at", "deep"]) F17 fun _ _ _ _ _ _ us hl => match us, hl with | [_, _, _], _ => rfl,
      m_expr_at := He.glo_ok (x := "expr_at") X G (c.fact 2 rfl),
      F_exprs_of := fun_of F18,
      b_exprs_of := FunD.bindsN (ps := ["row"]) F18 fun _ _ _ _ _ _ us hl => match us, hl with | [_], _ => rfl,
      m_exprs_of := He.glo_ok (x := "exprs_of") X G (c.fact 3 rfl),
      F_read_expr := fun_of F19,
      b_read_expr := FunD.bindsN (ps := ["text"]) F19 fun _ _ _ _ _ _ us hl => match us, hl with | [_], _ => rfl,
      m_read_expr := He.glo_ok (x := "read_expr") X G (c.fact 4 rfl),
      F_l_cell := fun_of F20,
      b_l_cell := FunD.bindsN (ps := ["_law_script", "_law_k"]) F20 fun _ _ _ _ _ _ us hl => match us, hl with | [_, _], _ => rfl,
      m_l_cell := He.glo_ok (x := "_law_cell") X G (c.fact 5 rfl),
      F_l_mixed := fun_of F21,
      b_l_mixed := FunD.bindsN (ps := ["_law_cell_here", "_law_k"]) F21 fun _ _ _ _ _ _ us hl => match us, hl with | [_, _], _ => rfl,
      m_l_mixed := He.glo_ok (x := "_law_mixed") X G (c.fact 6 rfl),
      F_l_twice := fun_of F22,
      b_l_twice := FunD.bindsN (ps := ["_law_cell_here", "_law_k"]) F22 fun _ _ _ _ _ _ us hl => match us, hl with | [_, _], _ => rfl,
      m_l_twice := He.glo_ok (x := "_law_twice") X G (c.fact 7 rfl),
      F_l_well := fun_of F23,
      b_l_well := FunD.bindsN (ps := ["_law_script", "_law_k"]) F23 fun _ _ _ _ _ _ us hl => match us, hl with | [_, _], _ => rfl,
      m_l_well := He.glo_ok (x := "_law_well") X G (c.fact 8 rfl),
      F_l_draw := fun_of F24,
      b_l_draw := FunD.bindsN (ps := ["_law_well_here", "_law_most"]) F24 fun _ _ _ _ _ _ us hl => match us, hl with | [_, _], _ => rfl,
      m_l_draw := He.glo_ok (x := "_law_draw") X G (c.fact 9 rfl),
      F_l_value := fun_of F25,
      b_l_value := FunD.bindsN (ps := ["_law_well_here"]) F25 fun _ _ _ _ _ _ us hl => match us, hl with | [_], _ => rfl,
      m_l_value := He.glo_ok (x := "_law_value") X G (c.fact 10 rfl),
      F_l_name := fun_of F26,
      b_l_name := FunD.bindsN (ps := ["_law_well_here"]) F26 fun _ _ _ _ _ _ us hl => match us, hl with | [_], _ => rfl,
      m_l_name := He.glo_ok (x := "_law_name") X G (c.fact 11 rfl),
      F_l_parts := fun_of F27,
      b_l_parts := FunD.bindsN (ps := ["_law_told"]) F27 fun _ _ _ _ _ _ us hl => match us, hl with | [_], _ => rfl,
      m_l_parts := He.glo_ok (x := "_law_parts") X G (c.fact 12 rfl),
      F_l_expr := fun_of F28,
      b_l_expr := FunD.bindsN (ps := ["_law_well_here", "_law_deep", "_law_most"]) F28 fun _ _ _ _ _ _ us hl => match us, hl with | [_, _, _], _ => rfl,
      m_l_expr := He.glo_ok (x := "_law_expr") X G (c.fact 13 rfl),
      F_l_words_of := fun_of F29,
      b_l_words_of := FunD.bindsN (ps := ["_law_told"]) F29 fun _ _ _ _ _ _ us hl => match us, hl with | [_], _ => rfl,
      m_l_words_of := He.glo_ok (x := "_law_words_of") X G (c.fact 14 rfl),
      F_l_made := fun_of F30,
      b_l_made := FunD.bindsN (ps := ["_law_told"]) F30 fun _ _ _ _ _ _ us hl => match us, hl with | [_], _ => rfl,
      m_l_made := He.glo_ok (x := "_law_made") X G (c.fact 15 rfl),
      F_l_right := fun_of F31,
      b_l_right := FunD.bindsN (ps := ["_law_expr_here", "_law_told"]) F31 fun _ _ _ _ _ _ us hl => match us, hl with | [_, _], _ => rfl,
      m_l_right := He.glo_ok (x := "_law_right") X G (c.fact 16 rfl),
      F_law := fun_of F32,
      b_law := FunD.bindsN (ps := ["_law_script"]) F32 fun _ _ _ _ _ _ us hl => match us, hl with | [_], _ => rfl,
      m_law := He.glo_ok (x := "law") X G (c.fact 17 rfl),
      m_Number := He.glo_ok (x := "Number") X G (c.fact 18 rfl),
      cl_Number := He.cls_ok (x := "Number") (c.fact 19 rfl),
      mk_Number := (c.fact 20 rfl : PySem.W.makesIn K (He.ga K "Number") = true),
      n_Number_value := He.noat_ok (x := "Number") (f := "value") (c.fact 21 rfl),
      k_Number := He.mkr_ok (x := "Number") (c.fact 22 rfl),
      m_Box := He.glo_ok (x := "Box") X G (c.fact 23 rfl),
      cl_Box := He.cls_ok (x := "Box") (c.fact 24 rfl),
      mk_Box := (c.fact 25 rfl : PySem.W.makesIn K (He.ga K "Box") = true),
      n_Box_name := He.noat_ok (x := "Box") (f := "name") (c.fact 26 rfl),
      k_Box := He.mkr_ok (x := "Box") (c.fact 27 rfl),
      m_Cell := He.glo_ok (x := "Cell") X G (c.fact 28 rfl),
      cl_Cell := He.cls_ok (x := "Cell") (c.fact 29 rfl),
      mk_Cell := (c.fact 30 rfl : PySem.W.makesIn K (He.ga K "Cell") = true),
      n_Cell_inner := He.noat_ok (x := "Cell") (f := "inner") (c.fact 31 rfl),
      k_Cell := He.mkr_ok (x := "Cell") (c.fact 32 rfl),
      m_Two := He.glo_ok (x := "Two") X G (c.fact 33 rfl),
      cl_Two := He.cls_ok (x := "Two") (c.fact 34 rfl),
      mk_Two := (c.fact 35 rfl : PySem.W.makesIn K (He.ga K "Two") = true),
      n_Two_word := He.noat_ok (x := "Two") (f := "word") (c.fact 36 rfl),
      n_Two_left := He.noat_ok (x := "Two") (f := "left") (c.fact 37 rfl),
      n_Two_right := He.noat_ok (x := "Two") (f := "right") (c.fact 38 rfl),
      k_Two := He.mkr_ok (x := "Two") (c.fact 39 rfl),
      m_Expr := He.glo_ok (x := "Expr") X G (c.fact 40 rfl),
      cl_Expr := He.cls_ok (x := "Expr") (c.fact 41 rfl),
      mk_Expr := (c.fact 42 rfl : PySem.W.makesIn K (He.ga K "Expr") = true),
      me_Number_told := He.meth_ok (x := "Number") (m := "told") (c.fact 43 rfl),
      me_Box_told := He.meth_ok (x := "Box") (m := "told") (c.fact 44 rfl),
      me_Cell_told := He.meth_ok (x := "Cell") (m := "told") (c.fact 45 rfl),
      me_Two_told := He.meth_ok (x := "Two") (m := "told") (c.fact 46 rfl),
      me_Number_words := He.meth_ok (x := "Number") (m := "words") (c.fact 47 rfl),
      me_Box_words := He.meth_ok (x := "Box") (m := "words") (c.fact 48 rfl),
      me_Cell_words := He.meth_ok (x := "Cell") (m := "words") (c.fact 49 rfl),
      me_Two_words := He.meth_ok (x := "Two") (m := "words") (c.fact 50 rfl),
      me_Number_parts := (show Meth K (He.ga K "Number") "parts" (He.ma K (He.ga K "Expr") "parts") from of_decide_eq_true (c.fact 52 rfl) ▸ He.meth_ok (x := "Number") (m := "parts") (c.fact 51 rfl)),
      me_Box_parts := (show Meth K (He.ga K "Box") "parts" (He.ma K (He.ga K "Expr") "parts") from of_decide_eq_true (c.fact 54 rfl) ▸ He.meth_ok (x := "Box") (m := "parts") (c.fact 53 rfl)),
      me_Cell_parts := He.meth_ok (x := "Cell") (m := "parts") (c.fact 55 rfl),
      me_Two_parts := He.meth_ok (x := "Two") (m := "parts") (c.fact 56 rfl),
      m_PAIRS := He.glo_ok (x := "PAIRS") X G (c.fact 57 rfl),
      q_PAIRS := fun H => He.tupB_ok (x := "PAIRS") (vs := [.str "plus", .str "minus", .str "times", .str "over", .str "rest", .str "less", .str "same"]) (c.fact 58 rfl) H,
      m_ROWS := He.glo_ok (x := "ROWS") X G (c.fact 59 rfl),
      q_ROWS := fun H => He.tupB_ok (x := "ROWS") (vs := [.str "skip", .str "set", .str "put", .str "ask", .str "draw", .str "tell", .str "if", .str "while", .str "call"]) (c.fact 60 rfl) H,
      m_OTHERS := He.glo_ok (x := "OTHERS") X G (c.fact 61 rfl),
      q_OTHERS := fun H => He.tupB_ok (x := "OTHERS") (vs := [.str "else", .str "end", .str "fun", .str "main", .str "give", .str "cell"]) (c.fact 62 rfl) H,
      m_NoProgram := He.glo_ok (x := "NoProgram") X G (c.fact 64 rfl),
      x_NoProgram := (He.exc_ok (x := "NoProgram") (c.fact 63 rfl)).1,
      kk_NoProgram := (He.exc_ok (x := "NoProgram") (c.fact 63 rfl)).2.1,
      bb_NoProgram := (He.exc_ok (x := "NoProgram") (c.fact 63 rfl)).2.2.1,
      tt_NoProgram := (He.exc_ok (x := "NoProgram") (c.fact 63 rfl)).2.2.2,
      ne_num_box := of_decide_eq_true (c.fact 65 rfl),
      ne_num_cell := of_decide_eq_true (c.fact 66 rfl),
      ne_num_two := of_decide_eq_true (c.fact 67 rfl),
      ne_box_num := of_decide_eq_true (c.fact 68 rfl),
      ne_box_cell := of_decide_eq_true (c.fact 69 rfl),
      ne_box_two := of_decide_eq_true (c.fact 70 rfl),
      ne_cell_num := of_decide_eq_true (c.fact 71 rfl),
      ne_cell_box := of_decide_eq_true (c.fact 72 rfl),
      ne_cell_two := of_decide_eq_true (c.fact 73 rfl),
      ne_two_num := of_decide_eq_true (c.fact 74 rfl),
      ne_two_box := of_decide_eq_true (c.fact 75 rfl),
      ne_two_cell := of_decide_eq_true (c.fact 76 rfl),
      ga_Number := of_decide_eq_true (c.fact 77 rfl),
      gm_Number := of_decide_eq_true (c.fact 78 rfl),
      ge_Number := of_decide_eq_true (c.fact 79 rfl),
      ga_Box := of_decide_eq_true (c.fact 80 rfl),
      gm_Box := of_decide_eq_true (c.fact 81 rfl),
      ge_Box := of_decide_eq_true (c.fact 82 rfl),
      ga_Cell := of_decide_eq_true (c.fact 83 rfl),
      gm_Cell := of_decide_eq_true (c.fact 84 rfl),
      ge_Cell := of_decide_eq_true (c.fact 85 rfl),
      ga_Two := of_decide_eq_true (c.fact 86 rfl),
      gm_Two := of_decide_eq_true (c.fact 87 rfl),
      ge_Two := of_decide_eq_true (c.fact 88 rfl),
      g_n := of_decide_eq_true (c.fact 89 rfl),
      g_t := of_decide_eq_true (c.fact 90 rfl),
      c_LETTERS := He.str_ok (x := "LETTERS") X G (c.fact 91 rfl),
      c_FIGURES := He.str_ok (x := "FIGURES") X G (c.fact 92 rfl),
      c_MOST_DEEP := He.int_ok (x := "MOST_DEEP") X G (c.fact 93 rfl),
      c_MOST_PARTS := He.int_ok (x := "MOST_PARTS") X G (c.fact 94 rfl),
      z_str := He.free_ok (x := "str") X G (c.fact 95 rfl),
      z_isinstance := He.free_ok (x := "isinstance") X G (c.fact 96 rfl),
      z_len := He.free_ok (x := "len") X G (c.fact 97 rfl),
      z_all := He.free_ok (x := "all") X G (c.fact 98 rfl),
      z_int := He.free_ok (x := "int") X G (c.fact 99 rfl),
      z_range := He.free_ok (x := "range") X G (c.fact 100 rfl),
      z_sum := He.free_ok (x := "sum") X G (c.fact 101 rfl),
      z_tuple := He.free_ok (x := "tuple") X G (c.fact 102 rfl),
      z_bool := He.free_ok (x := "bool") X G (c.fact 103 rfl) }
  exact ⟨d32, fun s v => (FunD.bindsA (ps := ["_law_script"]) F32 fun _ _ _ _ _ _ us hl => match us, hl with | [_], _ => rfl) s [v] rfl, fun base _ _ => ok_law T⟩
end K01
open PySem PySem.W PySem.Calls PyProof.Rows
set_option maxRecDepth 100000 in
set_option maxHeartbeats 0 in
theorem PySem.Challenge.cw_hadbeen_k01_expressions_written_and_read_holds : PySem.Challenge.rw_hadbeen_k01_expressions_written_and_read.Holds := by
  w_on; o_law
  refine HandSHeadRun.head_any (r := OpenLaw.row PySem.Challenge.rw_hadbeen_k01_expressions_written_and_read) (q := view (OpenLaw.row PySem.Challenge.rw_hadbeen_k01_expressions_written_and_read).prog [35]) (H := K01.hk) (ob := K01.ob) (M := 4000) (loose := K01.loose) (d := HandSHeadRun.topDef (OpenLaw.row PySem.Challenge.rw_hadbeen_k01_expressions_written_and_read).prog 35) (kwd := []) K01.ob_eq
    (by kernel_rfl) (fun s => by kernel_rfl) K01.run (by kernel_rfl) (by kernel_rfl) (by kernel_rfl) (by rfl) (by first | assumption | decide +kernel) (by decide +kernel) ⟨rfl, rfl, rfl, rfl, rfl, by decide +kernel⟩ ?hw ?hc
  case hw => w_witness2
  case hc =>
    refine L2.walk_ofE (l := PySem.Challenge.rw_hadbeen_k01_expressions_written_and_read) (n := 63) (k := 19) (x := "_law_script") (CX := L2.CX0) rfl (by decide) (by kernel_rfl) ⟨rfl, by decide, by decide⟩ ?F (fun _ _ _ _ z => z)
    intro w mg fa h Y G hmg0
    obtain ⟨K, KX, c⟩ := Y
    have hmg : mg ("law" : PySem.Str) = some (.ref fa) := by
      have e : (HandSHeadRun.topDef (OpenLaw.row PySem.Challenge.rw_hadbeen_k01_expressions_written_and_read).prog 35).name = ("law" : PySem.Str) := by kernel_rfl
      rw [← e]
      exact hmg0
    obtain ⟨fd, hb, hF⟩ := K01.facts (P := (PySem.Challenge.rw_hadbeen_k01_expressions_written_and_read).prog) (w := w) KX G hmg c
    exact ⟨K, fd, K01.spLaw K, KX, hb, fun H a ns hl _ hS => ⟨a, ns, rfl, hS, hl, fun _ => rfl⟩, hF⟩
