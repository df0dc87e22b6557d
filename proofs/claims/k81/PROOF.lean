import PyProof.Rows.All
import Wide.All
import OpenK.AllK
import Wide.FinOn
import HandS.ForMost
import HandS.IsInst
import HandS.NoneIn
import HandS.ForExc
import HandS.Walk
import HandS.TupAny
import HandS.RaiseMore
import PyProof.StrLawsChain
import KE.IntTextText
import KE.KStateDown
import Lean
import HandS.More
import HandS.WordsExc
import HandS.Defaults
import HandS.Head0
import HandS.Head1
import HandS.Head2
import HandS.HeadEnd
import HandS.HeadHook1
import HandS.HeadHook2
import PySem.Challenge.RW_hadbeen_k81_books_as_texts
set_option Elab.async false
set_option maxRecDepth 100000
set_option maxHeartbeats 4000000
set_option linter.all false
namespace K81
open PySem L2 TL

theorem same_new {H : Hp} {p : Addr} {o : HO} (h : H p = none) : Same H (upd H p o) := fun b u q => by rw [upd_ne (ne_of_none q h)]; exact q
theorem iteDT {p A B : Prop} [Decidable p] (h : p) (a : A) : if decide p = true then A else B := by rw [decide_eq_true h]; exact iteT a
theorem iteDF {p A B : Prop} [Decidable p] (h : ¬ p) (b : B) : if decide p = true then A else B := by rw [decide_eq_false h]; exact iteF b
theorem iteNT {p A B : Prop} [Decidable p] (h : ¬ p) (a : A) : if (!decide p) = true then A else B := by rw [decide_eq_false h]; exact iteT a
theorem iteNF {p A B : Prop} [Decidable p] (h : p) (b : B) : if (!decide p) = true then A else B := by rw [decide_eq_true h]; exact iteF b
theorem iteD2 {p A B : Prop} [Decidable p] (h1 : p → A) (h2 : ¬ p → B) : if decide p = true then A else B := by
  by_cases h : p
  · exact iteDT h (h1 h)
  · exact iteDF h (h2 h)
theorem iteN2 {p A B : Prop} [Decidable p] (h1 : ¬ p → A) (h2 : p → B) : if (!decide p) = true then A else B := by
  by_cases h : p
  · exact iteNF h (h2 h)
  · exact iteNT h (h1 h)
theorem iteB2 {b : Bool} {A B : Prop} (h1 : b = true → A) (h2 : b = false → B) : if b = true then A else B := by
  cases b with
  | true => exact iteT (h1 rfl)
  | false => exact iteF (h2 rfl)
theorem vint_ne {i j : Int} (h : i ≠ j) : ¬ V.int i = V.int j := fun e => h (V.int.inj e)
theorem vstr_ne {i j : Str} (h : i ≠ j) : ¬ V.str i = V.str j := fun e => h (V.str.inj e)
/-- all that was tracked stands, but what is at p -/
def KeepX (p : Addr) (H H' : Hp) : Prop := ∀ q o, q ≠ p → H q = some o → H' q = some o
theorem KeepX.refl (p : Addr) (H : Hp) : KeepX p H H := fun _ _ _ h => h
theorem KeepX.trans {p : Addr} {H H1 H2 : Hp} (a : KeepX p H H1) (b : KeepX p H1 H2) : KeepX p H H2 := fun q o n h => b q o n (a q o n h)
theorem keepX_of {p : Addr} {H H' : Hp} (a : Same H H') : KeepX p H H' := fun q o _ h => a q o h
theorem keepX_upd {p : Addr} {H : Hp} {o : HO} : KeepX p H (upd H p o) := fun q u n h => by rw [upd_ne n]; exact h
theorem KeepX.seq {K : PySem.W.Frag} {H H' : Hp} {p a : Addr} {xs : List V} (e : KeepX p H H') (n : a ≠ p) (h : SqL K H a xs) : SqL K H' a xs := by
  rcases h with (h | ⟨o, h⟩) | h
  · exact .inl (.inl (e _ _ n h))
  · exact .inl (.inr ⟨o, e _ _ n h⟩)
  · exact .inr h
theorem same_tup {K : PySem.W.Frag} {H H' : Hp} {a : Addr} {xs : List V} (e : Same H H') (h : SqT K H a xs) : SqT K H' a xs := by
  rcases h with (h | ⟨o, h⟩) | h
  · exact .inl (.inl (e _ _ h))
  · exact .inl (.inr ⟨o, e _ _ h⟩)
  · exact .inr h
/-- what is new behind H -/
theorem KeepX.same {p : Addr} {H H' : Hp} (n : H p = none) (e : KeepX p H H') : Same H H' := fun q o h => e q o (ne_of_none h n) h
theorem none_before {H H' : Hp} {q : Addr} (s : Same H H') (h : H' q = none) : H q = none := by
  cases e : H q with
  | none => rfl
  | some o => have := s _ _ e; rw [h] at this; cases this
theorem none_keepX {p : Addr} {H H' : Hp} {q : Addr} (k : KeepX p H H') (n : q ≠ p) (h : H' q = none) : H q = none := by
  cases e : H q with
  | none => rfl
  | some o => have := k _ _ n e; rw [h] at this; cases this
/-- a def of which nothing is asked -/
theorem fn_none {P : Program} {w : World} {K : PySem.W.Frag} {mg : Str → Option Value} {base : Heap} {CX : CXT} {k : Nat} {f : Addr} {fd : FuncData} {ps : List Str} {sp : Sp} (no : ∀ vs H Q E, sp vs H Q E → False) : FnOk P w K mg base CX k f fd ps sp :=
  ⟨fun vs H Q E h => (no vs H Q E h).elim, fun A outer s H args us vs Q E _ _ _ _ h => (no vs H Q E h).elim⟩
theorem absV_rel {u : Value} {x : V} (h : absV u = some x) : RelV x u := by
  cases u <;> simp only [absV, Option.some.injEq, reduceCtorEq] at h <;> subst h <;> first | rfl | exact ⟨_, rfl⟩
theorem vals_of_absV : ∀ {us : List Value} {xs : List V}, us.map absV = xs.map some → Vals xs us
  | [], [], _ => .nil
  | [], _ :: _, h => by simp at h
  | _ :: _, [], h => by simp at h
  | u :: us, x :: xs, h => by
    rw [List.map_cons, List.map_cons, List.cons.injEq] at h
    exact .cons (absV_rel h.1) (vals_of_absV h.2)
theorem sqT_k {K : PySem.W.Frag} {H : Hp} {a : Addr} {xs : List V} {od : Option Addr} {its : Array Value} {n : Nat} {sl : Array (Option Value)} (l : K.lookup a = some ⟨.type "tuple", od, .seq its n, sl⟩) (w : its.toList.map absV = xs.map some) (z : xs.length ≤ sizeLine) : SqT K H a xs := by
  have v := vals_of_absV w
  have e := v.length
  refine .inr ⟨_, its, n, l, rfl, rfl, ?_, v⟩
  rw [← Array.length_toList, ← e]
  exact z
/-- the promise of one class's method -/
def Disp (P : Program) (w : World) (K : PySem.W.Frag) (mg : Str → Option Value) (base : Heap) (CX : CXT) (m : Str) (k : Nat) (C : Addr) (sp : Sp) : Prop :=
  ∃ f fd ps, Cls K C ∧ Meth K C m f ∧ FnOk P w K mg base CX k f fd ps sp ∧ Binds K fd ps []
/-- o.m(..) where o is an instance of one of some classes -/
def tMethP (Fam : Addr → Prop) (SP : Addr → Sp) (m : Str) (E : XK) (ta : TE) (t : TA) : TE := fun σ H Q => ta σ H fun x H1 => ∃ a C dx fs, x = .ref a ∧ H1 a = some (.ins C dx fs) ∧ fs.lookup m = none ∧ Fam C ∧
  t σ H1 fun vs H2 => SP C (x :: (vs ++ [])) H2 Q E
section
variable {X : Cx} {CX : CXT} {m : Str} {k : Nat} {Fam : Addr → Prop} {SP : Addr → Sp} {E : XK} {e o : Expr} {es : List Expr} {ta : TE} {t : TA} {pos apos : Pos}
theorem pe_methP {pl : Sem Bool} (he : PE X o ta) (D : ∀ C, Fam C → Disp X.prog X.w X.K X.mg X.base CX m k C (SP C)) (hr : Room k X.A) (hx : Passes CX X E) (ha : PA X (e :: es) t)
    (hst : starEach (e :: es) X.env = (false, eval e X.env) :: starEach es X.env := by rfl) (hpl : (backTo pos (starEach es X.env)).any (·.1) = false := by rfl)
    (ht : eval (.Call (.Attribute o m apos) (e :: es) [] pos) X.env = (do
      let ov ← eval o X.env
      standAt apos.atName
      let (f, first) ← holding [ov] (getMethod ov m pl)
      callWith pos f first (backTo pos (starEach (e :: es) X.env)) (backToKw pos (keywordEach [] X.env))) := by rfl) :
    PE X (.Call (.Attribute o m apos) (e :: es) [] pos) (tMethP Fam SP m E ta t) := by
  refine ⟨fun pins s σ H Q I h => ?_⟩
  refine PySem.W.methodCall_KW (pl := pl) (thn (he.run pins s σ H _ I h) fun u s1 ⟨x, H1, I1, rx, a, C, dx, fs, ex, ea, l, fam, q⟩ => ?_) ht
  subst ex
  obtain rfl : u = Value.ref a := rx
  obtain ⟨f, fd, ps, c, hm, F, hb⟩ := D C fam
  refine getmeth_ok I1 ea c hm l ?_
  refine PySem.W.callWith_K (first := [.ref a]) (h₀ := X.base) I.ok.mod.kin hm.kp (thn (ha.run pos pins s1 σ H1 _ I1 q) fun us s2 ⟨vs, H2, I2, r, q2⟩ => ⟨I2.kIn, ?_⟩) hst hpl
  exact run_fn (us := .ref a :: us) (vs := .ref a :: vs) F hr hb .nil hx I2 (.cons rfl r) q2
theorem pe_methP0 {pl : Sem Bool} (he : PE X o ta) (D : ∀ C, Fam C → Disp X.prog X.w X.K X.mg X.base CX m k C (SP C)) (hr : Room k X.A) (hx : Passes CX X E)
    (ht : eval (.Call (.Attribute o m apos) [] [] pos) X.env = (do
      let ov ← eval o X.env
      standAt apos.atName
      let (f, first) ← holding [ov] (getMethod ov m pl)
      callWith pos f first (backTo pos (starEach [] X.env)) (backToKw pos (keywordEach [] X.env))) := by rfl) :
    PE X (.Call (.Attribute o m apos) [] [] pos) (tMethP Fam SP m E ta tNil) := by
  refine ⟨fun pins s σ H Q I h => ?_⟩
  refine PySem.W.methodCall_KW (pl := pl) (thn (he.run pins s σ H _ I h) fun u s1 ⟨x, H1, I1, rx, a, C, dx, fs, ex, ea, l, fam, q⟩ => ?_) ht
  subst ex
  obtain rfl : u = Value.ref a := rx
  obtain ⟨f, fd, ps, c, hm, F, hb⟩ := D C fam
  refine getmeth_ok I1 ea c hm l ?_
  exact PySem.W.callWith_K0 (first := [.ref a]) I1.kIn hm.kp (run_fn (us := [.ref a]) (vs := [.ref a]) F hr hb .nil hx I1 (.cons rfl .nil) q)
end
theorem fresh_ne {H H' : Hp} {p q : Addr} {o : HO} (h : H p = some o) (n : H q = none) : q ≠ p := fun e => by rw [e, h] at n; cases n

def rTupOf (K : PySem.W.Frag) : List V → Hp → VK → Prop := fun xs H Q => ∃ p ys, xs = [.ref p] ∧ ((SqL K H p ys ∧ ∀ l, H l = none → Q (.ref l) (upd H l (.tup ys))) ∨ (SqT K H p ys ∧ Q (.ref p) H))
def rListOf (K : PySem.W.Frag) : List V → Hp → VK → Prop := fun xs H Q => ∃ p ys, xs = [.ref p] ∧ (SqL K H p ys ∨ SqT K H p ys) ∧ ∀ l, H l = none → Q (.ref l) (upd H l (.lst ys))
theorem call_tuple_ofK {X : Cx} : CallR X (.type "tuple") (rTupOf X.K) := call_tuple_of
theorem call_list_ofK {X : Cx} : CallR X (.type "list") (rListOf X.K) := call_list_of
theorem pi_tupK {X : Cx} {tg l : Expr} {tl : TE} (K : PySem.W.Frag) (hK : X.K = K) (hl : PE X l tl) : PI X tg l (iTup K tl) := by subst hK; exact pi_tup hl
theorem pi_listK {X : Cx} {tg l : Expr} {tl : TE} (K : PySem.W.Frag) (hK : X.K = K) (hl : PE X l tl) : PI X tg l (iList K tl) := by subst hK; exact pi_list hl
def rLenK (K : PySem.W.Frag) : List V → Hp → VK → Prop := fun xs H Q => ∃ p ys, xs = [.ref p] ∧ (SqL K H p ys ∨ SqT K H p ys) ∧ Q (.int ys.length) H
theorem call_lenK {X : Cx} : CallR X (.builtin "len") (rLenK X.K) := call_len_seq
/-- a choice whose test is reckoned ahead: b, and the heap behind it -/
def tIfC (c : TT) (t u : TS) : TS := fun D σ H => ∃ (b : Bool) (H1 : Hp), (∀ Z : Bool → Hp → Prop, Z b H1 → c σ H Z) ∧ (if b = true then t D σ H1 else u D σ H1)
theorem ps_ifC {X : Cx} {c : Expr} {a b : List Stmt} {tc : TT} {t u : TS} {pos : Pos} (hc : PT X c tc) (ha : PSs X a t) (hb : PSs X b u) : PS X (.If c a b pos) (tIfC tc t u) :=
  ⟨fun pins s σ H D I h => by
    obtain ⟨b, H1, h1, h2⟩ := h
    exact (ps_if hc ha hb).run pins s σ H D I (h1 _ h2)⟩
theorem zTrue {p : Prop} [Decidable p] {Z : Bool → Hp → Prop} {H : Hp} (h : Z (decide p) H) (q : p) : Z true H := by rw [decide_eq_true q] at h; exact h
theorem zFalse {p : Prop} [Decidable p] {Z : Bool → Hp → Prop} {H : Hp} (h : Z (decide p) H) (q : ¬ p) : Z false H := by rw [decide_eq_false q] at h; exact h

/-! the head's facts, by tests of one's own -/
abbrev FaM : Type := PySem.W.Frag → Bool
def obsM (fa : List FaM) (fn : List He.DefD) (K : PySem.W.Frag) : He.AlD := ((fa.all fun f => f K) && fn.all fun d => d.ok K, fn.map fun d => He.fnW K d.at_)
def SaysM (fa : List FaM) (fn : List He.DefD) (K : PySem.W.Frag) : Prop := obsM fa fn K = He.valD fn
def forceL {α : Type} : List Addr → (List Addr → α) → α
  | [], k => k []
  | a :: r, k => HandSHeadRun.frNat a fun a => forceL r fun r => k (a :: r)
theorem forceL_eq {α : Type} : ∀ (l : List Addr) (k : List Addr → α), forceL l k = k l
  | [], _ => rfl
  | a :: r, k => by
    show HandSHeadRun.frNat a (fun a => forceL r fun r => k (a :: r)) = _
    rw [HandSHeadRun.frNat_eq, forceL_eq r]
def nsOfM (g : Addr → Option Obj) (a : Addr) : List Addr := match g a with
  | some ⟨_, _, .cls cd, _⟩ => [cd.ns]
  | _ => []
def valsOfM (g : Addr → Option Obj) (a : Addr) : List Addr := match g a with
  | some ⟨_, _, .dict es _, _⟩ => es.toList.flatMap fun e => He.refV e.val
  | _ => []
def codeOfM (g : Addr → Option Obj) (a : Addr) : List Addr := match g a with
  | some ⟨_, _, .func fd, _⟩ => He.refV fd.code ++ (He.refV fd.defaults ++ He.refV fd.kwdefaults)
  | _ => []
/-- the module's names, the classes' own names, the functions' codes -/
def asM {α : Type} (names : List Str) (g : Addr → Option Obj) (k : List Addr → α) : α :=
  forceL (names.map (He.ga (He.frG g [mainGlobals]))) fun l1 => forceL (l1.flatMap (nsOfM g)) fun l2 => forceL (l2.flatMap (valsOfM g)) fun l3 => forceL ((l1 ++ l3).flatMap (codeOfM g)) fun l4 => k (mainGlobals :: (l1 ++ (l2 ++ (l3 ++ l4))))
def l1M (names : List Str) (g : Addr → Option Obj) : List Addr := names.map (He.ga (He.frG g [mainGlobals]))
def l2M (names : List Str) (g : Addr → Option Obj) : List Addr := (l1M names g).flatMap (nsOfM g)
def l3M (names : List Str) (g : Addr → Option Obj) : List Addr := (l2M names g).flatMap (valsOfM g)
def l4M (names : List Str) (g : Addr → Option Obj) : List Addr := (l1M names g ++ l3M names g).flatMap (codeOfM g)
theorem asM_eq {α : Type} (names : List Str) (g : Addr → Option Obj) : ∃ as : List Addr, ∀ k : List Addr → α, asM names g k = k as := by
  refine ⟨mainGlobals :: (l1M names g ++ (l2M names g ++ (l3M names g ++ l4M names g))), fun k => ?_⟩
  unfold asM
  rw [forceL_eq, forceL_eq, forceL_eq, forceL_eq]
  rfl
def obsMG (names : List Str) (fa : List FaM) (fn : List He.DefD) (g : Addr → Option Obj) : He.AlD := asM names g fun as => obsM fa fn (He.frG g as)
def hookM (names : List Str) (fa : List FaM) (fn : List He.DefD) : PySem.W.Hook where
  α := He.AlD
  obs := fun s => obsMG names fa fn s.heap.get?
  val := fun _ => He.valD fn
  says := fun _ h => ∃ K : PySem.W.Frag, K.In h ∧ SaysM fa fn K
  of := fun _ s e => by
    obtain ⟨as, ea⟩ := asM_eq (α := He.AlD) names s.heap.get?
    exact ⟨_, He.frG_in, (ea _).symm.trans e⟩
  keeps := fun _ _ _ ⟨K, hK, c⟩ k => ⟨K, PySem.W.Frag.In.keeps hK k, c⟩
theorem obsMG_eq {names : List Str} {fa : List FaM} {fn : List He.DefD} {g : Addr → Option Obj} {s : Shared} (h : ∀ a, g a = s.heap.get? a) : obsMG names fa fn g = (hookM names fa fn).obs s := by
  have e : g = s.heap.get? := funext h
  rw [e] <;> rfl
section
variable {fa : List FaM} {fn : List He.DefD} {K : PySem.W.Frag}
theorem SaysM.fact (c : SaysM fa fn K) (i : Nat) {f : FaM} (h : fa[i]? = some f) : f K = true := by
  have c1 := (He.ba (show ((fa.all fun f => f K) && fn.all fun d => d.ok K) = true from congrArg (fun z : He.AlD => z.1) c)).1
  exact List.all_eq_true.mp c1 f (List.mem_of_getElem? h)
theorem SaysM.def_ (c : SaysM fa fn K) (i : Nat) {d : He.DefD} (h : fn[i]? = some d) : ∃ fd, FunD K d.name d.qual d.params d.body d.scope (d.dvs K) (d.kws K) (He.fAd K d.at_) fd := by
  have c2 := (He.ba (show ((fa.all fun f => f K) && fn.all fun d => d.ok K) = true from congrArg (fun z : He.AlD => z.1) c)).2
  have e : fn.map (fun d => He.fnW K d.at_) = fn.map He.DefD.val := congrArg (fun z : He.AlD => z.2) c
  have e2 : (fn.map fun d => He.fnW K d.at_)[i]? = (fn.map He.DefD.val)[i]? := by rw [e]
  rw [List.getElem?_map, List.getElem?_map, h] at e2
  exact He.DefD.funD (Option.some.inj e2) (List.all_eq_true.mp c2 d (List.mem_of_getElem? h))
end
theorem fun_of {K : PySem.W.Frag} {x qual : Str} {st : Stmt} {f : Addr} {fd : FuncData} (F : FunD K x qual (defArgs st) (defBody st) (defScope st) [] [] f fd) : Fun K x qual st f fd := by
  obtain ⟨oc, od, dV, kV, doc, pm, an, cdv, ct, osl, rfl, lk, hcd, hD, hK⟩ := F.ex
  rcases hD with ⟨_, rfl⟩ | ⟨e, _⟩
  · exact ⟨⟨oc, od, kV, doc, pm, an, cdv, ct, osl, rfl, lk, hcd⟩, F.kp⟩
  · exact absurd rfl e

/-! ### words: values by their figures, names -/
def isLow (c : Nat) : Bool := decide (97 ≤ c) && decide (c ≤ 122)
def isDig (c : Nat) : Bool := decide (48 ≤ c) && decide (c ≤ 57)
theorem fig_mem (c : Nat) : decide (c ∈ (Str.ofString "0123456789").cps.toList) = isDig c := by
  have e : (Str.ofString "0123456789").cps.toList = [48, 49, 50, 51, 52, 53, 54, 55, 56, 57] := by decide +kernel
  rw [e]
  unfold isDig
  rw [Bool.eq_iff_iff]
  simp only [decide_eq_true_eq, Bool.and_eq_true, List.mem_cons, List.not_mem_nil, or_false]
  omega
theorem let_mem (c : Nat) : decide (c ∈ (Str.ofString "abcdefghijklmnopqrstuvwxyz").cps.toList) = isLow c := by
  have e : (Str.ofString "abcdefghijklmnopqrstuvwxyz").cps.toList = [97, 98, 99, 100, 101, 102, 103, 104, 105, 106, 107, 108, 109, 110, 111, 112, 113, 114, 115, 116, 117, 118, 119, 120, 121, 122] := by decide +kernel
  rw [e]
  unfold isLow
  rw [Bool.eq_iff_iff]
  simp only [decide_eq_true_eq, Bool.and_eq_true, List.mem_cons, List.not_mem_nil, or_false]
  omega
def PAIRW : List Str := ["plus", "minus", "times", "over", "rest", "less", "same"]
def ROWW : List Str := ["skip", "set", "put", "ask", "draw", "tell", "if", "while", "call"]
def OTHW : List Str := ["else", "end", "fun", "main", "give", "cell"]
def lenOk (s : Str) : Bool := decide (1 ≤ (tl s).length) && decide ((tl s).length ≤ 6)
def isValW (s : Str) : Bool := lenOk s && !((tl s).head? == some 48 && decide (s ≠ "0")) && (tl s).all isDig
def isNameW (s : Str) : Bool := lenOk s && !(decide (s ∈ PAIRW) || (decide (s ∈ ROWW) || decide (s ∈ OTHW))) && (tl s).all isLow
def valOf (s : Str) : Int := ((NumText.digitsVal (tl s) : Nat) : Int)
def numT (n : Int) : Str := Str.ofString (toString n)
theorem inV_str (s : Str) : ∀ l : List Str, inV (.str s) (l.map V.str) = decide (s ∈ l)
  | [] => by simp [inV]
  | x :: r => by
    have ih := inV_str s r
    unfold inV at ih ⊢
    rw [List.map_cons, List.any_cons, ih]
    have e : eqV (.str x) (.str s) = decide (s = x) := by
      show (x == s) = decide (s = x)
      by_cases h : s = x
      · subst h; simp
      · rw [decide_eq_false h]; exact beq_eq_false_iff_ne.mpr fun e => h e.symm
    rw [e]
    by_cases h : s = x <;> simp [h]
theorem digits_of_all {l : List Nat} (h : l.all isDig = true) : NumText.AllDigits l := fun c hc => by
  have := List.all_eq_true.mp h c hc
  unfold isDig at this
  simp only [Bool.and_eq_true, decide_eq_true_eq] at this
  exact this
theorem all_of_digits {l : List Nat} (h : NumText.AllDigits l) : l.all isDig = true := List.all_eq_true.mpr fun c hc => by
  have := h c hc
  unfold isDig
  simp only [Bool.and_eq_true, decide_eq_true_eq]
  exact this
theorem foldl_lt : ∀ (l : List Nat) (a : Nat), NumText.AllDigits l → l.foldl (fun acc c => acc * 10 + (c - 48)) a < (a + 1) * 10 ^ l.length
  | [], a, _ => by simp
  | c :: r, a, h => by
    have hc := h c List.mem_cons_self
    have ih := foldl_lt r (a * 10 + (c - 48)) fun d hd => h d (List.mem_cons_of_mem _ hd)
    have e : (a + 1) * 10 ^ (r.length + 1) = ((a + 1) * 10) * 10 ^ r.length := by rw [Nat.pow_succ, Nat.mul_comm (10 ^ r.length) 10, ← Nat.mul_assoc]
    rw [List.foldl_cons, List.length_cons, e]
    exact Nat.lt_of_lt_of_le ih (Nat.mul_le_mul_right _ (by omega))
theorem digitsVal_lt {l : List Nat} (h : NumText.AllDigits l) : NumText.digitsVal l < 10 ^ l.length := by
  have := foldl_lt l 0 h
  rw [Nat.zero_add, Nat.one_mul] at this
  exact this
theorem valW_parts {s : Str} (h : isValW s = true) : (1 ≤ (tl s).length ∧ (tl s).length ≤ 6) ∧ ((tl s).head? = some 48 → s = "0") ∧ NumText.AllDigits (tl s) := by
  unfold isValW lenOk at h
  simp only [Bool.and_eq_true, decide_eq_true_eq, Bool.not_eq_true', Bool.and_eq_false_iff, beq_eq_false_iff_ne, decide_eq_false_iff_not] at h
  obtain ⟨⟨⟨h1, h2⟩, h3⟩, h4⟩ := h
  refine ⟨⟨h1, h2⟩, fun e => ?_, digits_of_all h4⟩
  rcases h3 with h3 | h3
  · exact absurd e h3
  · exact Classical.not_not.mp h3
theorem valW_int {s : Str} (h : isValW s = true) : PySem.intText? s = some (valOf s) ∧ s.length ≤ 640 ∧ 0 ≤ valOf s ∧ valOf s < 1000000 := by
  obtain ⟨⟨h1, h2⟩, _, h4⟩ := valW_parts h
  have hl : s.length = (tl s).length := len_tl s
  refine ⟨PySem.intText_digits (x := s) h4 (fun e => ?_) (by omega), by omega, Int.natCast_nonneg _, ?_⟩
  · have e' : tl s = [] := e
    rw [e'] at h1; simp at h1
  · have := digitsVal_lt h4
    have p : 10 ^ (tl s).length ≤ 10 ^ 6 := Nat.pow_le_pow_right (by decide) h2
    unfold valOf
    omega
theorem numL_head : ∀ n : Nat, (numL n).head? = some 48 → n = 0 := by
  intro n
  induction n using Nat.strongRecOn with
  | _ n ih =>
    intro h
    by_cases c : n < 10
    · rw [numL_lt c] at h
      simp at h
      omega
    · rw [numL_step (by omega)] at h
      cases q : numL (n / 10) with
      | nil => exact absurd q (numL_ne _)
      | cons x r =>
        rw [q, List.cons_append, List.head?_cons] at h
        have := ih (n / 10) (by omega) (by rw [q, List.head?_cons]; exact h)
        omega
theorem tl_numT {n : Int} (h : 0 ≤ n) : tl (numT n) = numL n.toNat := by
  have e : n = ((n.toNat : Nat) : Int) := by omega
  unfold numT
  rw [e]
  exact tl_num _
theorem numT_valW {n : Int} (h0 : 0 ≤ n) (h1 : n < 1000000) : isValW (numT n) = true ∧ valOf (numT n) = n := by
  have et := tl_numT h0
  have hl : (numL n.toNat).length ≤ 6 := numL_len (by decide) (by omega)
  have hp : 1 ≤ (numL n.toNat).length := by
    cases q : numL n.toNat with
    | nil => exact absurd q (numL_ne _)
    | cons x r => simp
  refine ⟨?_, ?_⟩
  · unfold isValW lenOk
    rw [et]
    simp only [Bool.and_eq_true, decide_eq_true_eq, Bool.not_eq_true', Bool.and_eq_false_iff, beq_eq_false_iff_ne, decide_eq_false_iff_not]
    refine ⟨⟨⟨hp, hl⟩, ?_⟩, all_of_digits (numL_digits _)⟩
    by_cases c : (numL n.toNat).head? = some 48
    · have z := numL_head _ c
      right
      have : n = 0 := by omega
      subst this
      exact fun e => e (by decide +kernel)
    · exact .inl c
  · unfold valOf
    rw [et, numL_val]
    omega
theorem numT_inj {m n : Int} (hm : 0 ≤ m) (hn : 0 ≤ n) (e : numT m = numT n) : m = n := by
  have e' := congrArg tl e
  rw [tl_numT hm, tl_numT hn] at e'
  have := numL_inj e'
  omega
theorem toDigits_digitsVal' {l : List Nat} (h : NumText.AllDigits l) (h1 : 1 ≤ l.length) (c : ¬ l.head? = some 48) : numL (NumText.digitsVal l) = l := by
  unfold numL
  rw [NumText.toDigits_digitsVal (l.length - 1) l (by omega) h (Or.inr ?_), List.map_map]
  · conv => rhs; rw [← List.map_id l]
    refine List.map_congr_left fun d hd => ?_
    have hd' := h d hd
    show (Char.ofNat d).toNat = d
    obtain ⟨a, b⟩ := hd'
    have : ∀ k, k < 10 → (Char.ofNat (48 + k)).toNat = 48 + k := by decide
    have e : d = 48 + (d - 48) := by omega
    rw [e]
    exact this _ (by omega)
  · cases l with
    | nil => simp at h1
    | cons x r =>
      refine ⟨x, r, rfl, ?_⟩
      have := h x List.mem_cons_self
      have : x ≠ 48 := fun e => c (by rw [e]; rfl)
      omega
theorem valW_canon {s : Str} (h : isValW s = true) : numT (valOf s) = s := by
  obtain ⟨⟨h1, h2⟩, h3, h4⟩ := valW_parts h
  refine ext_tl ?_
  rw [tl_numT (valW_int h).2.2.1]
  show numL ((NumText.digitsVal (tl s) : Nat) : Int).toNat = tl s
  rw [Int.toNat_natCast]
  by_cases c : (tl s).head? = some 48
  · rw [h3 c]; decide +kernel
  · have key := toDigits_digitsVal' h4 h1 c
    exact key
theorem nameW_parts {s : Str} (h : isNameW s = true) : (1 ≤ (tl s).length ∧ (tl s).length ≤ 6) ∧ s ∉ PAIRW ∧ s ∉ ROWW ∧ s ∉ OTHW ∧ ∀ c ∈ tl s, 97 ≤ c ∧ c ≤ 122 := by
  unfold isNameW lenOk at h
  simp only [Bool.and_eq_true, decide_eq_true_eq, Bool.not_eq_true', Bool.or_eq_false_iff, decide_eq_false_iff_not] at h
  obtain ⟨⟨⟨h1, h2⟩, h3, h5, h6⟩, h4⟩ := h
  refine ⟨⟨h1, h2⟩, h3, h5, h6, fun c hc => ?_⟩
  have := List.all_eq_true.mp h4 c hc
  unfold isLow at this
  simp only [Bool.and_eq_true, decide_eq_true_eq] at this
  exact this
theorem name_not_val {s : Str} (h : isNameW s = true) : isValW s = false := by
  obtain ⟨⟨h1, _⟩, _, _, _, h4⟩ := nameW_parts h
  cases c : isValW s with
  | false => rfl
  | true =>
    obtain ⟨_, _, h5⟩ := valW_parts c
    cases q : tl s with
    | nil => rw [q] at h1; simp at h1
    | cons x r =>
      have a1 := h4 x (by rw [q]; exact List.mem_cons_self)
      have a2 := h5 x (by rw [q]; exact List.mem_cons_self)
      omega
theorem val_free {s : Str} {c : Nat} (h : isValW s = true) (hc : c < 48 ∨ 57 < c) : c ∉ tl s := fun hm => by
  obtain ⟨_, _, h5⟩ := valW_parts h
  have a2 := h5 c hm
  omega
theorem name_free {s : Str} {c : Nat} (h : isNameW s = true) (hc : c < 97 ∨ 122 < c) : c ∉ tl s := fun hm => by
  obtain ⟨_, _, _, _, h4⟩ := nameW_parts h
  have a1 := h4 c hm
  omega
theorem pair_free : ∀ s ∈ PAIRW, ∀ c ∈ tl s, 97 ≤ c ∧ c ≤ 122 := by decide +kernel
theorem pair_not_val : ∀ s ∈ PAIRW, isValW s = false ∧ isNameW s = false ∧ s ≠ "cell" ∧ (tl s).length ≤ 6 := by decide +kernel
theorem cell_not : isValW "cell" = false ∧ isNameW "cell" = false := by decide +kernel
/-! ### expressions -/
inductive Ex where
  | num (n : Int)
  | box (s : Str)
  | cell (e : Ex)
  | two (w : Str) (l r : Ex)
namespace Ex
def depth : Ex → Nat
  | num _ => 1
  | box _ => 1
  | cell e => e.depth + 1
  | two _ l r => max l.depth r.depth + 1
def parts : Ex → Nat
  | num _ => 1
  | box _ => 1
  | cell e => 1 + e.parts
  | two _ l r => 1 + l.parts + r.parts
def toks : Ex → List Str
  | num n => [numT n]
  | box s => [s]
  | cell e => "cell" :: e.toks
  | two w l r => w :: (l.toks ++ r.toks)
def Wf : Ex → Prop
  | num n => 0 ≤ n ∧ n < 1000000
  | box s => isNameW s = true
  | cell e => e.Wf
  | two w l r => w ∈ PAIRW ∧ l.Wf ∧ r.Wf
def told : Ex → PyData
  | num n => .tuple [.str "number", .int n]
  | box s => .tuple [.str "box", .str s]
  | cell e => .tuple [.str "cell", e.told]
  | two w l r => .tuple [.str w, l.told, r.told]
theorem depth_pos : ∀ e : Ex, 1 ≤ e.depth
  | num _ => Nat.le_refl 1
  | box _ => Nat.le_refl 1
  | cell _ => Nat.le_add_left _ _
  | two _ _ _ => Nat.le_add_left _ _
theorem parts_pos : ∀ e : Ex, 1 ≤ e.parts
  | num _ => Nat.le_refl 1
  | box _ => Nat.le_refl 1
  | cell _ => Nat.le_add_right _ _
  | two _ _ _ => Nat.le_trans (Nat.le_add_right 1 _) (Nat.le_add_right _ _)
theorem toks_len : ∀ e : Ex, e.toks.length = e.parts
  | num _ => rfl
  | box _ => rfl
  | cell e => by show e.toks.length + 1 = 1 + e.parts; rw [toks_len e]; omega
  | two w l r => by
    show (l.toks ++ r.toks).length + 1 = 1 + l.parts + r.parts
    rw [List.length_append, toks_len l, toks_len r]; omega
theorem parts_depth : ∀ e : Ex, e.depth ≤ e.parts
  | num _ => Nat.le_refl 1
  | box _ => Nat.le_refl 1
  | cell e => by have := parts_depth e; show e.depth + 1 ≤ 1 + e.parts; omega
  | two w l r => by have := parts_depth l; have := parts_depth r; show max l.depth r.depth + 1 ≤ 1 + l.parts + r.parts; omega
theorem toks_ok : ∀ {e : Ex}, e.Wf → ∀ s ∈ e.toks, (tl s).length ≤ 6 ∧ ∀ c ∈ tl s, (48 ≤ c ∧ c ≤ 57) ∨ (97 ≤ c ∧ c ≤ 122)
  | num n, h, s, hs => by
    rw [List.mem_singleton.mp hs]
    obtain ⟨⟨_, h2⟩, _, h4⟩ := valW_parts (numT_valW h.1 h.2).1
    exact ⟨h2, fun c hc => .inl (h4 c hc)⟩
  | box b, h, s, hs => by
    rw [List.mem_singleton.mp hs]
    obtain ⟨⟨_, h2⟩, _, _, _, h4⟩ := nameW_parts h
    exact ⟨h2, fun c hc => .inr (h4 c hc)⟩
  | cell e, h, s, hs => by
    rcases List.mem_cons.mp hs with rfl | hs
    · exact ⟨by decide +kernel, fun c hc => .inr ((by decide +kernel : ∀ c ∈ tl (Str.ofString "cell"), 97 ≤ c ∧ c ≤ 122) c hc)⟩
    · exact toks_ok (e := e) h s hs
  | two w l r, h, s, hs => by
    rcases List.mem_cons.mp hs with rfl | hs
    · exact ⟨(pair_not_val _ h.1).2.2.2, fun c hc => .inr (pair_free _ h.1 c hc)⟩
    · rcases List.mem_append.mp hs with hs | hs
      · exact toks_ok (e := l) h.2.1 s hs
      · exact toks_ok (e := r) h.2.2 s hs
end Ex
/-- the expression that begins the words, of at most so many parts within one another; what is behind it -/
def parseE : Nat → List Str → Option (Ex × List Str)
  | 0, _ => none
  | _ + 1, [] => none
  | d + 1, w :: r =>
    if isValW w = true then some (.num (valOf w), r)
    else if isNameW w = true then some (.box w, r)
    else if w = "cell" then (match parseE d r with
      | none => none
      | some (e, r1) => some (.cell e, r1))
    else if w ∈ PAIRW then (match parseE d r with
      | none => none
      | some (l, r1) => (match parseE d r1 with
        | none => none
        | some (e, r2) => some (.two w l e, r2)))
    else none
theorem parse_toks : ∀ {d : Nat} {e : Ex}, e.Wf → e.depth ≤ d → ∀ r, parseE d (e.toks ++ r) = some (e, r)
  | 0, e, _, hd, _ => absurd (e.depth_pos) (by omega)
  | d + 1, .num n, h, _, r => by
    have q := numT_valW h.1 h.2
    show parseE (d + 1) (numT n :: r) = _
    unfold parseE
    rw [if_pos q.1, q.2]
  | d + 1, .box s, h, _, r => by
    show parseE (d + 1) (s :: r) = _
    unfold parseE
    rw [if_neg (by rw [name_not_val h]; decide), if_pos (show isNameW s = true from h)]
  | d + 1, .cell e, h, hd, r => by
    show parseE (d + 1) ("cell" :: (e.toks ++ r)) = _
    unfold parseE
    rw [if_neg (by rw [cell_not.1]; decide), if_neg (by rw [cell_not.2]; decide), if_pos rfl, parse_toks (d := d) (e := e) h (by have : e.depth + 1 ≤ d + 1 := hd; omega) r]
  | d + 1, .two w l e, h, hd, r => by
    obtain ⟨hw, hl, he⟩ := h
    have hd' : max l.depth e.depth + 1 ≤ d + 1 := hd
    obtain ⟨q1, q2, q3, _⟩ := pair_not_val w hw
    show parseE (d + 1) (w :: ((l.toks ++ e.toks) ++ r)) = _
    unfold parseE
    rw [if_neg (by rw [q1]; decide), if_neg (by rw [q2]; decide), if_neg q3, if_pos hw, List.append_assoc, parse_toks (d := d) hl (by omega) (e.toks ++ r)]
    show (match parseE d (e.toks ++ r) with | none => none | some (e, r2) => some (Ex.two w l e, r2)) = _
    rw [parse_toks (d := d) he (by omega) r]
theorem parse_wf : ∀ {d : Nat} {ws : List Str} {e : Ex} {r : List Str}, parseE d ws = some (e, r) → e.Wf ∧ e.depth ≤ d ∧ ws = e.toks ++ r
  | 0, _, _, _, h => by simp [parseE] at h
  | _ + 1, [], _, _, h => by simp [parseE] at h
  | d + 1, w :: t, e, r, h => by
    unfold parseE at h
    by_cases c1 : isValW w = true
    · rw [if_pos c1] at h
      cases h
      obtain ⟨_, _, h3, h4⟩ := valW_int c1
      exact ⟨⟨h3, h4⟩, Nat.le_add_left _ _, by show w :: t = [numT (valOf w)] ++ t; rw [valW_canon c1]; rfl⟩
    rw [if_neg c1] at h
    by_cases c2 : isNameW w = true
    · rw [if_pos c2] at h
      cases h
      exact ⟨c2, Nat.le_add_left _ _, rfl⟩
    rw [if_neg c2] at h
    by_cases c3 : w = "cell"
    · rw [if_pos c3] at h
      cases q : parseE d t with
      | none => rw [q] at h; cases h
      | some p =>
        obtain ⟨e1, r1⟩ := p
        rw [q] at h
        cases h
        obtain ⟨a1, a2, a3⟩ := parse_wf q
        exact ⟨a1, Nat.succ_le_succ a2, by rw [c3, a3]; rfl⟩
    rw [if_neg c3] at h
    by_cases c4 : w ∈ PAIRW
    · rw [if_pos c4] at h
      cases q : parseE d t with
      | none => rw [q] at h; cases h
      | some p =>
        obtain ⟨e1, r1⟩ := p
        rw [q] at h
        simp only at h
        cases q2 : parseE d r1 with
        | none => rw [q2] at h; cases h
        | some p2 =>
          obtain ⟨e2, r2⟩ := p2
          rw [q2] at h
          cases h
          obtain ⟨a1, a2, a3⟩ := parse_wf q
          obtain ⟨b1, b2, b3⟩ := parse_wf q2
          exact ⟨⟨c4, a1, b1⟩, by show max e1.depth e2.depth + 1 ≤ d + 1; omega, by rw [a3, b3]; show _ = w :: (e1.toks ++ e2.toks) ++ r; rw [List.cons_append, List.append_assoc]⟩
    · rw [if_neg c4] at h; cases h
/-- all the expressions of a row of words -/
def parseAll : Nat → List Str → Option (List Ex)
  | _, [] => some []
  | 0, _ :: _ => none
  | n + 1, ws => match parseE 6 ws with
    | none => none
    | some (e, r) => if e.parts ≤ 15 then (match parseAll n r with
      | none => none
      | some es => some (e :: es)) else none

/-! ### objects -/
structure EC where
  num : Addr
  box : Addr
  cell : Addr
  two : Addr
def EC.Fam (c : EC) (C : Addr) : Prop := C = c.num ∨ C = c.box ∨ C = c.cell ∨ C = c.two
def EC.of (c : EC) : Ex → Addr
  | .num _ => c.num
  | .box _ => c.box
  | .cell _ => c.cell
  | .two _ _ _ => c.two
theorem EC.fam (c : EC) : ∀ e : Ex, c.Fam (c.of e)
  | .num _ => .inl rfl
  | .box _ => .inr (.inl rfl)
  | .cell _ => .inr (.inr (.inl rfl))
  | .two _ _ _ => .inr (.inr (.inr rfl))
def fNum (n : Int) : List (Str × V) := [("value", .int n)]
def fBox (s : Str) : List (Str × V) := [("name", .str s)]
def fCell (i : V) : List (Str × V) := [("inner", i)]
def fTwo (w : Str) (a b : V) : List (Str × V) := [("word", .str w), ("left", a), ("right", b)]
/-- v is an object of the expression e -/
def ObjE (c : EC) (H : Hp) : Ex → V → Prop
  | .num n, v => ∃ p dx, v = .ref p ∧ H p = some (.ins c.num dx (fNum n))
  | .box s, v => ∃ p dx, v = .ref p ∧ H p = some (.ins c.box dx (fBox s))
  | .cell e, v => ∃ p dx i, v = .ref p ∧ H p = some (.ins c.cell dx (fCell i)) ∧ ObjE c H e i
  | .two w l r, v => ∃ p dx a b, v = .ref p ∧ H p = some (.ins c.two dx (fTwo w a b)) ∧ ObjE c H l a ∧ ObjE c H r b
theorem ObjE.same {c : EC} {H H' : Hp} (s : Same H H') : ∀ {e : Ex} {v : V}, ObjE c H e v → ObjE c H' e v
  | .num n, v, ⟨p, dx, h1, h2⟩ => ⟨p, dx, h1, s _ _ h2⟩
  | .box n, v, ⟨p, dx, h1, h2⟩ => ⟨p, dx, h1, s _ _ h2⟩
  | .cell e, v, ⟨p, dx, i, h1, h2, h3⟩ => ⟨p, dx, i, h1, s _ _ h2, ObjE.same s h3⟩
  | .two w l r, v, ⟨p, dx, a, b, h1, h2, h3, h4⟩ => ⟨p, dx, a, b, h1, s _ _ h2, ObjE.same s h3, ObjE.same s h4⟩
abbrev exMeth (m : Str) : Prop := m ∈ (["told", "words", "parts", "levels", "reckon"] : List Str)
theorem look_none {m : Str} (h : exMeth m) : (∀ n, (fNum n).lookup m = none) ∧ (∀ s, (fBox s).lookup m = none) ∧ (∀ i, (fCell i).lookup m = none) ∧ (∀ w a b, (fTwo w a b).lookup m = none) := by
  have n : ∀ k ∈ (["value", "name", "inner", "word", "left", "right"] : List Str), (m == k) = false := by
    intro k hk
    have : ∀ x ∈ (["told", "words", "parts", "levels", "reckon"] : List Str), ∀ y ∈ (["value", "name", "inner", "word", "left", "right"] : List Str), (x == y) = false := by decide +kernel
    exact this m h k hk
  refine ⟨fun z => ?_, fun z => ?_, fun z => ?_, fun w a b => ?_⟩
  · show (match m == "value" with | true => some (V.int z) | false => none) = none
    rw [n "value" (by decide +kernel)]
  · show (match m == "name" with | true => some (V.str z) | false => none) = none
    rw [n "name" (by decide +kernel)]
  · show (match m == "inner" with | true => some z | false => none) = none
    rw [n "inner" (by decide +kernel)]
  · unfold fTwo
    rw [List.lookup_cons, n "word" (by decide +kernel)]
    simp only
    rw [List.lookup_cons, n "left" (by decide +kernel)]
    simp only
    rw [List.lookup_cons, n "right" (by decide +kernel)]
    rfl
theorem ObjE.at {c : EC} {H : Hp} {m : Str} (hm : exMeth m) : ∀ {e : Ex} {v : V}, ObjE c H e v → ∃ p dx fs, v = .ref p ∧ H p = some (.ins (c.of e) dx fs) ∧ fs.lookup m = none
  | .num n, v, ⟨p, dx, h1, h2⟩ => ⟨p, dx, _, h1, h2, (look_none hm).1 _⟩
  | .box n, v, ⟨p, dx, h1, h2⟩ => ⟨p, dx, _, h1, h2, (look_none hm).2.1 _⟩
  | .cell e, v, ⟨p, dx, i, h1, h2, h3⟩ => ⟨p, dx, _, h1, h2, (look_none hm).2.2.1 _⟩
  | .two w l r, v, ⟨p, dx, a, b, h1, h2, h3, h4⟩ => ⟨p, dx, _, h1, h2, (look_none hm).2.2.2 _ _ _⟩
/-! ### data told -/
theorem dp_same {K : PySem.W.Frag} {H H' : Hp} (s : Same H H') {v : V} {d : PyData} (h : Dp K H v d) : Dp K H' v d := by
  refine Dp.rec (motive_1 := fun v d _ => Dp K H' v d) (motive_2 := fun vs ds _ => DpAll K H' vs ds) ?_ ?_ ?_ ?_ ?_ ?_ ?_ ?_ h
  · exact .non
  · exact fun b => .bl b
  · exact fun i => .int i
  · exact fun x => .str x
  · exact fun h1 _ h2 => .lst (s.seq h1) h2
  · exact fun h1 _ h2 => .tup (same_tup s h1) h2
  · exact .nil
  · exact fun _ _ h1 h2 => .cons h1 h2
theorem dpAll_same {K : PySem.W.Frag} {H H' : Hp} (s : Same H H') : ∀ {vs : List V} {ds : List PyData}, DpAll K H vs ds → DpAll K H' vs ds
  | _, _, .nil => .nil
  | _, _, .cons a b => .cons (dp_same s a) (dpAll_same s b)
/-- v is told data, a tuple that stands by itself -/
def TupD (K : PySem.W.Frag) (H : Hp) (v : V) (ds : List PyData) : Prop := ∃ t xs, v = .ref t ∧ H t = some (.tup xs) ∧ DpAll K H xs ds
theorem TupD.dp {K : PySem.W.Frag} {H : Hp} {v : V} {ds : List PyData} (h : TupD K H v ds) : Dp K H v (.tuple ds) := by
  obtain ⟨t, xs, rfl, h1, h2⟩ := h
  exact .tup (SqT.of h1) h2
theorem TupD.same {K : PySem.W.Frag} {H H' : Hp} (s : Same H H') {v : V} {ds : List PyData} (h : TupD K H v ds) : TupD K H' v ds := by
  obtain ⟨t, xs, rfl, h1, h2⟩ := h
  exact ⟨t, xs, rfl, s _ _ h1, dpAll_same s h2⟩
def Ex.items : Ex → List PyData
  | .num n => [.str "number", .int n]
  | .box s => [.str "box", .str s]
  | .cell e => [.str "cell", e.told]
  | .two w l r => [.str w, l.told, r.told]
theorem Ex.told_items : ∀ e : Ex, e.told = .tuple e.items
  | .num _ => rfl
  | .box _ => rfl
  | .cell _ => rfl
  | .two _ _ _ => rfl
/-- v is the told tuple of e: each inner tuple stands by itself -/
def ToldE (K : PySem.W.Frag) (H : Hp) : Ex → V → Prop
  | .num n, v => ∃ t, v = .ref t ∧ H t = some (.tup [.str "number", .int n])
  | .box s, v => ∃ t, v = .ref t ∧ H t = some (.tup [.str "box", .str s])
  | .cell e, v => ∃ t i, v = .ref t ∧ H t = some (.tup [.str "cell", i]) ∧ ToldE K H e i
  | .two w l r, v => ∃ t a b, v = .ref t ∧ H t = some (.tup [.str w, a, b]) ∧ ToldE K H l a ∧ ToldE K H r b
theorem ToldE.same {K : PySem.W.Frag} {H H' : Hp} (s : Same H H') : ∀ {e : Ex} {v : V}, ToldE K H e v → ToldE K H' e v
  | .num n, v, ⟨p, h1, h2⟩ => ⟨p, h1, s _ _ h2⟩
  | .box n, v, ⟨p, h1, h2⟩ => ⟨p, h1, s _ _ h2⟩
  | .cell e, v, ⟨p, i, h1, h2, h3⟩ => ⟨p, i, h1, s _ _ h2, ToldE.same s h3⟩
  | .two w l r, v, ⟨p, a, b, h1, h2, h3, h4⟩ => ⟨p, a, b, h1, s _ _ h2, ToldE.same s h3, ToldE.same s h4⟩
theorem ToldE.dp {K : PySem.W.Frag} {H : Hp} : ∀ {e : Ex} {v : V}, ToldE K H e v → Dp K H v e.told
  | .num n, v, ⟨p, h1, h2⟩ => by rw [h1]; exact .tup (SqT.of h2) (.cons (.str _) (.cons (.int _) .nil))
  | .box n, v, ⟨p, h1, h2⟩ => by rw [h1]; exact .tup (SqT.of h2) (.cons (.str _) (.cons (.str _) .nil))
  | .cell e, v, ⟨p, i, h1, h2, h3⟩ => by rw [h1]; exact .tup (SqT.of h2) (.cons (.str _) (.cons (ToldE.dp h3) .nil))
  | .two w l r, v, ⟨p, a, b, h1, h2, h3, h4⟩ => by rw [h1]; exact .tup (SqT.of h2) (.cons (.str _) (.cons (ToldE.dp h3) (.cons (ToldE.dp h4) .nil)))
theorem ToldE.ref {K : PySem.W.Frag} {H : Hp} : ∀ {e : Ex} {v : V}, ToldE K H e v → ∃ t xs, v = .ref t ∧ H t = some (.tup xs)
  | .num n, v, ⟨p, h1, h2⟩ => ⟨p, _, h1, h2⟩
  | .box n, v, ⟨p, h1, h2⟩ => ⟨p, _, h1, h2⟩
  | .cell e, v, ⟨p, i, h1, h2, h3⟩ => ⟨p, _, h1, h2⟩
  | .two w l r, v, ⟨p, a, b, h1, h2, h3, h4⟩ => ⟨p, _, h1, h2⟩
theorem strOk_of {s : Str} (h : ∀ c ∈ tl s, c ≤ 122) : PyData.strOk s = true := by
  unfold PyData.strOk
  rw [← Array.all_toList]
  refine List.all_eq_true.mpr fun c hc => ?_
  have := h c hc
  simp only [decide_eq_true_eq]
  omega
theorem Ex.lay : ∀ {e : Ex}, e.Wf → e.told.canLay0 = true
  | .num n, _ => by
    show (PyData.strOk _ && (true && true)) = true
    rw [strOk_of (by decide +kernel)]; rfl
  | .box s, h => by
    obtain ⟨_, _, _, _, h4⟩ := nameW_parts (s := s) h
    show (PyData.strOk _ && (PyData.strOk s && true)) = true
    rw [strOk_of (by decide +kernel), strOk_of fun c hc => (h4 c hc).2]; rfl
  | .cell e, h => by
    have ih := Ex.lay (e := e) h
    show (PyData.strOk _ && (e.told.canLay0 && true)) = true
    rw [strOk_of (by decide +kernel), ih]; rfl
  | .two w l r, h => by
    have h1 := Ex.lay (e := l) h.2.1
    have h2 := Ex.lay (e := r) h.2.2
    show (PyData.strOk w && (l.told.canLay0 && (r.told.canLay0 && true))) = true
    rw [strOk_of fun c hc => (pair_free w h.1 c hc).2, h1, h2]; rfl
theorem Ex.told_depth : ∀ e : Ex, e.told.depth ≤ e.depth
  | .num _ => by show max 0 (max 0 0) + 1 ≤ 1; omega
  | .box _ => by show max 0 (max 0 0) + 1 ≤ 1; omega
  | .cell e => by
    have := Ex.told_depth e
    show max 0 (max e.told.depth 0) + 1 ≤ e.depth + 1; omega
  | .two w l r => by
    have := Ex.told_depth l
    have := Ex.told_depth r
    show max 0 (max l.told.depth (max r.told.depth 0)) + 1 ≤ max l.depth r.depth + 1; omega
theorem Ex.shaped {e : Ex} (h : e.Wf) (hd : e.depth ≤ 60) : SeqAt.shaped e.told = true := by
  have h1 := Ex.lay h
  have h2 := Ex.told_depth e
  show (e.told.canLay0 && decide (e.told.depth ≤ 64)) = true
  rw [h1, decide_eq_true (by omega)]; rfl
theorem Ex.eqv {e : Ex} (h : e.Wf) : PyData.eqv e.told e.told = true := SeqAt.eqv_refl _ (Ex.lay h)
/-! ### texts -/
def Ex.text : Ex → Str
  | .num n => numT n
  | .box s => s
  | .cell e => (Str.ofString "cell ") ++ e.text
  | .two w l r => Txt.join (Str.ofString " ") [w, l.text, r.text]
theorem Ex.text_len : ∀ {e : Ex}, e.Wf → e.text.length + 1 ≤ 7 * e.parts
  | .num n, h => by
    have := Ex.toks_ok (e := .num n) h (numT n) (List.mem_singleton.mpr rfl)
    show (numT n).length + 1 ≤ 7 * 1
    rw [len_tl]; omega
  | .box s, h => by
    have := Ex.toks_ok (e := .box s) h s (List.mem_singleton.mpr rfl)
    show s.length + 1 ≤ 7 * 1
    rw [len_tl]; omega
  | .cell e, h => by
    have ih := Ex.text_len (e := e) h
    show (Str.ofString "cell " ++ e.text).length + 1 ≤ 7 * (1 + e.parts)
    rw [len_tl, tl_append, List.length_append]
    have : (tl (Str.ofString "cell ")).length = 5 := by decide +kernel
    rw [len_tl] at ih
    omega
  | .two w l r, h => by
    have h1 := Ex.text_len (e := l) h.2.1
    have h2 := Ex.text_len (e := r) h.2.2
    have h3 := (pair_not_val w h.1).2.2.2
    have b : (tl (Str.ofString " ")).length = 1 := by decide +kernel
    show (Txt.join (Str.ofString " ") [w, l.text, r.text]).length + 1 ≤ 7 * (1 + l.parts + r.parts)
    rw [join_eq, len_tl, tl_join]
    rw [len_tl] at h1 h2
    simp only [List.map_cons, List.map_nil, joinL, List.length_append, b]
    omega
theorem Ex.text_toks : ∀ {e : Ex}, tl e.text = joinL [32] (e.toks.map tl)
  | .num n => rfl
  | .box s => rfl
  | .cell e => by
    have ih := Ex.text_toks (e := e)
    show tl (Str.ofString "cell " ++ e.text) = joinL [32] ((Str.ofString "cell" :: e.toks).map tl)
    rw [tl_append, ih]
    have c1 : tl (Str.ofString "cell ") = tl (Str.ofString "cell") ++ [32] := by decide +kernel
    rw [c1]
    cases q : e.toks with
    | nil => have := e.toks_len; rw [q] at this; have := e.parts_pos; simp at *; omega
    | cons x r =>
      show _ = tl (Str.ofString "cell") ++ ([32] ++ joinL [32] ((x :: r).map tl))
      rw [List.append_assoc]
  | .two w l r => by
    have h1 := Ex.text_toks (e := l)
    have h2 := Ex.text_toks (e := r)
    show tl (Txt.join (Str.ofString " ") [w, l.text, r.text]) = joinL [32] ((w :: (l.toks ++ r.toks)).map tl)
    have b : tl (Str.ofString " ") = [32] := by decide +kernel
    rw [join_eq, tl_join, b]
    show tl w ++ ([32] ++ (tl l.text ++ ([32] ++ tl r.text))) = _
    rw [h1, h2, List.map_cons, List.map_append]
    have key : ∀ (a b : List (List Nat)), a ≠ [] → b ≠ [] → joinL [32] a ++ ([32] ++ joinL [32] b) = joinL [32] (a ++ b) := by
      intro a
      induction a with
      | nil => intro b h; exact absurd rfl h
      | cons x a ih =>
        intro b _ hb
        cases a with
        | nil =>
          cases b with
          | nil => exact absurd rfl hb
          | cons y b => rfl
        | cons x2 a =>
          have := ih b (by simp) hb
          show (x ++ ([32] ++ joinL [32] (x2 :: a))) ++ _ = x ++ ([32] ++ joinL [32] ((x2 :: a) ++ b))
          rw [← this]
          simp only [List.append_assoc]
    have n1 : l.toks.map tl ≠ [] := fun e => by have := congrArg List.length e; rw [List.length_map, l.toks_len] at this; have := l.parts_pos; simp at *; omega
    have n2 : r.toks.map tl ≠ [] := fun e => by have := congrArg List.length e; rw [List.length_map, r.toks_len] at this; have := r.parts_pos; simp at *; omega
    rw [key _ _ n1 n2]
    cases q : (l.toks.map tl ++ r.toks.map tl) with
    | nil => exact absurd (List.append_eq_nil_iff.mp q).1 n1
    | cons x z => rfl
theorem Ex.split_text {e : Ex} (h : e.Wf) : Txt.split e.text (Str.ofString " ") = e.toks := by
  have b : tl (Str.ofString " ") = 32 :: [] := by decide +kernel
  have ej : e.text = Txt.join (Str.ofString " ") e.toks := by
    refine ext_tl ?_
    rw [join_eq, tl_join, b, Ex.text_toks]
  rw [ej]
  refine split_join b (by decide +kernel) (fun q => ?_) fun p hp => ?_
  · have := e.toks_len; rw [q] at this; have := e.parts_pos; simp at *; omega
  · intro hm
    rcases (Ex.toks_ok h p hp).2 32 hm with c | c <;> omega
/-! ### promises -/
/-- one text in, a truth out; nothing else is touched -/
def spTruthS (f : Str → Bool) : Sp := fun vs H Q _ => ∃ s : Str, vs = [.str s] ∧ s.length ≤ 100000 ∧ ∀ H', Same H H' → Q (.bl (f s)) H'
def spInit1 (C : Addr) (f : Str) : Sp := fun vs H Q _ => ∃ (p dx : Addr) (x : V), vs = [.ref p, x] ∧ H p = some (.ins C dx []) ∧ Q .non (upd H p (.ins C dx [(f, x)]))
def spTwoI (C : Addr) : Sp := fun vs H Q _ => ∃ (p dx : Addr) (w : Str) (a b : V), vs = [.ref p, .str w, a, b] ∧ H p = some (.ins C dx []) ∧ Q .non (upd H p (.ins C dx (fTwo w a b)))
def spTold (K : PySem.W.Frag) (c : EC) (n : Nat) (C : Addr) : Sp := fun vs H Q _ => ∃ (e : Ex) (v : V), vs = [v] ∧ ObjE c H e v ∧ c.of e = C ∧ e.depth ≤ n ∧ ∀ r H', Same H H' → ToldE K H' e r → Q r H'
def spWords (c : EC) (n : Nat) (C : Addr) : Sp := fun vs H Q _ => ∃ (e : Ex) (v : V), vs = [v] ∧ ObjE c H e v ∧ c.of e = C ∧ e.depth ≤ n ∧ e.Wf ∧ e.parts ≤ 1000 ∧ ∀ H', Same H H' → Q (.str e.text) H'
def spParts (c : EC) (n : Nat) (C : Addr) : Sp := fun vs H Q _ => ∃ (e : Ex) (v : V), vs = [v] ∧ ObjE c H e v ∧ c.of e = C ∧ e.depth ≤ n ∧ Q (.int e.parts) H
def spExprAt (K : PySem.W.Frag) (c : EC) (N : Addr) (n : Nat) : Sp := fun vs H Q E => ∃ (a : Addr) (ws : List Str) (i d : Nat), vs = [.ref a, .int i, .int (7 - (d : Int))] ∧ SqL K H a (ws.map V.str) ∧ ws.length ≤ 100000 ∧ (∀ s ∈ ws, s.length ≤ 100000) ∧ d < n ∧ d ≤ 7 ∧
  (∀ e r, parseE d (ws.drop i) = some (e, r) → ∀ t H' v, Same H H' → H' t = some (.tup [v, .int ((ws.length - r.length : Nat) : Int)]) → ObjE c H' e v → Q (.ref t) H') ∧
  (parseE d (ws.drop i) = none → ∀ H', Same H H' → E (.ref N) none H')
inductive AllE (c : EC) (H : Hp) : List Ex → List V → Prop where
  | nil : AllE c H [] []
  | cons {e : Ex} {v : V} {es : List Ex} {vs : List V} : ObjE c H e v → AllE c H es vs → AllE c H (e :: es) (v :: vs)
theorem AllE.same {c : EC} {H H' : Hp} (s : Same H H') : ∀ {es : List Ex} {vs : List V}, AllE c H es vs → AllE c H' es vs
  | _, _, .nil => .nil
  | _, _, .cons a b => .cons (a.same s) (b.same s)
theorem AllE.snoc {c : EC} {H : Hp} {e : Ex} {v : V} (h : ObjE c H e v) : ∀ {es : List Ex} {vs : List V}, AllE c H es vs → AllE c H (es ++ [e]) (vs ++ [v])
  | _, _, .nil => .cons h .nil
  | _, _, .cons a b => .cons a (b.snoc h)
theorem AllE.length {c : EC} {H : Hp} : ∀ {es : List Ex} {vs : List V}, AllE c H es vs → es.length = vs.length
  | _, _, .nil => rfl
  | _, _, .cons _ b => congrArg (· + 1) b.length
def spExprs (K : PySem.W.Frag) (c : EC) (N : Addr) : Sp := fun vs H Q E => ∃ (a : Addr) (ws : List Str), vs = [.ref a] ∧ SqL K H a (ws.map V.str) ∧ ws.length ≤ 100000 ∧ (∀ s ∈ ws, s.length ≤ 100000) ∧
  (∀ es, parseAll ws.length ws = some es → ∀ l H' os, Same H H' → H' l = some (.lst os) → AllE c H' es os → Q (.ref l) H') ∧ (parseAll ws.length ws = none → ∀ H', Same H H' → E (.ref N) none H')
def spReadE (c : EC) (N : Addr) : Sp := fun vs H Q E => ∃ (s : Str), vs = [.str s] ∧ s.length ≤ 99999 ∧
  (∀ e, parseAll (Txt.split s " ").length (Txt.split s " ") = some [e] → ∀ v H', Same H H' → ObjE c H' e v → Q v H') ∧
  ((∀ e, parseAll (Txt.split s " ").length (Txt.split s " ") ≠ some [e]) → ∀ H', Same H H' → E (.ref N) none H')

theorem valW_false1 {s : Str} (h : ¬ 1 ≤ (tl s).length ∨ ¬ (tl s).length ≤ 6) : isValW s = false := by
  unfold isValW lenOk
  rcases h with h | h
  · rw [decide_eq_false h]; rfl
  · rw [decide_eq_false h, Bool.and_false]; rfl
theorem valW_false2 {s : Str} (h : (tl s).head? = some 48) (h2 : s ≠ "0") : isValW s = false := by
  unfold isValW
  have e : ((tl s).head? == some 48) = true := by rw [h]; rfl
  rw [e, decide_eq_true h2]
  simp
theorem valW_true {s : Str} (h1 : 1 ≤ (tl s).length) (h2 : (tl s).length ≤ 6) (h3 : (tl s).head? = some 48 → s = "0") : isValW s = (tl s).all isDig := by
  unfold isValW lenOk
  rw [decide_eq_true h1, decide_eq_true h2]
  by_cases c : (tl s).head? = some 48
  · rw [h3 c, decide_eq_false (fun e => e rfl)]; simp
  · have e : ((tl s).head? == some 48) = false := beq_eq_false_iff_ne.mpr c
    rw [e]; simp
theorem nameW_false1 {s : Str} (h : ¬ 1 ≤ (tl s).length ∨ ¬ (tl s).length ≤ 6) : isNameW s = false := by
  unfold isNameW lenOk
  rcases h with h | h
  · rw [decide_eq_false h]; rfl
  · rw [decide_eq_false h, Bool.and_false]; rfl
theorem nameW_false2 {s : Str} (h : s ∈ PAIRW ∨ s ∈ ROWW ∨ s ∈ OTHW) : isNameW s = false := by
  unfold isNameW
  have e : (decide (s ∈ PAIRW) || (decide (s ∈ ROWW) || decide (s ∈ OTHW))) = true := by
    rcases h with h | h | h <;> simp [h]
  rw [e]; simp
theorem nameW_true {s : Str} (h1 : 1 ≤ (tl s).length) (h2 : (tl s).length ≤ 6) (h3 : s ∉ PAIRW) (h4 : s ∉ ROWW) (h5 : s ∉ OTHW) : isNameW s = (tl s).all isLow := by
  unfold isNameW lenOk
  rw [decide_eq_true h1, decide_eq_true h2, decide_eq_false h3, decide_eq_false h4, decide_eq_false h5]; simp
theorem len_line {s : Str} (h : s.length ≤ 100000) : s.length ≤ sizeLine := Nat.le_trans h (by decide)

theorem log_small {n : Nat} (h : n < 2 ^ 20) : n.log2 < 1920 := by
  by_cases h0 : n = 0
  · subst h0; decide
  · exact Nat.lt_of_lt_of_le ((Nat.log2_lt h0).mpr h) (by decide)

theorem while_m {c : TT} {tb : TS} {D : Ends} {σ : St} {H : Hp} (Pv : Nat → St → Hp → Prop) (m0 : Nat) (h0 : Pv m0 σ H)
    (hs : ∀ m σ H, Pv m σ H → c σ H fun b H1 => if b = true then ∃ N : St → Hp → Prop, (∀ σ' H', N σ' H' → ∃ m', m' < m ∧ Pv m' σ' H') ∧ tb { D with nx := N, ct := N, bk := D.nx } σ H1 else D.nx σ H1) : tWhile c tb D σ H := ⟨Pv, ⟨m0, h0⟩, hs⟩
theorem made_same {H : Hp} {x dx : Addr} {o o1 o2 : HO} (hx : H x = none) (hd : H dx = none) : Same H (upd (upd (upd H dx o) x o1) x o2) := fun b u e => by
  have n1 : b ≠ x := ne_of_none e hx
  rw [upd_ne n1, upd_ne n1, upd_ne (ne_of_none e hd)]
  exact e
theorem mk_init {C : Addr} {f : Str} {H : Hp} {v : V} {Q : Hp → Prop} {E : XK} {x dx : Addr} (hx : H x = none) (hd : H dx = none) (k : ∀ H', Same H H' → H' x = some (.ins C dx [(f, v)]) → Q H') :
    spInit1 C f [.ref x, v] (upd (upd H dx (.own x)) x (.ins C dx [])) (fun v H2 => v = .non ∧ Q H2) E :=
  ⟨x, dx, v, rfl, upd_same, rfl, k _ (made_same hx hd) upd_same⟩
theorem mk_two {C : Addr} {H : Hp} {wd : Str} {a b : V} {Q : Hp → Prop} {E : XK} {x dx : Addr} (hx : H x = none) (hd : H dx = none) (k : ∀ H', Same H H' → H' x = some (.ins C dx (fTwo wd a b)) → Q H') :
    spTwoI C [.ref x, .str wd, a, b] (upd (upd H dx (.own x)) x (.ins C dx [])) (fun v H2 => v = .non ∧ Q H2) E :=
  ⟨x, dx, wd, a, b, rfl, upd_same, rfl, k _ (made_same hx hd) upd_same⟩
theorem parse_len {d : Nat} {ws : List Str} {e : Ex} {r : List Str} (h : parseE d ws = some (e, r)) : r.length < ws.length ∧ ws.drop (ws.length - r.length) = r := by
  obtain ⟨_, _, h3⟩ := parse_wf h
  have n1 := e.toks_len
  have n2 := e.parts_pos
  have hl : ws.length = e.toks.length + r.length := by rw [h3, List.length_append]
  refine ⟨by omega, ?_⟩
  have e1 : ws.length - r.length = e.toks.length := by omega
  rw [e1, h3, List.drop_left]
theorem parse_at {d i : Nat} {ws : List Str} {e : Ex} {r : List Str} (h : parseE d (ws.drop i) = some (e, r)) : i < ws.length - r.length ∧ ws.length - r.length ≤ ws.length ∧ ws.drop (ws.length - r.length) = r := by
  obtain ⟨_, _, h3⟩ := parse_wf h
  have n1 := e.toks_len
  have n2 := e.parts_pos
  have hl : (ws.drop i).length = e.toks.length + r.length := by rw [h3, List.length_append]
  rw [List.length_drop] at hl
  refine ⟨by omega, Nat.sub_le _ _, ?_⟩
  have e1 : ws.length - r.length = i + e.toks.length := by omega
  rw [e1, ← List.drop_drop, h3, List.drop_left]
theorem at_str {ws : List Str} {i : Nat} {s : Str} {r : List Str} (h : ws.drop i = s :: r) : i < ws.length ∧ atI (ws.map V.str) (i : Int) = some (.str s) ∧ ws.drop (i + 1) = r ∧ r.length = ws.length - (i + 1) ∧ s ∈ ws := by
  have hl : (ws.drop i).length = r.length + 1 := by rw [h]; rfl
  rw [List.length_drop] at hl
  have hi : i < ws.length := by omega
  have e1 : ws.drop i = ws[i] :: ws.drop (i + 1) := List.drop_eq_getElem_cons hi
  rw [h, List.cons.injEq] at e1
  refine ⟨hi, atI_nat (by rw [List.getElem?_map, List.getElem?_eq_getElem hi, ← e1.1]; rfl), e1.2.symm, by omega, ?_⟩
  rw [e1.1]; exact List.getElem_mem hi
theorem parseE_cons {d : Nat} {w : Str} {r : List Str} : parseE (d + 1) (w :: r) = (if isValW w = true then some (.num (valOf w), r)
    else if isNameW w = true then some (.box w, r)
    else if w = "cell" then (match parseE d r with
      | none => none
      | some (e, r1) => some (.cell e, r1))
    else if w ∈ PAIRW then (match parseE d r with
      | none => none
      | some (l, r1) => (match parseE d r1 with
        | none => none
        | some (e, r2) => some (.two w l e, r2)))
    else none) := rfl
theorem parseAll_fuel : ∀ (n : Nat) (ws : List Str), ws.length ≤ n → parseAll n ws = parseAll ws.length ws := by
  intro n
  induction n using Nat.strongRecOn with
  | _ n ih =>
    intro ws h
    cases ws with
    | nil => cases n <;> rfl
    | cons x t =>
      cases n with
      | zero => simp at h
      | succ n =>
        show (match parseE 6 (x :: t) with | none => none | some (e, r) => if e.parts ≤ 15 then (match parseAll n r with | none => none | some es => some (e :: es)) else none) = parseAll (t.length + 1) (x :: t)
        show _ = (match parseE 6 (x :: t) with | none => none | some (e, r) => if e.parts ≤ 15 then (match parseAll t.length r with | none => none | some es => some (e :: es)) else none)
        cases q : parseE 6 (x :: t) with
        | none => rfl
        | some p =>
          obtain ⟨e, r⟩ := p
          have hr := (parse_len q).1
          have hr' : r.length < t.length + 1 := hr
          have ht : t.length + 1 ≤ n + 1 := h
          show (if e.parts ≤ 15 then (match parseAll n r with | none => none | some es => some (e :: es)) else none) = (if e.parts ≤ 15 then (match parseAll t.length r with | none => none | some es => some (e :: es)) else none)
          rw [ih n (by omega) r (by omega)]
          by_cases c : t.length = n
          · rw [c, ih n (by omega) r (by omega)]
          · rw [ih t.length (by omega) r (by omega)]
/-- the words from here on, in one step -/
theorem parseAll_step {x : Str} {t : List Str} : parseAll (x :: t).length (x :: t) = (match parseE 6 (x :: t) with | none => none | some (e, r) => if e.parts ≤ 15 then (match parseAll r.length r with | none => none | some es => some (e :: es)) else none) := by
  show (match parseE 6 (x :: t) with | none => none | some (e, r) => if e.parts ≤ 15 then (match parseAll t.length r with | none => none | some es => some (e :: es)) else none) = _
  cases q : parseE 6 (x :: t) with
  | none => rfl
  | some p =>
    obtain ⟨e, r⟩ := p
    have hr := (parse_len q).1
    have hr' : r.length < t.length + 1 := hr
    show (if e.parts ≤ 15 then (match parseAll t.length r with | none => none | some es => some (e :: es)) else none) = (if e.parts ≤ 15 then (match parseAll r.length r with | none => none | some es => some (e :: es)) else none)
    rw [parseAll_fuel t.length r (by omega)]
def after (es : List Ex) : Option (List Ex) → Option (List Ex)
  | none => none
  | some fs => some (es ++ fs)

theorem objE_upd {c : EC} {H : Hp} {l : Addr} {xs ys : List V} (h : H l = some (.lst xs)) : ∀ {e : Ex} {v : V}, ObjE c H e v → ObjE c (upd H l (.lst ys)) e v
  | .num n, v, ⟨p, dx, h1, h2⟩ => ⟨p, dx, h1, by rw [upd_ne (ne_of h2 h (by intro z; cases z))]; exact h2⟩
  | .box n, v, ⟨p, dx, h1, h2⟩ => ⟨p, dx, h1, by rw [upd_ne (ne_of h2 h (by intro z; cases z))]; exact h2⟩
  | .cell e, v, ⟨p, dx, i, h1, h2, h3⟩ => ⟨p, dx, i, h1, by rw [upd_ne (ne_of h2 h (by intro z; cases z))]; exact h2, objE_upd h h3⟩
  | .two w l r, v, ⟨p, dx, a, b, h1, h2, h3, h4⟩ => ⟨p, dx, a, b, h1, by rw [upd_ne (ne_of h2 h (by intro z; cases z))]; exact h2, objE_upd h h3, objE_upd h h4⟩
theorem allE_upd {c : EC} {H : Hp} {l : Addr} {xs ys : List V} (h : H l = some (.lst xs)) : ∀ {es : List Ex} {vs : List V}, AllE c H es vs → AllE c (upd H l (.lst ys)) es vs
  | _, _, .nil => .nil
  | _, _, .cons a b => .cons (objE_upd h a) (allE_upd h b)
theorem allE_snoc_upd {c : EC} {H : Hp} {l : Addr} {xs ys : List V} {e : Ex} {v : V} {es : List Ex} {vs : List V} (h : H l = some (.lst xs)) (a : AllE c H es vs) (o : ObjE c H e v) : AllE c (upd H l (.lst ys)) (es ++ [e]) (vs ++ [v]) := (allE_upd h a).snoc (objE_upd h o)

theorem joinL_len : ∀ L : List (List Nat), L.length ≤ (joinL [32] L).length + 1 ∧ ∀ p ∈ L, p.length ≤ (joinL [32] L).length
  | [] => ⟨Nat.zero_le _, fun _ h => by cases h⟩
  | [x] => ⟨by simp, fun p h => by rw [List.mem_singleton.mp h]; exact Nat.le_refl _⟩
  | x :: y :: r => by
    have ih := joinL_len (y :: r)
    have e : joinL [32] (x :: y :: r) = x ++ ([32] ++ joinL [32] (y :: r)) := rfl
    rw [e, List.length_append, List.length_append]
    refine ⟨by have := ih.1; simp only [List.length_cons, List.length_nil] at this ⊢; omega, fun p h => ?_⟩
    rcases List.mem_cons.mp h with rfl | h
    · omega
    · have := ih.2 p h; omega
theorem split_small {s : Str} (h : s.length ≤ 100000 - 1) : (Txt.split s " ").length ≤ 100000 ∧ ∀ p ∈ Txt.split s " ", p.length ≤ 100000 := by
  have e := PySem.StrLaws.join_split s (Str.ofString " ")
  have e2 := congrArg tl e
  have b : tl (Str.ofString " ") = [32] := by decide +kernel
  rw [tl_join, b] at e2
  have q := joinL_len ((Txt.split s (Str.ofString " ")).map tl)
  rw [e2, List.length_map, ← len_tl s] at q
  refine ⟨by have := q.1; omega, fun p hp => ?_⟩
  have := q.2 (tl p) (List.mem_map.mpr ⟨p, hp, rfl⟩)
  rw [← len_tl p] at this
  omega

/-- all([sign in F for sign in s]) -/
theorem rd_all {K : PySem.W.Frag} {σ : St} {H : Hp} {s F : Str} {f : Nat → Bool} {Q : VK} {i j : Nat} (hi : σ[i]? = some (some (.str s))) (hj : j < σ.length) (hn : j ≠ i) (hl : s.length ≤ 16000000) (hf : ∀ c, decide (c ∈ F.cps.toList) = f c)
    (q : ∀ H', Same H H' → Q (.bl ((tl s).all f)) H') :
    tCB (rAll K) (tCons (tLc (iStr (tVar i)) (gName j) tYes (tOp (fun x y H Q => ∃ (c : Nat) (z : Str), x = .str ⟨#[c]⟩ ∧ y = .str z ∧ Q (.bl (decide (c ∈ z.cps.toList))) H) (tVar j) (tC (.str F))) [j]) tNil) σ H Q := by
  refine ⟨_, hi, s, rfl, fun D hD => lc_it walk_str (fun k H' => H' D = some (.lst ((((tl s).take k).map f).map V.bl)) ∧ Same H H') ⟨by rw [upd_same]; rfl, same_new hD⟩ (fun _ _ _ _ => trivial) ?_ ?_⟩
  · rintro k x H1 H2 hk ⟨h1, h2⟩ ⟨rfl, c, hc, rfl⟩
    have hjl : (wipe σ [j]).length = σ.length := wipe_length _ _
    refine ⟨by show ((σ.set j none).set j _).set j none = _; simp [wipe], ?_⟩
    refine ⟨_, by rw [List.getElem?_set_self (by rw [hjl]; exact hj)], c, F, rfl, rfl, ?_⟩
    have hs : k < (tl s).length := by
      have : s.cps.size = (tl s).length := by simp [tl]
      omega
    refine ⟨_, h1, ?_, ?_⟩
    · rw [List.length_map, List.length_map]
      have : s.length = (tl s).length := len_tl s
      refine Nat.lt_of_le_of_lt (List.length_take_le _ _) (by show k < 16777216; omega)
    · refine ⟨?_, fun b o e => ?_⟩
      · rw [upd_same]
        have e1 : (tl s)[k]? = some c := by rw [← hc]; simp [tl]
        rw [List.take_add_one, e1, hf c]
        simp
      · rw [upd_ne (ne_of_none e hD)]
        exact h2 b o e
  · rintro H' ⟨h1, h2⟩
    have hs : s.cps.size = (tl s).length := by simp [tl]
    rw [hs, List.take_length] at h1
    refine ⟨D, _, rfl, SqL.of h1, ?_⟩
    have e : ((tl s).map f).all id = (tl s).all f := by rw [List.all_map]; rfl
    rw [e]
    exact q H' h2

def spCell (K : PySem.W.Frag) : Sp := fun vs H Q _ => ∃ (a : Addr) (ns : List Int) (k : Int), vs = [.ref a, .int k] ∧ SqL K H a (ns.map V.int) ∧ 0 ≤ k ∧ ∀ n : Int, Q (.int n) H
/-- two ints go in, some int comes out -/
def spI2 : Sp := fun vs H Q _ => ∃ (a b : Int), vs = [.int a, .int b] ∧ ∀ n : Int, Q (.int n) H
def WellAt (H : Hp) (p : Addr) : Prop := ∃ a b c d : Int, H p = some (.lst [.int a, .int b, .int c, .int d])
def spWell (K : PySem.W.Frag) : Sp := fun vs H Q _ => ∃ (a : Addr) (ns : List Int) (k : Int), vs = [.ref a, .int k] ∧ SqL K H a (ns.map V.int) ∧ 0 ≤ k ∧ ∀ p H', H p = none → Same H H' → WellAt H' p → Q (.ref p) H'
def spDraw : Sp := fun vs H Q _ => ∃ (p : Addr) (m : Int), vs = [.ref p, .int m] ∧ WellAt H p ∧ 0 < m ∧ m ≤ 1000000 ∧ ∀ (n : Int) H', 0 ≤ n → n < m → KeepX p H H' → WellAt H' p → Q (.int n) H'
theorem at_int {ns : List Int} {k : Int} (h0 : 0 ≤ k) (h : k < (ns.length : Int)) : ∃ v : Int, atI (ns.map V.int) k = some (.int v) := by
  have hk : k.toNat < ns.length := by omega
  have ek : k = ((k.toNat : Nat) : Int) := by omega
  have q : atI (ns.map V.int) ((k.toNat : Nat) : Int) = some (.int ns[k.toNat]) := atI_nat (by rw [List.getElem?_map, List.getElem?_eq_getElem hk] <;> rfl)
  rw [← ek] at q
  exact ⟨_, q⟩
theorem mod64 {x y : Int} : CMul (x % 2147483647) y := Or.inl ⟨by omega, by omega⟩
theorem WellAt.ne {H : Hp} {p t : Addr} (W : WellAt H p) {o : HO} (h : H t = some o) (no : ∀ xs, o ≠ .lst xs) : t ≠ p := fun e => by
  obtain ⟨a, b, c, d, w⟩ := W
  rw [e, w] at h
  exact no _ (Option.some.inj h).symm
theorem KeepX.tup {p : Addr} {H H' : Hp} (k : KeepX p H H') (W : WellAt H p) {t : Addr} {xs : List V} (h : H t = some (.tup xs)) : H' t = some (.tup xs) := k _ _ (W.ne h (by intro _ e; cases e)) h
theorem WellAt.same {H H' : Hp} {p : Addr} (s : Same H H') : WellAt H p → WellAt H' p := fun ⟨a, b, c, d, w⟩ => ⟨a, b, c, d, s _ _ w⟩
/-- f i for all i below n -/
def seqV (f : Nat → V) (n : Nat) : List V := (List.range n).map f
theorem seqV_succ (f : Nat → V) (n : Nat) : seqV f (n + 1) = seqV f n ++ [f n] := by
  unfold seqV
  rw [List.range_succ, List.map_append]; rfl
theorem seqV_length (f : Nat → V) (n : Nat) : (seqV f n).length = n := by unfold seqV; rw [List.length_map, List.length_range]
/-- [e(x) for x in w]: each e gives a value that is known ahead -/
theorem lc_map {J : It} {n : Nat} {G : Hp → Prop} {Y : Nat → Hp → V → Hp → Prop} (w : Walk J n G Y) (f : Nat → V) {j : Nat} {te : TE} {σ : St} {H1 : Hp} {D : Addr} {Qd : Hp → Prop} (hD : H1 D = none) (hn : n < 16777216) (hj : j < σ.length)
    (hG : ∀ H, Same H1 H → G H) (hY : ∀ i H x H', Y i H x H' → H' = H)
    (step : ∀ i x H (Z : VK), i < n → Same H1 H → Y i H x H → (∀ H', Same H H' → Z (f i) H') → te ((σ.set j none).set j (some x)) H Z)
    (hd : ∀ H, Same H1 H → H D = some (.lst (seqV f n)) → Qd H) :
    ∃ W : Nat → Nat → Hp → Prop, (∃ m, W 0 m (upd H1 D (.lst []))) ∧ ∀ i m H, W i m H →
      (J.stop i H ∧ Qd H) ∨ (J.go i H ∧ ∃ Nx : Hp → Prop, (∀ H', Nx H' → ∃ m', m' < m ∧ W (i + 1) m' H') ∧ ∀ x H', J.yld i H x H' → gName j x (wipe σ [j]) H' fun σ2 H2 => wipe σ2 [j] = wipe σ [j] ∧ tYes σ2 H2 fun b H3 =>
        if b = true then te σ2 H3 fun y H4 => ∃ acc, H4 D = some (.lst acc) ∧ acc.length < sizeLine ∧ Nx (upd H4 D (.lst (acc ++ [y]))) else Nx H3) := by
  refine lc_it w (fun i H => H D = some (.lst (seqV f i)) ∧ Same H1 H) ⟨upd_same, same_new hD⟩ (fun i H _ h => hG H h.2) ?_ fun H h => hd H h.2 h.1
  rintro i x H H2 hi ⟨h1, h2⟩ y
  have e := hY _ _ _ _ y
  subst e
  have hw : wipe ((wipe σ [j]).set j (some x)) [j] = wipe σ [j] := by
    show ((σ.set j none).set j (some x)).set j none = σ.set j none
    simp
  refine ⟨hw, ?_⟩
  refine step i x _ _ hi h2 y fun H3 s3 => ⟨_, s3 _ _ h1, ?_, ?_⟩
  · rw [seqV_length]; exact Nat.lt_of_lt_of_le (Nat.lt_trans hi hn) (by decide)
  · refine ⟨by rw [upd_same, seqV_succ], fun b o hb => ?_⟩
    rw [upd_ne (ne_of_none hb hD)]
    exact s3 _ _ (h2 b o hb)
theorem at_strs {ss : List Str} {n : Int} (h0 : 0 ≤ n) (h1 : n < (ss.length : Int)) : ∃ s ∈ ss, atI (ss.map V.str) n = some (.str s) := by
  have hk : n.toNat < ss.length := by omega
  have ek : n = ((n.toNat : Nat) : Int) := by omega
  have q : atI (ss.map V.str) ((n.toNat : Nat) : Int) = some (.str ss[n.toNat]) := atI_nat (by rw [List.getElem?_map, List.getElem?_eq_getElem hk] <;> rfl)
  rw [← ek] at q
  exact ⟨_, List.getElem_mem hk, q⟩
/-- one proof for a goal that is asked more than once -/
theorem twice_asked {A B : Prop} (b : B) (f : B → A) : A := f b
def spValue : Sp := fun vs H Q _ => ∃ (p : Addr), vs = [.ref p] ∧ WellAt H p ∧ ∀ (n : Int) H', 0 ≤ n → n < 1000000 → KeepX p H H' → WellAt H' p → Q (.int n) H'
def spName : Sp := fun vs H Q _ => ∃ (p : Addr), vs = [.ref p] ∧ WellAt H p ∧ ∀ (s : Str) H', isNameW s = true → KeepX p H H' → WellAt H' p → Q (.str s) H'

/-! ### lists that go together -/
inductive All2 {α β : Type} (R : α → β → Prop) : List α → List β → Prop where
  | nil : All2 R [] []
  | cons {a : α} {b : β} {as : List α} {bs : List β} : R a b → All2 R as bs → All2 R (a :: as) (b :: bs)
theorem All2.length {α β : Type} {R : α → β → Prop} : ∀ {as : List α} {bs : List β}, All2 R as bs → as.length = bs.length
  | _, _, .nil => rfl
  | _, _, .cons _ h => congrArg (· + 1) h.length
theorem All2.mono {α β : Type} {R S : α → β → Prop} (f : ∀ a b, R a b → S a b) : ∀ {as : List α} {bs : List β}, All2 R as bs → All2 S as bs
  | _, _, .nil => .nil
  | _, _, .cons h t => .cons (f _ _ h) (t.mono f)
theorem All2.mono_mem {α β : Type} {R S : α → β → Prop} : ∀ {as : List α} {bs : List β}, (∀ a b, a ∈ as → b ∈ bs → R a b → S a b) → All2 R as bs → All2 S as bs
  | _, _, _, .nil => .nil
  | _, _, f, .cons h t => .cons (f _ _ List.mem_cons_self List.mem_cons_self h) (t.mono_mem fun a b ha hb => f a b (List.mem_cons_of_mem _ ha) (List.mem_cons_of_mem _ hb))
theorem All2.snoc {α β : Type} {R : α → β → Prop} {a : α} {b : β} (h : R a b) : ∀ {as : List α} {bs : List β}, All2 R as bs → All2 R (as ++ [a]) (bs ++ [b])
  | _, _, .nil => .cons h .nil
  | _, _, .cons g t => .cons g (t.snoc h)
theorem All2.at {α β : Type} {R : α → β → Prop} : ∀ {as : List α} {bs : List β} {i : Nat} {b : β}, All2 R as bs → bs[i]? = some b → ∃ a, as[i]? = some a ∧ R a b
  | _, _, 0, _, .cons h _, e => ⟨_, rfl, by cases e; exact h⟩
  | _, _, i + 1, _, .cons _ t, e => t.at (i := i) e
  | _, _, _, _, .nil, e => by simp at e
theorem All2.at2 {α β : Type} {R : α → β → Prop} : ∀ {as : List α} {bs : List β} {i : Nat} {a : α}, All2 R as bs → as[i]? = some a → ∃ b, bs[i]? = some b ∧ R a b
  | _, _, 0, _, .cons h _, e => ⟨_, rfl, by cases e; exact h⟩
  | _, _, i + 1, _, .cons _ t, e => t.at2 (i := i) e
  | _, _, _, _, .nil, e => by simp at e
theorem ints_of : ∀ {ys : List V} {P : Int → Prop}, (∀ y ∈ ys, ∃ n, y = V.int n ∧ P n) → ∃ ns : List Int, ys = ns.map V.int ∧ (∀ n ∈ ns, P n) ∧ ns.length = ys.length
  | [], _, _ => ⟨[], rfl, (fun _ h => by cases h), rfl⟩
  | y :: r, P, h => by
    obtain ⟨n, e, hn⟩ := h y List.mem_cons_self
    obtain ⟨ns, e2, hs, hl⟩ := ints_of (ys := r) fun z hz => h z (List.mem_cons_of_mem _ hz)
    refine ⟨n :: ns, by rw [e, e2]; rfl, fun z hz => ?_, congrArg (· + 1) hl⟩
    rcases List.mem_cons.mp hz with rfl | hz
    · exact hn
    · exact hs z hz
theorem strs_of : ∀ {ys : List V} {P : Str → Prop}, (∀ y ∈ ys, ∃ n, y = V.str n ∧ P n) → ∃ ns : List Str, ys = ns.map V.str ∧ (∀ n ∈ ns, P n) ∧ ns.length = ys.length
  | [], _, _ => ⟨[], rfl, (fun _ h => by cases h), rfl⟩
  | y :: r, P, h => by
    obtain ⟨n, e, hn⟩ := h y List.mem_cons_self
    obtain ⟨ns, e2, hs, hl⟩ := strs_of (ys := r) fun z hz => h z (List.mem_cons_of_mem _ hz)
    refine ⟨n :: ns, by rw [e, e2]; rfl, fun z hz => ?_, congrArg (· + 1) hl⟩
    rcases List.mem_cons.mp hz with rfl | hz
    · exact hn
    · exact hs z hz
/-- where a list may go on being written: nothing else moves -/
def LcGoal (J : It) (D : Addr) (te : TE) (j : Nat) (σ : St) (H1 : Hp) (Qd : Hp → Prop) : Prop :=
    ∃ W : Nat → Nat → Hp → Prop, (∃ m, W 0 m (upd H1 D (.lst []))) ∧ ∀ i m H, W i m H →
      (J.stop i H ∧ Qd H) ∨ (J.go i H ∧ ∃ Nx : Hp → Prop, (∀ H', Nx H' → ∃ m', m' < m ∧ W (i + 1) m' H') ∧ ∀ x H', J.yld i H x H' → gName j x (wipe σ [j]) H' fun σ2 H2 => wipe σ2 [j] = wipe σ [j] ∧ tYes σ2 H2 fun b H3 =>
        if b = true then te σ2 H3 fun y H4 => ∃ acc, H4 D = some (.lst acc) ∧ acc.length < sizeLine ∧ Nx (upd H4 D (.lst (acc ++ [y]))) else Nx H3)
theorem seqV_map {α : Type} (f : α → V) (d : α) (xs : List α) : seqV (fun i => f (xs.getD i d)) xs.length = xs.map f := by
  unfold seqV
  refine List.ext_getElem (by rw [List.length_map, List.length_map, List.length_range]) fun i h1 h2 => ?_
  rw [List.getElem_map, List.getElem_map, List.getElem_range]
  have : i < xs.length := by rw [List.length_map] at h2; exact h2
  rw [List.getD_eq_getElem?_getD, List.getElem?_eq_getElem this]
  rfl
/-- [f(x) for x in xs], known ahead -/
theorem lc_mapA {α : Type} (xs : List α) (g f : α → V) (d : α) {J : It} {G : Hp → Prop} {j : Nat} {te : TE} {σ : St} {H1 : Hp} {D : Addr} {Qd : Hp → Prop} (w : Walk J (xs.map g).length G (YAt (xs.map g))) (hD : H1 D = none) (hn : xs.length < 16777216) (hj : j < σ.length)
    (hG : ∀ H, Same H1 H → G H)
    (step : ∀ a ∈ xs, ∀ H (Z : VK), Same H1 H → (∀ H', Same H H' → Z (f a) H') → te ((σ.set j none).set j (some (g a))) H Z)
    (hd : ∀ H, Same H1 H → H D = some (.lst (xs.map f)) → Qd H) : LcGoal J D te j σ H1 Qd := by
  refine lc_map w (fun i => f (xs.getD i d)) hD (by rw [List.length_map]; exact hn) hj hG (fun _ _ _ _ y => y.1) ?_ fun H s h => hd H s ?_
  · rintro i x H Z hi s ⟨_, hx⟩ z
    rw [List.length_map] at hi
    have e : xs[i]? = some (xs.getD i d) := by rw [List.getD_eq_getElem?_getD, List.getElem?_eq_getElem hi]; rfl
    rw [List.getElem?_map, e] at hx
    cases hx
    exact step _ (List.mem_of_getElem? e) H Z s z
  · rw [h, List.length_map, seqV_map]
/-- [e for x in xs]: what each gives stands in R to its x -/
theorem lc_rel {H1 : Hp} {D : Addr} {α : Type} (xs : List α) {β : α → V → Prop} (R : Hp → α → V → Prop) {ws : List V} (hw : All2 β xs ws) (mono : ∀ H H' a y, Same H H' → R H a y → R H' a y) (lst : ∀ H a y ys ys', R H a y → H D = some (.lst ys) → R (upd H D (.lst ys')) a y) {J : It} {G : Hp → Prop} {j : Nat} {te : TE} {σ : St} {Qd : Hp → Prop} (w : Walk J ws.length G (YAt ws)) (hD : H1 D = none) (hn : xs.length < 16777216) (hj : j < σ.length)
    (hG : ∀ H, Same H1 H → G H)
    (step : ∀ a v, a ∈ xs → v ∈ ws → β a v → ∀ H (Z : VK), Same H1 H → (∃ ys, H D = some (.lst ys)) → (∀ H' y, Same H H' → R H' a y → Z y H') → te ((σ.set j none).set j (some v)) H Z)
    (hd : ∀ H ys, Same H1 H → All2 (R H) xs ys → H D = some (.lst ys) → Qd H) : LcGoal J D te j σ H1 Qd := by
  refine lc_it w (fun i H => ∃ ys, H D = some (.lst ys) ∧ Same H1 H ∧ All2 (R H) (xs.take i) ys) ⟨[], upd_same, same_new hD, by rw [List.take_zero]; exact .nil⟩ (fun i H _ h => hG H h.choose_spec.2.1) ?_ fun H ⟨ys, h1, h2, h3⟩ => hd H ys h2 (by rw [← hw.length, List.take_length] at h3; exact h3) h1
  rintro i v H H2 hi ⟨ys, h1, h2, h3⟩ ⟨e, hv⟩
  subst e
  have hw2 : wipe ((wipe σ [j]).set j (some v)) [j] = wipe σ [j] := by
    show ((σ.set j none).set j (some v)).set j none = σ.set j none
    simp
  refine ⟨hw2, ?_⟩
  obtain ⟨a, ha, hb⟩ := hw.at hv
  have hl := h3.length
  have hi' : i < xs.length := by rw [hw.length]; exact hi
  rw [List.length_take] at hl
  refine step a v (List.mem_of_getElem? ha) (List.mem_of_getElem? hv) hb _ _ h2 ⟨ys, h1⟩ fun H3 y s3 r3 => ⟨ys, s3 _ _ h1, ?_, ?_⟩
  · exact Nat.lt_of_lt_of_le (show ys.length < 16777216 by omega) (by decide)
  · refine ⟨ys ++ [y], upd_same, fun b o hb => ?_, ?_⟩
    · rw [upd_ne (ne_of_none hb hD)]
      exact s3 _ _ (h2 b o hb)
    · rw [List.take_add_one, ha]
      show All2 _ (xs.take i ++ [a]) _
      exact (h3.mono fun a' y' h => lst _ _ _ _ _ (mono _ _ _ _ s3 h) (s3 _ _ h1)).snoc (lst _ _ _ _ _ r3 (s3 _ _ h1))
/-- [e for k in ..], each e drawn at the well p: what each gives is P -/
theorem lc_drawn {J : It} {n : Nat} {G : Hp → Prop} {Y : Nat → Hp → V → Hp → Prop} (w : Walk J n G Y) (P : V → Prop) {p : Addr} {j : Nat} {te : TE} {σ : St} {H1 : Hp} {D : Addr} {Qd : Hp → Prop} (W : WellAt H1 p) (hD : H1 D = none) (hn : n < 16777216) (hj : j < σ.length)
    (hG : ∀ H, G H) (hY : ∀ i H x H', Y i H x H' → H' = H)
    (step : ∀ i x H (Z : VK), i < n → KeepX p H1 H → WellAt H p → Y i H x H → (∀ H' y, KeepX p H H' → WellAt H' p → P y → Z y H') → te ((σ.set j none).set j (some x)) H Z)
    (hd : ∀ H ys, KeepX p H1 H → WellAt H p → ys.length = n → (∀ y ∈ ys, P y) → H D = some (.lst ys) → Qd H) : LcGoal J D te j σ H1 Qd := by
  have npD : D ≠ p := fun e => by obtain ⟨_, _, _, _, w⟩ := W; rw [← e, hD] at w; cases w
  refine lc_it w (fun i H => ∃ ys, H D = some (.lst ys) ∧ KeepX p H1 H ∧ WellAt H p ∧ ys.length = i ∧ ∀ y ∈ ys, P y) ⟨[], upd_same, keepX_of (same_new hD), W.same (same_new hD), rfl, fun _ h => by cases h⟩ (fun i H _ _ => hG H) ?_ fun H ⟨ys, h1, h2, h3, h4, h5⟩ => hd H ys h2 h3 h4 h5 h1
  rintro i v H H2 hi ⟨ys, h1, h2, h3, h4, h5⟩ y
  have e := hY _ _ _ _ y
  subst e
  have hw2 : wipe ((wipe σ [j]).set j (some v)) [j] = wipe σ [j] := by
    show ((σ.set j none).set j (some v)).set j none = σ.set j none
    simp
  refine ⟨hw2, ?_⟩
  refine step i v _ _ hi h2 h3 y fun H3 z k3 W3 pz => ⟨ys, k3 _ _ npD h1, ?_, ?_⟩
  · exact Nat.lt_of_lt_of_le (show ys.length < 16777216 by omega) (by decide)
  · refine ⟨ys ++ [z], upd_same, fun b o nb hb => ?_, ?_, by rw [List.length_append, h4]; rfl, fun y hy => ?_⟩
    · rw [upd_ne (ne_of_none hb hD)]
      exact k3 _ _ nb (h2 b o nb hb)
    · obtain ⟨a, b, c, d, w⟩ := W3
      exact ⟨a, b, c, d, by rw [upd_ne npD.symm]; exact w⟩
    · rcases List.mem_append.mp hy with h | h
      · exact h5 y h
      · rw [List.mem_singleton.mp h]; exact pz

/-! ### books as texts -/
def IsVal (n : Int) : Prop := 0 ≤ n ∧ n < 1000000
def adT (ad : List Int) : Str := if ad = [] then Str.ofString "-" else Txt.join (Str.ofString ".") (ad.map numT)
structure Ent where
  w : Str
  ad : List Int
  ms : List Int
def Ent.Wf (e : Ent) : Prop := ((e.w = "done" ∧ e.ms = []) ∨ e.w = "part" ∨ e.w = "kept") ∧ (∀ n ∈ e.ad, IsVal n) ∧ e.ad.length ≤ 100 ∧ (∀ n ∈ e.ms, n = -1 ∨ IsVal n) ∧ e.ms.length ≤ 100
def Ent.words (e : Ent) : List Str := e.w :: adT e.ad :: e.ms.map numT
def Ent.text (e : Ent) : Str := Txt.join (Str.ofString " ") e.words
def Ent.data (e : Ent) : PyData := .tuple (.str e.w :: .tuple (e.ad.map .int) :: (if e.w = "done" then [] else [.list (e.ms.map .int)]))
def bookText (es : List Ent) : Str := Txt.join (Str.ofString "\n") (es.map Ent.text)
theorem join_len (y : Str) (b : Nat) (hy : y.length = 1) : ∀ xs : List Str, (∀ x ∈ xs, x.length ≤ b) → (xs.map (·.length)).sum + xs.length * y.length ≤ xs.length * (b + 1) := by
  intro xs
  induction xs with
  | nil => intro _; simp
  | cons x r ih =>
    intro h
    have h1 := h x List.mem_cons_self
    have h2 := ih fun z hz => h z (List.mem_cons_of_mem _ hz)
    simp only [List.map_cons, List.sum_cons, List.length_cons, Nat.add_mul, Nat.one_mul, hy, Nat.mul_one] at h2 ⊢
    omega
theorem joinL_le : ∀ (b : Nat) (L : List (List Nat)), (∀ p ∈ L, p.length ≤ b) → ∀ c, (joinL [c] L).length ≤ L.length * (b + 1)
  | b, [], _, c => by simp [joinL]
  | b, [x], h, c => by have := h x List.mem_cons_self; simp [joinL]; omega
  | b, x :: y :: r, h, c => by
    have ih := joinL_le b (y :: r) (fun p hp => h p (List.mem_cons_of_mem _ hp)) c
    have h1 := h x List.mem_cons_self
    have e : joinL [c] (x :: y :: r) = x ++ ([c] ++ joinL [c] (y :: r)) := rfl
    rw [e, List.length_append, List.length_append]
    simp only [List.length_cons, List.length_nil, Nat.add_mul, Nat.one_mul] at ih ⊢
    omega
theorem join_le {y : Str} {c : Nat} (hy : tl y = [c]) (b : Nat) (xs : List Str) (h : ∀ x ∈ xs, x.length ≤ b) : (Txt.join y xs).length ≤ xs.length * (b + 1) := by
  have q := joinL_le b (xs.map tl) (fun p hp => by
    obtain ⟨x, hx, rfl⟩ := List.mem_map.mp hp
    rw [← len_tl]; exact h x hx) c
  rw [List.length_map] at q
  rw [join_eq, len_tl, tl_join, hy]
  exact q
theorem numT_m1 : numT (-1) = "-1" := by decide +kernel
theorem numT_len {n : Int} (h : n = -1 ∨ IsVal n) : (numT n).length ≤ 6 := by
  rcases h with rfl | h
  · decide +kernel
  · rw [len_tl]; exact (valW_parts (numT_valW h.1 h.2).1).1.2
theorem numT_pos {n : Int} (h : IsVal n) : ∃ c r, tl (numT n) = c :: r ∧ 48 ≤ c ∧ c ≤ 57 := by
  obtain ⟨⟨h1, _⟩, _, h3⟩ := valW_parts (numT_valW h.1 h.2).1
  cases q : tl (numT n) with
  | nil => rw [q] at h1; simp at h1
  | cons c r => exact ⟨c, r, rfl, h3 c (by rw [q]; exact List.mem_cons_self)⟩
theorem numT_free {n : Int} {c : Nat} (h : n = -1 ∨ IsVal n) (hc : c = 32 ∨ c = 10 ∨ c = 46) : c ∉ tl (numT n) := by
  rcases h with rfl | h
  · have : ∀ x ∈ tl (numT (-1)), x = 45 ∨ x = 49 := by decide +kernel
    intro hm
    rcases this c hm with e | e <;> omega
  · exact val_free (numT_valW h.1 h.2).1 (by omega)
theorem tl_dot : tl (Str.ofString ".") = [46] := by decide +kernel
theorem tl_sp : tl (Str.ofString " ") = [32] := by decide +kernel
theorem tl_nl : tl (Str.ofString "\n") = [10] := by decide +kernel
theorem joinL_first : ∀ {L : List (List Nat)} {x : List Nat} {r : List (List Nat)} (c : Nat), L = x :: r → ∃ z, joinL [c] L = x ++ z
  | _, x, [], c, e => ⟨[], by rw [e]; simp [joinL]⟩
  | _, x, y :: r, c, e => ⟨[c] ++ joinL [c] (y :: r), by rw [e]; rfl⟩
theorem adT_dash {ad : List Int} (h : ∀ n ∈ ad, IsVal n) : adT ad = "-" ↔ ad = [] := by
  constructor
  · intro e
    cases ad with
    | nil => rfl
    | cons n r =>
      unfold adT at e
      rw [if_neg (by simp)] at e
      have e2 := congrArg tl e
      rw [join_eq, tl_join, tl_dot] at e2
      obtain ⟨c, q, hq, hc1, hc2⟩ := numT_pos (h n List.mem_cons_self)
      obtain ⟨z, hz⟩ := joinL_first (L := (List.map numT (n :: r)).map tl) (x := tl (numT n)) (r := (r.map numT).map tl) 46 rfl
      rw [hz, hq] at e2
      have : tl (Str.ofString "-") = [45] := by decide +kernel
      rw [this] at e2
      have := (List.cons.inj e2).1
      omega
  · intro e; rw [e]; rfl
theorem adT_len {ad : List Int} (h : ∀ n ∈ ad, IsVal n) (hl : ad.length ≤ 100) : (adT ad).length ≤ 700 := by
  unfold adT
  by_cases c : ad = []
  · rw [if_pos c]; decide +kernel
  · rw [if_neg c]
    have := join_le tl_dot 6 (ad.map numT) fun x hx => by
      obtain ⟨n, hn, rfl⟩ := List.mem_map.mp hx
      exact numT_len (.inr (h n hn))
    rw [List.length_map] at this
    omega
theorem adT_split {ad : List Int} (h : ∀ n ∈ ad, IsVal n) (hne : ad ≠ []) : Txt.split (adT ad) (Str.ofString ".") = ad.map numT := by
  unfold adT
  rw [if_neg hne]
  refine split_join tl_dot (by decide +kernel) (by simpa using hne) fun p hp => ?_
  obtain ⟨n, hn, rfl⟩ := List.mem_map.mp hp
  exact numT_free (.inr (h n hn)) (by omega)
theorem adT_free {ad : List Int} {c : Nat} (h : ∀ n ∈ ad, IsVal n) (hc : c = 32 ∨ c = 10) : c ∉ tl (adT ad) := by
  unfold adT
  by_cases q : ad = []
  · rw [if_pos q]
    have : tl (Str.ofString "-") = [45] := by decide +kernel
    rw [this]
    intro hm; rw [List.mem_singleton] at hm; omega
  · rw [if_neg q, join_eq, tl_join, tl_dot]
    have key : ∀ L : List Int, (∀ n ∈ L, IsVal n) → c ∉ joinL [46] ((L.map numT).map tl) := by
      intro L
      induction L with
      | nil => intro _ hm; simp [joinL] at hm
      | cons n r ih =>
        intro hL
        have h1 := numT_free (c := c) (.inr (hL n List.mem_cons_self)) (by omega)
        cases r with
        | nil => exact h1
        | cons m r =>
          intro hm
          have e : joinL [46] (((n :: m :: r).map numT).map tl) = tl (numT n) ++ ([46] ++ joinL [46] (((m :: r).map numT).map tl)) := rfl
          rw [e] at hm
          rcases List.mem_append.mp hm with hm | hm
          · exact h1 hm
          · rcases List.mem_append.mp hm with hm | hm
            · rw [List.mem_singleton] at hm; omega
            · exact ih (fun z hz => hL z (List.mem_cons_of_mem _ hz)) hm
    exact key ad h
theorem word3 {w : Str} (h : w = "done" ∨ w = "part" ∨ w = "kept") : w.length = 4 ∧ ∀ c ∈ tl w, 97 ≤ c ∧ c ≤ 122 := by
  rcases h with rfl | rfl | rfl <;> exact ⟨by decide +kernel, by decide +kernel⟩
theorem Ent.w3 {e : Ent} (h : e.Wf) : e.w = "done" ∨ e.w = "part" ∨ e.w = "kept" := by
  rcases h.1 with h | h
  · exact .inl h.1
  · exact .inr h
theorem Ent.words_free {e : Ent} (h : e.Wf) {c : Nat} (hc : c = 32 ∨ c = 10) : ∀ p ∈ e.words, c ∉ tl p := by
  intro p hp
  rcases List.mem_cons.mp hp with rfl | hp
  · intro hm; have := (word3 (Ent.w3 h)).2 c hm; omega
  · rcases List.mem_cons.mp hp with rfl | hp
    · exact adT_free h.2.1 hc
    · obtain ⟨n, hn, rfl⟩ := List.mem_map.mp hp
      exact numT_free (h.2.2.2.1 n hn) (by omega)
theorem Ent.split_text {e : Ent} (h : e.Wf) : Txt.split e.text (Str.ofString " ") = e.words :=
  split_join tl_sp (by decide +kernel) (by unfold Ent.words; simp) (Ent.words_free h (.inl rfl))
theorem Ent.words_len {e : Ent} (h : e.Wf) : ∀ p ∈ e.words, p.length ≤ 700 := by
  intro p hp
  rcases List.mem_cons.mp hp with rfl | hp
  · have := (word3 (Ent.w3 h)).1; omega
  · rcases List.mem_cons.mp hp with rfl | hp
    · exact adT_len h.2.1 h.2.2.1
    · obtain ⟨n, hn, rfl⟩ := List.mem_map.mp hp
      have := numT_len (h.2.2.2.1 n hn); omega
theorem Ent.words_n {e : Ent} (h : e.Wf) : e.words.length ≤ 102 := by
  have := h.2.2.2.2
  unfold Ent.words
  simp only [List.length_cons, List.length_map]; omega
theorem Ent.text_len {e : Ent} (h : e.Wf) : e.text.length ≤ 71502 := by
  have := join_le tl_sp 700 e.words (Ent.words_len h)
  have h2 := Ent.words_n h
  have : e.words.length * (700 + 1) ≤ 102 * 701 := Nat.mul_le_mul_right _ h2
  unfold Ent.text
  omega
theorem Ent.text_free {e : Ent} (h : e.Wf) : 10 ∉ tl e.text := by
  unfold Ent.text
  rw [join_eq, tl_join, tl_sp]
  have key : ∀ L : List Str, (∀ p ∈ L, 10 ∉ tl p) → 10 ∉ joinL [32] (L.map tl) := by
    intro L
    induction L with
    | nil => intro _ hm; simp [joinL] at hm
    | cons n r ih =>
      intro hL
      have h1 := hL n List.mem_cons_self
      cases r with
      | nil => exact h1
      | cons m r =>
        intro hm
        have e : joinL [32] ((n :: m :: r).map tl) = tl n ++ ([32] ++ joinL [32] ((m :: r).map tl)) := rfl
        rw [e] at hm
        rcases List.mem_append.mp hm with hm | hm
        · exact h1 hm
        · rcases List.mem_append.mp hm with hm | hm
          · rw [List.mem_singleton] at hm; omega
          · exact ih (fun z hz => hL z (List.mem_cons_of_mem _ hz)) hm
  exact key _ (Ent.words_free h (.inr rfl))
theorem Ent.text_first {e : Ent} (h : e.Wf) : ∃ c r, tl e.text = c :: r := by
  unfold Ent.text
  rw [join_eq, tl_join, tl_sp]
  obtain ⟨z, hz⟩ := joinL_first (L := e.words.map tl) (x := tl e.w) (r := (adT e.ad :: e.ms.map numT).map tl) 32 rfl
  have := (word3 (Ent.w3 h)).1
  rw [len_tl] at this
  cases q : tl e.w with
  | nil => rw [q] at this; simp at this
  | cons c r => exact ⟨c, r ++ z, by rw [hz, q]; rfl⟩
theorem book_split {es : List Ent} (h : ∀ e ∈ es, e.Wf) (hne : es ≠ []) : Txt.split (bookText es) (Str.ofString "\n") = es.map Ent.text := by
  refine split_join tl_nl (by decide +kernel) (by simpa using hne) fun p hp => ?_
  obtain ⟨e, he, rfl⟩ := List.mem_map.mp hp
  exact Ent.text_free (h e he)
theorem book_empty {es : List Ent} (h : ∀ e ∈ es, e.Wf) : bookText es = "" ↔ es = [] := by
  constructor
  · intro q
    cases es with
    | nil => rfl
    | cons e r =>
      have e2 := congrArg tl q
      unfold bookText at e2
      rw [join_eq, tl_join, tl_nl] at e2
      obtain ⟨z, hz⟩ := joinL_first (L := ((e :: r).map Ent.text).map tl) (x := tl e.text) (r := (r.map Ent.text).map tl) 10 rfl
      obtain ⟨c, t, ht⟩ := Ent.text_first (h e List.mem_cons_self)
      rw [hz, ht] at e2
      have : tl (Str.ofString "") = [] := by decide +kernel
      rw [this] at e2
      cases e2
  · intro q; rw [q]; decide +kernel
theorem book_len {es : List Ent} (h : ∀ e ∈ es, e.Wf) (hl : es.length ≤ 100) : (bookText es).length ≤ 7150300 := by
  have := join_le tl_nl 71502 (es.map Ent.text) fun x hx => by
    obtain ⟨e, he, rfl⟩ := List.mem_map.mp hx
    exact Ent.text_len (h e he)
  rw [List.length_map] at this
  have : es.length * (71502 + 1) ≤ 100 * 71503 := Nat.mul_le_mul_right _ hl
  unfold bookText
  omega
/-! ### books in the heap -/
/-- v is the tuple of e; its list of makers, if it has one, lies where N says -/
def EntH (H : Hp) (N : Addr → Prop) (e : Ent) (v : V) : Prop := ∃ t ta, v = .ref t ∧ H ta = some (.tup (e.ad.map V.int)) ∧
  ((e.w = "done" ∧ H t = some (.tup [.str e.w, .ref ta])) ∨ (e.w ≠ "done" ∧ ∃ l, N l ∧ H t = some (.tup [.str e.w, .ref ta, .ref l]) ∧ H l = some (.lst (e.ms.map V.int))))
theorem EntH.same {H H' : Hp} {N : Addr → Prop} {e : Ent} {v : V} (s : Same H H') : EntH H N e v → EntH H' N e v := fun ⟨t, ta, h1, h2, h3⟩ =>
  ⟨t, ta, h1, s _ _ h2, h3.elim (fun h => .inl ⟨h.1, s _ _ h.2⟩) fun ⟨n, l, a, b, c⟩ => .inr ⟨n, l, a, s _ _ b, s _ _ c⟩⟩
theorem EntH.weak {H : Hp} {N M : Addr → Prop} {e : Ent} {v : V} (f : ∀ l, (∃ o, H l = some o) → N l → M l) : EntH H N e v → EntH H M e v := fun ⟨t, ta, h1, h2, h3⟩ =>
  ⟨t, ta, h1, h2, h3.elim .inl fun ⟨n, l, a, b, c⟩ => .inr ⟨n, l, f l ⟨_, c⟩ a, b, c⟩⟩
/-- some lists move, all else stands -/
def KeepL (av : List Addr) (H H' : Hp) : Prop := ∀ q o, q ∉ av → H q = some o → H' q = some o
theorem EntH.keep {H H' : Hp} {N : Addr → Prop} {e : Ent} {v : V} {av : List Addr} (k : KeepL av H H') (hl : ∀ a ∈ av, ∃ xs, H a = some (.lst xs)) (hN : ∀ l, N l → l ∉ av) : EntH H N e v → EntH H' N e v := fun ⟨t, ta, h1, h2, h3⟩ => by
  have nt : ∀ {t : Addr} {xs : List V}, H t = some (.tup xs) → H' t = some (.tup xs) := fun {t xs} h => k _ _ (fun hm => by
    obtain ⟨ys, hy⟩ := hl _ hm
    rw [h] at hy; cases hy) h
  exact ⟨t, ta, h1, nt h2, h3.elim (fun h => .inl ⟨h.1, nt h.2⟩) fun ⟨n, l, a, b, c⟩ => .inr ⟨n, l, a, nt b, k _ _ (hN l a) c⟩⟩
theorem dpAll_ints {K : PySem.W.Frag} {H : Hp} : ∀ ns : List Int, DpAll K H (ns.map V.int) (ns.map PyData.int)
  | [] => .nil
  | n :: r => .cons (.int n) (dpAll_ints r)
theorem EntH.dp {K : PySem.W.Frag} {H : Hp} {N : Addr → Prop} {e : Ent} {v : V} (h : EntH H N e v) : Dp K H v e.data := by
  obtain ⟨t, ta, rfl, h2, h3⟩ := h
  have d2 : Dp K H (.ref ta) (.tuple (e.ad.map .int)) := .tup (SqT.of h2) (dpAll_ints _)
  unfold Ent.data
  rcases h3 with ⟨w, h3⟩ | ⟨w, l, _, h3, h4⟩
  · rw [if_pos w]
    exact .tup (SqT.of h3) (.cons (.str _) (.cons d2 .nil))
  · rw [if_neg w]
    exact .tup (SqT.of h3) (.cons (.str _) (.cons d2 (.cons (.lst (SqL.of h4) (dpAll_ints _)) .nil)))
theorem lay_ints : ∀ ns : List Int, PyData.canLayAll0 (ns.map .int) = true
  | [] => rfl
  | n :: r => by show (true && PyData.canLayAll0 (r.map .int)) = true; rw [lay_ints r]; rfl
theorem deep_ints : ∀ ns : List Int, PyData.depthAll (ns.map .int) = 0
  | [] => rfl
  | n :: r => by show max 0 (PyData.depthAll (r.map .int)) = 0; rw [deep_ints r]; rfl
theorem Ent.lay {e : Ent} (h : e.Wf) : e.data.canLay0 = true := by
  have h1 : PyData.strOk e.w = true := strOk_of fun c hc => ((word3 (Ent.w3 h)).2 c hc).2
  unfold Ent.data
  show (PyData.strOk e.w && (PyData.canLayAll0 (e.ad.map .int) && PyData.canLayAll0 _)) = true
  rw [h1, lay_ints]
  by_cases c : e.w = "done"
  · rw [if_pos c]; rfl
  · rw [if_neg c]
    show (true && (true && (PyData.canLayAll0 (e.ms.map .int) && true))) = true
    rw [lay_ints]; rfl
theorem Ent.deep (e : Ent) : e.data.depth ≤ 2 := by
  unfold Ent.data
  show max 0 (max (PyData.depthAll (e.ad.map .int) + 1) (PyData.depthAll _)) + 1 ≤ 2
  rw [deep_ints]
  by_cases c : e.w = "done"
  · rw [if_pos c]; show max 0 (max 1 0) + 1 ≤ 2; omega
  · rw [if_neg c]
    show max 0 (max 1 (max (PyData.depthAll (e.ms.map .int) + 1) 0)) + 1 ≤ 2
    rw [deep_ints]; omega
def bookData (es : List Ent) : PyData := .list (es.map Ent.data)
theorem book_lay {es : List Ent} (h : ∀ e ∈ es, e.Wf) : (bookData es).canLay0 = true := by
  show PyData.canLayAll0 (es.map Ent.data) = true
  induction es with
  | nil => rfl
  | cons e r ih =>
    show (e.data.canLay0 && PyData.canLayAll0 (r.map Ent.data)) = true
    rw [Ent.lay (h e List.mem_cons_self), ih fun z hz => h z (List.mem_cons_of_mem _ hz)]; rfl
theorem book_deep (es : List Ent) : (bookData es).depth ≤ 3 := by
  have : PyData.depthAll (es.map Ent.data) ≤ 2 := by
    induction es with
    | nil => exact Nat.zero_le _
    | cons e r ih =>
      show max e.data.depth (PyData.depthAll (r.map Ent.data)) ≤ 2
      have := Ent.deep e
      omega
  show PyData.depthAll (es.map Ent.data) + 1 ≤ 3
  omega
theorem book_shaped {es : List Ent} (h : ∀ e ∈ es, e.Wf) : SeqAt.shaped (bookData es) = true := by
  show ((bookData es).canLay0 && decide ((bookData es).depth ≤ 64)) = true
  rw [book_lay h, decide_eq_true (Nat.le_trans (book_deep es) (by decide))]; rfl
theorem book_dps {K : PySem.W.Frag} {H : Hp} {N : Addr → Prop} : ∀ {es : List Ent} {vs : List V}, All2 (EntH H N) es vs → DpAll K H vs (es.map Ent.data)
  | _, _, .nil => .nil
  | _, _, .cons h t => .cons h.dp (book_dps t)
theorem book_dp {K : PySem.W.Frag} {H : Hp} {N : Addr → Prop} {r : Addr} {es : List Ent} {vs : List V} (h : H r = some (.lst vs)) (a : All2 (EntH H N) es vs) : Dp K H (.ref r) (bookData es) := .lst (SqL.of h) (book_dps a)
/-! ### promises -/
def spAdText (K : PySem.W.Frag) : Sp := fun vs H Q _ => ∃ (a : Addr) (ns : List Int), vs = [.ref a] ∧ SqT K H a (ns.map V.int) ∧ (∀ n ∈ ns, IsVal n) ∧ ns.length ≤ 100 ∧ ∀ H', Same H H' → Q (.str (adT ns)) H'
def spEntText : Sp := fun vs H Q _ => ∃ (e : Ent) (v : V) (N : Addr → Prop), vs = [v] ∧ EntH H N e v ∧ e.Wf ∧ ∀ H', Same H H' → Q (.str e.text) H'
def spBookText : Sp := fun vs H Q _ => ∃ (r : Addr) (es : List Ent) (xs : List V) (N : Addr → Prop), vs = [.ref r] ∧ H r = some (.lst xs) ∧ All2 (EntH H N) es xs ∧ (∀ e ∈ es, e.Wf) ∧ es.length ≤ 100 ∧ ∀ H', Same H H' → Q (.str (bookText es)) H'
def spCheck (N : Addr) : Sp := fun vs H Q E => ∃ b : Bool, vs = [.bl b] ∧ (b = true → Q .non H) ∧ (b = false → E (.ref N) none H)
def spNumIn (N : Addr) : Sp := fun vs H Q E => ∃ s : Str, vs = [.str s] ∧ s.length ≤ 100000 ∧ (isValW s = true → ∀ H', Same H H' → Q (.int (valOf s)) H') ∧ (isValW s = false → ∀ H', Same H H' → E (.ref N) none H')
def spAdIn : Sp := fun vs H Q _ => ∃ ns : List Int, vs = [.str (adT ns)] ∧ (∀ n ∈ ns, IsVal n) ∧ ns.length ≤ 100 ∧ ∀ a H', Same H H' → H' a = some (.tup (ns.map V.int)) → Q (.ref a) H'
def spMkIn : Sp := fun vs H Q _ => ∃ n : Int, vs = [.str (numT n)] ∧ (n = -1 ∨ IsVal n) ∧ ∀ H', Same H H' → Q (.int n) H'
def spEntIn : Sp := fun vs H Q _ => ∃ e : Ent, vs = [.str e.text] ∧ e.Wf ∧ ∀ v H', Same H H' → EntH H' (fun l => H l = none) e v → Q v H'
def spReadBook : Sp := fun vs H Q _ => ∃ es : List Ent, vs = [.str (bookText es)] ∧ (∀ e ∈ es, e.Wf) ∧ es.length ≤ 100 ∧ ∀ r xs H', Same H H' → H r = none → H' r = some (.lst xs) → All2 (EntH H' (fun l => H l = none ∧ l ≠ r)) es xs → Q (.ref r) H'
/-! ### the law's own -/
def spNumber : Sp := fun vs H Q _ => ∃ (p : Addr), vs = [.ref p] ∧ WellAt H p ∧ ∀ (n : Int) H', IsVal n → KeepX p H H' → WellAt H' p → Q (.int n) H'
def spAddress : Sp := fun vs H Q _ => ∃ (p : Addr), vs = [.ref p] ∧ WellAt H p ∧ ∀ (a : Addr) (ns : List Int) H', (∀ n ∈ ns, IsVal n) → ns.length ≤ 100 → H' a = some (.tup (ns.map V.int)) → KeepX p H H' → WellAt H' p → Q (.ref a) H'
def spMakers : Sp := fun vs H Q _ => ∃ (p : Addr), vs = [.ref p] ∧ WellAt H p ∧ ∀ (l : Addr) (ns : List Int) H', (∀ n ∈ ns, n = -1 ∨ IsVal n) → ns.length ≤ 100 → H l = none → H' l = some (.lst (ns.map V.int)) → KeepX p H H' → WellAt H' p → Q (.ref l) H'
theorem eqv_ints : ∀ ns : List Int, PyData.eqv (.tuple (ns.map .int)) (.tuple []) = decide (ns = [])
  | [] => rfl
  | n :: r => by rw [decide_eq_false (by simp)]; rfl
theorem tup_shaped (ns : List Int) : SeqAt.shaped (.tuple (ns.map .int)) = true := by
  show (PyData.canLayAll0 (ns.map .int) && decide (PyData.depthAll (ns.map .int) + 1 ≤ 64)) = true
  rw [lay_ints, deep_ints]; rfl
theorem at_ints {ns : List Int} {n : Int} (h0 : 0 ≤ n) (h1 : n < (ns.length : Int)) : ∃ z ∈ ns, atI (ns.map V.int) n = some (.int z) := by
  have hk : n.toNat < ns.length := by omega
  have ek : n = ((n.toNat : Nat) : Int) := by omega
  have q : atI (ns.map V.int) ((n.toNat : Nat) : Int) = some (.int ns[n.toNat]) := atI_nat (by rw [List.getElem?_map, List.getElem?_eq_getElem hk] <;> rfl)
  rw [← ek] at q
  exact ⟨_, List.getElem_mem hk, q⟩
theorem sizeL {n : Nat} (h : n ≤ 16777216) : n ≤ sizeLine := Nat.le_trans h (by decide)

def spBook (K : PySem.W.Frag) : Sp := fun vs H Q _ => ∃ (a : Addr) (ns : List Int), vs = [.ref a] ∧ SqL K H a (ns.map V.int) ∧ ∀ (r : Addr) (es : List Ent) (xs : List V) H', Same H H' → H r = none → H' r = some (.lst xs) → All2 (EntH H' (fun l => l ≠ r)) es xs → (∀ e ∈ es, e.Wf) → es.length ≤ 24 → Q (.ref r) H'
def spKinds : Sp := fun vs H Q _ => ∃ (r : Addr) (es : List Ent) (xs : List V) (N : Addr → Prop), vs = [.ref r] ∧ H r = some (.lst xs) ∧ All2 (EntH H N) es xs ∧ (∀ e ∈ es, e.Wf) ∧ ∀ H', Same H H' → Q (.bl true) H'
theorem keepL_of {p : Addr} {H H' : Hp} (k : KeepX p H H') : KeepL [p] H H' := fun q o h e => k q o (fun z => h (by rw [z]; exact List.mem_singleton.mpr rfl)) e
theorem EntH.keepX {H H' : Hp} {N : Addr → Prop} {e : Ent} {v : V} {p : Addr} (k : KeepX p H H') {xs : List V} (hp : H p = some (.lst xs)) (hN : ∀ l, N l → l ≠ p) : EntH H N e v → EntH H' N e v :=
  fun h => h.keep (keepL_of k) (fun a ha => ⟨xs, by rw [List.mem_singleton.mp ha]; exact hp⟩) fun l hl hm => hN l hl (List.mem_singleton.mp hm)
/-- v is an entry's tuple; its list of makers is new since B, not r, and of at most m numbers -/
def ShH (B H : Hp) (r : Addr) (m : Nat) (v : V) : Prop := ∃ t xs, v = .ref t ∧ H t = some (.tup xs) ∧ (xs.length = 2 ∨ ∃ a b l, xs = [a, b, .ref l] ∧ B l = none ∧ l ≠ r ∧ ∃ ys, H l = some (.lst ys) ∧ ys.length ≤ m)
theorem ShH.of {B H : Hp} {r : Addr} {e : Ent} {v : V} (hw : e.Wf) (h : EntH H (fun l => B l = none ∧ l ≠ r) e v) : ShH B H r 100 v := by
  obtain ⟨t, ta, rfl, h2, h3⟩ := h
  rcases h3 with ⟨_, h3⟩ | ⟨_, l, hl, h3, h4⟩
  · exact ⟨t, _, rfl, h3, .inl rfl⟩
  · exact ⟨t, _, rfl, h3, .inr ⟨_, _, l, rfl, hl.1, hl.2, _, h4, by rw [List.length_map]; exact hw.2.2.2.2⟩⟩
theorem ShH.put {B H : Hp} {r : Addr} {m : Nat} {v : V} {l : Addr} {ys : List V} {y : V} (hl : H l = some (.lst ys)) (hm : ys.length ≤ m) (h : ShH B H r m v) : ShH B (upd H l (.lst (ys ++ [y]))) r (m + 1) v := by
  obtain ⟨t, xs, rfl, h1, h2⟩ := h
  refine ⟨t, xs, rfl, by rw [upd_ne (ne_of h1 hl (by intro z; cases z))]; exact h1, h2.imp id ?_⟩
  rintro ⟨a, b, l2, e, hb, hr, zs, hz, hm2⟩
  refine ⟨a, b, l2, e, hb, hr, ?_⟩
  by_cases c : l2 = l
  · subst c
    rw [hl] at hz
    cases hz
    exact ⟨_, upd_same, by rw [List.length_append, List.length_singleton]; omega⟩
  · exact ⟨zs, by rw [upd_ne c]; exact hz, by omega⟩
theorem ShH.up {B H : Hp} {r : Addr} {m n : Nat} {v : V} (hn : m ≤ n) : ShH B H r m v → ShH B H r n v := fun ⟨t, xs, e, h1, h2⟩ =>
  ⟨t, xs, e, h1, h2.imp id fun ⟨a, b, l, e, hb, hr, ys, hy, hm⟩ => ⟨a, b, l, e, hb, hr, ys, hy, by omega⟩⟩
theorem ShH.same {B H H' : Hp} {r : Addr} {m : Nat} {v : V} (s : Same H H') : ShH B H r m v → ShH B H' r m v := fun ⟨t, xs, e, h1, h2⟩ =>
  ⟨t, xs, e, s _ _ h1, h2.imp id fun ⟨a, b, l, e, hb, hr, ys, hy, hm⟩ => ⟨a, b, l, e, hb, hr, ys, s _ _ hy, hm⟩⟩

def spLaw (K : PySem.W.Frag) : Sp := fun vs H Q _ => ∃ (a : Addr) (ns : List Int), vs = [.ref a] ∧ SqL K H a (ns.map V.int) ∧ ns.length ≤ 63 ∧ ∀ H', Q (.bl true) H'

end K81
namespace K81
open PySem L2 TL
def top (i : Nat) : Stmt := PySem.Challenge.pw_hadbeen_k81_books_as_texts.main.body.getD i (.Pass ⟨0, 0, 0, 0⟩)
abbrev s_is_value_word : Stmt := top 5
abbrev s_address_text : Stmt := top 9
abbrev s_entry_text : Stmt := top 10
abbrev s_book_text : Stmt := top 11
abbrev s_check_text : Stmt := top 12
abbrev s_number_in : Stmt := top 13
abbrev s_address_in : Stmt := top 14
abbrev s_maker_in : Stmt := top 15
abbrev s_entry_in : Stmt := top 16
abbrev s_read_book : Stmt := top 17
abbrev s_l_cell : Stmt := top 19
abbrev s_l_mixed : Stmt := top 20
abbrev s_l_twice : Stmt := top 21
abbrev s_l_well : Stmt := top 22
abbrev s_l_draw : Stmt := top 23
abbrev s_l_number : Stmt := top 24
abbrev s_l_address : Stmt := top 25
abbrev s_l_address_text : Stmt := top 26
abbrev s_l_makers : Stmt := top 28
abbrev s_l_book : Stmt := top 29
abbrev s_l_line : Stmt := top 30
abbrev s_l_kinds : Stmt := top 31
abbrev s_law : Stmt := top 32
abbrev N_is_value_word : List Str := ["word", "sign"]
theorem sc_is_value_word : FnScope ["word", "sign"] ["word"] (defScope s_is_value_word) := ⟨rfl, rfl, rfl, by decide +kernel, rfl, by decide +kernel, by decide +kernel⟩
abbrev N_address_text : List Str := ["address", "number"]
theorem sc_address_text : FnScope ["address", "number"] ["address"] (defScope s_address_text) := ⟨rfl, rfl, rfl, by decide +kernel, rfl, by decide +kernel, by decide +kernel⟩
abbrev N_entry_text : List Str := ["entry", "found", "maker"]
theorem sc_entry_text : FnScope ["entry", "found", "maker"] ["entry"] (defScope s_entry_text) := ⟨rfl, rfl, rfl, by decide +kernel, rfl, by decide +kernel, by decide +kernel⟩
abbrev N_book_text : List Str := ["book", "entry"]
theorem sc_book_text : FnScope ["book", "entry"] ["book"] (defScope s_book_text) := ⟨rfl, rfl, rfl, by decide +kernel, rfl, by decide +kernel, by decide +kernel⟩
abbrev N_check_text : List Str := ["good"]
theorem sc_check_text : FnScope ["good"] ["good"] (defScope s_check_text) := ⟨rfl, rfl, rfl, by decide +kernel, rfl, by decide +kernel, by decide +kernel⟩
abbrev N_number_in : List Str := ["word"]
theorem sc_number_in : FnScope ["word"] ["word"] (defScope s_number_in) := ⟨rfl, rfl, rfl, by decide +kernel, rfl, by decide +kernel, by decide +kernel⟩
abbrev N_address_in : List Str := ["word", "numbers", "one"]
theorem sc_address_in : FnScope ["word", "numbers", "one"] ["word"] (defScope s_address_in) := ⟨rfl, rfl, rfl, by decide +kernel, rfl, by decide +kernel, by decide +kernel⟩
abbrev N_maker_in : List Str := ["word"]
theorem sc_maker_in : FnScope ["word"] ["word"] (defScope s_maker_in) := ⟨rfl, rfl, rfl, by decide +kernel, rfl, by decide +kernel, by decide +kernel⟩
abbrev N_entry_in : List Str := ["line", "words", "word"]
theorem sc_entry_in : FnScope ["line", "words", "word"] ["line"] (defScope s_entry_in) := ⟨rfl, rfl, rfl, by decide +kernel, rfl, by decide +kernel, by decide +kernel⟩
abbrev N_read_book : List Str := ["text", "line"]
theorem sc_read_book : FnScope ["text", "line"] ["text"] (defScope s_read_book) := ⟨rfl, rfl, rfl, by decide +kernel, rfl, by decide +kernel, by decide +kernel⟩
abbrev N_l_cell : List Str := ["_law_script", "_law_k"]
theorem sc_l_cell : FnScope ["_law_script", "_law_k"] ["_law_script", "_law_k"] (defScope s_l_cell) := ⟨rfl, rfl, rfl, by decide +kernel, rfl, by decide +kernel, by decide +kernel⟩
abbrev N_l_mixed : List Str := ["_law_cell_here", "_law_k", "_law_number_here"]
theorem sc_l_mixed : FnScope ["_law_cell_here", "_law_k", "_law_number_here"] ["_law_cell_here", "_law_k"] (defScope s_l_mixed) := ⟨rfl, rfl, rfl, by decide +kernel, rfl, by decide +kernel, by decide +kernel⟩
abbrev N_l_twice : List Str := ["_law_cell_here", "_law_k", "_law_number_here"]
theorem sc_l_twice : FnScope ["_law_cell_here", "_law_k", "_law_number_here"] ["_law_cell_here", "_law_k"] (defScope s_l_twice) := ⟨rfl, rfl, rfl, by decide +kernel, rfl, by decide +kernel, by decide +kernel⟩
abbrev N_l_well : List Str := ["_law_script", "_law_k"]
theorem sc_l_well : FnScope ["_law_script", "_law_k"] ["_law_script", "_law_k"] (defScope s_l_well) := ⟨rfl, rfl, rfl, by decide +kernel, rfl, by decide +kernel, by decide +kernel⟩
abbrev N_l_draw : List Str := ["_law_well_here", "_law_most", "_law_number_here"]
theorem sc_l_draw : FnScope ["_law_well_here", "_law_most", "_law_number_here"] ["_law_well_here", "_law_most"] (defScope s_l_draw) := ⟨rfl, rfl, rfl, by decide +kernel, rfl, by decide +kernel, by decide +kernel⟩
abbrev N_l_number : List Str := ["_law_well_here", "_law_way"]
theorem sc_l_number : FnScope ["_law_well_here", "_law_way"] ["_law_well_here"] (defScope s_l_number) := ⟨rfl, rfl, rfl, by decide +kernel, rfl, by decide +kernel, by decide +kernel⟩
abbrev N_l_address : List Str := ["_law_well_here", "_law_most", "_law_k"]
theorem sc_l_address : FnScope ["_law_well_here", "_law_most", "_law_k"] ["_law_well_here"] (defScope s_l_address) := ⟨rfl, rfl, rfl, by decide +kernel, rfl, by decide +kernel, by decide +kernel⟩
abbrev N_l_address_text : List Str := ["_law_address_here", "_law_number_here"]
theorem sc_l_address_text : FnScope ["_law_address_here", "_law_number_here"] ["_law_address_here"] (defScope s_l_address_text) := ⟨rfl, rfl, rfl, by decide +kernel, rfl, by decide +kernel, by decide +kernel⟩
abbrev N_l_makers : List Str := ["_law_well_here", "_law_most", "_law_k"]
theorem sc_l_makers : FnScope ["_law_well_here", "_law_most", "_law_k"] ["_law_well_here"] (defScope s_l_makers) := ⟨rfl, rfl, rfl, by decide +kernel, rfl, by decide +kernel, by decide +kernel⟩
abbrev N_l_book : List Str := ["_law_script", "_law_book_here", "_law_k", "_law_well_here", "_law_turn", "_law_word", "_law_entry"]
theorem sc_l_book : FnScope ["_law_script", "_law_book_here", "_law_k", "_law_well_here", "_law_turn", "_law_word", "_law_entry"] ["_law_script"] (defScope s_l_book) := ⟨rfl, rfl, rfl, by decide +kernel, rfl, by decide +kernel, by decide +kernel⟩
abbrev N_l_line : List Str := ["_law_entry", "_law_words", "_law_one", "_law_maker"]
theorem sc_l_line : FnScope ["_law_entry", "_law_words", "_law_one", "_law_maker"] ["_law_entry"] (defScope s_l_line) := ⟨rfl, rfl, rfl, by decide +kernel, rfl, by decide +kernel, by decide +kernel⟩
abbrev N_l_kinds : List Str := ["_law_found", "_law_entry", "_law_numbers", "_law_one"]
theorem sc_l_kinds : FnScope ["_law_found", "_law_entry", "_law_numbers", "_law_one"] ["_law_found"] (defScope s_l_kinds) := ⟨rfl, rfl, rfl, by decide +kernel, rfl, by decide +kernel, by decide +kernel⟩
abbrev N_law : List Str := ["_law_script", "_law_book_here", "_law_entry", "_law_one", "_law_handed", "_law_text", "_law_turn", "_law_found"]
theorem sc_law : FnScope ["_law_script", "_law_book_here", "_law_entry", "_law_one", "_law_handed", "_law_text", "_law_turn", "_law_found"] ["_law_script"] (defScope s_law) := ⟨rfl, rfl, rfl, by decide +kernel, rfl, by decide +kernel, by decide +kernel⟩
structure Ads where
  is_value_word : Addr
  is_value_word_d : FuncData
  address_text : Addr
  address_text_d : FuncData
  entry_text : Addr
  entry_text_d : FuncData
  book_text : Addr
  book_text_d : FuncData
  check_text : Addr
  check_text_d : FuncData
  number_in : Addr
  number_in_d : FuncData
  address_in : Addr
  address_in_d : FuncData
  maker_in : Addr
  maker_in_d : FuncData
  entry_in : Addr
  entry_in_d : FuncData
  read_book : Addr
  read_book_d : FuncData
  l_cell : Addr
  l_cell_d : FuncData
  l_mixed : Addr
  l_mixed_d : FuncData
  l_twice : Addr
  l_twice_d : FuncData
  l_well : Addr
  l_well_d : FuncData
  l_draw : Addr
  l_draw_d : FuncData
  l_number : Addr
  l_number_d : FuncData
  l_address : Addr
  l_address_d : FuncData
  l_address_text : Addr
  l_address_text_d : FuncData
  l_makers : Addr
  l_makers_d : FuncData
  l_book : Addr
  l_book_d : FuncData
  l_line : Addr
  l_line_d : FuncData
  l_kinds : Addr
  l_kinds_d : FuncData
  law : Addr
  law_d : FuncData
  NoText : Addr
structure Txt (K : PySem.W.Frag) (mg : Str → Option Value) (A : Ads) : Prop where
  F_is_value_word : Fun K "is_value_word" "is_value_word" s_is_value_word A.is_value_word A.is_value_word_d
  b_is_value_word : Binds K A.is_value_word_d ["word"] []
  m_is_value_word : mg "is_value_word" = some (.ref A.is_value_word)
  F_address_text : Fun K "address_text" "address_text" s_address_text A.address_text A.address_text_d
  b_address_text : Binds K A.address_text_d ["address"] []
  m_address_text : mg "address_text" = some (.ref A.address_text)
  F_entry_text : Fun K "entry_text" "entry_text" s_entry_text A.entry_text A.entry_text_d
  b_entry_text : Binds K A.entry_text_d ["entry"] []
  m_entry_text : mg "entry_text" = some (.ref A.entry_text)
  F_book_text : Fun K "book_text" "book_text" s_book_text A.book_text A.book_text_d
  b_book_text : Binds K A.book_text_d ["book"] []
  m_book_text : mg "book_text" = some (.ref A.book_text)
  F_check_text : Fun K "check_text" "check_text" s_check_text A.check_text A.check_text_d
  b_check_text : Binds K A.check_text_d ["good"] []
  m_check_text : mg "check_text" = some (.ref A.check_text)
  F_number_in : Fun K "number_in" "number_in" s_number_in A.number_in A.number_in_d
  b_number_in : Binds K A.number_in_d ["word"] []
  m_number_in : mg "number_in" = some (.ref A.number_in)
  F_address_in : Fun K "address_in" "address_in" s_address_in A.address_in A.address_in_d
  b_address_in : Binds K A.address_in_d ["word"] []
  m_address_in : mg "address_in" = some (.ref A.address_in)
  F_maker_in : Fun K "maker_in" "maker_in" s_maker_in A.maker_in A.maker_in_d
  b_maker_in : Binds K A.maker_in_d ["word"] []
  m_maker_in : mg "maker_in" = some (.ref A.maker_in)
  F_entry_in : Fun K "entry_in" "entry_in" s_entry_in A.entry_in A.entry_in_d
  b_entry_in : Binds K A.entry_in_d ["line"] []
  m_entry_in : mg "entry_in" = some (.ref A.entry_in)
  F_read_book : Fun K "read_book" "read_book" s_read_book A.read_book A.read_book_d
  b_read_book : Binds K A.read_book_d ["text"] []
  m_read_book : mg "read_book" = some (.ref A.read_book)
  F_l_cell : Fun K "_law_cell" "_law_cell" s_l_cell A.l_cell A.l_cell_d
  b_l_cell : Binds K A.l_cell_d ["_law_script", "_law_k"] []
  m_l_cell : mg "_law_cell" = some (.ref A.l_cell)
  F_l_mixed : Fun K "_law_mixed" "_law_mixed" s_l_mixed A.l_mixed A.l_mixed_d
  b_l_mixed : Binds K A.l_mixed_d ["_law_cell_here", "_law_k"] []
  m_l_mixed : mg "_law_mixed" = some (.ref A.l_mixed)
  F_l_twice : Fun K "_law_twice" "_law_twice" s_l_twice A.l_twice A.l_twice_d
  b_l_twice : Binds K A.l_twice_d ["_law_cell_here", "_law_k"] []
  m_l_twice : mg "_law_twice" = some (.ref A.l_twice)
  F_l_well : Fun K "_law_well" "_law_well" s_l_well A.l_well A.l_well_d
  b_l_well : Binds K A.l_well_d ["_law_script", "_law_k"] []
  m_l_well : mg "_law_well" = some (.ref A.l_well)
  F_l_draw : Fun K "_law_draw" "_law_draw" s_l_draw A.l_draw A.l_draw_d
  b_l_draw : Binds K A.l_draw_d ["_law_well_here", "_law_most"] []
  m_l_draw : mg "_law_draw" = some (.ref A.l_draw)
  F_l_number : Fun K "_law_number" "_law_number" s_l_number A.l_number A.l_number_d
  b_l_number : Binds K A.l_number_d ["_law_well_here"] []
  m_l_number : mg "_law_number" = some (.ref A.l_number)
  F_l_address : Fun K "_law_address" "_law_address" s_l_address A.l_address A.l_address_d
  b_l_address : Binds K A.l_address_d ["_law_well_here"] []
  m_l_address : mg "_law_address" = some (.ref A.l_address)
  F_l_address_text : Fun K "_law_address_text" "_law_address_text" s_l_address_text A.l_address_text A.l_address_text_d
  b_l_address_text : Binds K A.l_address_text_d ["_law_address_here"] []
  m_l_address_text : mg "_law_address_text" = some (.ref A.l_address_text)
  F_l_makers : Fun K "_law_makers" "_law_makers" s_l_makers A.l_makers A.l_makers_d
  b_l_makers : Binds K A.l_makers_d ["_law_well_here"] []
  m_l_makers : mg "_law_makers" = some (.ref A.l_makers)
  F_l_book : Fun K "_law_book" "_law_book" s_l_book A.l_book A.l_book_d
  b_l_book : Binds K A.l_book_d ["_law_script"] []
  m_l_book : mg "_law_book" = some (.ref A.l_book)
  F_l_line : Fun K "_law_line" "_law_line" s_l_line A.l_line A.l_line_d
  b_l_line : Binds K A.l_line_d ["_law_entry"] []
  m_l_line : mg "_law_line" = some (.ref A.l_line)
  F_l_kinds : Fun K "_law_kinds" "_law_kinds" s_l_kinds A.l_kinds A.l_kinds_d
  b_l_kinds : Binds K A.l_kinds_d ["_law_found"] []
  m_l_kinds : mg "_law_kinds" = some (.ref A.l_kinds)
  F_law : Fun K "law" "law" s_law A.law A.law_d
  b_law : Binds K A.law_d ["_law_script"] []
  m_law : mg "law" = some (.ref A.law)
  m_NoText : mg "NoText" = some (.ref A.NoText)
  x_NoText : PySem.W.excIn K A.NoText [.type "ValueError", .type "Exception", .type "BaseException", .type "object"] "ValueError.__new__" = true
  kk_NoText : PySem.W.keepIn K (.ref A.NoText) = true
  bb_NoText : PySem.W.subIn K (.ref A.NoText) (.type "BaseException") = some true
  tt_NoText : PySem.W.typeIn K (.ref A.NoText) = some (.type "type")
  c_FIGURES : ∃ t, mg "FIGURES" = some (.str "0123456789" t)
  c_MOST_NUMBERS : ∃ t, mg "MOST_NUMBERS" = some (.int 100 t)
  c_MOST_MAKERS : ∃ t, mg "MOST_MAKERS" = some (.int 6000 t)
  z_len : mg "len" = none
  z_all : mg "all" = none
  z_str : mg "str" = none
  z_int : mg "int" = none
  z_tuple : mg "tuple" = none
  z_isinstance : mg "isinstance" = none
  z_range : mg "range" = none
  z_list : mg "list" = none
  z_bool : mg "bool" = none
end K81
open PySem L2 TL

local macro_rules | `(tactic| walk_at "rd") => `(tactic| repeat (first
  | refine ⟨_, rfl, ?_⟩
  | refine ⟨_, _, rfl, rfl, ?_⟩
  | refine ⟨Or.inl ⟨by decide, by decide⟩, ?_⟩
  | refine ⟨Or.inr ⟨by decide, by decide⟩, ?_⟩
  | refine ⟨(⟨by decide, by decide⟩ : CDiv _ _), ?_⟩
  | refine ⟨(⟨by decide, by decide, by decide⟩ : CPow _ _), ?_⟩
  | refine ⟨(by show (0 : Int) < _; decide), ?_⟩
  | refine ⟨K81.mod64, ?_⟩))
namespace K81
open PySem L2 TL
section
variable {P : Program} {w : World} {K : PySem.W.Frag} {mg : Str → Option Value} {base : Heap} {A : Ads}
theorem ok_is_value_word (T : Txt K mg A) : FnOk P w K mg base CX0 1 A.is_value_word A.is_value_word_d ["word"] (spTruthS isValW) := by
  refine T.F_is_value_word.ok sc_is_value_word (fun vs H Q E h => ?_) (fun cdv A0 outer s H vs Q E hr h => ?_)
  · obtain ⟨s, rfl, hl, q⟩ := h
    rfl
  obtain ⟨s, rfl, hl, q⟩ := h
  refine ⟨_, (pss_cons (ps_if (PW.pt (pw_or (pt_not (pt_chain op_le op_le pe_int (pe_callB call_len_str (by rfl) T.z_len (by decide +kernel) (pa_cons (pv 0) pa_nil)) pe_int)) (pw_or1 (PW.pt (pw_and (pt_cmpR op_eq (pe_ix ix_str (pv 0) pe_int (fun _ _ => rfl)) pe_str (nomark _)) (pw_and1 (pt_cmpR op_ne (pv 0) pe_str (nomark _))))))))
    (pss_one (ps_ret pe_bl))
    pss_nil)
   (pss_one (ps_ret (pe_callB (cr_all rfl) (by rfl) T.z_all (by decide +kernel) (pa_cons (pe_lc (own := [("sign", 1)]) (g := gName 1) (tt := tYes) rfl sc_is_value_word.nd (pi_str (pv 0)) (blkOk_by (own := [("sign", 1)]) (N := N_is_value_word) (sc := defScope s_is_value_word) (by decide +kernel)) (fun _ _ _ _ _ => pg_name (i := 1) sc_is_value_word.nd rfl (Or.inl rfl)) (fun _ _ _ _ _ => pts_nil) (fun _ _ _ _ _ => (pe_cmpR op_in_sign (pv 1) (pe_glob (v := .str "0123456789") (by rfl) T.c_FIGURES.choose_spec ⟨_, rfl⟩) rfl))) pa_nil))))), ?_⟩
  have hs : s.length = (tl s).length := len_tl s
  refine ⟨_, rfl, _, rfl, len_line hl, _, _, rfl, rfl, _, rfl, ?_⟩
  refine iteD2 (fun c1 => ?_) (fun c1 => ?_)
  · refine ⟨_, _, rfl, rfl, _, rfl, iteN2 (fun c2 => ?_) (fun c2 => ?_)⟩
    · refine (valW_false1 (s := s) (Or.inr ?_)) ▸ q _ (Same.refl H)
      omega
    · have h6 : (tl s).length ≤ 6 ∧ 1 ≤ (tl s).length := by omega
      obtain ⟨c, r, hc⟩ : ∃ c r, tl s = c :: r := by
        cases e : tl s with
        | nil => rw [e] at h6; simp at h6
        | cons c r => exact ⟨c, r, rfl⟩
      refine ⟨_, rfl, s, 0, c, rfl, rfl, len_line hl, (by show atI (tl s) ((0 : Nat) : Int) = some c; rw [hc]; exact atI_nat rfl), rfl, _, rfl, ?_⟩
      refine iteD2 (fun c3 => ?_) (fun c3 => ?_)
      · refine ⟨_, rfl, rfl, _, rfl, iteN2 (fun c4 => ?_) (fun c4 => ?_)⟩
        · refine (valW_false2 (s := s) ?_ (fun e => c4 (congrArg V.str e))) ▸ q _ (Same.refl H)
          rw [hc]
          have := congrArg tl (V.str.inj c3)
          have z : tl (Str.ofString "0") = [48] := by decide +kernel
          rw [z] at this
          have e2 : [c] = [48] := this
          rw [List.cons.injEq] at e2
          rw [e2.1]; rfl
        · exact rd_all (f := isDig) rfl (by show 1 < 2; decide) (by decide) (by omega) fig_mem fun H' s' => (valW_true (s := s) h6.2 h6.1 (fun _ => V.str.inj c4)) ▸ q H' s'
      · refine rd_all (f := isDig) rfl (by show 1 < 2; decide) (by decide) (by omega) fig_mem fun H' s' => (valW_true (s := s) h6.2 h6.1 (fun e => ?_)) ▸ q H' s'
        rw [hc, List.head?_cons] at e
        refine absurd (congrArg V.str ?_) c3
        refine ext_tl ?_
        have z : tl (Str.ofString "0") = [48] := by decide +kernel
        rw [z, Option.some.inj e]
  · refine ⟨_, rfl, iteT ?_⟩
    refine (valW_false1 (s := s) (Or.inl ?_)) ▸ q _ (Same.refl H)
    omega

end
end K81
namespace K81
open PySem L2 TL
section
variable {P : Program} {w : World} {K : PySem.W.Frag} {mg : Str → Option Value} {base : Heap} {A : Ads}
theorem ok_address_text (T : Txt K mg A) : FnOk P w K mg base CX0 1 A.address_text A.address_text_d ["address"] (spAdText K) := by
  refine T.F_address_text.ok sc_address_text (fun vs H Q E h => ?_) (fun cdv A0 outer s H vs Q E hr h => ?_)
  · obtain ⟨a, ns, rfl, hS, hv, hl, q⟩ := h
    rfl
  obtain ⟨a, ns, rfl, hS, hv, hl, q⟩ := h
  refine ⟨_, (pss_cons (ps_if (pt_cmpR (op_eqD hr.units) (pv 0) (pe_tup pa_nil) (nomark _))
    (pss_one (ps_ret pe_str))
    pss_nil)
   (pss_one (ps_ret (pe_join pe_str (pe_lc (own := [("number", 1)]) (g := gName 1) (tt := tYes) rfl sc_address_text.nd (pi_tup (pv 0)) (blkOk_by (own := [("number", 1)]) (N := N_address_text) (sc := defScope s_address_text) (by decide +kernel)) (fun _ _ _ _ _ => pg_name (i := 1) sc_address_text.nd rfl (Or.inl rfl)) (fun _ _ _ _ _ => pts_nil) (fun _ _ _ _ _ => (pe_callTy call_str_int (by rfl) T.z_str (by decide +kernel) (pa_cons (pv 1) pa_nil)))))))), ?_⟩
  refine ⟨_, rfl, by show 0 ≤ sizeLine; decide, fun t ht => ?_⟩
  have s1 := same_new (o := .tup []) ht
  refine ⟨.tuple (ns.map .int), .tuple [], .tup (same_tup s1 hS) (dpAll_ints ns), .tup (SqT.of upd_same) .nil, tup_shaped ns, rfl, _, rfl, ?_⟩
  rw [eqv_ints]
  refine iteD2 (fun c => ?_) (fun c => ?_)
  · subst c; exact q _ s1
  · refine ⟨⟨_, rfl⟩, _, rfl, a, rfl, ⟨_, same_tup s1 hS⟩, fun D hD => lc_mapA ns V.int (fun n => V.str (numT n)) 0 walk_tup hD (by omega) (by show 1 < 2; decide) (fun H' s' => same_tup (s1.trans s') hS) ?_ ?_⟩
    · intro n hn H' Z s' z
      have h0 := (hv n hn).1
      have h1 := (hv n hn).2
      exact ⟨_, rfl, n, rfl, log_small (by omega), z H' (Same.refl H')⟩
    · intro H' s' hD'
      have hj := join_len (Str.ofString ".") 6 (by decide +kernel) (ns.map numT) fun x hx => by
        obtain ⟨n, hn, rfl⟩ := List.mem_map.mp hx
        exact numT_len (.inr (hv n hn))
      rw [List.length_map] at hj
      refine ⟨_, D, ns.map numT, rfl, rfl, .inl (SqL.of (by rw [hD', List.map_map]; rfl)), by rw [List.length_map]; omega, ?_⟩
      have e : Txt.join (Str.ofString ".") (ns.map numT) = adT ns := (if_neg c).symm
      rw [e]
      exact q _ (s1.trans s')

end
end K81
namespace K81
open PySem L2 TL
section
variable {P : Program} {w : World} {K : PySem.W.Frag} {mg : Str → Option Value} {base : Heap} {A : Ads}
theorem ok_entry_text (T : Txt K mg A) : FnOk P w K mg base CX0 2 A.entry_text A.entry_text_d ["entry"] spEntText := by
  have G_address_text := ok_address_text (P := P) (w := w) (base := base) T
  refine T.F_entry_text.ok sc_entry_text (fun vs H Q E h => ?_) (fun cdv A0 outer s H vs Q E hr h => ?_)
  · obtain ⟨e, v, N, rfl, h, hw, q⟩ := h
    rfl
  obtain ⟨e, v, N, rfl, h, hw, q⟩ := h
  refine ⟨_, (pss_cons (ps_set (i := 1) sc_entry_text.nd rfl (Or.inl rfl) (pe_lst (pa_cons (pe_ix ix_tup (pv 0) pe_int (fun _ _ => rfl)) (pa_cons (pe_call G_address_text (hr.mono (by decide)) rfl T.m_address_text T.F_address_text.kp T.b_address_text .nil pass0 (pa_cons (pe_ix ix_tup (pv 0) pe_int (fun _ _ => rfl)) pa_nil)) pa_nil))))
   (pss_cons (ps_if (pt_cmpR op_ne (pe_ix ix_tup (pv 0) pe_int (fun _ _ => rfl)) pe_str (nomark _))
    (pss_one (ps_set (i := 1) sc_entry_text.nd rfl (Or.inl rfl) (pe_op op_cat (pv 1) (pe_lc (own := [("maker", 2)]) (g := gName 2) (tt := tYes) rfl sc_entry_text.nd (pi_list (pe_ix ix_tup (pv 0) pe_int (fun _ _ => rfl))) (blkOk_by (own := [("maker", 2)]) (N := N_entry_text) (sc := defScope s_entry_text) (by decide +kernel)) (fun _ _ _ _ _ => pg_name (i := 2) sc_entry_text.nd rfl (Or.inl rfl)) (fun _ _ _ _ _ => pts_nil) (fun _ _ _ _ _ => (pe_callTy call_str_int (by rfl) T.z_str (by decide +kernel) (pa_cons (pv 2) pa_nil)))))))
    pss_nil)
   (pss_one (ps_ret (pe_join pe_str (pv 1)))))), ?_⟩
  have hdone : e.w = "done" → e.ms = [] := fun w => by
    rcases hw.1 with h | h
    · exact h.2
    · rcases h with h | h <;> (rw [h] at w; exact absurd w (by decide +kernel))
  obtain ⟨t, ta, rfl, h2, h3⟩ := h

  rcases h3 with ⟨w, h3⟩ | ⟨w, l, hl, h3, h4⟩
  · refine ⟨_, rfl, t, _, _, _, rfl, rfl, SqT.of h3, rfl, _, rfl, t, _, _, _, rfl, rfl, SqT.of h3, rfl, ta, e.ad, rfl, SqT.of h2, hw.2.1, hw.2.2.1, fun H1 s1 => ?_⟩
    refine ⟨by show 2 ≤ sizeLine; decide, fun l1 hl1 => ?_⟩
    have s2 := s1.trans (same_new (o := .lst [.str e.w, .str (adT e.ad)]) hl1)
    refine ⟨_, rfl, t, _, _, _, rfl, rfl, SqT.of (s2 _ _ h3), rfl, rfl, _, rfl, iteNF (congrArg V.str w) ?_⟩
    have ew : e.words = [e.w, adT e.ad] := by unfold Ent.words; rw [hdone w]; rfl
    refine ⟨⟨_, rfl⟩, _, rfl, _, l1, [e.w, adT e.ad], rfl, rfl, .inl (SqL.of upd_same), ?_, ?_⟩
    · have := join_len (Str.ofString " ") 700 (by decide +kernel) e.words (Ent.words_len hw)
      rw [ew] at this
      exact sizeL (Nat.le_trans this (by show 2 * 701 ≤ _; decide))
    · rw [← ew]; exact q _ s2
  · refine ⟨_, rfl, t, _, _, _, rfl, rfl, SqT.of h3, rfl, _, rfl, t, _, _, _, rfl, rfl, SqT.of h3, rfl, ta, e.ad, rfl, SqT.of h2, hw.2.1, hw.2.2.1, fun H1 s1 => ?_⟩
    refine ⟨by show 2 ≤ sizeLine; decide, fun l1 hl1 => ?_⟩
    have s2 := s1.trans (same_new (o := .lst [.str e.w, .str (adT e.ad)]) hl1)
    have g1 : upd H1 l1 (.lst [.str e.w, .str (adT e.ad)]) l1 = some (.lst [.str e.w, .str (adT e.ad)]) := upd_same
    refine ⟨_, rfl, t, _, _, _, rfl, rfl, SqT.of (s2 _ _ h3), rfl, rfl, _, rfl, iteNT (vstr_ne w) ?_⟩
    refine ⟨_, rfl, _, rfl, t, _, _, _, rfl, rfl, SqT.of (s2 _ _ h3), rfl, l, rfl, ⟨_, SqL.of (s2 _ _ h4)⟩, fun D hD => lc_mapA e.ms V.int (fun n => V.str (numT n)) 0 walk_list hD (by have := hw.2.2.2.2; omega) (by show 2 < 3; decide) (fun H' s' => SqL.of ((s2.trans s') _ _ h4)) ?_ ?_⟩
    · intro n hn H' Z s' z
      have hb : n.natAbs < 2 ^ 20 := by
        rcases hw.2.2.2.1 n hn with h | h
        · rw [h]; decide
        · have h0 := h.1
          have h1 := h.2
          omega
      exact ⟨_, rfl, n, rfl, log_small hb, z H' (Same.refl H')⟩
    · intro H' s' hD'
      refine ⟨l1, D, _, _, rfl, rfl, s' _ _ g1, hD', by rw [List.length_map]; show 2 + e.ms.length ≤ sizeLine; have := hw.2.2.2.2; exact sizeL (by omega), fun l2 hl2 => ?_⟩
      have ew : ([V.str e.w, V.str (adT e.ad)] ++ e.ms.map fun n => V.str (numT n)) = e.words.map V.str := by unfold Ent.words; simp
      rw [ew]
      refine ⟨⟨_, rfl⟩, _, rfl, _, l2, e.words, rfl, rfl, .inl (SqL.of upd_same), ?_, ?_⟩
      · have := join_len (Str.ofString " ") 700 (by decide +kernel) e.words (Ent.words_len hw)
        have h2 := Ent.words_n hw
        have : e.words.length * (700 + 1) ≤ 102 * 701 := Nat.mul_le_mul_right _ h2
        omega
      · exact q _ (s2.trans (s'.trans (same_new hl2)))

end
end K81
namespace K81
open PySem L2 TL
section
variable {P : Program} {w : World} {K : PySem.W.Frag} {mg : Str → Option Value} {base : Heap} {A : Ads}
theorem ok_book_text (T : Txt K mg A) : FnOk P w K mg base CX0 3 A.book_text A.book_text_d ["book"] spBookText := by
  have G_entry_text := ok_entry_text (P := P) (w := w) (base := base) T
  refine T.F_book_text.ok sc_book_text (fun vs H Q E h => ?_) (fun cdv A0 outer s H vs Q E hr h => ?_)
  · obtain ⟨r, es, xs, N, rfl, hr0, ha, hw, hl, q⟩ := h
    rfl
  obtain ⟨r, es, xs, N, rfl, hr0, ha, hw, hl, q⟩ := h
  refine ⟨_, (pss_one (ps_ret (pe_join pe_str (pe_lc (own := [("entry", 1)]) (g := gName 1) (tt := tYes) rfl sc_book_text.nd (pi_list (pv 0)) (blkOk_by (own := [("entry", 1)]) (N := N_book_text) (sc := defScope s_book_text) (by decide +kernel)) (fun _ _ _ _ _ => pg_name (i := 1) sc_book_text.nd rfl (Or.inl rfl)) (fun _ _ _ _ _ => pts_nil) (fun _ _ _ _ _ => (pe_call G_entry_text (hr.mono (by decide)) rfl T.m_entry_text T.F_entry_text.kp T.b_entry_text .nil pass0 (pa_cons (pv 1) pa_nil))))))), ?_⟩
  have hlen := ha.length
  refine ⟨⟨_, rfl⟩, _, rfl, r, rfl, ⟨_, SqL.of hr0⟩, fun D hD => lc_rel es (fun _ e y => y = V.str e.text) ha (fun _ _ _ _ _ h => h) (fun _ _ _ _ _ h _ => h) walk_list hD (by omega) (by show 1 < 2; decide) (fun H' s' => SqL.of (s' _ _ hr0)) ?_ ?_⟩
  · intro e v he hv hb H' Z s' _ z
    exact ⟨_, rfl, e, v, N, rfl, hb.same s', hw e he, fun H2 s2 => z H2 _ s2 rfl⟩
  · intro H' ys s' h2 hD'
    have ey : ∀ {es : List Ent} {ys : List V}, All2 (fun e y => y = V.str e.text) es ys → ys = (es.map Ent.text).map V.str := by
      intro es
      induction es with
      | nil => intro ys h; cases h; rfl
      | cons e r ih => intro ys h; cases h with | cons h t => rw [ih t, h]; rfl
    have e1 := ey h2
    subst e1
    refine ⟨_, D, es.map Ent.text, rfl, rfl, .inl (SqL.of hD'), ?_, q _ s'⟩
    have := join_len (Str.ofString "\n") 71502 (by decide +kernel) (es.map Ent.text) fun x hx => by
      obtain ⟨e, he, rfl⟩ := List.mem_map.mp hx
      exact Ent.text_len (hw e he)
    rw [List.length_map] at this ⊢
    have : es.length * (71502 + 1) ≤ 100 * 71503 := Nat.mul_le_mul_right _ hl
    omega

end
end K81
namespace K81
open PySem L2 TL
section
variable {P : Program} {w : World} {K : PySem.W.Frag} {mg : Str → Option Value} {base : Heap} {A : Ads}
theorem ok_check_text (T : Txt K mg A) : FnOk P w K mg base (L2.CX P w) 1 A.check_text A.check_text_d ["good"] (spCheck A.NoText) := by
  refine T.F_check_text.okX sc_check_text (fun vs H Q E h => ?_) (fun cdv A0 outer s H vs Q E hr h => ?_)
  · obtain ⟨b, rfl, q1, q2⟩ := h
    rfl
  obtain ⟨b, rfl, q1, q2⟩ := h
  refine ⟨_, (pss_one (ps_if (pt_not (pt_val (pv 0)))
    (pss_one (ps_raise rfl (takes_of rfl rfl rfl rfl) (pmk_own PySem.F.excBase_ValueError T.x_NoText T.m_NoText T.kk_NoText (raises_own T.bb_NoText T.tt_NoText) (by exact rfl))))
    pss_nil)), ?_⟩
  refine ⟨_, rfl, _, rfl, ?_⟩
  cases b with
  | true => exact iteF (q1 rfl)
  | false => exact iteT (q2 rfl)

end
end K81
namespace K81
open PySem L2 TL
section
variable {P : Program} {w : World} {K : PySem.W.Frag} {mg : Str → Option Value} {base : Heap} {A : Ads}
theorem ok_number_in (T : Txt K mg A) : FnOk P w K mg base (L2.CX P w) 2 A.number_in A.number_in_d ["word"] (spNumIn A.NoText) := by
  have G_check_text := ok_check_text (P := P) (w := w) (base := base) T
  have G_is_value_word := ok_is_value_word (P := P) (w := w) (base := base) T
  refine T.F_number_in.okX sc_number_in (fun vs H Q E h => ?_) (fun cdv A0 outer s H vs Q E hr h => ?_)
  · obtain ⟨s, rfl, hl, q1, q2⟩ := h
    rfl
  obtain ⟨s, rfl, hl, q1, q2⟩ := h
  refine ⟨_, (pss_cons (ps_expr (pe_call G_check_text (hr.mono (by decide)) rfl T.m_check_text T.F_check_text.kp T.b_check_text .nil (passes_call (takes_of rfl rfl rfl rfl) (fun _ _ _ _ h => h)) (pa_cons (pe_call G_is_value_word (hr.mono (by decide)) rfl T.m_is_value_word T.F_is_value_word.kp T.b_is_value_word .nil pass0 (pa_cons (pv 0) pa_nil)) pa_nil)))
   (pss_one (ps_ret (pe_callTy call_int_str (by rfl) T.z_int (by decide +kernel) (pa_cons (pv 0) pa_nil))))), ?_⟩
  refine ⟨_, rfl, s, rfl, hl, fun H1 s1 => ?_⟩
  refine ⟨_, rfl, fun c => ?_, fun c => q2 c H1 s1⟩
  have hv := valW_int c
  exact ⟨_, rfl, s, valOf s, rfl, hv.1, hv.2.1, q1 c H1 s1⟩

end
end K81
namespace K81
open PySem L2 TL
section
variable {P : Program} {w : World} {K : PySem.W.Frag} {mg : Str → Option Value} {base : Heap} {A : Ads}
theorem ok_address_in (T : Txt K mg A) : FnOk P w K mg base CX0 3 A.address_in A.address_in_d ["word"] spAdIn := by
  have G_check_text := ok_check_text (P := P) (w := w) (base := base) T
  have G_number_in := ok_number_in (P := P) (w := w) (base := base) T
  refine T.F_address_in.ok sc_address_in (fun vs H Q E h => ?_) (fun cdv A0 outer s H vs Q E hr h => ?_)
  · obtain ⟨ns, rfl, hv, hl, q⟩ := h
    rfl
  obtain ⟨ns, rfl, hv, hl, q⟩ := h
  refine ⟨_, (pss_cons (ps_if (pt_cmpR op_eq (pv 0) pe_str (nomark _))
    (pss_one (ps_ret (pe_tup pa_nil)))
    pss_nil)
   (pss_cons (ps_set (i := 1) sc_address_in.nd rfl (Or.inl rfl) (pe_split (pv 0) pe_str))
   (pss_cons (ps_expr (pe_call G_check_text (hr.mono (by decide)) rfl T.m_check_text T.F_check_text.kp T.b_check_text .nil passL (pa_cons (pe_cmpR op_le (pe_callB call_lenK (by rfl) T.z_len (by decide +kernel) (pa_cons (pv 1) pa_nil)) (pe_glob (v := .int 100) (by rfl) T.c_MOST_NUMBERS.choose_spec ⟨_, rfl⟩) (nomark _)) pa_nil)))
   (pss_one (ps_ret (pe_callTy call_tuple_ofK (by rfl) T.z_tuple (by decide +kernel) (pa_cons (pe_lc (own := [("one", 2)]) (g := gName 2) (tt := tYes) rfl sc_address_in.nd (pi_list (pv 1)) (blkOk_by (own := [("one", 2)]) (N := N_address_in) (sc := defScope s_address_in) (by decide +kernel)) (fun _ _ _ _ _ => pg_name (i := 2) sc_address_in.nd rfl (Or.inl rfl)) (fun _ _ _ _ _ => pts_nil) (fun _ _ _ _ _ => (pe_call G_number_in (hr.mono (by decide)) rfl T.m_number_in T.F_number_in.kp T.b_number_in .nil passL (pa_cons (pv 2) pa_nil)))) pa_nil))))))), ?_⟩
  refine ⟨_, rfl, rfl, _, rfl, ?_⟩
  refine iteD2 (fun c => ?_) (fun c => ?_)
  · have e := (adT_dash hv).mp (V.str.inj c)
    subst e
    exact ⟨by show 0 ≤ sizeLine; decide, fun t ht => q t _ (same_new ht) upd_same⟩
  · have hne : ns ≠ [] := fun e => c (congrArg V.str ((adT_dash hv).mpr e))
    have hla := adT_len hv hl
    refine ⟨_, rfl, ⟨_, rfl⟩, adT ns, _, rfl, rfl, (by decide +kernel), sizeL (by omega), fun l hn => ?_⟩
    rw [adT_split hv hne]
    have s1 := same_new (o := .lst ((ns.map numT).map V.str)) hn
    have g1 : upd H l (.lst ((ns.map numT).map V.str)) l = some (.lst ((ns.map numT).map V.str)) := upd_same
    refine ⟨_, rfl, l, _, rfl, .inl (SqL.of g1), _, _, rfl, rfl, _, rfl, fun _ => ?_, fun h => ?_⟩
    · refine ⟨_, rfl, l, rfl, ⟨_, SqL.of g1⟩, fun D hD => lc_mapA ns (fun n => V.str (numT n)) V.int 0 walk_list hD (by omega) (by show 2 < 3; decide) (fun H' s' => SqL.of (by rw [s' _ _ g1, List.map_map]; rfl)) ?_ ?_⟩
      · intro n hn H' Z s' z
        have hw := numT_valW (hv n hn).1 (hv n hn).2
        have hlen := numT_len (.inr (hv n hn))
        refine ⟨_, rfl, numT n, rfl, by omega, fun _ H2 s2 => ?_, fun h => absurd hw.1 (by rw [h]; decide)⟩
        rw [hw.2]; exact z H2 s2
      · intro H' s' hD'
        exact ⟨D, _, rfl, .inl ⟨SqL.of hD', fun t ht => q t _ (s1.trans (s'.trans (same_new ht))) upd_same⟩⟩
    · rw [List.length_map, List.length_map] at h
      have h' := of_decide_eq_false h
      omega

end
end K81
namespace K81
open PySem L2 TL
section
variable {P : Program} {w : World} {K : PySem.W.Frag} {mg : Str → Option Value} {base : Heap} {A : Ads}
theorem ok_maker_in (T : Txt K mg A) : FnOk P w K mg base CX0 3 A.maker_in A.maker_in_d ["word"] spMkIn := by
  have G_number_in := ok_number_in (P := P) (w := w) (base := base) T
  refine T.F_maker_in.ok sc_maker_in (fun vs H Q E h => ?_) (fun cdv A0 outer s H vs Q E hr h => ?_)
  · obtain ⟨n, rfl, hv, q⟩ := h
    rfl
  obtain ⟨n, rfl, hv, q⟩ := h
  refine ⟨_, (pss_cons (ps_if (pt_cmpR op_eq (pv 0) pe_str (nomark _))
    (pss_one (ps_ret (pe_un un_neg pe_int)))
    pss_nil)
   (pss_one (ps_ret (pe_call G_number_in (hr.mono (by decide)) rfl T.m_number_in T.F_number_in.kp T.b_number_in .nil passL (pa_cons (pv 0) pa_nil))))), ?_⟩
  refine ⟨_, rfl, rfl, _, rfl, ?_⟩
  refine iteD2 (fun c => ?_) (fun c => ?_)
  · rcases hv with e | hv
    · subst e; exact ⟨1, rfl, q H (Same.refl H)⟩
    · obtain ⟨c1, r, hc, h1, h2⟩ := numT_pos hv
      have e2 := congrArg tl (V.str.inj c)
      rw [hc] at e2
      have : tl (Str.ofString "-1") = [45, 49] := by decide +kernel
      rw [this] at e2
      have := (List.cons.inj e2).1
      omega
  · rcases hv with e | hv
    · subst e; exact absurd (congrArg V.str numT_m1) c
    · have hw := numT_valW hv.1 hv.2
      have hlen := numT_len (.inr hv)
      refine ⟨_, rfl, numT n, rfl, by omega, fun _ H2 s2 => ?_, fun h => absurd hw.1 (by rw [h]; decide)⟩
      rw [hw.2]; exact q H2 s2

end
end K81
namespace K81
open PySem L2 TL
section
variable {P : Program} {w : World} {K : PySem.W.Frag} {mg : Str → Option Value} {base : Heap} {A : Ads}
theorem ok_entry_in (T : Txt K mg A) : FnOk P w K mg base CX0 4 A.entry_in A.entry_in_d ["line"] spEntIn := by
  have G_check_text := ok_check_text (P := P) (w := w) (base := base) T
  have G_address_in := ok_address_in (P := P) (w := w) (base := base) T
  have G_maker_in := ok_maker_in (P := P) (w := w) (base := base) T
  refine T.F_entry_in.ok sc_entry_in (fun vs H Q E h => ?_) (fun cdv A0 outer s H vs Q E hr h => ?_)
  · obtain ⟨e, rfl, hw, q⟩ := h
    rfl
  obtain ⟨e, rfl, hw, q⟩ := h
  refine ⟨_, (pss_cons (ps_set (i := 1) sc_entry_in.nd rfl (Or.inl rfl) (pe_split (pv 0) pe_str))
   (pss_cons (ps_if (pt_cmpR op_eq (pe_ix ix_list (pv 1) pe_int (fun _ _ => rfl)) pe_str (nomark _))
    (pss_cons (ps_expr (pe_call G_check_text (hr.mono (by decide)) rfl T.m_check_text T.F_check_text.kp T.b_check_text .nil passL (pa_cons (pe_cmpR op_eq (pe_callB call_lenK (by rfl) T.z_len (by decide +kernel) (pa_cons (pv 1) pa_nil)) pe_int (nomark _)) pa_nil)))
   (pss_one (ps_ret (pe_tup (pa_cons pe_str (pa_cons (pe_call G_address_in (hr.mono (by decide)) rfl T.m_address_in T.F_address_in.kp T.b_address_in .nil pass0 (pa_cons (pe_ix ix_list (pv 1) pe_int (fun _ _ => rfl)) pa_nil)) pa_nil))))))
    pss_nil)
   (pss_cons (ps_expr (pe_call G_check_text (hr.mono (by decide)) rfl T.m_check_text T.F_check_text.kp T.b_check_text .nil passL (pa_cons (pe_and (pe_cmpR op_in_seq (pe_ix ix_list (pv 1) pe_int (fun _ _ => rfl)) (pe_tup (pa_cons pe_str (pa_cons pe_str pa_nil))) (by rfl)) (pe_one (pe_chain op_le op_le pe_int (pe_callB call_lenK (by rfl) T.z_len (by decide +kernel) (pa_cons (pv 1) pa_nil)) (pe_op op_add pe_int (pe_glob (v := .int 6000) (by rfl) T.c_MOST_MAKERS.choose_spec ⟨_, rfl⟩))))) pa_nil)))
   (pss_one (ps_ret (pe_tup (pa_cons (pe_ix ix_list (pv 1) pe_int (fun _ _ => rfl)) (pa_cons (pe_call G_address_in (hr.mono (by decide)) rfl T.m_address_in T.F_address_in.kp T.b_address_in .nil pass0 (pa_cons (pe_ix ix_list (pv 1) pe_int (fun _ _ => rfl)) pa_nil)) (pa_cons (pe_lc (own := [("word", 2)]) (g := gName 2) (tt := tYes) rfl sc_entry_in.nd (pi_list (pe_slice sl_list (pv 1) (po_some pe_int) po_none)) (blkOk_by (own := [("word", 2)]) (N := N_entry_in) (sc := defScope s_entry_in) (by decide +kernel)) (fun _ _ _ _ _ => pg_name (i := 2) sc_entry_in.nd rfl (Or.inl rfl)) (fun _ _ _ _ _ => pts_nil) (fun _ _ _ _ _ => (pe_call G_maker_in (hr.mono (by decide)) rfl T.m_maker_in T.F_maker_in.kp T.b_maker_in .nil pass0 (pa_cons (pv 2) pa_nil)))) pa_nil))))))))), ?_⟩
  have htl := Ent.text_len hw
  refine ⟨_, rfl, ⟨_, rfl⟩, e.text, _, rfl, rfl, (by decide +kernel), sizeL (by omega), fun l hn => ?_⟩
  rw [Ent.split_text hw]
  have s1 := same_new (o := .lst (e.words.map V.str)) hn
  have a0 : atI (e.words.map V.str) 0 = some (V.str e.w) := atI_nat (xs := e.words.map V.str) (j := 0) rfl
  have a1 : atI (e.words.map V.str) 1 = some (V.str (adT e.ad)) := atI_nat (xs := e.words.map V.str) (j := 1) rfl
  have g1 : upd H l (.lst (e.words.map V.str)) l = some (.lst (e.words.map V.str)) := upd_same
  refine ⟨_, rfl, l, _, _, _, rfl, rfl, SqL.of g1, a0, rfl, _, rfl, ?_⟩
  have hn2 := Ent.words_n hw
  have hms := hw.2.2.2.2
  have hwl : e.words.length = e.ms.length + 2 := by unfold Ent.words; simp
  refine iteD2 (fun c => ?_) (fun c => ?_)
  · have hd : e.ms = [] := by
      rcases hw.1 with h | h
      · exact h.2
      · have c := V.str.inj c
        rcases h with h | h <;> (rw [h] at c; exact absurd c (by decide +kernel))
    refine ⟨_, rfl, l, _, rfl, .inl (SqL.of g1), rfl, _, rfl, fun _ => ?_, fun h => ?_⟩
    · refine ⟨_, rfl, l, _, _, _, rfl, rfl, SqL.of g1, a1, e.ad, rfl, hw.2.1, hw.2.2.1, fun a H2 s2 h2 => ?_⟩
      refine ⟨by show 2 ≤ sizeLine; decide, fun t ht => ?_⟩
      have s3 := same_new (o := .tup [.str "done", .ref a]) ht
      exact q _ _ (s1.trans (s2.trans s3)) ⟨t, a, rfl, s3 _ _ h2, .inl ⟨V.str.inj c, by rw [upd_same, V.str.inj c]⟩⟩
    · have h' := of_decide_eq_false h
      refine absurd ?_ h'
      rw [List.length_map, hwl, hd]; rfl
  · have hw2 : e.w = "part" ∨ e.w = "kept" := by
      rcases hw.1 with h | h
      · exact absurd (congrArg V.str h.1) c
      · exact h
    have hin : inV (.str e.w) [.str "part", .str "kept"] = true := by rcases hw2 with h | h <;> (rw [h]; decide +kernel)
    refine ⟨_, rfl, l, _, _, _, rfl, rfl, SqL.of g1, a0, by show 2 ≤ sizeLine; decide, fun t0 ht0 => ?_⟩
    have s2 := s1.trans (same_new (o := .tup [.str "part", .str "kept"]) ht0)
    have g2 := (same_new (o := .tup [.str "part", .str "kept"]) ht0) _ _ g1
    refine ⟨t0, [.str "part", .str "kept"], rfl, .inr (SqT.of upd_same), rfl, rfl, _, rfl, ?_⟩
    rw [if_neg Bool.false_ne_true, hin]
    refine iteT ?_
    have hle : (e.words.map V.str).length = e.ms.length + 2 := by rw [List.length_map, hwl]
    refine ⟨_, rfl, l, _, rfl, .inl (SqL.of g2), _, _, rfl, rfl, _, rfl, ?_⟩
    rw [hle]
    refine iteDT (by omega) ?_
    refine ⟨_, _, rfl, rfl, _, _, rfl, rfl, _, rfl, fun _ => ?_, fun h => ?_⟩
    · refine ⟨_, rfl, l, _, _, _, rfl, rfl, SqL.of g2, a0, _, rfl, l, _, _, _, rfl, rfl, SqL.of g2, a1, e.ad, rfl, hw.2.1, hw.2.2.1, fun a H2 s3 h2 => ?_⟩
      have g3 := s3 _ _ g2
      refine ⟨_, rfl, 2, rfl, l, _, rfl, SqL.of g3, fun l2 hl2 => ?_⟩
      have s4 := s3.trans (same_new (o := .lst (cutV (e.words.map V.str) (some 2) none)) hl2)
      have g4 := (upd_same (H := H2) (a := l2) (o := .lst (cutV (e.words.map V.str) (some 2) none)))
      have ec : cutV (e.words.map V.str) (some 2) none = e.ms.map fun n => V.str (numT n) := by
        have e2 : HT.sIx (e.words.map V.str).length 0 (some 2) = 2 := by rw [hle]; exact (HT.sIx_nat _ 0 2).trans (by omega)
        have e3 : HT.sIx (e.words.map V.str).length (e.words.map V.str).length none = (e.words.map V.str).length := rfl
        unfold cutV
        rw [e2, e3, List.take_of_length_le (by rw [List.length_drop]; exact Nat.le_refl _)]
        unfold Ent.words
        simp
      refine ⟨l2, rfl, ⟨_, SqL.of upd_same⟩, fun D hD => lc_mapA e.ms (fun n => V.str (numT n)) V.int 0 walk_list hD (by omega) (by show 2 < 3; decide) (fun H' s' => SqL.of (by rw [s' _ _ upd_same, ec])) ?_ ?_⟩
      · intro n hn H' Z s' z
        exact ⟨_, rfl, n, rfl, hw.2.2.2.1 n hn, fun H3 s3 => z H3 s3⟩
      · intro H' s' hD'
        refine ⟨by show 3 ≤ sizeLine; decide, fun t ht => ?_⟩
        have s5 := same_new (o := .tup [.str e.w, .ref a, .ref D]) ht
        have sAll := s2.trans (s4.trans s')
        refine q _ _ (sAll.trans s5) ⟨t, a, rfl, s5 _ _ (s' _ _ ((same_new hl2) _ _ h2)), .inr ⟨fun h => c (congrArg V.str h), D, ?_, upd_same, s5 _ _ hD'⟩⟩
        exact none_before (s2.trans s4) hD
    · have h' := of_decide_eq_false h
      omega

end
end K81
namespace K81
open PySem L2 TL
section
variable {P : Program} {w : World} {K : PySem.W.Frag} {mg : Str → Option Value} {base : Heap} {A : Ads}
theorem ok_read_book (T : Txt K mg A) : FnOk P w K mg base CX0 5 A.read_book A.read_book_d ["text"] spReadBook := by
  have G_check_text := ok_check_text (P := P) (w := w) (base := base) T
  have G_entry_in := ok_entry_in (P := P) (w := w) (base := base) T
  refine T.F_read_book.ok sc_read_book (fun vs H Q E h => ?_) (fun cdv A0 outer s H vs Q E hr h => ?_)
  · obtain ⟨es, rfl, hw, hl, q⟩ := h
    rfl
  obtain ⟨es, rfl, hw, hl, q⟩ := h
  refine ⟨_, (pss_cons (ps_expr (pe_call G_check_text (hr.mono (by decide)) rfl T.m_check_text T.F_check_text.kp T.b_check_text .nil passL (pa_cons (pe_callB call_isi (by rfl) T.z_isinstance (by decide +kernel) (pa_cons (pv 0) (pa_cons (pe_bltn (v := .ty "str") (by rfl) T.z_str (by decide +kernel) rfl) pa_nil))) pa_nil)))
   (pss_cons (ps_if (pt_cmpR op_eq (pv 0) pe_str (nomark _))
    (pss_one (ps_ret (pe_lst pa_nil)))
    pss_nil)
   (pss_one (ps_ret (pe_lc (own := [("line", 1)]) (g := gName 1) (tt := tYes) rfl sc_read_book.nd (pi_list (pe_split (pv 0) pe_str)) (blkOk_by (own := [("line", 1)]) (N := N_read_book) (sc := defScope s_read_book) (by decide +kernel)) (fun _ _ _ _ _ => pg_name (i := 1) sc_read_book.nd rfl (Or.inl rfl)) (fun _ _ _ _ _ => pts_nil) (fun _ _ _ _ _ => (pe_call G_entry_in (hr.mono (by decide)) rfl T.m_entry_in T.F_entry_in.kp T.b_entry_in .nil pass0 (pa_cons (pv 1) pa_nil)))))))), ?_⟩
  refine ⟨_, rfl, _, _, _, _, true, rfl, .ty _, .base (.str _), kit_ty (by decide +kernel), _, rfl, fun _ => ?_, fun h => Bool.noConfusion h⟩
  refine ⟨_, rfl, rfl, _, rfl, ?_⟩
  refine iteD2 (fun c => ?_) (fun c => ?_)
  · have e := (book_empty hw).mp (V.str.inj c)
    subst e
    exact ⟨by show 0 ≤ sizeLine; decide, fun l hn => q l [] _ (same_new hn) hn upd_same .nil⟩
  · have hne : es ≠ [] := fun e => c (congrArg V.str ((book_empty hw).mpr e))
    have hbl := book_len hw hl
    refine ⟨_, rfl, ⟨_, rfl⟩, bookText es, _, rfl, rfl, (by decide +kernel), sizeL (by omega), fun l hn => ?_⟩
    rw [book_split hw hne]
    have s1 := same_new (o := .lst ((es.map Ent.text).map V.str)) hn
    have g1 : upd H l (.lst ((es.map Ent.text).map V.str)) l = some (.lst ((es.map Ent.text).map V.str)) := upd_same
    have hb : All2 (fun (e : Ent) (v : V) => v = V.str e.text) es ((es.map Ent.text).map V.str) := by
      have : ∀ L : List Ent, All2 (fun (e : Ent) (v : V) => v = V.str e.text) L ((L.map Ent.text).map V.str) := by
        intro L
        induction L with
        | nil => exact .nil
        | cons e r ih => exact .cons rfl ih
      exact this es
    refine ⟨l, rfl, ⟨_, SqL.of g1⟩, fun D hD => lc_rel es (fun H' e v => EntH H' (fun a => H a = none ∧ a ≠ D) e v) hb (fun _ _ _ _ s' h => h.same s') (fun X e v ys ys' h hD' => ?_) walk_list hD (by omega) (by show 1 < 2; decide) (fun H' s' => SqL.of (s' _ _ g1)) ?_ ?_⟩
    · refine h.keep (av := [D]) (fun z o hz e => by rw [upd_ne (fun q => hz (by rw [q]; exact List.mem_singleton.mpr rfl))]; exact e) (fun a ha => ⟨ys, by rw [List.mem_singleton.mp ha]; exact hD'⟩) fun a ha hm => ha.2 (List.mem_singleton.mp hm)
    · intro e v he hv hb' H' Z s' ⟨ys, hys⟩ z
      subst hb'
      refine ⟨_, rfl, e, rfl, hw e he, fun v H2 s2 h2 => z H2 v s2 (h2.weak fun a ⟨o, ho⟩ hn2 => ⟨?_, fun q => by rw [q, hys] at hn2; cases hn2⟩)⟩
      cases hq : H a with
      | none => rfl
      | some o2 =>
        have := (s1.trans s') _ _ hq
        rw [hn2] at this; cases this
    · intro H' ys s' h2 hD'
      have hDn : H D = none := by
        cases hq : H D with
        | none => rfl
        | some o2 =>
          have := s1 _ _ hq
          rw [hD] at this; cases this
      exact q D ys H' (s1.trans s') hDn hD' (h2.mono fun e v h => h.weak fun _ _ h => ⟨h.1, h.2⟩)

end
end K81
namespace K81
open PySem L2 TL
section
variable {P : Program} {w : World} {K : PySem.W.Frag} {mg : Str → Option Value} {base : Heap} {A : Ads}
theorem ok_l_cell (T : Txt K mg A) : FnOk P w K mg base CX0 1 A.l_cell A.l_cell_d ["_law_script", "_law_k"] (spCell K) := by
  refine T.F_l_cell.ok sc_l_cell (fun vs H Q E h => ?_) (fun cdv A0 outer s H vs Q E hr h => ?_)
  · obtain ⟨a, ns, k, rfl, hS, hk, q⟩ := h
    rfl
  obtain ⟨a, ns, k, rfl, hS, hk, q⟩ := h
  refine ⟨_, (pss_cons (ps_if (pt_cmpR op_lt (pv 1) (pe_callB call_lenK (by rfl) T.z_len (by decide +kernel) (pa_cons (pv 0) pa_nil)) (nomark _))
    (pss_one (ps_ret (pe_ix ix_list (pv 0) (pv 1) (fun _ _ => rfl))))
    pss_nil)
   (pss_one (ps_ret pe_int))), ?_⟩
  refine ⟨_, rfl, _, rfl, a, _, rfl, .inl hS, _, _, rfl, rfl, _, rfl, ?_⟩
  refine iteD2 (fun c => ?_) (fun c => ?_)
  · obtain ⟨v, hv⟩ := at_int (ns := ns) hk (by rw [List.length_map] at c; exact c)
    exact ⟨_, rfl, _, rfl, a, _, _, _, rfl, rfl, hS, hv, q v⟩
  · exact q 0

theorem ok_l_mixed (T : Txt K mg A) : FnOk P w K mg base CX0 1 A.l_mixed A.l_mixed_d ["_law_cell_here", "_law_k"] spI2 := by
  refine T.F_l_mixed.ok sc_l_mixed (fun vs H Q E h => ?_) (fun cdv A0 outer s H vs Q E hr h => ?_)
  · obtain ⟨a, b, rfl, q⟩ := h
    rfl
  obtain ⟨a, b, rfl, q⟩ := h
  refine ⟨_, (pss_cons (ps_set (i := 2) sc_l_mixed.nd rfl (Or.inl rfl) (pe_op op_mod (pe_op op_mul (pe_op op_add (pe_op op_add (pv 0) (pe_op op_mul pe_int (pv 1))) pe_int) pe_int) pe_int))
   (pss_one (ps_ret (pe_op op_mod (pe_op op_mul (pv 2) (pe_op op_add (pe_op op_fdiv (pv 2) pe_int) pe_int)) pe_int)))), ?_⟩
  walk_at "rd"
  exact q _

theorem ok_l_twice (T : Txt K mg A) : FnOk P w K mg base CX0 2 A.l_twice A.l_twice_d ["_law_cell_here", "_law_k"] spI2 := by
  have G_l_mixed := ok_l_mixed (P := P) (w := w) (base := base) T
  refine T.F_l_twice.ok sc_l_twice (fun vs H Q E h => ?_) (fun cdv A0 outer s H vs Q E hr h => ?_)
  · obtain ⟨a, b, rfl, q⟩ := h
    rfl
  obtain ⟨a, b, rfl, q⟩ := h
  refine ⟨_, (pss_cons (ps_set (i := 2) sc_l_twice.nd rfl (Or.inl rfl) (pe_op op_mod (pe_op op_mul (pe_op op_add (pe_op op_add (pe_call G_l_mixed (hr.mono (by decide)) rfl T.m_l_mixed T.F_l_mixed.kp T.b_l_mixed .nil pass0 (pa_cons (pv 0) (pa_cons (pv 1) pa_nil))) (pe_op op_mul pe_int (pv 1))) pe_int) pe_int) pe_int))
   (pss_one (ps_ret (pe_op op_mod (pe_op op_mul (pv 2) (pe_op op_add (pe_op op_fdiv (pv 2) pe_int) pe_int)) pe_int)))), ?_⟩
  walk_at "rd"
  refine ⟨_, _, rfl, fun n => ?_⟩
  walk_at "rd"
  exact q _

theorem ok_l_well (T : Txt K mg A) : FnOk P w K mg base CX0 2 A.l_well A.l_well_d ["_law_script", "_law_k"] (spWell K) := by
  have G_l_cell := ok_l_cell (P := P) (w := w) (base := base) T
  refine T.F_l_well.ok sc_l_well (fun vs H Q E h => ?_) (fun cdv A0 outer s H vs Q E hr h => ?_)
  · obtain ⟨a, ns, k, rfl, hS, hk, q⟩ := h
    rfl
  obtain ⟨a, ns, k, rfl, hS, hk, q⟩ := h
  refine ⟨_, (pss_one (ps_ret (pe_lst (pa_cons (pe_op op_mod (pe_call G_l_cell (hr.mono (by decide)) rfl T.m_l_cell T.F_l_cell.kp T.b_l_cell .nil pass0 (pa_cons (pv 0) (pa_cons pe_int pa_nil))) pe_int) (pa_cons (pe_call G_l_cell (hr.mono (by decide)) rfl T.m_l_cell T.F_l_cell.kp T.b_l_cell .nil pass0 (pa_cons (pv 0) (pa_cons (pv 1) pa_nil))) (pa_cons pe_int (pa_cons (pe_op op_add (pe_call G_l_cell (hr.mono (by decide)) rfl T.m_l_cell T.F_l_cell.kp T.b_l_cell .nil pass0 (pa_cons (pv 0) (pa_cons (pv 1) pa_nil))) (pv 1)) pa_nil))))))), ?_⟩
  refine ⟨_, rfl, a, ns, 0, rfl, hS, Int.le_refl 0, fun n1 => ?_⟩
  walk_at "rd"
  refine ⟨a, ns, k, rfl, hS, hk, fun n2 => ?_⟩
  walk_at "rd"
  refine ⟨a, ns, k, rfl, hS, hk, fun n3 => ?_⟩
  walk_at "rd"
  exact ⟨by show 4 ≤ sizeLine; decide, fun p hp => q p _ hp (same_new hp) ⟨_, _, _, _, upd_same⟩⟩

theorem ok_l_draw (T : Txt K mg A) : FnOk P w K mg base CX0 3 A.l_draw A.l_draw_d ["_law_well_here", "_law_most"] spDraw := by
  have G_l_twice := ok_l_twice (P := P) (w := w) (base := base) T
  refine T.F_l_draw.ok sc_l_draw (fun vs H Q E h => ?_) (fun cdv A0 outer s H vs Q E hr h => ?_)
  · obtain ⟨p, m, rfl, ⟨a, b, c, d, h⟩, hm0, hm1, q⟩ := h
    rfl
  obtain ⟨p, m, rfl, ⟨a, b, c, d, h⟩, hm0, hm1, q⟩ := h
  refine ⟨_, (pss_cons (ps_if (PW.pt (pw_and (pt_cmpR op_eq (pe_ix ix_list (pv 0) pe_int (fun _ _ => rfl)) pe_int (nomark _)) (pw_and1 (pt_cmpR op_notIn_seq (pe_ix ix_list (pv 0) pe_int (fun _ _ => rfl)) (pe_tup (pa_cons pe_int (pa_cons (pe_un un_neg pe_int) pa_nil))) (by rfl)))))
    (pss_cons (ps_set (i := 2) sc_l_draw.nd rfl (Or.inl rfl) (pe_op op_modN (pe_ix ix_list (pv 0) pe_int (fun _ _ => rfl)) (pv 1)))
   (pss_cons (ps_asg (pe_op op_fdivN (pe_ix ix_list (pv 0) pe_int (fun _ _ => rfl)) (pv 1)) (pg_sub (pv 0) pe_int set_list))
   (pss_one (ps_ret (pv 2)))))
    pss_nil)
   (pss_cons (ps_asg (pe_op op_add (pe_ix ix_list (pv 0) pe_int (fun _ _ => rfl)) pe_int) (pg_sub (pv 0) pe_int set_list))
   (pss_one (ps_ret (pe_op op_modN (pe_call G_l_twice (hr.mono (by decide)) rfl T.m_l_twice T.F_l_twice.kp T.b_l_twice .nil pass0 (pa_cons (pe_ix ix_list (pv 0) pe_int (fun _ _ => rfl)) (pa_cons (pe_ix ix_list (pv 0) pe_int (fun _ _ => rfl)) pa_nil))) (pv 1)))))), ?_⟩
  have hm : m ≠ 0 := by omega
  refine ⟨_, rfl, p, _, _, _, rfl, rfl, SqL.of h, rfl, rfl, _, rfl, ?_⟩
  refine iteD2 (fun c1 => ?_) (fun c1 => ?_)
  · refine ⟨_, rfl, p, _, _, _, rfl, rfl, SqL.of h, rfl, _, rfl, by show 2 ≤ sizeLine; decide, fun t ht => ?_⟩
    have npt : p ≠ t := ne_of_none h ht
    have h1 : ∀ o, upd H t o p = some (.lst [.int a, .int b, .int c, .int d]) := fun o => by rw [upd_ne npt]; exact h
    refine ⟨t, _, rfl, .inr (SqT.of upd_same), rfl, rfl, _, rfl, ?_⟩
    refine iteB2 (fun c2 => ?_) (fun c2 => ?_)
    · refine ⟨_, rfl, p, _, _, _, rfl, rfl, SqL.of (h1 _), rfl, _, rfl, _, _, rfl, rfl, hm, ?_⟩
      refine ⟨_, rfl, p, _, _, _, rfl, rfl, SqL.of (h1 _), rfl, _, rfl, _, _, rfl, rfl, ⟨hm, by omega⟩, ?_⟩
      refine ⟨_, rfl, p, _, _, 1, rfl, rfl, h1 _, rfl, _, rfl, ?_⟩
      exact q _ _ (Int.fmod_nonneg_of_pos _ hm0) (Int.fmod_lt_of_pos _ hm0) ((keepX_of (same_new ht)).trans keepX_upd) ⟨_, _, _, _, upd_same⟩
    · refine ⟨_, rfl, p, _, _, _, rfl, rfl, SqL.of (h1 _), rfl, _, _, rfl, rfl, _, rfl, p, _, _, 2, rfl, rfl, h1 _, rfl, ?_⟩
      refine ⟨_, rfl, p, _, _, _, rfl, rfl, SqL.of upd_same, rfl, _, rfl, p, _, _, _, rfl, rfl, SqL.of upd_same, rfl, _, _, rfl, fun n => ?_⟩
      refine ⟨_, rfl, _, _, rfl, rfl, hm, ?_⟩
      exact q _ _ (Int.fmod_nonneg_of_pos _ hm0) (Int.fmod_lt_of_pos _ hm0) ((keepX_of (same_new ht)).trans keepX_upd) ⟨_, _, _, _, upd_same⟩
  · refine ⟨_, rfl, p, _, _, _, rfl, rfl, SqL.of h, rfl, _, _, rfl, rfl, _, rfl, p, _, _, 2, rfl, rfl, h, rfl, ?_⟩
    refine ⟨_, rfl, p, _, _, _, rfl, rfl, SqL.of upd_same, rfl, _, rfl, p, _, _, _, rfl, rfl, SqL.of upd_same, rfl, _, _, rfl, fun n => ?_⟩
    refine ⟨_, rfl, _, _, rfl, rfl, hm, ?_⟩
    exact q _ _ (Int.fmod_nonneg_of_pos _ hm0) (Int.fmod_lt_of_pos _ hm0) keepX_upd ⟨_, _, _, _, upd_same⟩

end
end K81
namespace K81
open PySem L2 TL
section
variable {P : Program} {w : World} {K : PySem.W.Frag} {mg : Str → Option Value} {base : Heap} {A : Ads}
theorem ok_l_number (T : Txt K mg A) : FnOk P w K mg base CX0 4 A.l_number A.l_number_d ["_law_well_here"] spNumber := by
  have G_l_draw := ok_l_draw (P := P) (w := w) (base := base) T
  refine T.F_l_number.ok sc_l_number (fun vs H Q E h => ?_) (fun cdv A0 outer s H vs Q E hr h => ?_)
  · obtain ⟨p, rfl, W, q⟩ := h
    rfl
  obtain ⟨p, rfl, W, q⟩ := h
  refine ⟨_, (pss_cons (ps_set (i := 1) sc_l_number.nd rfl (Or.inl rfl) (pe_call G_l_draw (hr.mono (by decide)) rfl T.m_l_draw T.F_l_draw.kp T.b_l_draw .nil pass0 (pa_cons (pv 0) (pa_cons pe_int pa_nil))))
   (pss_cons (ps_if (pt_cmpR op_eq (pv 1) pe_int (nomark _))
    (pss_one (ps_ret (pe_call G_l_draw (hr.mono (by decide)) rfl T.m_l_draw T.F_l_draw.kp T.b_l_draw .nil pass0 (pa_cons (pv 0) (pa_cons (pe_op op_pow pe_int pe_int) pa_nil)))))
    pss_nil)
   (pss_cons (ps_if (pt_cmpR op_eq (pv 1) pe_int (nomark _))
    (pss_one (ps_ret (pe_ix ix_list (pe_lst (pa_cons pe_int (pa_cons pe_int (pa_cons pe_int (pa_cons pe_int (pa_cons pe_int (pa_cons pe_int pa_nil))))))) (pe_call G_l_draw (hr.mono (by decide)) rfl T.m_l_draw T.F_l_draw.kp T.b_l_draw .nil pass0 (pa_cons (pv 0) (pa_cons pe_int pa_nil))) (fun _ _ => rfl))))
    pss_nil)
   (pss_one (ps_ret (pe_call G_l_draw (hr.mono (by decide)) rfl T.m_l_draw T.F_l_draw.kp T.b_l_draw .nil pass0 (pa_cons (pv 0) (pa_cons pe_int pa_nil)))))))), ?_⟩
  refine ⟨_, rfl, p, 4, rfl, W, by decide, by decide, fun n H1 hn0 hn1 k1 W1 => ?_⟩
  refine ⟨_, rfl, rfl, _, rfl, ?_⟩
  refine iteD2 (fun c1 => ?_) (fun c1 => ?_)
  · refine ⟨_, rfl, _, _, rfl, rfl, ⟨by decide, by decide, by decide⟩, p, _, rfl, W1, by decide, by decide, fun m H2 hm0 hm1 k2 W2 => ?_⟩
    have e6 : (10 : Int) ^ ((6 : Int).toNat) = 1000000 := by decide
    rw [e6] at hm1
    exact q m H2 ⟨hm0, hm1⟩ (k1.trans k2) W2
  refine ⟨_, rfl, rfl, _, rfl, ?_⟩
  refine iteD2 (fun c2 => ?_) (fun c2 => ?_)
  · refine ⟨by show 6 ≤ sizeLine; decide, fun l hl => ?_⟩
    have s := same_new (o := .lst (([0, 9, 10, 99999, 100000, 999999] : List Int).map V.int)) hl
    have npl : l ≠ p := fun e => by obtain ⟨_, _, _, _, w⟩ := W1; rw [← e, hl] at w; cases w
    refine ⟨_, rfl, p, 6, rfl, W1.same s, by decide, by decide, fun m H2 hm0 hm1 k2 W2 => ?_⟩
    have hl2 := k2 _ _ npl (upd_same (H := H1) (o := .lst (([0, 9, 10, 99999, 100000, 999999] : List Int).map V.int)))
    obtain ⟨z, hz, ez⟩ := at_ints (ns := [0, 9, 10, 99999, 100000, 999999]) hm0 hm1
    have v6 : ∀ z ∈ ([0, 9, 10, 99999, 100000, 999999] : List Int), 0 ≤ z ∧ z < 1000000 := by decide
    exact ⟨l, _, _, _, rfl, rfl, SqL.of hl2, ez, q z H2 (v6 z hz) (k1.trans ((keepX_of s).trans k2)) W2⟩
  · refine ⟨_, rfl, p, 30, rfl, W1, by decide, by decide, fun m H2 hm0 hm1 k2 W2 => ?_⟩
    exact q m H2 ⟨hm0, by omega⟩ (k1.trans k2) W2

end
end K81
namespace K81
open PySem L2 TL
section
variable {P : Program} {w : World} {K : PySem.W.Frag} {mg : Str → Option Value} {base : Heap} {A : Ads}
theorem ok_l_address (T : Txt K mg A) : FnOk P w K mg base CX0 5 A.l_address A.l_address_d ["_law_well_here"] spAddress := by
  have G_l_draw := ok_l_draw (P := P) (w := w) (base := base) T
  have G_l_number := ok_l_number (P := P) (w := w) (base := base) T
  refine T.F_l_address.ok sc_l_address (fun vs H Q E h => ?_) (fun cdv A0 outer s H vs Q E hr h => ?_)
  · obtain ⟨p, rfl, W, q⟩ := h
    rfl
  obtain ⟨p, rfl, W, q⟩ := h
  refine ⟨_, (pss_cons (ps_set (i := 1) sc_l_address.nd rfl (Or.inl rfl) (pe_ix ix_list (pe_lst (pa_cons pe_int (pa_cons pe_int (pa_cons pe_int pa_nil)))) (pe_op op_add (pe_op op_fdiv (pe_call G_l_draw (hr.mono (by decide)) rfl T.m_l_draw T.F_l_draw.kp T.b_l_draw .nil pass0 (pa_cons (pv 0) (pa_cons pe_int pa_nil))) pe_int) (pe_callTy call_int1 (by rfl) T.z_int (by decide +kernel) (pa_cons (pe_cmpR op_eq (pe_call G_l_draw (hr.mono (by decide)) rfl T.m_l_draw T.F_l_draw.kp T.b_l_draw .nil pass0 (pa_cons (pv 0) (pa_cons pe_int pa_nil))) pe_int (nomark _)) pa_nil))) (fun _ _ => rfl)))
   (pss_one (ps_ret (pe_callTy call_tuple_ofK (by rfl) T.z_tuple (by decide +kernel) (pa_cons (pe_lc (own := [("_law_k", 2)]) (g := gName 2) (tt := tYes) rfl sc_l_address.nd (pi_range1 (by rfl) T.z_range (pa_cons (pe_call G_l_draw (hr.mono (by decide)) rfl T.m_l_draw T.F_l_draw.kp T.b_l_draw .nil pass0 (pa_cons (pv 0) (pa_cons (pv 1) pa_nil))) pa_nil)) (blkOk_by (own := [("_law_k", 2)]) (N := N_l_address) (sc := defScope s_l_address) (by decide +kernel)) (fun _ _ _ _ _ => pg_name (i := 2) sc_l_address.nd rfl (Or.inl rfl)) (fun _ _ _ _ _ => pts_nil) (fun _ _ _ _ _ => (pe_call G_l_number (hr.mono (by decide)) rfl T.m_l_number T.F_l_number.kp T.b_l_number .nil pass0 (pa_cons (pv 0) pa_nil)))) pa_nil))))), ?_⟩
  refine ⟨by show 3 ≤ sizeLine; decide, fun l hl => ?_⟩
  have s0 := same_new (o := .lst (([3, 6, 101] : List Int).map V.int)) hl
  have npl : l ≠ p := fun e => by obtain ⟨_, _, _, _, w⟩ := W; rw [← e, hl] at w; cases w
  refine ⟨_, rfl, p, 8, rfl, W.same s0, by decide, by decide, fun n1 H1 a0 a1 k1 W1 => ?_⟩
  refine ⟨_, _, rfl, rfl, ⟨by decide, by decide⟩, ?_⟩
  refine ⟨_, rfl, p, 8, rfl, W1, by decide, by decide, fun n2 H2 b0 b1 k2 W2 => ?_⟩
  refine ⟨rfl, .inr ⟨_, rfl, ?_⟩⟩
  refine ⟨_, _, rfl, rfl, ?_⟩
  have hl2 := k2 _ _ npl (k1 _ _ npl (upd_same (H := H) (o := .lst (([3, 6, 101] : List Int).map V.int))))
  obtain ⟨z, hz, ez⟩ := at_ints (ns := [3, 6, 101]) (n := n1 / 4 + (if decide (V.int n2 = V.int 7) = true then 1 else 0)) (by split <;> omega) (by show _ < ((3 : Nat) : Int); split <;> omega)
  have hz2 : 3 ≤ z ∧ z ≤ 101 := by
    have v6 : ∀ z ∈ ([3, 6, 101] : List Int), 3 ≤ z ∧ z ≤ 101 := by decide
    exact v6 z hz
  refine ⟨l, _, _, _, rfl, rfl, SqL.of hl2, ez, ?_⟩
  have k02 := (keepX_of s0).trans (k1.trans k2)
  refine ⟨_, rfl, _, rfl, p, z, rfl, W2, by omega, by omega, fun m H3 m0 m1 k3 W3 => ?_⟩

  refine ⟨m, rfl, by omega, by omega, fun D hD => lc_drawn (walk_range (lo := 0) (n := m.toNat)) (fun y => ∃ n, y = V.int n ∧ IsVal n) W3 hD (by omega) (by show 2 < 3; decide) (fun _ => trivial) (fun _ _ _ _ y => y.1) ?_ ?_⟩
  · intro i x H' Z hi k W' y z
    exact ⟨_, rfl, p, rfl, W', fun n H4 hn k4 W4 => z H4 _ k4 W4 ⟨n, rfl, hn⟩⟩
  · intro H' ys k W' hln hP hD'
    obtain ⟨ns, rfl, hns, hl3⟩ := ints_of hP
    exact ⟨D, _, rfl, .inl ⟨SqL.of hD', fun t ht => q t ns _ hns (by omega) upd_same (k02.trans (k3.trans (k.trans (keepX_of (same_new ht))))) (W'.same (same_new ht))⟩⟩

end
end K81
namespace K81
open PySem L2 TL
section
variable {P : Program} {w : World} {K : PySem.W.Frag} {mg : Str → Option Value} {base : Heap} {A : Ads}
theorem ok_l_address_text (T : Txt K mg A) : FnOk P w K mg base CX0 1 A.l_address_text A.l_address_text_d ["_law_address_here"] (spAdText K) := by
  refine T.F_l_address_text.ok sc_l_address_text (fun vs H Q E h => ?_) (fun cdv A0 outer s H vs Q E hr h => ?_)
  · obtain ⟨a, ns, rfl, hS, hv, hl, q⟩ := h
    rfl
  obtain ⟨a, ns, rfl, hS, hv, hl, q⟩ := h
  refine ⟨_, (pss_cons (ps_if (pt_cmpR (op_eqD hr.units) (pv 0) (pe_tup pa_nil) (nomark _))
    (pss_one (ps_ret pe_str))
    pss_nil)
   (pss_one (ps_ret (pe_join pe_str (pe_lc (own := [("_law_number_here", 1)]) (g := gName 1) (tt := tYes) rfl sc_l_address_text.nd (pi_tup (pv 0)) (blkOk_by (own := [("_law_number_here", 1)]) (N := N_l_address_text) (sc := defScope s_l_address_text) (by decide +kernel)) (fun _ _ _ _ _ => pg_name (i := 1) sc_l_address_text.nd rfl (Or.inl rfl)) (fun _ _ _ _ _ => pts_nil) (fun _ _ _ _ _ => (pe_callTy call_str_int (by rfl) T.z_str (by decide +kernel) (pa_cons (pv 1) pa_nil)))))))), ?_⟩
  refine ⟨_, rfl, by show 0 ≤ sizeLine; decide, fun t ht => ?_⟩
  have s1 := same_new (o := .tup []) ht
  refine ⟨.tuple (ns.map .int), .tuple [], .tup (same_tup s1 hS) (dpAll_ints ns), .tup (SqT.of upd_same) .nil, tup_shaped ns, rfl, _, rfl, ?_⟩
  rw [eqv_ints]
  refine iteD2 (fun c => ?_) (fun c => ?_)
  · subst c; exact q _ s1
  · refine ⟨⟨_, rfl⟩, _, rfl, a, rfl, ⟨_, same_tup s1 hS⟩, fun D hD => lc_mapA ns V.int (fun n => V.str (numT n)) 0 walk_tup hD (by omega) (by show 1 < 2; decide) (fun H' s' => same_tup (s1.trans s') hS) ?_ ?_⟩
    · intro n hn H' Z s' z
      have h0 := (hv n hn).1
      have h1 := (hv n hn).2
      exact ⟨_, rfl, n, rfl, log_small (by omega), z H' (Same.refl H')⟩
    · intro H' s' hD'
      have hj := join_len (Str.ofString ".") 6 (by decide +kernel) (ns.map numT) fun x hx => by
        obtain ⟨n, hn, rfl⟩ := List.mem_map.mp hx
        exact numT_len (.inr (hv n hn))
      rw [List.length_map] at hj
      refine ⟨_, D, ns.map numT, rfl, rfl, .inl (SqL.of (by rw [hD', List.map_map]; rfl)), by rw [List.length_map]; omega, ?_⟩
      have e : Txt.join (Str.ofString ".") (ns.map numT) = adT ns := (if_neg c).symm
      rw [e]
      exact q _ (s1.trans s')

end
end K81
namespace K81
open PySem L2 TL
section
variable {P : Program} {w : World} {K : PySem.W.Frag} {mg : Str → Option Value} {base : Heap} {A : Ads}
theorem ok_l_makers (T : Txt K mg A) : FnOk P w K mg base CX0 5 A.l_makers A.l_makers_d ["_law_well_here"] spMakers := by
  have G_l_draw := ok_l_draw (P := P) (w := w) (base := base) T
  have G_l_number := ok_l_number (P := P) (w := w) (base := base) T
  refine T.F_l_makers.ok sc_l_makers (fun vs H Q E h => ?_) (fun cdv A0 outer s H vs Q E hr h => ?_)
  · obtain ⟨p, rfl, W, q⟩ := h
    rfl
  obtain ⟨p, rfl, W, q⟩ := h
  refine ⟨_, (pss_cons (ps_set (i := 1) sc_l_makers.nd rfl (Or.inl rfl) (pe_ix ix_list (pe_lst (pa_cons pe_int (pa_cons pe_int (pa_cons pe_int pa_nil)))) (pe_op op_add (pe_op op_fdiv (pe_call G_l_draw (hr.mono (by decide)) rfl T.m_l_draw T.F_l_draw.kp T.b_l_draw .nil pass0 (pa_cons (pv 0) (pa_cons pe_int pa_nil))) pe_int) (pe_callTy call_int1 (by rfl) T.z_int (by decide +kernel) (pa_cons (pe_cmpR op_eq (pe_call G_l_draw (hr.mono (by decide)) rfl T.m_l_draw T.F_l_draw.kp T.b_l_draw .nil pass0 (pa_cons (pv 0) (pa_cons pe_int pa_nil))) pe_int (nomark _)) pa_nil))) (fun _ _ => rfl)))
   (pss_one (ps_ret (pe_lc (own := [("_law_k", 2)]) (g := gName 2) (tt := tYes) rfl sc_l_makers.nd (pi_range1 (by rfl) T.z_range (pa_cons (pe_call G_l_draw (hr.mono (by decide)) rfl T.m_l_draw T.F_l_draw.kp T.b_l_draw .nil pass0 (pa_cons (pv 0) (pa_cons (pv 1) pa_nil))) pa_nil)) (blkOk_by (own := [("_law_k", 2)]) (N := N_l_makers) (sc := defScope s_l_makers) (by decide +kernel)) (fun _ _ _ _ _ => pg_name (i := 2) sc_l_makers.nd rfl (Or.inl rfl)) (fun _ _ _ _ _ => pts_nil) (fun _ _ _ _ _ => (pe_ix (r := rIxL K) ix_list (pe_lst (pa_cons (pe_un un_neg pe_int) (pa_cons (pe_call G_l_number (hr.mono (by decide)) rfl T.m_l_number T.F_l_number.kp T.b_l_number .nil pass0 (pa_cons (pv 0) pa_nil)) pa_nil))) (pe_call G_l_draw (hr.mono (by decide)) rfl T.m_l_draw T.F_l_draw.kp T.b_l_draw .nil pass0 (pa_cons (pv 0) (pa_cons pe_int pa_nil))) (fun _ _ => rfl))))))), ?_⟩
  refine ⟨by show 3 ≤ sizeLine; decide, fun l hl => ?_⟩
  have s0 := same_new (o := .lst (([3, 6, 61] : List Int).map V.int)) hl
  have npl : l ≠ p := fun e => by obtain ⟨_, _, _, _, w⟩ := W; rw [← e, hl] at w; cases w
  refine ⟨_, rfl, p, 8, rfl, W.same s0, by decide, by decide, fun n1 H1 a0 a1 k1 W1 => ?_⟩
  refine ⟨_, _, rfl, rfl, ⟨by decide, by decide⟩, ?_⟩
  refine ⟨_, rfl, p, 8, rfl, W1, by decide, by decide, fun n2 H2 b0 b1 k2 W2 => ?_⟩
  refine ⟨rfl, .inr ⟨_, rfl, ?_⟩⟩
  refine ⟨_, _, rfl, rfl, ?_⟩
  have hl2 := k2 _ _ npl (k1 _ _ npl (upd_same (H := H) (o := .lst (([3, 6, 61] : List Int).map V.int))))
  obtain ⟨z, hz, ez⟩ := at_ints (ns := [3, 6, 61]) (n := n1 / 4 + (if decide (V.int n2 = V.int 7) = true then 1 else 0)) (by split <;> omega) (by show _ < ((3 : Nat) : Int); split <;> omega)
  have hz2 : 3 ≤ z ∧ z ≤ 61 := by
    have v6 : ∀ z ∈ ([3, 6, 61] : List Int), 3 ≤ z ∧ z ≤ 61 := by decide
    exact v6 z hz
  refine ⟨l, _, _, _, rfl, rfl, SqL.of hl2, ez, ?_⟩
  have k02 := (keepX_of s0).trans (k1.trans k2)
  refine ⟨_, rfl, _, rfl, p, z, rfl, W2, by omega, by omega, fun m H3 m0 m1 k3 W3 => ?_⟩

  refine ⟨m, rfl, by omega, by omega, fun D hD => lc_drawn (walk_range (lo := 0) (n := m.toNat)) (fun y => ∃ n, y = V.int n ∧ (n = -1 ∨ IsVal n)) W3 hD (by omega) (by show 2 < 3; decide) (fun _ => trivial) (fun _ _ _ _ y => y.1) ?_ ?_⟩
  · intro i x H' Z hi k W' y z
    refine ⟨1, rfl, _, rfl, p, rfl, W', fun n H4 hn k4 W4 => ?_⟩
    refine ⟨by show 2 ≤ sizeLine; decide, fun l2 hl2 => ?_⟩
    have s5 := same_new (o := .lst (([-1, n] : List Int).map V.int)) hl2
    have npl2 : l2 ≠ p := fun e => by obtain ⟨_, _, _, _, w⟩ := W4; rw [← e, hl2] at w; cases w
    refine ⟨_, rfl, p, 2, rfl, W4.same s5, by decide, by decide, fun n5 H5 c0 c1 k5 W5 => ?_⟩
    have hl5 := k5 _ _ npl2 (upd_same (H := H4) (o := .lst (([-1, n] : List Int).map V.int)))
    obtain ⟨z5, hz5, ez5⟩ := at_ints (ns := [-1, n]) c0 c1
    refine ⟨l2, _, _, _, rfl, rfl, SqL.of hl5, ez5, z H5 _ (k4.trans ((keepX_of s5).trans k5)) W5 ⟨z5, rfl, ?_⟩⟩
    rcases List.mem_cons.mp hz5 with h | h
    · exact .inl h
    · exact .inr (by rw [List.mem_singleton.mp h]; exact hn)
  · intro H' ys k W' hln hP hD'
    obtain ⟨ns, rfl, hns, hl3⟩ := ints_of hP
    refine q D ns _ hns (by omega) ?_ hD' (k02.trans (k3.trans k)) W'
    have npD : D ≠ p := fun e => by obtain ⟨_, _, _, _, w⟩ := W3; rw [← e, hD] at w; cases w
    cases hq : H D with
    | none => rfl
    | some o =>
      have := (k02.trans k3) _ _ npD hq
      rw [hD] at this; cases this

end
end K81
namespace K81
open PySem L2 TL
section
variable {P : Program} {w : World} {K : PySem.W.Frag} {mg : Str → Option Value} {base : Heap} {A : Ads}
theorem ok_l_book (T : Txt K mg A) : FnOk P w K mg base CX0 6 A.l_book A.l_book_d ["_law_script"] (spBook K) := by
  have G_l_well := ok_l_well (P := P) (w := w) (base := base) T
  have G_l_draw := ok_l_draw (P := P) (w := w) (base := base) T
  have G_l_address := ok_l_address (P := P) (w := w) (base := base) T
  have G_l_makers := ok_l_makers (P := P) (w := w) (base := base) T
  refine T.F_l_book.ok sc_l_book (fun vs H Q E h => ?_) (fun cdv A0 outer s H vs Q E hr h => ?_)
  · obtain ⟨a, ns, rfl, hS, q⟩ := h
    rfl
  obtain ⟨a, ns, rfl, hS, q⟩ := h
  refine ⟨_, (pss_cons (ps_set (i := 1) sc_l_book.nd rfl (Or.inl rfl) (pe_lst pa_nil))
   (pss_cons (ps_for PassesOwn.never rfl (pi_range2 (by rfl) T.z_range (pa_cons pe_int (pa_cons pe_int pa_nil))) (pg_name (i := 2) sc_l_book.nd rfl (Or.inl rfl))
    (pss_cons (ps_set (i := 3) sc_l_book.nd rfl (Or.inl rfl) (pe_call G_l_well (hr.mono (by decide)) rfl T.m_l_well T.F_l_well.kp T.b_l_well .nil pass0 (pa_cons (pv 0) (pa_cons (pv 2) pa_nil))))
   (pss_one (ps_for PassesOwn.never rfl (pi_range1 (by rfl) T.z_range (pa_cons (pe_call G_l_draw (hr.mono (by decide)) rfl T.m_l_draw T.F_l_draw.kp T.b_l_draw .nil pass0 (pa_cons (pv 3) (pa_cons pe_int pa_nil))) pa_nil)) (pg_name (i := 4) sc_l_book.nd rfl (Or.inl rfl))
    (pss_cons (ps_set (i := 5) sc_l_book.nd rfl (Or.inl rfl) (pe_ix ix_list (pe_lst (pa_cons pe_str (pa_cons pe_str (pa_cons pe_str pa_nil)))) (pe_call G_l_draw (hr.mono (by decide)) rfl T.m_l_draw T.F_l_draw.kp T.b_l_draw .nil pass0 (pa_cons (pv 3) (pa_cons pe_int pa_nil))) (fun _ _ => rfl)))
   (pss_cons (ps_set (i := 6) sc_l_book.nd rfl (Or.inl rfl) (pe_tup (pa_cons (pv 5) (pa_cons (pe_call G_l_address (hr.mono (by decide)) rfl T.m_l_address T.F_l_address.kp T.b_l_address .nil pass0 (pa_cons (pv 3) pa_nil)) pa_nil))))
   (pss_cons (ps_if (pt_cmpR op_ne (pv 5) pe_str (nomark _))
    (pss_one (ps_set (i := 6) sc_l_book.nd rfl (Or.inl rfl) (pe_op op_catT (pv 6) (pe_tup (pa_cons (pe_call G_l_makers (hr.mono (by decide)) rfl T.m_l_makers T.F_l_makers.kp T.b_l_makers .nil pass0 (pa_cons (pv 3) pa_nil)) pa_nil)))))
    pss_nil)
   (pss_one (ps_expr (pe_bm PySem.F.plainAttrs_list PySem.F.slot_list_append PySem.F.type_list_append mt_append (pv 1) (pa_cons (pv 6) pa_nil)))))))))))
   (pss_one (ps_ret (pv 1))))), ?_⟩
  refine ⟨by show 0 ≤ sizeLine; decide, fun r hr0 => ?_⟩
  refine ⟨1, 7, rfl, ⟨by decide, by decide, by decide, by decide⟩, for_range (lo := 1) (n := 6) (fun i σ H' => ∃ (es : List Ent) (xs : List V) (v2 v3 v4 v5 v6 : Option V), σ = [some (.ref a), some (.ref r), v2, v3, v4, v5, v6] ∧ Same H H' ∧ H' r = some (.lst xs) ∧ All2 (EntH H' (fun l => l ≠ r)) es xs ∧ (∀ e ∈ es, e.Wf) ∧ es.length ≤ 4 * i)
    ⟨[], [], none, none, none, none, none, rfl, same_new hr0, upd_same, .nil, (fun _ h => by cases h), Nat.zero_le _⟩ ?_ ?_⟩
  · rintro i σ H1 hi ⟨es, xs, v2, v3, v4, v5, v6, rfl, s1, h1, ha, hw, hl⟩
    refine ⟨_, rfl, _, rfl, a, ns, _, rfl, s1.seq hS, by omega, fun p H2 hp s2 W2 => ?_⟩
    have hp0 : H p = none := by
      cases hq : H p with
      | none => rfl
      | some o => have := s1 _ _ hq; rw [hp] at this; cases this
    have hrp : r ≠ p := fun e => by rw [e, hp] at h1; cases h1
    refine ⟨_, rfl, p, 5, rfl, W2, by decide, by decide, fun m H3 m0 m1 k3 W3 => ?_⟩
    have k23 : KeepX p H1 H3 := fun z o n e => k3 z o n (s2 z o e)
    have st3 : Same H H3 := KeepX.same hp0 (fun z o n e => k23 z o n (s1 z o e))
    have h3 := k23 _ _ hrp h1
    obtain ⟨wa, wb, wc, wd, hw2⟩ := id W2
    have a3 : All2 (EntH H3 (fun l => l ≠ r ∧ l ≠ p)) es xs := ha.mono fun e v h => ((h.weak (M := fun l => l ≠ r ∧ l ≠ p) fun l ⟨o, ho⟩ hn => ⟨hn, fun e => by rw [e, hp] at ho; cases ho⟩).same s2).keepX k3 hw2 fun l h => h.2
    refine ⟨m, rfl, by omega, by omega, for_range (lo := 0) (n := m.toNat) (fun j σ H' => ∃ (es : List Ent) (xs : List V) (v4 v5 v6 : Option V), σ = [some (.ref a), some (.ref r), some (.int (1 + (i : Int))), some (.ref p), v4, v5, v6] ∧ Same H H' ∧ WellAt H' p ∧ H' r = some (.lst xs) ∧ All2 (EntH H' (fun l => l ≠ r ∧ l ≠ p)) es xs ∧ (∀ e ∈ es, e.Wf) ∧ es.length ≤ 4 * i + j)
      ⟨es, xs, v4, v5, v6, rfl, st3, W3, h3, a3, hw, by omega⟩ ?_ ?_⟩
    · rintro j σ H4 hj ⟨es, xs, v4, v5, v6, rfl, s4, W4, h4, ha, hw, hl⟩
      refine ⟨by show 3 ≤ sizeLine; decide, fun l0 hl0 => ?_⟩
      have s5 := same_new (o := .lst ((["part", "kept", "done"] : List Str).map V.str)) hl0
      have npl : l0 ≠ p := fun e => by obtain ⟨_, _, _, _, w⟩ := W4; rw [← e, hl0] at w; cases w
      refine ⟨_, rfl, p, 3, rfl, W4.same s5, by decide, by decide, fun z H6 z0 z1 k6 W6 => ?_⟩
      have hl6 := k6 _ _ npl (upd_same (H := H4) (o := .lst ((["part", "kept", "done"] : List Str).map V.str)))
      obtain ⟨wd, hwd, ez⟩ := at_strs (ss := ["part", "kept", "done"]) z0 z1
      refine ⟨l0, _, _, _, rfl, rfl, SqL.of hl6, ez, ?_⟩
      refine ⟨_, rfl, _, rfl, p, rfl, W6, fun ta ad H7 had hadl h7 k7 W7 => ?_⟩
      refine ⟨by show 2 ≤ sizeLine; decide, fun t ht => ?_⟩
      have s8 := same_new (o := .tup [.str wd, .ref ta]) ht
      have k48 : KeepX p H4 (upd H7 t (.tup [.str wd, .ref ta])) := (keepX_of s5).trans (k6.trans (k7.trans (keepX_of s8)))
      have W8 := W7.same s8
      have h7' := s8 _ _ h7
      have ht8 := upd_same (H := H7) (a := t) (o := .tup [.str wd, .ref ta])
      revert k48 W8 h7' ht8
      generalize upd H7 t (.tup [.str wd, .ref ta]) = H8
      intro k48 W8 h7' ht8
      obtain ⟨xa, xb, xc, xd, hp4⟩ := id W4
      have fin : ∀ (e : Ent) (v : V) (H9 : Hp) (v6 : Option V), e.Wf → EntH H9 (fun l => l ≠ r ∧ l ≠ p) e v → KeepX p H4 H9 → WellAt H9 p →
          ∃ (es' : List Ent) (xs' : List V) (v4 v5 v6 : Option V), ([some (.ref a), some (.ref r), some (.int (1 + (i : Int))), some (.ref p), some (.int (0 + (j : Int))), some (.str wd), some v] : St) = [some (.ref a), some (.ref r), some (.int (1 + (i : Int))), some (.ref p), v4, v5, v6] ∧ Same H (upd H9 r (.lst (xs ++ [v]))) ∧ WellAt (upd H9 r (.lst (xs ++ [v]))) p ∧ upd H9 r (.lst (xs ++ [v])) r = some (.lst xs') ∧ All2 (EntH (upd H9 r (.lst (xs ++ [v]))) (fun l => l ≠ r ∧ l ≠ p)) es' xs' ∧ (∀ e ∈ es', e.Wf) ∧ es'.length ≤ 4 * i + (j + 1) := by
        intro e v H9 v6 hwe he k9 W9
        have h9 := k9 _ _ hrp h4
        have kr : KeepX r H9 (upd H9 r (.lst (xs ++ [v]))) := keepX_upd
        refine ⟨es ++ [e], xs ++ [v], _, _, _, rfl, ?_, ?_, upd_same, ?_, ?_, ?_⟩
        · refine KeepX.same hp0 fun z o n q => ?_
          rw [upd_ne (ne_of_none q hr0)]
          exact k9 z o n (s4 z o q)
        · obtain ⟨b1, b2, b3, b4, hb⟩ := W9
          exact ⟨b1, b2, b3, b4, by rw [upd_ne hrp.symm]; exact hb⟩
        · exact (ha.mono fun e v h => (h.keepX k9 hp4 fun l h => h.2).keepX kr h9 fun l h => h.1).snoc (he.keepX kr h9 fun l h => h.1)
        · intro x hx
          rcases List.mem_append.mp hx with h | h
          · exact hw x h
          · rw [List.mem_singleton.mp h]; exact hwe
        · rw [List.length_append, List.length_singleton]; omega
      have hll := ha.length
      have w3 : wd = "part" ∨ wd = "kept" ∨ wd = "done" := by simpa using hwd
      refine ⟨_, rfl, rfl, _, rfl, iteN2 (fun c => ?_) (fun c => ?_)⟩
      · have cw : wd ≠ "done" := fun e => c (congrArg V.str e)
        refine ⟨_, rfl, _, rfl, p, rfl, W8, fun l ms H9 hms hmsl hl9 h9 k9 W9 => ?_⟩
        have ht9 := k9.tup W8 ht8
        have hta9 := k9.tup W8 h7'
        refine ⟨by show 1 ≤ sizeLine; decide, fun t2 ht2 => ?_⟩
        have s10 := same_new (o := .tup [.ref l]) ht2
        refine ⟨t, t2, _, _, rfl, rfl, SqT.of (s10 _ _ ht9), SqT.of upd_same, by simp, by show 3 ≤ sizeLine; decide, (fun h => by cases h), fun _ t3 ht3 => ?_⟩
        have s11 := same_new (o := .tup ([V.str wd, .ref ta] ++ [.ref l])) ht3
        have sT := s10.trans s11
        have hlr : l ≠ r := fun e => by
          have := k48 _ _ hrp h4
          rw [← e, hl9] at this; cases this
        have hlp : l ≠ p := fun e => by obtain ⟨_, _, _, _, w⟩ := W8; rw [← e, hl9] at w; cases w
        have k4n := k48.trans (k9.trans (keepX_of sT))
        have h4n := k4n _ _ hrp h4
        refine ⟨_, rfl, .inl ⟨rfl, _, SqL.of h4n⟩, _, rfl, r, _, _, rfl, rfl, h4n, sizeL (by omega), ?_⟩
        exact fin ⟨wd, ad, ms⟩ (.ref t3) _ none ⟨.inr (w3.elim .inl fun h => h.elim .inr fun h => absurd h cw), had, hadl, hms, hmsl⟩
          ⟨t3, ta, rfl, sT _ _ hta9, .inr ⟨cw, l, ⟨hlr, hlp⟩, upd_same, sT _ _ h9⟩⟩ k4n (W9.same sT)
      · have cw : wd = "done" := V.str.inj c
        have h8n := k48 _ _ hrp h4
        refine ⟨_, rfl, .inl ⟨rfl, _, SqL.of h8n⟩, _, rfl, r, _, _, rfl, rfl, h8n, sizeL (by omega), ?_⟩
        exact fin ⟨wd, ad, []⟩ (.ref t) H8 none ⟨.inl ⟨cw, rfl⟩, had, hadl, (fun _ h => by cases h), Nat.zero_le _⟩ ⟨t, ta, rfl, h7', .inl ⟨cw, ht8⟩⟩ k48 W8
    · rintro σ H4 ⟨es, xs, v4, v5, v6, rfl, s4, W4, h4, ha, hw, hl⟩
      exact ⟨es, xs, _, _, _, _, _, rfl, s4, h4, ha.mono fun e v h => h.weak fun l _ h => h.1, hw, by omega⟩
  · rintro σ H1 ⟨es, xs, v2, v3, v4, v5, v6, rfl, s1, h1, ha, hw, hl⟩
    exact ⟨_, rfl, q r es xs H1 s1 hr0 h1 ha hw hl⟩

end
end K81
namespace K81
open PySem L2 TL
section
variable {P : Program} {w : World} {K : PySem.W.Frag} {mg : Str → Option Value} {base : Heap} {A : Ads}
theorem ok_l_line (T : Txt K mg A) : FnOk P w K mg base CX0 2 A.l_line A.l_line_d ["_law_entry"] spEntText := by
  have G_l_address_text := ok_l_address_text (P := P) (w := w) (base := base) T
  refine T.F_l_line.ok sc_l_line (fun vs H Q E h => ?_) (fun cdv A0 outer s H vs Q E hr h => ?_)
  · obtain ⟨e, v, N, rfl, h, hw, q⟩ := h
    rfl
  obtain ⟨e, v, N, rfl, h, hw, q⟩ := h
  refine ⟨_, (pss_cons (ps_set (i := 1) sc_l_line.nd rfl (Or.inl rfl) (pe_lst (pa_cons (pe_ix ix_tup (pv 0) pe_int (fun _ _ => rfl)) (pa_cons (pe_call G_l_address_text (hr.mono (by decide)) rfl T.m_l_address_text T.F_l_address_text.kp T.b_l_address_text .nil pass0 (pa_cons (pe_ix ix_tup (pv 0) pe_int (fun _ _ => rfl)) pa_nil)) pa_nil))))
   (pss_cons (ps_for PassesOwn.never rfl (pi_tup (pe_slice sl_tup (pv 0) (po_some pe_int) po_none)) (pg_name (i := 2) sc_l_line.nd rfl (Or.inl rfl))
    (pss_one (ps_set (i := 1) sc_l_line.nd rfl (Or.inl rfl) (pe_op op_cat (pv 1) (pe_lc (own := [("_law_maker", 3)]) (g := gName 3) (tt := tYes) rfl sc_l_line.nd (pi_list (pv 2)) (blkOk_by (own := [("_law_maker", 3)]) (N := N_l_line) (sc := defScope s_l_line) (by decide +kernel)) (fun _ _ _ _ _ => pg_name (i := 3) sc_l_line.nd rfl (Or.inl rfl)) (fun _ _ _ _ _ => pts_nil) (fun _ _ _ _ _ => (pe_callTy call_str_int (by rfl) T.z_str (by decide +kernel) (pa_cons (pv 3) pa_nil))))))))
   (pss_one (ps_ret (pe_join pe_str (pv 1)))))), ?_⟩
  have hdone : e.w = "done" → e.ms = [] := fun w => by
    rcases hw.1 with h | h
    · exact h.2
    · rcases h with h | h <;> (rw [h] at w; exact absurd w (by decide +kernel))
  obtain ⟨t, ta, rfl, h2, h3⟩ := h

  have hsz : (e.words.map (·.length)).sum + e.words.length * (Str.ofString " ").length ≤ 16777216 := by
    have := join_len (Str.ofString " ") 700 (by decide +kernel) e.words (Ent.words_len hw)
    have h2 := Ent.words_n hw
    have : e.words.length * (700 + 1) ≤ 102 * 701 := Nat.mul_le_mul_right _ h2
    omega
  rcases h3 with ⟨w, h3⟩ | ⟨w, l, hl, h3, h4⟩
  · refine ⟨_, rfl, t, _, _, _, rfl, rfl, SqT.of h3, rfl, _, rfl, t, _, _, _, rfl, rfl, SqT.of h3, rfl, ta, e.ad, rfl, SqT.of h2, hw.2.1, hw.2.2.1, fun H1 s1 => ?_⟩
    refine ⟨by show 2 ≤ sizeLine; decide, fun l1 hl1 => ?_⟩
    have s2 := s1.trans (same_new (o := .lst [.str e.w, .str (adT e.ad)]) hl1)
    have g1 : upd H1 l1 (.lst [.str e.w, .str (adT e.ad)]) l1 = some (.lst [.str e.w, .str (adT e.ad)]) := upd_same
    have ew : e.words = [e.w, adT e.ad] := by unfold Ent.words; rw [hdone w]; rfl
    refine ⟨_, rfl, 2, rfl, t, _, rfl, SqT.of (s2 _ _ h3), (by show ¬(HT.sIx 2 0 (some 2) = 0 ∧ HT.sIx 2 2 none = 2); decide), fun p hp => ?_⟩
    have s3 := s2.trans (same_new (o := .tup ([] : List V)) hp)
    refine ⟨p, rfl, ⟨_, SqT.of upd_same⟩, for_tup (xs := []) (fun i σ H' => σ = [some (.ref t), some (.ref l1), none, none] ∧ H' p = some (.tup []) ∧ Same H H' ∧ H' l1 = some (.lst [.str e.w, .str (adT e.ad)])) ⟨rfl, upd_same, s3, (same_new (o := .tup ([] : List V)) hp) _ _ g1⟩ (fun i σ H' _ h => SqT.of h.2.1) (fun i x σ H' hx _ => by cases hx) ?_⟩
    rintro σ H' ⟨rfl, _, s', hl'⟩
    refine ⟨⟨_, rfl⟩, _, rfl, _, l1, [e.w, adT e.ad], rfl, rfl, .inl (SqL.of hl'), by rw [← ew]; exact hsz, ?_⟩
    rw [← ew]; exact q _ s'
  · refine ⟨_, rfl, t, _, _, _, rfl, rfl, SqT.of h3, rfl, _, rfl, t, _, _, _, rfl, rfl, SqT.of h3, rfl, ta, e.ad, rfl, SqT.of h2, hw.2.1, hw.2.2.1, fun H1 s1 => ?_⟩
    refine ⟨by show 2 ≤ sizeLine; decide, fun l1 hl1 => ?_⟩
    have s2 := s1.trans (same_new (o := .lst [.str e.w, .str (adT e.ad)]) hl1)
    have g1 : upd H1 l1 (.lst [.str e.w, .str (adT e.ad)]) l1 = some (.lst [.str e.w, .str (adT e.ad)]) := upd_same
    refine ⟨_, rfl, 2, rfl, t, _, rfl, SqT.of (s2 _ _ h3), (by show ¬(HT.sIx 3 0 (some 2) = 0 ∧ HT.sIx 3 3 none = 3); decide), fun p hp => ?_⟩
    have s3 := s2.trans (same_new (o := .tup [V.ref l]) hp)
    have g2 := (same_new (o := .tup [V.ref l]) hp) _ _ g1
    have ew : ([V.str e.w, V.str (adT e.ad)] ++ e.ms.map fun n => V.str (numT n)) = e.words.map V.str := by unfold Ent.words; simp
    refine ⟨p, rfl, ⟨_, SqT.of upd_same⟩, for_tup (xs := [.ref l]) (fun i σ H' => H' p = some (.tup [V.ref l]) ∧ Same H H' ∧ ((i = 0 ∧ σ = [some (.ref t), some (.ref l1), none, none] ∧ H' l1 = some (.lst [.str e.w, .str (adT e.ad)])) ∨ (i = 1 ∧ ∃ l2 v2 v3, σ = [some (.ref t), some (.ref l2), v2, v3] ∧ H' l2 = some (.lst (e.words.map V.str))))) ⟨upd_same, s3, .inl ⟨rfl, rfl, g2⟩⟩ (fun i σ H' _ h => SqT.of h.1) ?_ ?_⟩
    · rintro i x σ H' hx ⟨h5, s5, h6⟩
      rcases h6 with ⟨rfl, rfl, h6⟩ | ⟨rfl, _⟩
      · cases hx
        refine ⟨_, rfl, _, rfl, l, rfl, ⟨_, SqL.of (s5 _ _ h4)⟩, fun D hD => lc_mapA e.ms V.int (fun n => V.str (numT n)) 0 walk_list hD (by have := hw.2.2.2.2; omega) (by show 3 < 4; decide) (fun X' s' => SqL.of ((s5.trans s') _ _ h4)) ?_ ?_⟩
        · intro n hn X' Z s' z
          have hb : n.natAbs < 2 ^ 20 := by
            rcases hw.2.2.2.1 n hn with h | h
            · rw [h]; decide
            · have h0 := h.1
              have h1 := h.2
              omega
          exact ⟨_, rfl, n, rfl, log_small hb, z X' (Same.refl X')⟩
        · intro X' s' hD'
          refine ⟨l1, D, _, _, rfl, rfl, s' _ _ h6, hD', by rw [List.length_map]; show 2 + e.ms.length ≤ sizeLine; have := hw.2.2.2.2; exact sizeL (by omega), fun l2 hl2 => ?_⟩
          rw [ew]
          have s8 := s'.trans (same_new (o := .lst (e.words.map V.str)) hl2)
          exact ⟨s8 _ _ h5, s5.trans s8, .inr ⟨rfl, l2, _, _, rfl, upd_same⟩⟩
      · cases hx
    · rintro σ H' ⟨_, s', h6⟩
      rcases h6 with ⟨h, _⟩ | ⟨_, l2, v2, v3, rfl, h6⟩
      · cases h
      · exact ⟨⟨_, rfl⟩, _, rfl, _, l2, e.words, rfl, rfl, .inl (SqL.of h6), hsz, q _ s'⟩

end
end K81
namespace K81
open PySem L2 TL
section
variable {P : Program} {w : World} {K : PySem.W.Frag} {mg : Str → Option Value} {base : Heap} {A : Ads}
theorem ok_l_kinds (T : Txt K mg A) : FnOk P w K mg base CX0 1 A.l_kinds A.l_kinds_d ["_law_found"] spKinds := by
  refine T.F_l_kinds.ok sc_l_kinds (fun vs H Q E h => ?_) (fun cdv A0 outer s H vs Q E hr h => ?_)
  · obtain ⟨r, es, xs, N, rfl, hr0, ha, hw, q⟩ := h
    rfl
  obtain ⟨r, es, xs, N, rfl, hr0, ha, hw, q⟩ := h
  refine ⟨_, (pss_cons (ps_if (pt_not (pt_val (pe_callB call_isi (by rfl) T.z_isinstance (by decide +kernel) (pa_cons (pv 0) (pa_cons (pe_bltn (v := .ty "list") (by rfl) T.z_list (by decide +kernel) rfl) pa_nil)))))
    (pss_one (ps_ret pe_bl))
    pss_nil)
   (pss_cons (ps_for PassesOwn.never rfl (pi_list (pv 0)) (pg_name (i := 1) sc_l_kinds.nd rfl (Or.inl rfl))
    (pss_cons (ps_set (i := 2) sc_l_kinds.nd rfl (Or.inl rfl) (pe_callTy call_list_ofK (by rfl) T.z_list (by decide +kernel) (pa_cons (pe_ix ix_tup (pv 1) pe_int (fun _ _ => rfl)) pa_nil)))
   (pss_cons (ps_if (PW.pt (pw_or (pt_not (pt_val (pe_callB call_isi (by rfl) T.z_isinstance (by decide +kernel) (pa_cons (pv 1) (pa_cons (pe_bltn (v := .ty "tuple") (by rfl) T.z_tuple (by decide +kernel) rfl) pa_nil))))) (pw_or1 (pt_not (pt_val (pe_callB call_isi (by rfl) T.z_isinstance (by decide +kernel) (pa_cons (pe_ix ix_tup (pv 1) pe_int (fun _ _ => rfl)) (pa_cons (pe_bltn (v := .ty "tuple") (by rfl) T.z_tuple (by decide +kernel) rfl) pa_nil))))))))
    (pss_one (ps_ret pe_bl))
    pss_nil)
   (pss_cons (ps_if (pt_cmpR op_gt (pe_callB call_lenK (by rfl) T.z_len (by decide +kernel) (pa_cons (pv 1) pa_nil)) pe_int (nomark _))
    (pss_one (ps_set (i := 2) sc_l_kinds.nd rfl (Or.inl rfl) (pe_op op_cat (pv 2) (pe_ix ix_tup (pv 1) pe_int (fun _ _ => rfl)))))
    pss_nil)
   (pss_one (ps_if (pt_cmpR (op_neD hr.units) (pe_lc (own := [("_law_one", 3)]) (g := gName 3) rfl sc_l_kinds.nd (pi_list (pv 2)) (blkOk_by (own := [("_law_one", 3)]) (N := N_l_kinds) (sc := defScope s_l_kinds) (by decide +kernel)) (fun _ _ _ _ _ => pg_name (i := 3) sc_l_kinds.nd rfl (Or.inl rfl)) (fun _ _ _ _ _ => pts_one (PW.pt (pw_or (pt_not (pt_val (pe_callB (r := rIsi K) call_isi (by rfl) T.z_isinstance (by decide +kernel) (pa_cons (pv 3) (pa_cons (pe_bltn (v := .ty "int") (by rfl) T.z_int (by decide +kernel) rfl) pa_nil))))) (pw_or1 (pt_val (pe_callB (r := rIsi K) call_isi (by rfl) T.z_isinstance (by decide +kernel) (pa_cons (pv 3) (pa_cons (pe_bltn (v := .ty "bool") (by rfl) T.z_bool (by decide +kernel) rfl) pa_nil)))))))) (fun _ _ _ _ _ => (pv 3))) (pe_lst pa_nil) (nomark _))
    (pss_one (ps_ret pe_bl))
    pss_nil))))))
   (pss_one (ps_ret pe_bl)))), ?_⟩
  refine ⟨_, rfl, _, _, _, _, true, rfl, .ty _, .base (.lst hr0), kit_ty (by decide +kernel), _, rfl, iteF ?_⟩
  refine ⟨_, rfl, r, rfl, ⟨_, SqL.of hr0⟩, for_list (xs := xs) (fun i σ H' => ∃ v1 v2 v3 : Option V, σ = [some (.ref r), v1, v2, v3] ∧ Same H H') ⟨none, none, none, rfl, Same.refl H⟩ (fun i σ H' _ h => by obtain ⟨_, _, _, _, s⟩ := h; exact SqL.of (s _ _ hr0)) ?_ ?_⟩
  · rintro i v σ H1 hv ⟨v1, v2, v3, rfl, s1⟩
    obtain ⟨e, he, hE⟩ := ha.at hv
    have hwe := hw e (List.mem_of_getElem? he)
    obtain ⟨t, ta, rfl, h2, h3⟩ := hE.same s1
    have tt : ∃ xs, H1 t = some (.tup xs) := by
      rcases h3 with ⟨_, h3⟩ | ⟨_, l, _, h3, _⟩
      · exact ⟨_, h3⟩
      · exact ⟨_, h3⟩
    obtain ⟨tx, htx⟩ := tt
    have t0 : atI tx 1 = some (.ref ta) ∧ (tx = [.str e.w, .ref ta] ∨ ∃ l, tx = [.str e.w, .ref ta, .ref l] ∧ H1 l = some (.lst (e.ms.map V.int))) := by
      rcases h3 with ⟨_, h3⟩ | ⟨_, l, _, h3, h4⟩
      · rw [h3] at htx; cases htx; exact ⟨rfl, .inl rfl⟩
      · rw [h3] at htx; cases htx; exact ⟨rfl, .inr ⟨l, rfl, h4⟩⟩
    refine ⟨_, rfl, t, tx, _, _, rfl, rfl, SqT.of htx, t0.1, ta, _, rfl, .inr (SqT.of h2), fun l1 hl1 => ?_⟩
    have s2 := same_new (o := .lst (e.ad.map V.int)) hl1
    have g1 := upd_same (H := H1) (a := l1) (o := .lst (e.ad.map V.int))
    refine ⟨_, rfl, _, _, _, _, true, rfl, .ty _, .base (.tup (s2 _ _ htx)), kit_ty (by decide +kernel), _, rfl, iteF ?_⟩
    refine ⟨_, rfl, t, tx, _, _, rfl, rfl, SqT.of (s2 _ _ htx), t0.1, _, _, _, _, true, rfl, .ty _, .base (.tup (s2 _ _ h2)), kit_ty (by decide +kernel), _, rfl, iteF ?_⟩
    refine ⟨_, rfl, t, tx, rfl, .inr (SqT.of (s2 _ _ htx)), _, _, rfl, rfl, _, rfl, ?_⟩
    rcases t0.2 with rfl | ⟨l, rfl, h4⟩
    · refine iteDF (by show ¬ ((2 : Int) < ((2 : Nat) : Int)); decide) ?_
      refine ⟨_, rfl, l1, rfl, ⟨_, SqL.of g1⟩, fun D hD => lc_list (K := K) (a := l1) (xs := e.ad.map V.int) (fun i H' => H' D = some (.lst []) ∧ Same (upd H1 l1 (.lst (e.ad.map V.int))) H') ⟨upd_same, same_new hD⟩ (fun i H' _ h => SqL.of (h.2 _ _ g1)) ?_ ?_⟩
      · rintro i z H' hz ⟨e1, e2⟩
        obtain ⟨n, rfl⟩ : ∃ n, z = V.int n := by
          rw [List.getElem?_map] at hz
          obtain ⟨n, _, hn⟩ := Option.map_eq_some_iff.mp hz
          exact ⟨n, hn.symm⟩
        refine ⟨rfl, ?_⟩
        refine ⟨_, rfl, _, _, _, _, true, rfl, .ty _, .base (.int _), kit_ty (by decide +kernel), _, rfl, iteF ?_⟩
        refine ⟨_, rfl, _, _, _, _, false, rfl, .ty _, .base (.int _), kit_ty (by decide +kernel), _, rfl, iteF ?_⟩
        exact ⟨e1, e2⟩
      · rintro H' ⟨e1, e2⟩
        refine ⟨by show 0 ≤ sizeLine; decide, fun z hz => ?_⟩
        refine ⟨_, _, .lst (SqL.of ((same_new hz) _ _ e1)) .nil, .lst (SqL.of upd_same) .nil, rfl, rfl, _, rfl, iteF ?_⟩
        exact ⟨_, _, _, rfl, s1.trans (s2.trans (e2.trans (same_new hz)))⟩
    · refine iteDT (by show (2 : Int) < ((3 : Nat) : Int); decide) ?_
      refine ⟨_, rfl, _, rfl, t, _, _, _, rfl, rfl, SqT.of (s2 _ _ htx), rfl, l1, l, _, _, rfl, rfl, g1, s2 _ _ h4, by rw [List.length_map, List.length_map]; have := hwe.2.2.1; have := hwe.2.2.2.2; exact sizeL (by omega), fun l2 hl2 => ?_⟩
      rw [← List.map_append]
      have s3 := s2.trans (same_new (o := .lst ((e.ad ++ e.ms).map V.int)) hl2)
      have g2 := upd_same (H := upd H1 l1 (.lst (e.ad.map V.int))) (a := l2) (o := .lst ((e.ad ++ e.ms).map V.int))
      refine ⟨_, rfl, l2, rfl, ⟨_, SqL.of g2⟩, fun D hD => lc_list (K := K) (a := l2) (xs := (e.ad ++ e.ms).map V.int) (fun i H' => H' D = some (.lst []) ∧ Same (upd (upd H1 l1 (.lst (e.ad.map V.int))) l2 (.lst ((e.ad ++ e.ms).map V.int))) H') ⟨upd_same, same_new hD⟩ (fun i H' _ h => SqL.of (h.2 _ _ g2)) ?_ ?_⟩
      · rintro i z H' hz ⟨e1, e2⟩
        obtain ⟨n, rfl⟩ : ∃ n, z = V.int n := by
          rw [List.getElem?_map] at hz
          obtain ⟨n, _, hn⟩ := Option.map_eq_some_iff.mp hz
          exact ⟨n, hn.symm⟩
        refine ⟨rfl, ?_⟩
        refine ⟨_, rfl, _, _, _, _, true, rfl, .ty _, .base (.int _), kit_ty (by decide +kernel), _, rfl, iteF ?_⟩
        refine ⟨_, rfl, _, _, _, _, false, rfl, .ty _, .base (.int _), kit_ty (by decide +kernel), _, rfl, iteF ?_⟩
        exact ⟨e1, e2⟩
      · rintro H' ⟨e1, e2⟩
        refine ⟨by show 0 ≤ sizeLine; decide, fun z hz => ?_⟩
        refine ⟨_, _, .lst (SqL.of ((same_new hz) _ _ e1)) .nil, .lst (SqL.of upd_same) .nil, rfl, rfl, _, rfl, iteF ?_⟩
        exact ⟨_, _, _, rfl, s1.trans (s3.trans (e2.trans (same_new hz)))⟩
  · rintro σ H1 ⟨v1, v2, v3, rfl, s1⟩
    exact q _ s1

end
end K81
namespace K81
open PySem L2 TL
section
variable {P : Program} {w : World} {K : PySem.W.Frag} {mg : Str → Option Value} {base : Heap} {A : Ads}
theorem ok_law (T : Txt K mg A) : FnOk P w K mg base CX0 7 A.law A.law_d ["_law_script"] (spLaw K) := by
  have G_l_book := ok_l_book (P := P) (w := w) (base := base) T
  have G_l_line := ok_l_line (P := P) (w := w) (base := base) T
  have G_book_text := ok_book_text (P := P) (w := w) (base := base) T
  have G_read_book := ok_read_book (P := P) (w := w) (base := base) T
  have G_l_kinds := ok_l_kinds (P := P) (w := w) (base := base) T
  refine T.F_law.ok sc_law (fun vs H Q E h => ?_) (fun cdv A0 outer s H vs Q E hr h => ?_)
  · obtain ⟨a, ns, rfl, hS, hlen, q⟩ := h
    rfl
  obtain ⟨a, ns, rfl, hS, hlen, q⟩ := h
  refine ⟨_, (pss_cons (ps_set (i := 1) sc_law.nd rfl (Or.inl rfl) (pe_call G_l_book (hr.mono (by decide)) rfl T.m_l_book T.F_l_book.kp T.b_l_book .nil pass0 (pa_cons (pv 0) pa_nil)))
   (pss_cons (ps_setLc (i := 4) (own := [("_law_entry", 2)]) (g := gName 2) (tt := tYes) rfl sc_law.nd rfl rfl (sw_true rfl rfl rfl (by decide +kernel)) (pi_list (pv 1)) (blkOk_by (own := [("_law_entry", 2)]) (N := N_law) (sc := defScope s_law) (by decide +kernel)) (fun _ _ _ _ _ => pg_name (i := 2) sc_law.nd rfl (Or.inl rfl)) (fun _ _ _ _ _ => pts_nil) (fun _ _ _ _ _ => (pe_op (r := rCatA K) op_catA (pe_slice (r := rSlA K) sl_tupA (pv 2) po_none (po_some pe_int)) (pe_callTy (r := rTupOf K) call_tuple_ofK (by rfl) T.z_tuple (by decide +kernel) (pa_cons (pe_lc (own := [("_law_one", 3)]) (g := gName 3) (tt := tYes) rfl sc_law.nd (pi_tupK K rfl (pe_slice (r := rSlT K) sl_tup (pv 2) (po_some pe_int) po_none)) (blkOk_by (own := [("_law_one", 3)]) (N := N_law) (by kernel_rfl)) (fun _ _ _ _ _ => pg_name (i := 3) sc_law.nd rfl (Or.inl rfl)) (fun _ _ _ _ _ => pts_nil) (fun _ _ _ _ _ => (pe_callTy (r := rListOf K) call_list_ofK (by rfl) T.z_list (by decide +kernel) (pa_cons (pv 3) pa_nil)))) pa_nil)))))
   (pss_cons (ps_set (i := 5) sc_law.nd rfl (Or.inl rfl) (pe_join pe_str (pe_lc (own := [("_law_entry", 2)]) (g := gName 2) (tt := tYes) rfl sc_law.nd (pi_list (pv 1)) (blkOk_by (own := [("_law_entry", 2)]) (N := N_law) (sc := defScope s_law) (by decide +kernel)) (fun _ _ _ _ _ => pg_name (i := 2) sc_law.nd rfl (Or.inl rfl)) (fun _ _ _ _ _ => pts_nil) (fun _ _ _ _ _ => (pe_call G_l_line (hr.mono (by decide)) rfl T.m_l_line T.F_l_line.kp T.b_l_line .nil pass0 (pa_cons (pv 2) pa_nil))))))
   (pss_cons (ps_if (PW.pt (pw_or (pt_cmpR op_ne (pe_call G_book_text (hr.mono (by decide)) rfl T.m_book_text T.F_book_text.kp T.b_book_text .nil pass0 (pa_cons (pv 4) pa_nil)) (pv 5) (nomark _)) (pw_or1 (pt_cmpR (op_neD hr.units) (pv 4) (pv 1) (nomark _)))))
    (pss_one (ps_ret pe_bl))
    pss_nil)
   (pss_cons (ps_for PassesOwn.never rfl (pi_range1 (by rfl) T.z_range (pa_cons pe_int pa_nil)) (pg_name (i := 6) sc_law.nd rfl (Or.inl rfl))
    (pss_cons (ps_set (i := 7) sc_law.nd rfl (Or.inl rfl) (pe_call G_read_book (hr.mono (by decide)) rfl T.m_read_book T.F_read_book.kp T.b_read_book .nil pass0 (pa_cons (pv 5) pa_nil)))
   (pss_cons (ps_if (PW.pt (pw_or (pt_cmpR (op_neD hr.units) (pv 7) (pv 1) (nomark _)) (pw_or1 (pt_not (pt_val (pe_call G_l_kinds (hr.mono (by decide)) rfl T.m_l_kinds T.F_l_kinds.kp T.b_l_kinds .nil pass0 (pa_cons (pv 7) pa_nil)))))))
    (pss_one (ps_ret pe_bl))
    pss_nil)
   (pss_cons (ps_for PassesOwn.never rfl (pi_list (pv 7)) (pg_name (i := 2) sc_law.nd rfl (Or.inl rfl))
    (pss_one (ps_for PassesOwn.never rfl (pi_tup (pe_slice sl_tup (pv 2) (po_some pe_int) po_none)) (pg_name (i := 3) sc_law.nd rfl (Or.inl rfl))
    (pss_one (ps_expr (pe_bm PySem.F.plainAttrs_list PySem.F.slot_list_append PySem.F.type_list_append mt_append (pv 3) (pa_cons pe_int pa_nil)))))))
   (pss_one (ps_expr (pe_bm PySem.F.plainAttrs_list PySem.F.slot_list_append PySem.F.type_list_append mt_append (pv 7) (pa_cons (pe_tup (pa_cons pe_str (pa_cons (pe_tup pa_nil) pa_nil))) pa_nil))))))))
   (pss_one (ps_ret (pe_and (pe_cmpR op_eq (pe_call G_book_text (hr.mono (by decide)) rfl T.m_book_text T.F_book_text.kp T.b_book_text .nil pass0 (pa_cons (pe_lst pa_nil) pa_nil)) pe_str (nomark _)) (pe_and (pe_cmpR (op_eqD hr.units) (pe_call G_read_book (hr.mono (by decide)) rfl T.m_read_book T.F_read_book.kp T.b_read_book .nil pass0 (pa_cons pe_str pa_nil)) (pe_lst pa_nil) (nomark _)) (pe_one (pe_cmpR op_eq (pe_call G_book_text (hr.mono (by decide)) rfl T.m_book_text T.F_book_text.kp T.b_book_text .nil pass0 (pa_cons (pe_call G_read_book (hr.mono (by decide)) rfl T.m_read_book T.F_read_book.kp T.b_read_book .nil pass0 (pa_cons (pv 5) pa_nil)) pa_nil)) (pv 5) (nomark _)))))))))))), ?_⟩
  refine ⟨_, rfl, a, ns, rfl, hS, fun r es xs H1 s1 hr0 h1 ha hw hl => ?_⟩
  have hlx := ha.length
  refine ⟨_, rfl, r, rfl, ⟨_, SqL.of h1⟩, fun D hD => lc_rel es (fun H' e v => EntH H' (fun l => l ≠ D) e v) ha (fun _ _ _ _ s' h => h.same s') (fun X e v ys ys' h hD' => h.keepX keepX_upd hD' fun l h => h) walk_list hD (by omega) (by show 2 < 8; decide) (fun H' s' => SqL.of (s' _ _ h1)) ?_ ?_⟩
  · rintro e v he hv hE H' Z s' ⟨ys, hys⟩ z
    obtain ⟨t, ta, rfl, h2, h3⟩ := hE.same s'
    rcases h3 with ⟨cw, h3⟩ | ⟨cw, l, hlr, h3, h4⟩
    · refine ⟨_, rfl, 2, rfl, t, _, rfl, SqT.of h3, fun _ => ?_, fun n => absurd ⟨rfl, rfl⟩ n⟩
      refine ⟨_, rfl, 2, rfl, t, _, rfl, SqT.of h3, (by show ¬(HT.sIx 2 0 (some 2) = 0 ∧ HT.sIx 2 2 none = 2); decide), fun p hp => ?_⟩
      have s2 := same_new (o := .tup ([] : List V)) hp
      refine ⟨p, rfl, ⟨_, SqT.of upd_same⟩, fun D2 hD2 => lc_rel (α := Unit) (β := fun _ _ => True) (ws := []) [] (fun _ _ _ => True) .nil (fun _ _ _ _ _ _ => trivial) (fun _ _ _ _ _ _ _ => trivial) walk_tup hD2 (by decide) (by show 3 < 8; decide) (fun X s'' => SqT.of (s'' _ _ upd_same)) (fun _ _ h => by cases h) fun X ys2 s3 a3 hX => ?_⟩
      cases a3
      refine ⟨D2, _, rfl, .inl ⟨SqL.of hX, fun t2 ht2 => ?_⟩⟩
      have sA := s2.trans (s3.trans (same_new (o := .tup ([] : List V)) ht2))
      refine ⟨t, t2, _, _, rfl, rfl, SqT.of (sA _ _ h3), SqT.of upd_same, by show 2 ≤ sizeLine; decide, (fun h => by cases h), (fun _ _ => ?_), fun _ h => absurd rfl h⟩
      exact z _ _ sA ⟨t, ta, rfl, sA _ _ h2, .inl ⟨cw, sA _ _ h3⟩⟩
    · refine ⟨_, rfl, 2, rfl, t, _, rfl, SqT.of h3, (fun h => absurd h (by show ¬(HT.sIx 3 0 none = 0 ∧ HT.sIx 3 3 (some 2) = 3); decide)), fun _ p0 hp0 => ?_⟩
      have s0 := same_new (o := .tup [V.str e.w, V.ref ta]) hp0
      have g0 := upd_same (H := H') (a := p0) (o := .tup [V.str e.w, V.ref ta])
      refine ⟨_, rfl, 2, rfl, t, _, rfl, SqT.of (s0 _ _ h3), (by show ¬(HT.sIx 3 0 (some 2) = 0 ∧ HT.sIx 3 3 none = 3); decide), fun p hp => ?_⟩
      have s2 := s0.trans (same_new (o := .tup [V.ref l]) hp)
      have g2 := (same_new (o := .tup [V.ref l]) hp) _ _ g0
      refine ⟨p, rfl, ⟨_, SqT.of upd_same⟩, fun D2 hD2 => lc_rel (α := Unit) (β := fun _ v => v = V.ref l) (ws := [V.ref l]) [()] (fun X _ v => ∃ l2, v = V.ref l2 ∧ l2 ≠ D2 ∧ l2 ≠ D ∧ X l2 = some (.lst (e.ms.map V.int))) (.cons rfl .nil) (fun _ _ _ _ s' ⟨l2, e2, n2, m2, h⟩ => ⟨l2, e2, n2, m2, s' _ _ h⟩) (fun _ _ _ _ _ ⟨l2, e2, n2, m2, h⟩ _ => ⟨l2, e2, n2, m2, by rw [upd_ne n2]; exact h⟩) walk_tup hD2 (by decide) (by show 3 < 8; decide) (fun X s'' => SqT.of (s'' _ _ upd_same)) ?_ ?_⟩
      · rintro _ v _ _ rfl X Z2 s3 ⟨yy, hyy⟩ z2
        refine ⟨_, rfl, l, _, rfl, .inl (SqL.of ((s2.trans s3) _ _ h4)), fun l2 hl2 => ?_⟩
        exact z2 _ _ (same_new hl2) ⟨l2, rfl, (fun q => by rw [q, hyy] at hl2; cases hl2), (fun q => by rw [q, (s2.trans s3) _ _ hys] at hl2; cases hl2), upd_same⟩
      · intro X ys2 s3 a3 hX
        obtain ⟨l2, rfl, n2, m2, hl2⟩ : ∃ l2, ys2 = [V.ref l2] ∧ l2 ≠ D2 ∧ l2 ≠ D ∧ X l2 = some (.lst (e.ms.map V.int)) := by
          cases a3 with
          | cons h t =>
            cases t
            obtain ⟨l2, e2, n2, m2, h⟩ := h
            exact ⟨l2, by rw [e2], n2, m2, h⟩
        refine ⟨D2, _, rfl, .inl ⟨SqL.of hX, fun t2 ht2 => ?_⟩⟩
        have s4 := same_new (o := .tup [V.ref l2]) ht2
        have s34 := s3.trans s4
        have sA := s2.trans s34
        refine ⟨p0, t2, _, _, rfl, rfl, SqT.of (s34 _ _ g2), SqT.of upd_same, by show 3 ≤ sizeLine; decide, (fun h => by cases h), (fun _ h => by cases h), fun _ _ t3 ht3 => ?_⟩
        have s5 := same_new (o := .tup ([V.str e.w, V.ref ta] ++ [V.ref l2])) ht3
        exact z _ _ (sA.trans s5) ⟨t3, ta, rfl, (sA.trans s5) _ _ h2, .inr ⟨cw, l2, m2, upd_same, (s4.trans s5) _ _ hl2⟩⟩
  · intro H2 ys s2 a2 hD2
    have h2 := s2 _ _ h1
    refine ⟨⟨_, rfl⟩, _, rfl, r, rfl, ⟨_, SqL.of h2⟩, fun D3 hD3 => lc_rel es (fun _ e y => y = V.str e.text) ha (fun _ _ _ _ _ h => h) (fun _ _ _ _ _ h _ => h) walk_list hD3 (by omega) (by show 2 < 8; decide) (fun H' s' => SqL.of (s' _ _ h2)) ?_ ?_⟩
    · intro e v he hv hb H' Z s' _ z
      exact ⟨_, rfl, e, v, _, rfl, hb.same (s2.trans s'), hw e he, fun H2 s2 => z H2 _ s2 rfl⟩
    intro H3 ys3 s3 h3 hD3'
    have ey : ∀ {es : List Ent} {ys : List V}, All2 (fun e y => y = V.str e.text) es ys → ys = (es.map Ent.text).map V.str := by
      intro es
      induction es with
      | nil => intro ys h; cases h; rfl
      | cons e r ih => intro ys h; cases h with | cons h t => rw [ih t, h]; rfl
    have e1 := ey h3
    subst e1
    have hsz : ((es.map Ent.text).map (·.length)).sum + (es.map Ent.text).length * (Str.ofString "\n").length ≤ 16777216 := by
      have := join_len (Str.ofString "\n") 71502 (by decide +kernel) (es.map Ent.text) fun x hx => by
        obtain ⟨e, he, rfl⟩ := List.mem_map.mp hx
        exact Ent.text_len (hw e he)
      rw [List.length_map] at this ⊢
      have : es.length * (71502 + 1) ≤ 100 * 71503 := Nat.mul_le_mul_right _ (by omega)
      omega
    refine ⟨_, D3, es.map Ent.text, rfl, rfl, .inl (SqL.of hD3'), hsz, ?_⟩
    have s13 := s2.trans s3
    have a3 := a2.mono fun e v h => h.same s3
    refine ⟨_, rfl, D, es, ys, _, rfl, s3 _ _ hD2, a3, hw, by omega, fun H4 s4 => ?_⟩
    refine ⟨_, rfl, rfl, _, rfl, iteNF rfl ?_⟩
    have sh := book_shaped hw
    have ev : PyData.eqv (bookData es) (bookData es) = true := SeqAt.eqv_refl _ (book_lay hw)
    refine ⟨_, rfl, _, rfl, bookData es, bookData es, book_dp ((s3.trans s4) _ _ hD2) (a3.mono fun e v h => h.same s4), book_dp ((s13.trans s4) _ _ h1) (ha.mono fun e v h => h.same (s13.trans s4)), sh, sh, _, rfl, ?_⟩
    rw [ev]
    refine iteF ?_
    have s14 := s13.trans s4
    refine ⟨2, rfl, by decide, by decide, for_range (n := 2) (fun i σ H' => ∃ v2 v3 v6 v7 : Option V, σ = [some (.ref a), some (.ref r), v2, v3, some (.ref D), some (.str (bookText es)), v6, v7] ∧ Same H4 H') ⟨none, none, none, none, rfl, Same.refl H4⟩ ?_ ?_⟩
    · rintro i σ H5 hi ⟨v2, v3, v6, v7, rfl, s5⟩
      refine ⟨_, rfl, es, rfl, hw, by omega, fun r2 xs2 H6 s6 hr2 h6 a6 => ?_⟩
      have s16 := s14.trans (s5.trans s6)
      refine ⟨_, rfl, _, rfl, bookData es, bookData es, book_dp h6 a6, book_dp (s16 _ _ h1) (ha.mono fun e v h => h.same s16), sh, sh, _, rfl, ?_⟩
      rw [ev]
      refine iteF ?_
      refine ⟨_, rfl, r2, es, xs2, _, rfl, h6, a6, hw, fun H7 s7 => ?_⟩
      refine ⟨_, rfl, iteF ?_⟩
      have h7 := s7 _ _ h6
      have hsh : ∀ v ∈ xs2, ShH H5 H7 r2 100 v := fun v hv => by
        obtain ⟨j, hj⟩ := List.mem_iff_getElem?.mp hv
        obtain ⟨e, he, hE⟩ := a6.at hj
        exact (ShH.of (hw e (List.mem_of_getElem? he)) hE).same s7
      have hl2 := a6.length
      refine ⟨_, rfl, r2, rfl, ⟨_, SqL.of h7⟩, for_list (xs := xs2) (fun j σ H' => ∃ v2 v3 : Option V, σ = [some (.ref a), some (.ref r), v2, v3, some (.ref D), some (.str (bookText es)), some (.int (0 + (i : Int))), some (.ref r2)] ∧ Same H5 H' ∧ H' r2 = some (.lst xs2) ∧ ∀ v ∈ xs2, ShH H5 H' r2 (100 + j) v) ⟨v2, v3, rfl, s6.trans s7, h7, hsh⟩ (fun j σ H' _ ⟨_, _, _, _, h, _⟩ => SqL.of h) ?_ ?_⟩
      · rintro j v σ H8 hv ⟨v2, v3, rfl, s8, h8, sh8⟩
        obtain ⟨t, tx, rfl, ht, hx⟩ := sh8 v (List.mem_of_getElem? hv)
        have hj : j < xs2.length := (List.getElem?_eq_some_iff.mp hv).1
        rcases hx with hx | ⟨x0, x1, l, rfl, hb, hlr, yy, hyy, hym⟩
        · obtain ⟨y0, y1, rfl⟩ : ∃ y0 y1, tx = [y0, y1] := by
            match tx, hx with
            | [y0, y1], _ => exact ⟨y0, y1, rfl⟩
          refine ⟨_, rfl, 2, rfl, t, _, rfl, SqT.of ht, (by show ¬(HT.sIx 2 0 (some 2) = 0 ∧ HT.sIx 2 2 none = 2); decide), fun p hp => ?_⟩
          have s9 := same_new (o := .tup ([] : List V)) hp
          refine ⟨p, rfl, ⟨_, SqT.of upd_same⟩, for_tup (xs := []) (fun k σ H' => σ = [some (.ref a), some (.ref r), some (.ref t), v3, some (.ref D), some (.str (bookText es)), some (.int (0 + (i : Int))), some (.ref r2)] ∧ H' = upd H8 p (.tup [])) ⟨rfl, rfl⟩ (fun k σ H' _ h => by rw [h.2]; exact SqT.of upd_same) (fun k x σ H' hx _ => by cases hx) ?_⟩
          rintro σ H' ⟨rfl, rfl⟩
          exact ⟨_, _, rfl, s8.trans s9, s9 _ _ h8, fun v hv => ((sh8 v hv).same s9).up (by omega)⟩
        · refine ⟨_, rfl, 2, rfl, t, _, rfl, SqT.of ht, (by show ¬(HT.sIx 3 0 (some 2) = 0 ∧ HT.sIx 3 3 none = 3); decide), fun p hp => ?_⟩
          have s9 := same_new (o := .tup [V.ref l]) hp
          refine ⟨p, rfl, ⟨_, SqT.of upd_same⟩, for_tup (xs := [V.ref l]) (fun k σ H' => H' p = some (.tup [V.ref l]) ∧ ((k = 0 ∧ σ = [some (.ref a), some (.ref r), some (.ref t), v3, some (.ref D), some (.str (bookText es)), some (.int (0 + (i : Int))), some (.ref r2)] ∧ H' = upd H8 p (.tup [V.ref l])) ∨ (k = 1 ∧ ∃ v3 : Option V, σ = [some (.ref a), some (.ref r), some (.ref t), v3, some (.ref D), some (.str (bookText es)), some (.int (0 + (i : Int))), some (.ref r2)] ∧ Same H5 H' ∧ H' r2 = some (.lst xs2) ∧ ∀ v ∈ xs2, ShH H5 H' r2 (100 + (j + 1)) v))) ⟨upd_same, .inl ⟨rfl, rfl, rfl⟩⟩ (fun k σ H' _ h => SqT.of h.1) ?_ ?_⟩
          · rintro k x σ H' hx ⟨h9, h10⟩
            rcases h10 with ⟨rfl, rfl, rfl⟩ | ⟨rfl, _⟩
            · cases hx
              have hl9 := s9 _ _ hyy
              refine ⟨_, rfl, .inl ⟨rfl, _, SqL.of hl9⟩, l, _, _, rfl, rfl, hl9, Nat.lt_of_lt_of_le (show yy.length < 16777216 by omega) (by decide), ?_⟩
              refine ⟨by rw [upd_ne (ne_of h9 hl9 (by intro z; cases z))]; exact h9, .inr ⟨rfl, _, rfl, fun z o hz => ?_, ?_, fun v hv => ?_⟩⟩
              · rw [upd_ne (ne_of_none hz hb)]
                exact (s8.trans s9) _ _ hz
              · rw [upd_ne (Ne.symm hlr)]; exact s9 _ _ h8
              · exact ((sh8 v hv).same s9).put hl9 (by omega)
            · cases hx
          · rintro σ H' ⟨_, h10⟩
            rcases h10 with ⟨h, _⟩ | ⟨_, v3, rfl, s10, h10, sh10⟩
            · cases h
            · exact ⟨_, _, rfl, s10, h10, sh10⟩
      · rintro σ H8 ⟨v2, v3, rfl, s8, h8, _⟩
        refine ⟨_, rfl, .inl ⟨rfl, _, SqL.of h8⟩, by show 0 ≤ sizeLine; decide, fun t0 ht0 => ⟨by show 2 ≤ sizeLine; decide, fun t1 ht1 => ?_⟩⟩
        have s9 := (same_new (o := .tup ([] : List V)) ht0).trans (same_new (o := .tup [V.str "done", V.ref t0]) ht1)
        have h9 := s9 _ _ h8
        refine ⟨r2, _, _, rfl, rfl, h9, Nat.lt_of_lt_of_le (show xs2.length < 16777216 by omega) (by decide), ?_⟩
        refine ⟨_, _, _, _, rfl, fun z o hz => ?_⟩
        have hz5 := s5 _ _ hz
        rw [upd_ne (ne_of_none hz5 hr2)]
        exact (s8.trans s9) _ _ hz5
    · rintro σ H5 ⟨v2, v3, v6, v7, rfl, s5⟩
      have e0 : bookText [] = Str.ofString "" := by decide +kernel
      refine ⟨by show 0 ≤ sizeLine; decide, fun l0 hl0 => ?_⟩
      refine ⟨l0, [], [], (fun _ => True), rfl, upd_same, .nil, (fun _ h => by cases h), Nat.zero_le _, fun H6 s6 => ?_⟩
      refine ⟨rfl, _, rfl, iteDT (congrArg V.str e0) ?_⟩
      refine ⟨[], by rw [e0]; rfl, (fun _ h => by cases h), Nat.zero_le _, fun r7 xs7 H7 s7 hr7 h7 a7 => ?_⟩
      cases a7
      refine ⟨by show 0 ≤ sizeLine; decide, fun l8 hl8 => ?_⟩
      refine ⟨.list [], .list [], .lst (SqL.of ((same_new hl8) _ _ h7)) .nil, .lst (SqL.of upd_same) .nil, rfl, rfl, _, rfl, iteT ?_⟩
      refine ⟨_, rfl, es, rfl, hw, by omega, fun r9 xs9 H9 s9 hr9 h9 a9 => ?_⟩
      refine ⟨r9, es, xs9, _, rfl, h9, a9, hw, by omega, fun H10 s10 => ?_⟩
      refine ⟨_, rfl, rfl, ?_⟩
      show Q (.bl (decide (V.str (bookText es) = V.str (bookText es)))) _
      rw [decide_eq_true rfl]
      exact q _

end
end K81
namespace K81
open PySem PySem.Spec PyProof.Rows L2 TL
def hD_is_value_word : He.DefD := ⟨("is_value_word", none), "is_value_word", "is_value_word", defArgs s_is_value_word, defBody s_is_value_word, defScope s_is_value_word, [], []⟩
def hD_address_text : He.DefD := ⟨("address_text", none), "address_text", "address_text", defArgs s_address_text, defBody s_address_text, defScope s_address_text, [], []⟩
def hD_entry_text : He.DefD := ⟨("entry_text", none), "entry_text", "entry_text", defArgs s_entry_text, defBody s_entry_text, defScope s_entry_text, [], []⟩
def hD_book_text : He.DefD := ⟨("book_text", none), "book_text", "book_text", defArgs s_book_text, defBody s_book_text, defScope s_book_text, [], []⟩
def hD_check_text : He.DefD := ⟨("check_text", none), "check_text", "check_text", defArgs s_check_text, defBody s_check_text, defScope s_check_text, [], []⟩
def hD_number_in : He.DefD := ⟨("number_in", none), "number_in", "number_in", defArgs s_number_in, defBody s_number_in, defScope s_number_in, [], []⟩
def hD_address_in : He.DefD := ⟨("address_in", none), "address_in", "address_in", defArgs s_address_in, defBody s_address_in, defScope s_address_in, [], []⟩
def hD_maker_in : He.DefD := ⟨("maker_in", none), "maker_in", "maker_in", defArgs s_maker_in, defBody s_maker_in, defScope s_maker_in, [], []⟩
def hD_entry_in : He.DefD := ⟨("entry_in", none), "entry_in", "entry_in", defArgs s_entry_in, defBody s_entry_in, defScope s_entry_in, [], []⟩
def hD_read_book : He.DefD := ⟨("read_book", none), "read_book", "read_book", defArgs s_read_book, defBody s_read_book, defScope s_read_book, [], []⟩
def hD_l_cell : He.DefD := ⟨("_law_cell", none), "_law_cell", "_law_cell", defArgs s_l_cell, defBody s_l_cell, defScope s_l_cell, [], []⟩
def hD_l_mixed : He.DefD := ⟨("_law_mixed", none), "_law_mixed", "_law_mixed", defArgs s_l_mixed, defBody s_l_mixed, defScope s_l_mixed, [], []⟩
def hD_l_twice : He.DefD := ⟨("_law_twice", none), "_law_twice", "_law_twice", defArgs s_l_twice, defBody s_l_twice, defScope s_l_twice, [], []⟩
def hD_l_well : He.DefD := ⟨("_law_well", none), "_law_well", "_law_well", defArgs s_l_well, defBody s_l_well, defScope s_l_well, [], []⟩
def hD_l_draw : He.DefD := ⟨("_law_draw", none), "_law_draw", "_law_draw", defArgs s_l_draw, defBody s_l_draw, defScope s_l_draw, [], []⟩
def hD_l_number : He.DefD := ⟨("_law_number", none), "_law_number", "_law_number", defArgs s_l_number, defBody s_l_number, defScope s_l_number, [], []⟩
def hD_l_address : He.DefD := ⟨("_law_address", none), "_law_address", "_law_address", defArgs s_l_address, defBody s_l_address, defScope s_l_address, [], []⟩
def hD_l_address_text : He.DefD := ⟨("_law_address_text", none), "_law_address_text", "_law_address_text", defArgs s_l_address_text, defBody s_l_address_text, defScope s_l_address_text, [], []⟩
def hD_l_makers : He.DefD := ⟨("_law_makers", none), "_law_makers", "_law_makers", defArgs s_l_makers, defBody s_l_makers, defScope s_l_makers, [], []⟩
def hD_l_book : He.DefD := ⟨("_law_book", none), "_law_book", "_law_book", defArgs s_l_book, defBody s_l_book, defScope s_l_book, [], []⟩
def hD_l_line : He.DefD := ⟨("_law_line", none), "_law_line", "_law_line", defArgs s_l_line, defBody s_l_line, defScope s_l_line, [], []⟩
def hD_l_kinds : He.DefD := ⟨("_law_kinds", none), "_law_kinds", "_law_kinds", defArgs s_l_kinds, defBody s_l_kinds, defScope s_l_kinds, [], []⟩
def hD_law : He.DefD := ⟨("law", none), "law", "law", defArgs s_law, defBody s_law, defScope s_law, [], []⟩
def hFn : List He.DefD := ([hD_is_value_word, hD_address_text, hD_entry_text, hD_book_text, hD_check_text, hD_number_in, hD_address_in, hD_maker_in, hD_entry_in, hD_read_book, hD_l_cell, hD_l_mixed, hD_l_twice, hD_l_well, hD_l_draw, hD_l_number, hD_l_address, hD_l_address_text, hD_l_makers, hD_l_book, hD_l_line, hD_l_kinds, hD_law] : List He.DefD)
def hFa : List FaM := ([fun K => (He.Fa.glo "is_value_word").ok K,
  fun K => (He.Fa.glo "address_text").ok K,
  fun K => (He.Fa.glo "entry_text").ok K,
  fun K => (He.Fa.glo "book_text").ok K,
  fun K => (He.Fa.glo "check_text").ok K,
  fun K => (He.Fa.glo "number_in").ok K,
  fun K => (He.Fa.glo "address_in").ok K,
  fun K => (He.Fa.glo "maker_in").ok K,
  fun K => (He.Fa.glo "entry_in").ok K,
  fun K => (He.Fa.glo "read_book").ok K,
  fun K => (He.Fa.glo "_law_cell").ok K,
  fun K => (He.Fa.glo "_law_mixed").ok K,
  fun K => (He.Fa.glo "_law_twice").ok K,
  fun K => (He.Fa.glo "_law_well").ok K,
  fun K => (He.Fa.glo "_law_draw").ok K,
  fun K => (He.Fa.glo "_law_number").ok K,
  fun K => (He.Fa.glo "_law_address").ok K,
  fun K => (He.Fa.glo "_law_address_text").ok K,
  fun K => (He.Fa.glo "_law_makers").ok K,
  fun K => (He.Fa.glo "_law_book").ok K] : List FaM) ++
  ([fun K => (He.Fa.glo "_law_line").ok K,
  fun K => (He.Fa.glo "_law_kinds").ok K,
  fun K => (He.Fa.glo "law").ok K,
  fun K => (He.Fa.exc "NoText").ok K,
  fun K => (He.Fa.glo "NoText").ok K,
  fun K => (He.Fa.str "FIGURES" "0123456789").ok K,
  fun K => (He.Fa.int "MOST_NUMBERS" 100).ok K,
  fun K => (He.Fa.int "MOST_MAKERS" 6000).ok K,
  fun K => (He.Fa.free "len").ok K,
  fun K => (He.Fa.free "all").ok K,
  fun K => (He.Fa.free "str").ok K,
  fun K => (He.Fa.free "int").ok K,
  fun K => (He.Fa.free "tuple").ok K,
  fun K => (He.Fa.free "isinstance").ok K,
  fun K => (He.Fa.free "range").ok K,
  fun K => (He.Fa.free "list").ok K,
  fun K => (He.Fa.free "bool").ok K] : List FaM)
def loose : List Str := (["HadError", "NoText", "FIGURES", "is_value_word", "MOST_NUMBERS", "MOST_MAKERS", "address_text", "entry_text", "book_text", "check_text", "number_in", "address_in", "maker_in", "entry_in", "read_book"] : List Str) ++ (["_law_cell", "_law_mixed", "_law_twice", "_law_well", "_law_draw", "_law_number", "_law_address", "_law_address_text", "_law_name", "_law_makers", "_law_book", "_law_line", "_law_kinds"] : List Str)
abbrev R : PySem.W.OpenRow := PySem.W.OpenLaw.row PySem.Challenge.rw_hadbeen_k81_books_as_texts
abbrev hk : PySem.W.Hook := hookM ("law" :: loose) hFa hFn
def ob (s : PySem.W.SharedT) : He.AlD := obsMG ("law" :: loose) hFa hFn (HandSHeadRun.getT s)
theorem ob_eq (s : PySem.W.SharedT) : ob s = hk.obs s.abs := obsMG_eq (HandSHeadRun.getT_eq s)
end K81
namespace K81
open PySem PySem.Spec PyProof.Rows L2 TL
theorem run (w : World) : HandSHeadRun.RunEq R (PySem.W.view R.prog [32]) hk ob 4000 loose w := by
  intro os
  kernel_rfl
end K81
namespace K81
open PySem PySem.Spec PyProof.Rows L2 TL
set_option maxHeartbeats 0 in
theorem facts {P : Program} {w : World} {K : PySem.W.Frag} {h : Heap} {mg : Str → Option Value} {f : Addr} (X : K.In h) (G : h.Ns mainGlobals mg) (hfa : mg ("law" : Str) = some (.ref f)) (c : SaysM hFa hFn K) :
    ∃ fd : FuncData, (∀ (s : Shared) (v : Value), BindsTo s fd ⟨[v], []⟩ [("_law_script", v)]) ∧ ∀ base : Heap, K.In base → base.Ns mainGlobals mg → FnOk P w K mg base CX0 7 f fd ["_law_script"] (spLaw K) := by
  obtain ⟨d0, F0⟩ := c.def_ 0 (d := hD_is_value_word) rfl
  obtain ⟨d1, F1⟩ := c.def_ 1 (d := hD_address_text) rfl
  obtain ⟨d2, F2⟩ := c.def_ 2 (d := hD_entry_text) rfl
  obtain ⟨d3, F3⟩ := c.def_ 3 (d := hD_book_text) rfl
  obtain ⟨d4, F4⟩ := c.def_ 4 (d := hD_check_text) rfl
  obtain ⟨d5, F5⟩ := c.def_ 5 (d := hD_number_in) rfl
  obtain ⟨d6, F6⟩ := c.def_ 6 (d := hD_address_in) rfl
  obtain ⟨d7, F7⟩ := c.def_ 7 (d := hD_maker_in) rfl
  obtain ⟨d8, F8⟩ := c.def_ 8 (d := hD_entry_in) rfl
  obtain ⟨d9, F9⟩ := c.def_ 9 (d := hD_read_book) rfl
  obtain ⟨d10, F10⟩ := c.def_ 10 (d := hD_l_cell) rfl
  obtain ⟨d11, F11⟩ := c.def_ 11 (d := hD_l_mixed) rfl
  obtain ⟨d12, F12⟩ := c.def_ 12 (d := hD_l_twice) rfl
  obtain ⟨d13, F13⟩ := c.def_ 13 (d := hD_l_well) rfl
  obtain ⟨d14, F14⟩ := c.def_ 14 (d := hD_l_draw) rfl
  obtain ⟨d15, F15⟩ := c.def_ 15 (d := hD_l_number) rfl
  obtain ⟨d16, F16⟩ := c.def_ 16 (d := hD_l_address) rfl
  obtain ⟨d17, F17⟩ := c.def_ 17 (d := hD_l_address_text) rfl
  obtain ⟨d18, F18⟩ := c.def_ 18 (d := hD_l_makers) rfl
  obtain ⟨d19, F19⟩ := c.def_ 19 (d := hD_l_book) rfl
  obtain ⟨d20, F20⟩ := c.def_ 20 (d := hD_l_line) rfl
  obtain ⟨d21, F21⟩ := c.def_ 21 (d := hD_l_kinds) rfl
  obtain ⟨d22, F22⟩ := c.def_ 22 (d := hD_law) rfl
  have e := hfa.symm.trans (He.glo_ok (x := "law") X G (c.fact 22 rfl))
  cases e
  let A : Ads := ⟨He.fAd K ("is_value_word", none), d0, He.fAd K ("address_text", none), d1, He.fAd K ("entry_text", none), d2, He.fAd K ("book_text", none), d3, He.fAd K ("check_text", none), d4, He.fAd K ("number_in", none), d5, He.fAd K ("address_in", none), d6, He.fAd K ("maker_in", none), d7, He.fAd K ("entry_in", none), d8, He.fAd K ("read_book", none), d9, He.fAd K ("_law_cell", none), d10, He.fAd K ("_law_mixed", none), d11, He.fAd K ("_law_twice", none), d12, He.fAd K ("_law_well", none), d13, He.fAd K ("_law_draw", none), d14, He.fAd K ("_law_number", none), d15, He.fAd K ("_law_address", none), d16, He.fAd K ("_law_address_text", none), d17, He.fAd K ("_law_makers", none), d18, He.fAd K ("_law_book", none), d19, He.fAd K ("_law_line", none), d20, He.fAd K ("_law_kinds", none), d21, He.fAd K ("law", none), d22, He.ga K "NoText"⟩
  have T : Txt K mg A :=
    { F_is_value_word := fun_of F0,
      b_is_value_word := FunD.bindsN (ps := ["word"]) F0 fun _ _ _ _ _ _ us hl => match us, hl with | [_], _ => rfl,
      m_is_value_word := He.glo_ok (x := "is_value_word") X G (c.fact 0 rfl),
      F_address_text := fun_of F1,
      b_address_text := FunD.bindsN (ps := ["address"]) F1 fun _ _ _ _ _ _ us hl => match us, hl with | [_], _ => rfl,
      m_address_text := He.glo_ok (x := "address_text") X G (c.fact 1 rfl),
      F_entry_text := fun_of F2,
      b_entry_text := FunD.bindsN (ps := ["entry"]) F2 fun _ _ _ _ _ _ us hl => match us, hl with | [_], _ => rfl,
      m_entry_text := He.glo_ok (x := "entry_text") X G (c.fact 2 rfl),
      F_book_text := fun_of F3,
      b_book_text := FunD.bindsN (ps := ["book"]) F3 fun _ _ _ _ _ _ us hl => match us, hl with | [_], _ => rfl,
      m_book_text := He.glo_ok (x := "book_text") X G (c.fact 3 rfl),
      F_check_text := fun_of F4,
      b_check_text := FunD.bindsN (ps := ["good"]) F4 fun _ _ _ _ _ _ us hl => match us, hl with | [_], _ => rfl,
      m_check_text := He.glo_ok (x := "check_text") X G (c.fact 4 rfl),
      F_number_in := fun_of F5,
      b_number_in := FunD.bindsN (ps := ["word"]) F5 fun _ _ _ _ _ _ us hl => match us, hl with | [_], _ => rfl,
      m_number_in := He.glo_ok (x := "number_in") X G (c.fact 5 rfl),
      F_address_in := fun_of F6,
      b_address_in := FunD.bindsN (ps := ["word"]) F6 fun _ _ _ _ _ _ us hl => match us, hl with | [_], _ => rfl,
      m_address_in := He.glo_ok (x := "address_in") X G (c.fact 6 rfl),
      F_maker_in := fun_of F7,
      b_maker_in := FunD.bindsN (ps := ["word"]) F7 fun _ _ _ _ _ _ us hl => match us, hl with | [_], _ => rfl,
      m_maker_in := He.glo_ok (x := "maker_in") X G (c.fact 7 rfl),
      F_entry_in := fun_of F8,
      b_entry_in := FunD.bindsN (ps := ["line"]) F8 fun _ _ _ _ _ _ us hl => match us, hl with | [_], _ => rfl,
      m_entry_in := He.glo_ok (x := "entry_in") X G (c.fact 8 rfl),
      F_read_book := fun_of F9,
      b_read_book := FunD.bindsN (ps := ["text"]) F9 fun _ _ _ _ _ _ us hl => match us, hl with | [_], _ => rfl,
      m_read_book := He.glo_ok (x := "read_book") X G (c.fact 9 rfl),
      F_l_cell := fun_of F10,
      b_l_cell := FunD.bindsN (ps := ["_law_script", "_law_k"]) F10 fun _ _ _ _ _ _ us hl => match us, hl with | [_, _], _ => rfl,
      m_l_cell := He.glo_ok (x := "_law_cell") X G (c.fact 10 rfl),
      F_l_mixed := fun_of F11,
      b_l_mixed := FunD.bindsN (ps := ["_law_cell_here", "_law_k"]) F11 fun _ _ _ _ _ _ us hl => match us, hl with | [_, _], _ => rfl,
      m_l_mixed := He.glo_ok (x := "_law_mixed") X G (c.fact 11 rfl),
      F_l_twice := fun_of F12,
      b_l_twice := FunD.bindsN (ps := ["_law_cell_here", "_law_k"]) F12 fun _ _ _ _ _ _ us hl => match us, hl with | [_, _], _ => rfl,
      m_l_twice := He.glo_ok (x := "_law_twice") X G (c.fact 12 rfl),
      F_l_well := fun_of F13,
      b_l_well := FunD.bindsN (ps := ["_law_script", "_law_k"]) F13 fun _ _ _ _ _ _ us hl => match us, hl with | [_, _], _ => rfl,
      m_l_well := He.glo_ok (x := "_law_well") X G (c.fact 13 rfl),
      F_l_draw := fun_of F14,
      b_l_draw := FunD.bindsN (ps := ["_law_well_here", "_law_most"]) F14 fun _ _ _ _ _ _ us hl => match us, hl with | [_, _], _ => rfl,
      m_l_draw := He.glo_ok (x := "_law_draw") X G (c.fact 14 rfl),
      F_l_number := fun_of F15,
      b_l_number := FunD.bindsN (ps := ["_law_well_here"]) F15 fun _ _ _ _ _ _ us hl => match us, hl with | [_], _ => rfl,
      m_l_number := He.glo_ok (x := "_law_number") X G (c.fact 15 rfl),
      F_l_address := fun_of F16,
      b_l_address := FunD.bindsN (ps := ["_law_well_here"]) F16 fun _ _ _ _ _ _ us hl => match us, hl with | [_], _ => rfl,
      m_l_address := He.glo_ok (x := "_law_address") X G (c.fact 16 rfl),
      F_l_address_text := fun_of F17,
      b_l_address_text := FunD.bindsN (ps := ["_law_address_here"]) F17 fun _ _ _ _ _ _ us hl => match us, hl with | [_], _ => rfl,
      m_l_address_text := He.glo_ok (x := "_law_address_text") X G (c.fact 17 rfl),
      F_l_makers := fun_of F18,
      b_l_makers := FunD.bindsN (ps := ["_law_well_here"]) F18 fun _ _ _ _ _ _ us hl => match us, hl with | [_], _ => rfl,
      m_l_makers := He.glo_ok (x := "_law_makers") X G (c.fact 18 rfl),
      F_l_book := fun_of F19,
      b_l_book := FunD.bindsN (ps := ["_law_script"]) F19 fun _ _ _ _ _ _ us hl => match us, hl with | [_], _ => rfl,
      m_l_book := He.glo_ok (x := "_law_book") X G (c.fact 19 rfl),
      F_l_line := fun_of F20,
      b_l_line := FunD.bindsN (ps := ["_law_entry"]) F20 fun _ _ _ _ _ _ us hl => match us, hl with | [_], _ => rfl,
      m_l_line := He.glo_ok (x := "_law_line") X G (c.fact 20 rfl),
      F_l_kinds := fun_of F21,
      b_l_kinds := FunD.bindsN (ps := ["_law_found"]) F21 fun _ _ _ _ _ _ us hl => match us, hl with | [_], _ => rfl,
      m_l_kinds := He.glo_ok (x := "_law_kinds") X G (c.fact 21 rfl),
      F_law := fun_of F22,
      b_law := FunD.bindsN (ps := ["_law_script"]) F22 fun _ _ _ _ _ _ us hl => match us, hl with | [_], _ => rfl,
      m_law := He.glo_ok (x := "law") X G (c.fact 22 rfl),
      m_NoText := He.glo_ok (x := "NoText") X G (c.fact 24 rfl),
      x_NoText := (He.exc_ok (x := "NoText") (c.fact 23 rfl)).1,
      kk_NoText := (He.exc_ok (x := "NoText") (c.fact 23 rfl)).2.1,
      bb_NoText := (He.exc_ok (x := "NoText") (c.fact 23 rfl)).2.2.1,
      tt_NoText := (He.exc_ok (x := "NoText") (c.fact 23 rfl)).2.2.2,
      c_FIGURES := He.str_ok (x := "FIGURES") X G (c.fact 25 rfl),
      c_MOST_NUMBERS := He.int_ok (x := "MOST_NUMBERS") X G (c.fact 26 rfl),
      c_MOST_MAKERS := He.int_ok (x := "MOST_MAKERS") X G (c.fact 27 rfl),
      z_len := He.free_ok (x := "len") X G (c.fact 28 rfl),
      z_all := He.free_ok (x := "all") X G (c.fact 29 rfl),
      z_str := He.free_ok (x := "str") X G (c.fact 30 rfl),
      z_int := He.free_ok (x := "int") X G (c.fact 31 rfl),
      z_tuple := He.free_ok (x := "tuple") X G (c.fact 32 rfl),
      z_isinstance := He.free_ok (x := "isinstance") X G (c.fact 33 rfl),
      z_range := He.free_ok (x := "range") X G (c.fact 34 rfl),
      z_list := He.free_ok (x := "list") X G (c.fact 35 rfl),
      z_bool := He.free_ok (x := "bool") X G (c.fact 36 rfl) }
  exact ⟨d22, fun s v => (FunD.bindsA (ps := ["_law_script"]) F22 fun _ _ _ _ _ _ us hl => match us, hl with | [_], _ => rfl) s [v] rfl, fun base _ _ => ok_law T⟩
end K81
open PySem PySem.W PySem.Calls PyProof.Rows
set_option maxRecDepth 100000 in
set_option maxHeartbeats 0 in
theorem PySem.Challenge.cw_hadbeen_k81_books_as_texts_holds : PySem.Challenge.rw_hadbeen_k81_books_as_texts.Holds := by
  w_on; o_law
  refine HandSHeadRun.head_any (r := OpenLaw.row PySem.Challenge.rw_hadbeen_k81_books_as_texts) (q := view (OpenLaw.row PySem.Challenge.rw_hadbeen_k81_books_as_texts).prog [32]) (H := K81.hk) (ob := K81.ob) (M := 4000) (loose := K81.loose) (d := HandSHeadRun.topDef (OpenLaw.row PySem.Challenge.rw_hadbeen_k81_books_as_texts).prog 32) (kwd := []) K81.ob_eq
    (by kernel_rfl) (fun s => by kernel_rfl) K81.run (by kernel_rfl) (by kernel_rfl) (by kernel_rfl) (by rfl) (by first | assumption | decide +kernel) (by decide +kernel) ⟨rfl, rfl, rfl, rfl, rfl, by decide +kernel⟩ ?hw ?hc
  case hw => w_witness2
  case hc =>
    refine L2.walk_ofE (l := PySem.Challenge.rw_hadbeen_k81_books_as_texts) (n := 63) (k := 7) (x := "_law_script") (CX := L2.CX0) rfl (by decide) (by kernel_rfl) ⟨rfl, by decide, by decide⟩ ?F (fun _ _ _ _ z => z)
    intro w mg fa h Y G hmg0
    obtain ⟨K, KX, c⟩ := Y
    have hmg : mg ("law" : PySem.Str) = some (.ref fa) := by
      have e : (HandSHeadRun.topDef (OpenLaw.row PySem.Challenge.rw_hadbeen_k81_books_as_texts).prog 32).name = ("law" : PySem.Str) := by kernel_rfl
      rw [← e]
      exact hmg0
    obtain ⟨fd, hb, hF⟩ := K81.facts (P := (PySem.Challenge.rw_hadbeen_k81_books_as_texts).prog) (w := w) KX G hmg c
    exact ⟨K, fd, K81.spLaw K, KX, hb, fun H a ns hl _ hS => ⟨a, ns, rfl, hS, hl, fun _ => rfl⟩, hF⟩
