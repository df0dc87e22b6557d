import PyProof.Rows.All
import Wide.All
import OpenK.AllK
import Wide.FinOn
import HandS.ForMost
import HandS.IsInst
import HandS.NoneIn
import HandS.ForExc
import HandS.Walk
import HandS.RaiseMore
import HandS.Strs
import HandS.Iter
import HandS.Style
import PyProof.StrLawsTight
import HandS.Rev
import PyProof.StrLawsChain
import KE.IntTextText
import KE.KSuperObj
import OpenK.KCls
import KE.KStateDown
import Lean
import HandS.More
import HandS.WordsExc
import HandS.Defaults
import HandS.Head0
import HandS.Head1
import HandS.Head2
import HandS.HeadEnd
import HandS.HeadHook1
import HandS.HeadHook2
import HandS.ExcIs
import HandS.IsInst
import HandS.Flow
import HandS.Dict
import PySem.Challenge.RW_hadbeen_k12_no_program
set_option Elab.async false
set_option maxRecDepth 100000
set_option maxHeartbeats 4000000
set_option linter.all false
namespace K12
open PySem L2 TL

theorem same_new {H : Hp} {p : Addr} {o : HO} (h : H p = none) : Same H (upd H p o) := fun b u q => by rw [upd_ne (ne_of_none q h)]; exact q
theorem iteDT {p A B : Prop} [Decidable p] (h : p) (a : A) : if decide p = true then A else B := by rw [decide_eq_true h]; exact iteT a
theorem iteDF {p A B : Prop} [Decidable p] (h : ¬ p) (b : B) : if decide p = true then A else B := by rw [decide_eq_false h]; exact iteF b
theorem iteNT {p A B : Prop} [Decidable p] (h : ¬ p) (a : A) : if (!decide p) = true then A else B := by rw [decide_eq_false h]; exact iteT a
theorem iteNF {p A B : Prop} [Decidable p] (h : p) (b : B) : if (!decide p) = true then A else B := by rw [decide_eq_true h]; exact iteF b
theorem iteD2 {p A B : Prop} [Decidable p] (h1 : p → A) (h2 : ¬ p → B) : if decide p = true then A else B := by
  by_cases h : p
  · exact iteDT h (h1 h)
  · exact iteDF h (h2 h)
theorem iteN2 {p A B : Prop} [Decidable p] (h1 : ¬ p → A) (h2 : p → B) : if (!decide p) = true then A else B := by
  by_cases h : p
  · exact iteNF h (h2 h)
  · exact iteNT h (h1 h)
theorem iteB2 {b : Bool} {A B : Prop} (h1 : b = true → A) (h2 : b = false → B) : if b = true then A else B := by
  cases b with
  | true => exact iteT (h1 rfl)
  | false => exact iteF (h2 rfl)
theorem vint_ne {i j : Int} (h : i ≠ j) : ¬ V.int i = V.int j := fun e => h (V.int.inj e)
theorem vstr_ne {i j : Str} (h : i ≠ j) : ¬ V.str i = V.str j := fun e => h (V.str.inj e)
/-- all that was tracked stands, but what is at p -/
def KeepX (p : Addr) (H H' : Hp) : Prop := ∀ q o, q ≠ p → H q = some o → H' q = some o
theorem KeepX.refl (p : Addr) (H : Hp) : KeepX p H H := fun _ _ _ h => h
theorem KeepX.trans {p : Addr} {H H1 H2 : Hp} (a : KeepX p H H1) (b : KeepX p H1 H2) : KeepX p H H2 := fun q o n h => b q o n (a q o n h)
theorem keepX_of {p : Addr} {H H' : Hp} (a : Same H H') : KeepX p H H' := fun q o _ h => a q o h
theorem keepX_upd {p : Addr} {H : Hp} {o : HO} : KeepX p H (upd H p o) := fun q u n h => by rw [upd_ne n]; exact h
theorem KeepX.seq {K : PySem.W.Frag} {H H' : Hp} {p a : Addr} {xs : List V} (e : KeepX p H H') (n : a ≠ p) (h : SqL K H a xs) : SqL K H' a xs := by
  rcases h with (h | ⟨o, h⟩) | h
  · exact .inl (.inl (e _ _ n h))
  · exact .inl (.inr ⟨o, e _ _ n h⟩)
  · exact .inr h
theorem same_tup {K : PySem.W.Frag} {H H' : Hp} {a : Addr} {xs : List V} (e : Same H H') (h : SqT K H a xs) : SqT K H' a xs := by
  rcases h with (h | ⟨o, h⟩) | h
  · exact .inl (.inl (e _ _ h))
  · exact .inl (.inr ⟨o, e _ _ h⟩)
  · exact .inr h
/-- what is new behind H -/
theorem KeepX.same {p : Addr} {H H' : Hp} (n : H p = none) (e : KeepX p H H') : Same H H' := fun q o h => e q o (ne_of_none h n) h
theorem none_before {H H' : Hp} {q : Addr} (s : Same H H') (h : H' q = none) : H q = none := by
  cases e : H q with
  | none => rfl
  | some o => have := s _ _ e; rw [h] at this; cases this
theorem none_keepX {p : Addr} {H H' : Hp} {q : Addr} (k : KeepX p H H') (n : q ≠ p) (h : H' q = none) : H q = none := by
  cases e : H q with
  | none => rfl
  | some o => have := k _ _ n e; rw [h] at this; cases this
/-- a def of which nothing is asked -/
theorem fn_none {P : Program} {w : World} {K : PySem.W.Frag} {mg : Str → Option Value} {base : Heap} {CX : CXT} {k : Nat} {f : Addr} {fd : FuncData} {ps : List Str} {sp : Sp} (no : ∀ vs H Q E, sp vs H Q E → False) : FnOk P w K mg base CX k f fd ps sp :=
  ⟨fun vs H Q E h => (no vs H Q E h).elim, fun A outer s H args us vs Q E _ _ _ _ h => (no vs H Q E h).elim⟩
theorem absV_rel {u : Value} {x : V} (h : absV u = some x) : RelV x u := by
  cases u <;> simp only [absV, Option.some.injEq, reduceCtorEq] at h <;> subst h <;> first | rfl | exact ⟨_, rfl⟩
theorem vals_of_absV : ∀ {us : List Value} {xs : List V}, us.map absV = xs.map some → Vals xs us
  | [], [], _ => .nil
  | [], _ :: _, h => by simp at h
  | _ :: _, [], h => by simp at h
  | u :: us, x :: xs, h => by
    rw [List.map_cons, List.map_cons, List.cons.injEq] at h
    exact .cons (absV_rel h.1) (vals_of_absV h.2)
theorem sqT_k {K : PySem.W.Frag} {H : Hp} {a : Addr} {xs : List V} {od : Option Addr} {its : Array Value} {n : Nat} {sl : Array (Option Value)} (l : K.lookup a = some ⟨.type "tuple", od, .seq its n, sl⟩) (w : its.toList.map absV = xs.map some) (z : xs.length ≤ sizeLine) : SqT K H a xs := by
  have v := vals_of_absV w
  have e := v.length
  refine .inr ⟨_, its, n, l, rfl, rfl, ?_, v⟩
  rw [← Array.length_toList, ← e]
  exact z
/-- the promise of one class's method -/
def Disp (P : Program) (w : World) (K : PySem.W.Frag) (mg : Str → Option Value) (base : Heap) (CX : CXT) (m : Str) (k : Nat) (C : Addr) (sp : Sp) : Prop :=
  ∃ f fd ps, Cls K C ∧ Meth K C m f ∧ FnOk P w K mg base CX k f fd ps sp ∧ Binds K fd ps []
/-- o.m(..) where o is an instance of one of some classes -/
def tMethP (Fam : Addr → Prop) (SP : Addr → Sp) (m : Str) (E : XK) (ta : TE) (t : TA) : TE := fun σ H Q => ta σ H fun x H1 => ∃ a C dx fs, x = .ref a ∧ H1 a = some (.ins C dx fs) ∧ fs.lookup m = none ∧ Fam C ∧
  t σ H1 fun vs H2 => SP C (x :: (vs ++ [])) H2 Q E
section
variable {X : Cx} {CX : CXT} {m : Str} {k : Nat} {Fam : Addr → Prop} {SP : Addr → Sp} {E : XK} {e o : Expr} {es : List Expr} {ta : TE} {t : TA} {pos apos : Pos}
theorem pe_methP {pl : Sem Bool} (he : PE X o ta) (D : ∀ C, Fam C → Disp X.prog X.w X.K X.mg X.base CX m k C (SP C)) (hr : Room k X.A) (hx : Passes CX X E) (ha : PA X (e :: es) t)
    (hst : starEach (e :: es) X.env = (false, eval e X.env) :: starEach es X.env := by rfl) (hpl : (backTo pos (starEach es X.env)).any (·.1) = false := by rfl)
    (ht : eval (.Call (.Attribute o m apos) (e :: es) [] pos) X.env = (do
      let ov ← eval o X.env
      standAt apos.atName
      let (f, first) ← holding [ov] (getMethod ov m pl)
      callWith pos f first (backTo pos (starEach (e :: es) X.env)) (backToKw pos (keywordEach [] X.env))) := by rfl) :
    PE X (.Call (.Attribute o m apos) (e :: es) [] pos) (tMethP Fam SP m E ta t) := by
  refine ⟨fun pins s σ H Q I h => ?_⟩
  refine PySem.W.methodCall_KW (pl := pl) (thn (he.run pins s σ H _ I h) fun u s1 ⟨x, H1, I1, rx, a, C, dx, fs, ex, ea, l, fam, q⟩ => ?_) ht
  subst ex
  obtain rfl : u = Value.ref a := rx
  obtain ⟨f, fd, ps, c, hm, F, hb⟩ := D C fam
  refine getmeth_ok I1 ea c hm l ?_
  refine PySem.W.callWith_K (first := [.ref a]) (h₀ := X.base) I.ok.mod.kin hm.kp (thn (ha.run pos pins s1 σ H1 _ I1 q) fun us s2 ⟨vs, H2, I2, r, q2⟩ => ⟨I2.kIn, ?_⟩) hst hpl
  exact run_fn (us := .ref a :: us) (vs := .ref a :: vs) F hr hb .nil hx I2 (.cons rfl r) q2
theorem pe_methP0 {pl : Sem Bool} (he : PE X o ta) (D : ∀ C, Fam C → Disp X.prog X.w X.K X.mg X.base CX m k C (SP C)) (hr : Room k X.A) (hx : Passes CX X E)
    (ht : eval (.Call (.Attribute o m apos) [] [] pos) X.env = (do
      let ov ← eval o X.env
      standAt apos.atName
      let (f, first) ← holding [ov] (getMethod ov m pl)
      callWith pos f first (backTo pos (starEach [] X.env)) (backToKw pos (keywordEach [] X.env))) := by rfl) :
    PE X (.Call (.Attribute o m apos) [] [] pos) (tMethP Fam SP m E ta tNil) := by
  refine ⟨fun pins s σ H Q I h => ?_⟩
  refine PySem.W.methodCall_KW (pl := pl) (thn (he.run pins s σ H _ I h) fun u s1 ⟨x, H1, I1, rx, a, C, dx, fs, ex, ea, l, fam, q⟩ => ?_) ht
  subst ex
  obtain rfl : u = Value.ref a := rx
  obtain ⟨f, fd, ps, c, hm, F, hb⟩ := D C fam
  refine getmeth_ok I1 ea c hm l ?_
  exact PySem.W.callWith_K0 (first := [.ref a]) I1.kIn hm.kp (run_fn (us := [.ref a]) (vs := [.ref a]) F hr hb .nil hx I1 (.cons rfl .nil) q)
end
theorem fresh_ne {H H' : Hp} {p q : Addr} {o : HO} (h : H p = some o) (n : H q = none) : q ≠ p := fun e => by rw [e, h] at n; cases n

def rTupOf (K : PySem.W.Frag) : List V → Hp → VK → Prop := fun xs H Q => ∃ p ys, xs = [.ref p] ∧ ((SqL K H p ys ∧ ∀ l, H l = none → Q (.ref l) (upd H l (.tup ys))) ∨ (SqT K H p ys ∧ Q (.ref p) H))
def rListOf (K : PySem.W.Frag) : List V → Hp → VK → Prop := fun xs H Q => ∃ p ys, xs = [.ref p] ∧ (SqL K H p ys ∨ SqT K H p ys) ∧ ∀ l, H l = none → Q (.ref l) (upd H l (.lst ys))
theorem call_tuple_ofK {X : Cx} : CallR X (.type "tuple") (rTupOf X.K) := call_tuple_of
theorem call_list_ofK {X : Cx} : CallR X (.type "list") (rListOf X.K) := call_list_of
theorem pi_tupK {X : Cx} {tg l : Expr} {tl : TE} (K : PySem.W.Frag) (hK : X.K = K) (hl : PE X l tl) : PI X tg l (iTup K tl) := by subst hK; exact pi_tup hl
theorem pi_listK {X : Cx} {tg l : Expr} {tl : TE} (K : PySem.W.Frag) (hK : X.K = K) (hl : PE X l tl) : PI X tg l (iList K tl) := by subst hK; exact pi_list hl
def rLenK (K : PySem.W.Frag) : List V → Hp → VK → Prop := fun xs H Q => ∃ p ys, xs = [.ref p] ∧ (SqL K H p ys ∨ SqT K H p ys) ∧ Q (.int ys.length) H
theorem call_lenK {X : Cx} : CallR X (.builtin "len") (rLenK X.K) := call_len_seq
/-- a choice whose test is reckoned ahead: b, and the heap behind it -/
def tIfC (c : TT) (t u : TS) : TS := fun D σ H => ∃ (b : Bool) (H1 : Hp), (∀ Z : Bool → Hp → Prop, Z b H1 → c σ H Z) ∧ (if b = true then t D σ H1 else u D σ H1)
theorem ps_ifC {X : Cx} {c : Expr} {a b : List Stmt} {tc : TT} {t u : TS} {pos : Pos} (hc : PT X c tc) (ha : PSs X a t) (hb : PSs X b u) : PS X (.If c a b pos) (tIfC tc t u) :=
  ⟨fun pins s σ H D I h => by
    obtain ⟨b, H1, h1, h2⟩ := h
    exact (ps_if hc ha hb).run pins s σ H D I (h1 _ h2)⟩
/-- a statement, then what it leaves, told by P -/
def tCut (t : TS) : TS := fun D σ H => ∃ Z : St → Hp → Prop, t { D with nx := Z } σ H ∧ ∀ σ' H', Z σ' H' → D.nx σ' H'
theorem ps_cut {X : Cx} {st : Stmt} {t : TS} (h : PS X st t) : PS X st (tCut t) := by
  refine ⟨fun pins s σ H D I hq => ?_⟩
  obtain ⟨Z, h1, h2⟩ := hq
  refine thn (h.run pins s σ H { D with nx := Z } I h1) fun f s1 hs => ?_
  cases f with
  | next =>
    obtain ⟨σ', H', I', z⟩ := hs
    exact ⟨σ', H', I', h2 _ _ z⟩
  | _ => exact hs
theorem zTrue {p : Prop} [Decidable p] {Z : Bool → Hp → Prop} {H : Hp} (h : Z (decide p) H) (q : p) : Z true H := by rw [decide_eq_true q] at h; exact h
theorem zFalse {p : Prop} [Decidable p] {Z : Bool → Hp → Prop} {H : Hp} (h : Z (decide p) H) (q : ¬ p) : Z false H := by rw [decide_eq_false q] at h; exact h

/-! ### a caught error of an own class, asked for its class -/
def rIsX (K : PySem.W.Frag) (cls : Value) (d : Option Addr) (a : Addr) : List V → Hp → VK → Prop := fun xs H Q => ∃ (D : Addr) (c : V) (cv : Value) (b : Bool), cls = .ref D ∧ d = none ∧ ExcC K D ∧ xs = [.ref a, c] ∧ (∀ u, RelV c u → u = cv) ∧ PySem.W.kitOne K (.ref D) cv = some b ∧ Q (.bl b) H
theorem call_isX {X : Cx} {a : Addr} {oe : Obj} {pn : List (Addr × Obj)} {cls : Value} {d : Option Addr} (hz : Zc cls d oe) (hf : ∃ vs, oe.data = .fields vs) : CallR (X.suite a ((a, oe) :: pn)) (.builtin "isinstance") (rIsX X.K cls d a) := by
  intro pins s σ H xs us Q I r h
  obtain ⟨D, c, cv, b, rfl, rfl, C, e, hcv, hk, q⟩ := h
  exact call_isE C hz hf pins s σ H xs us Q I r ⟨c, cv, b, e, hcv, hk, q⟩
def rIsXT (K : PySem.W.Frag) (cls : Value) (d : Option Addr) (a : Addr) : List V → Hp → VK → Prop := fun xs H Q => ∃ (D tp : Addr) (cs : List V) (us : List Value) (b : Bool), cls = .ref D ∧ d = none ∧ ExcC K D ∧ xs = [.ref a, .ref tp] ∧ H tp = some (.tup cs) ∧ Paired ClsV cs us ∧ PySem.W.kitAny K (.ref D) us = some b ∧ Q (.bl b) H
theorem call_isXT {X : Cx} {a : Addr} {oe : Obj} {pn : List (Addr × Obj)} {cls : Value} {d : Option Addr} (hz : Zc cls d oe) (hf : ∃ vs, oe.data = .fields vs) : CallR (X.suite a ((a, oe) :: pn)) (.builtin "isinstance") (rIsXT X.K cls d a) := by
  intro pins s σ H xs us Q I r h
  obtain ⟨D, tp, cs, ws, b, rfl, rfl, C, rfl, hT, k, e, q⟩ := h
  obtain ⟨u1, u2, rfl, r1, r2⟩ := vals2 r
  cases (show u1 = Value.ref a from r1)
  cases (show u2 = Value.ref tp from r2)
  obtain ⟨hget, _⟩ := I.pin (a, oe) (List.mem_append.mpr (.inl List.mem_cons_self))
  obtain ⟨vs, hv⟩ := hf
  have J : PySem.W.InstAt s.heap a oe D none := by
    obtain ⟨oc, od, oda, osl⟩ := oe
    obtain ⟨h1, h2⟩ := hz
    dsimp only at h1 h2 hv
    subst h1 h2 hv
    exact ⟨hget, rfl, rfl, trivial⟩
  obtain ⟨_, its, rv, o, h1, h2, n, h3⟩ := (show ObjOk X.prog X.w H s.heap tp (.tup cs) from I.hok tp _ hT)
  have e3 := ClsV.all k rv
  subst e3
  obtain ⟨oc, od, dt, sl⟩ := o
  simp only at h2 h3
  subst h2 h3
  exact PySem.W.kia_tup (PySem.W.handS_kitx_exc C.hg C.hk C.hs C.hd C.ha C.hn C.ht C.hm) I.kIn J h1 e (fun z => nomatch z) fun tk => ⟨.bl b, H, I.tok tk, rfl, q⟩

/-! the head's facts, by tests of one's own -/
abbrev FaM : Type := PySem.W.Frag → Bool
def obsM (fa : List FaM) (fn : List He.DefD) (K : PySem.W.Frag) : He.AlD := ((fa.all fun f => f K) && fn.all fun d => d.ok K, fn.map fun d => He.fnW K d.at_)
def SaysM (fa : List FaM) (fn : List He.DefD) (K : PySem.W.Frag) : Prop := obsM fa fn K = He.valD fn
def forceL {α : Type} : List Addr → (List Addr → α) → α
  | [], k => k []
  | a :: r, k => HandSHeadRun.frNat a fun a => forceL r fun r => k (a :: r)
theorem forceL_eq {α : Type} : ∀ (l : List Addr) (k : List Addr → α), forceL l k = k l
  | [], _ => rfl
  | a :: r, k => by
    show HandSHeadRun.frNat a (fun a => forceL r fun r => k (a :: r)) = _
    rw [HandSHeadRun.frNat_eq, forceL_eq r]
def nsOfM (g : Addr → Option Obj) (a : Addr) : List Addr := match g a with
  | some ⟨_, _, .cls cd, _⟩ => [cd.ns]
  | _ => []
def valsOfM (g : Addr → Option Obj) (a : Addr) : List Addr := match g a with
  | some ⟨_, _, .dict es _, _⟩ => es.toList.flatMap fun e => He.refV e.val
  | _ => []
def codeOfM (g : Addr → Option Obj) (a : Addr) : List Addr := match g a with
  | some ⟨_, _, .func fd, _⟩ => He.refV fd.code ++ (He.refV fd.defaults ++ He.refV fd.kwdefaults)
  | _ => []
/-- the module's names, the classes' own names, the functions' codes -/
def asM {α : Type} (names : List Str) (g : Addr → Option Obj) (k : List Addr → α) : α :=
  forceL (names.map (He.ga (He.frG g [mainGlobals]))) fun l1 => forceL (l1.flatMap (nsOfM g)) fun l2 => forceL (l2.flatMap (valsOfM g)) fun l3 => forceL ((l1 ++ l3).flatMap (codeOfM g)) fun l4 => k (mainGlobals :: cStatics :: (l1 ++ (l2 ++ (l3 ++ l4))))
def l1M (names : List Str) (g : Addr → Option Obj) : List Addr := names.map (He.ga (He.frG g [mainGlobals]))
def l2M (names : List Str) (g : Addr → Option Obj) : List Addr := (l1M names g).flatMap (nsOfM g)
def l3M (names : List Str) (g : Addr → Option Obj) : List Addr := (l2M names g).flatMap (valsOfM g)
def l4M (names : List Str) (g : Addr → Option Obj) : List Addr := (l1M names g ++ l3M names g).flatMap (codeOfM g)
theorem asM_eq {α : Type} (names : List Str) (g : Addr → Option Obj) : ∃ as : List Addr, ∀ k : List Addr → α, asM names g k = k as := by
  refine ⟨mainGlobals :: cStatics :: (l1M names g ++ (l2M names g ++ (l3M names g ++ l4M names g))), fun k => ?_⟩
  unfold asM
  rw [forceL_eq, forceL_eq, forceL_eq, forceL_eq]
  rfl
def obsMG (names : List Str) (fa : List FaM) (fn : List He.DefD) (g : Addr → Option Obj) : He.AlD := asM names g fun as => obsM fa fn (He.frG g as)
def hookM (names : List Str) (fa : List FaM) (fn : List He.DefD) : PySem.W.Hook where
  α := He.AlD
  obs := fun s => obsMG names fa fn s.heap.get?
  val := fun _ => He.valD fn
  says := fun _ h => ∃ K : PySem.W.Frag, K.In h ∧ SaysM fa fn K
  of := fun _ s e => by
    obtain ⟨as, ea⟩ := asM_eq (α := He.AlD) names s.heap.get?
    exact ⟨_, He.frG_in, (ea _).symm.trans e⟩
  keeps := fun _ _ _ ⟨K, hK, c⟩ k => ⟨K, PySem.W.Frag.In.keeps hK k, c⟩
theorem obsMG_eq {names : List Str} {fa : List FaM} {fn : List He.DefD} {g : Addr → Option Obj} {s : Shared} (h : ∀ a, g a = s.heap.get? a) : obsMG names fa fn g = (hookM names fa fn).obs s := by
  have e : g = s.heap.get? := funext h
  rw [e] <;> rfl
section
variable {fa : List FaM} {fn : List He.DefD} {K : PySem.W.Frag}
theorem SaysM.fact (c : SaysM fa fn K) (i : Nat) {f : FaM} (h : fa[i]? = some f) : f K = true := by
  have c1 := (He.ba (show ((fa.all fun f => f K) && fn.all fun d => d.ok K) = true from congrArg (fun z : He.AlD => z.1) c)).1
  exact List.all_eq_true.mp c1 f (List.mem_of_getElem? h)
theorem SaysM.def_ (c : SaysM fa fn K) (i : Nat) {d : He.DefD} (h : fn[i]? = some d) : ∃ fd, FunD K d.name d.qual d.params d.body d.scope (d.dvs K) (d.kws K) (He.fAd K d.at_) fd := by
  have c2 := (He.ba (show ((fa.all fun f => f K) && fn.all fun d => d.ok K) = true from congrArg (fun z : He.AlD => z.1) c)).2
  have e : fn.map (fun d => He.fnW K d.at_) = fn.map He.DefD.val := congrArg (fun z : He.AlD => z.2) c
  have e2 : (fn.map fun d => He.fnW K d.at_)[i]? = (fn.map He.DefD.val)[i]? := by rw [e]
  rw [List.getElem?_map, List.getElem?_map, h] at e2
  exact He.DefD.funD (Option.some.inj e2) (List.all_eq_true.mp c2 d (List.mem_of_getElem? h))
end
theorem fun_of {K : PySem.W.Frag} {x qual : Str} {st : Stmt} {f : Addr} {fd : FuncData} (F : FunD K x qual (defArgs st) (defBody st) (defScope st) [] [] f fd) : Fun K x qual st f fd := by
  obtain ⟨oc, od, dV, kV, doc, pm, an, cdv, ct, osl, rfl, lk, hcd, hD, hK⟩ := F.ex
  rcases hD with ⟨_, rfl⟩ | ⟨e, _⟩
  · exact ⟨⟨oc, od, kV, doc, pm, an, cdv, ct, osl, rfl, lk, hcd⟩, F.kp⟩
  · exact absurd rfl e

/-! ### a def read off its class, called -/
structure CFn (K : PySem.W.Frag) (C : Addr) (m : Str) (f : Addr) : Prop where
  rd : PySem.W.readsIn K C (.type "type") = true
  ga : PySem.W.specialIn K (.ref C) "__getattribute__" = some (some (.builtin "type.__getattribute__"))
  at_ : PySem.W.findCls K (.ref C) (.type "type") m = some (.val (.ref f))
  fn : PySem.W.isFn K (.ref f) = true
  kp : PySem.W.keepIn K (.ref f) = true
def cfnB (K : PySem.W.Frag) (C : Addr) (m : Str) (f : Addr) : Bool := PySem.W.readsIn K C (.type "type") && (He.eqO (PySem.W.specialIn K (.ref C) "__getattribute__") (some (some (.builtin "type.__getattribute__"))) && ((match PySem.W.findCls K (.ref C) (.type "type") m with
  | some (.val v) => decide (v = .ref f)
  | _ => false) && (PySem.W.isFn K (.ref f) && PySem.W.keepIn K (.ref f))))
theorem cfn_ok {K : PySem.W.Frag} {C : Addr} {m : Str} {f : Addr} (h : cfnB K C m f = true) : CFn K C m f := by
  obtain ⟨h1, h⟩ := He.ba h
  obtain ⟨h2, h⟩ := He.ba h
  obtain ⟨h3, h⟩ := He.ba h
  obtain ⟨h4, h5⟩ := He.ba h
  refine ⟨h1, He.eqO_ok h2, ?_, h4, h5⟩
  cases q : PySem.W.findCls K (.ref C) (.type "type") m with
  | none => rw [q] at h3; cases h3
  | some r =>
    rw [q] at h3
    cases r with
    | val v => rw [of_decide_eq_true h3]
    | get g a ob tp => cases h3
section
open PySem.Spec PyProof.Rows
variable {X : Cx} {CX : CXT} {m : Str} {k : Nat} {E : XK} {e o : Expr} {es : List Expr} {ta : TE} {t : TA} {pos apos : Pos} {C f : Addr} {fd : FuncData} {ps : List Str} {sp : Sp} {ds : List Value} {dvs : List V}
theorem getcfn_ok {A : Around} {E : Value → Shared → Prop} {pins : List (Addr × Obj)} {σ : L2.St} {H : Hp} {s : Shared} {pl : Sem Bool} {Q : Value × List Value → Shared → Prop} (I : Inv X pins σ H s) (c : CFn X.K C m f) (h : ∀ s', Inv X pins σ H s' → Q (.ref f, []) s') :
    wpAny (model X.prog X.w) A (getMethod (.ref C) m pl) Q E s := by
  exact PySem.W.method_cls I.kIn c.ga (PySem.W.cls_value I.kIn c.rd c.at_ rfl (h _ (I.tok _)))
def tCFn (C : Addr) (sp : Sp) (dvs : List V) (E : XK) (ta : TE) (t : TA) : TE := fun σ H Q => ta σ H fun x H1 => x = .ref C ∧ t σ H1 fun vs H2 => sp (vs ++ dvs) H2 Q E
theorem pe_cfn {pl : Sem Bool} (he : PE X o ta) (c : CFn X.K C m f) (F : FnOk X.prog X.w X.K X.mg X.base CX k f fd ps sp) (hr : Room k X.A) (hb : Binds X.K fd ps ds) (hd : Vals dvs ds) (hx : Passes CX X E) (ha : PA X (e :: es) t)
    (hst : starEach (e :: es) X.env = (false, eval e X.env) :: starEach es X.env := by rfl) (hpl : (backTo pos (starEach es X.env)).any (·.1) = false := by rfl)
    (ht : eval (.Call (.Attribute o m apos) (e :: es) [] pos) X.env = (do
      let ov ← eval o X.env
      standAt apos.atName
      let (f, first) ← holding [ov] (getMethod ov m pl)
      callWith pos f first (backTo pos (starEach (e :: es) X.env)) (backToKw pos (keywordEach [] X.env))) := by rfl) :
    PE X (.Call (.Attribute o m apos) (e :: es) [] pos) (tCFn C sp dvs E ta t) := by
  refine ⟨fun pins s σ H Q I h => ?_⟩
  refine PySem.W.methodCall_KW (pl := pl) (thn (he.run pins s σ H _ I h) fun u s1 ⟨x, H1, I1, rx, ex, q⟩ => ?_) ht
  subst ex
  obtain rfl : u = Value.ref C := rx
  refine getcfn_ok I1 c fun s2 I2 => ?_
  refine PySem.W.callWith_K (first := []) (h₀ := X.base) I2.ok.mod.kin c.kp (thn (ha.run pos pins s2 σ H1 _ I2 q) fun us s3 ⟨vs, H2, I3, r, q2⟩ => ⟨I3.kIn, ?_⟩) hst hpl
  exact run_fn (us := us) (vs := vs) F hr hb hd hx I3 r q2
end

def top (i : Nat) : Stmt := PySem.Challenge.pw_hadbeen_k12_no_program.main.body.getD i (.Pass ⟨0, 0, 0, 0⟩)
abbrev s_is_name : Stmt := top 16
abbrev s_is_value_word : Stmt := top 17
abbrev s_Number_init : Stmt := inClass (top 19) 0
abbrev s_Box_init : Stmt := inClass (top 20) 0
abbrev s_Cell_init : Stmt := inClass (top 21) 0
abbrev s_Two_init : Stmt := inClass (top 22) 0
abbrev s_Expr_parts : Stmt := inClass (top 18) 3
abbrev s_Cell_parts : Stmt := inClass (top 21) 4
abbrev s_Two_parts : Stmt := inClass (top 22) 4
abbrev s_expr_at : Stmt := top 23
abbrev s_exprs_of : Stmt := top 24
abbrev s_Row_init : Stmt := inClass (top 26) 0
abbrev s_Set_init : Stmt := inClass (top 28) 0
abbrev s_Put_init : Stmt := inClass (top 29) 0
abbrev s_Ask_init : Stmt := inClass (top 30) 0
abbrev s_Draw_init : Stmt := inClass (top 31) 0
abbrev s_Tell_init : Stmt := inClass (top 32) 0
abbrev s_Choice_init : Stmt := inClass (top 33) 0
abbrev s_Loop_init : Stmt := inClass (top 34) 0
abbrev s_Call_init : Stmt := inClass (top 35) 0
abbrev s_Give_init : Stmt := inClass (top 36) 0
abbrev s_check_names : Stmt := top 45
abbrev s_only : Stmt := top 46
abbrev s_simple_row : Stmt := top 47
abbrev s_Reader_head : Stmt := inClass (top 44) 1
abbrev s_Reader_init : Stmt := inClass (top 44) 0
abbrev s_Reader_pass_line : Stmt := inClass (top 44) 2
abbrev s_Reader_call_row : Stmt := inClass (top 44) 6
abbrev s_Reader_row_with_rows : Stmt := inClass (top 44) 5
abbrev s_Reader_block : Stmt := inClass (top 44) 3
abbrev s_Reader_one_row : Stmt := inClass (top 44) 4
abbrev s_Function_init : Stmt := inClass (top 37) 0
abbrev s_Reader_function : Stmt := inClass (top 44) 7
abbrev s_check_calls : Stmt := top 48
abbrev s_Program_init : Stmt := inClass (top 43) 0
abbrev s_Program_text : Stmt := inClass (top 43) 1
abbrev s_read_program : Stmt := top 49
abbrev s_l_cell : Stmt := top 51
abbrev s_l_mixed : Stmt := top 52
abbrev s_l_twice : Stmt := top 53
abbrev s_l_well : Stmt := top 54
abbrev s_l_draw : Stmt := top 55
abbrev s_l_value : Stmt := top 56
abbrev s_l_name : Stmt := top 57
abbrev s_l_parts : Stmt := top 58
abbrev s_l_expr : Stmt := top 59
abbrev s_l_words_of : Stmt := top 60
abbrev s_l_some_expr : Stmt := top 61
abbrev s_l_heads : Stmt := top 62
abbrev s_l_simple : Stmt := top 63
abbrev s_l_line : Stmt := top 64
abbrev s_l_put_line : Stmt := top 65
abbrev s_l_row : Stmt := top 66
abbrev s_l_block : Stmt := top 67
abbrev s_l_world : Stmt := top 68
abbrev s_l_is_name : Stmt := top 69
abbrev s_l_is_value : Stmt := top 70
abbrev s_l_read : Stmt := top 71
abbrev s_l_many : Stmt := top 72
abbrev s_l_is_simple : Stmt := top 73
abbrev s_l_call : Stmt := top 74
abbrev s_l_behind : Stmt := top 75
abbrev s_l_fun_behind : Stmt := top 76
abbrev s_l_is_program : Stmt := top 77
abbrev s_l_found : Stmt := top 78
abbrev s_l_menu : Stmt := top 79
abbrev s_l_word_changed : Stmt := top 80
abbrev s_l_spoiled : Stmt := top 81
abbrev s_law : Stmt := top 82
end K12
namespace K12
open PySem PySem.Spec PyProof.Rows L2 TL
def hD_is_name : He.DefD := ⟨("is_name", none), "is_name", "is_name", defArgs s_is_name, defBody s_is_name, defScope s_is_name, [], []⟩
def hD_is_value_word : He.DefD := ⟨("is_value_word", none), "is_value_word", "is_value_word", defArgs s_is_value_word, defBody s_is_value_word, defScope s_is_value_word, [], []⟩
def hD_Number_init : He.DefD := ⟨("Number", some "__init__"), "__init__", "Number.__init__", defArgs s_Number_init, defBody s_Number_init, defScope s_Number_init, [], []⟩
def hD_Box_init : He.DefD := ⟨("Box", some "__init__"), "__init__", "Box.__init__", defArgs s_Box_init, defBody s_Box_init, defScope s_Box_init, [], []⟩
def hD_Cell_init : He.DefD := ⟨("Cell", some "__init__"), "__init__", "Cell.__init__", defArgs s_Cell_init, defBody s_Cell_init, defScope s_Cell_init, [], []⟩
def hD_Two_init : He.DefD := ⟨("Two", some "__init__"), "__init__", "Two.__init__", defArgs s_Two_init, defBody s_Two_init, defScope s_Two_init, [], []⟩
def hD_Expr_parts : He.DefD := ⟨("Expr", some "parts"), "parts", "Expr.parts", defArgs s_Expr_parts, defBody s_Expr_parts, defScope s_Expr_parts, [], []⟩
def hD_Cell_parts : He.DefD := ⟨("Cell", some "parts"), "parts", "Cell.parts", defArgs s_Cell_parts, defBody s_Cell_parts, defScope s_Cell_parts, [], []⟩
def hD_Two_parts : He.DefD := ⟨("Two", some "parts"), "parts", "Two.parts", defArgs s_Two_parts, defBody s_Two_parts, defScope s_Two_parts, [], []⟩
def hD_expr_at : He.DefD := ⟨("expr_at", none), "expr_at", "expr_at", defArgs s_expr_at, defBody s_expr_at, defScope s_expr_at, [], []⟩
def hD_exprs_of : He.DefD := ⟨("exprs_of", none), "exprs_of", "exprs_of", defArgs s_exprs_of, defBody s_exprs_of, defScope s_exprs_of, [], []⟩
def hD_Row_init : He.DefD := ⟨("Row", some "__init__"), "__init__", "Row.__init__", defArgs s_Row_init, defBody s_Row_init, defScope s_Row_init, [], []⟩
def hD_Set_init : He.DefD := ⟨("Set", some "__init__"), "__init__", "Set.__init__", defArgs s_Set_init, defBody s_Set_init, defScope s_Set_init, [], []⟩
def hD_Put_init : He.DefD := ⟨("Put", some "__init__"), "__init__", "Put.__init__", defArgs s_Put_init, defBody s_Put_init, defScope s_Put_init, [], []⟩
def hD_Ask_init : He.DefD := ⟨("Ask", some "__init__"), "__init__", "Ask.__init__", defArgs s_Ask_init, defBody s_Ask_init, defScope s_Ask_init, [], []⟩
def hD_Draw_init : He.DefD := ⟨("Draw", some "__init__"), "__init__", "Draw.__init__", defArgs s_Draw_init, defBody s_Draw_init, defScope s_Draw_init, [], []⟩
def hD_Tell_init : He.DefD := ⟨("Tell", some "__init__"), "__init__", "Tell.__init__", defArgs s_Tell_init, defBody s_Tell_init, defScope s_Tell_init, [], []⟩
def hD_Choice_init : He.DefD := ⟨("Choice", some "__init__"), "__init__", "Choice.__init__", defArgs s_Choice_init, defBody s_Choice_init, defScope s_Choice_init, [], []⟩
def hD_Loop_init : He.DefD := ⟨("Loop", some "__init__"), "__init__", "Loop.__init__", defArgs s_Loop_init, defBody s_Loop_init, defScope s_Loop_init, [], []⟩
def hD_Call_init : He.DefD := ⟨("Call", some "__init__"), "__init__", "Call.__init__", defArgs s_Call_init, defBody s_Call_init, defScope s_Call_init, [], []⟩
def hD_Give_init : He.DefD := ⟨("Give", some "__init__"), "__init__", "Give.__init__", defArgs s_Give_init, defBody s_Give_init, defScope s_Give_init, [], []⟩
def hD_check_names : He.DefD := ⟨("check_names", none), "check_names", "check_names", defArgs s_check_names, defBody s_check_names, defScope s_check_names, [], []⟩
def hD_only : He.DefD := ⟨("only", none), "only", "only", defArgs s_only, defBody s_only, defScope s_only, [], []⟩
def hD_simple_row : He.DefD := ⟨("simple_row", none), "simple_row", "simple_row", defArgs s_simple_row, defBody s_simple_row, defScope s_simple_row, [], []⟩
def hD_Reader_head : He.DefD := ⟨("Reader", some "head"), "head", "Reader.head", defArgs s_Reader_head, defBody s_Reader_head, defScope s_Reader_head, [], []⟩
def hD_Reader_init : He.DefD := ⟨("Reader", some "__init__"), "__init__", "Reader.__init__", defArgs s_Reader_init, defBody s_Reader_init, defScope s_Reader_init, [], []⟩
def hD_Reader_pass_line : He.DefD := ⟨("Reader", some "pass_line"), "pass_line", "Reader.pass_line", defArgs s_Reader_pass_line, defBody s_Reader_pass_line, defScope s_Reader_pass_line, [], []⟩
def hD_Reader_call_row : He.DefD := ⟨("Reader", some "call_row"), "call_row", "Reader.call_row", defArgs s_Reader_call_row, defBody s_Reader_call_row, defScope s_Reader_call_row, [], []⟩
def hD_Reader_row_with_rows : He.DefD := ⟨("Reader", some "row_with_rows"), "row_with_rows", "Reader.row_with_rows", defArgs s_Reader_row_with_rows, defBody s_Reader_row_with_rows, defScope s_Reader_row_with_rows, [], []⟩
def hD_Reader_block : He.DefD := ⟨("Reader", some "block"), "block", "Reader.block", defArgs s_Reader_block, defBody s_Reader_block, defScope s_Reader_block, [], []⟩
def hD_Reader_one_row : He.DefD := ⟨("Reader", some "one_row"), "one_row", "Reader.one_row", defArgs s_Reader_one_row, defBody s_Reader_one_row, defScope s_Reader_one_row, [], []⟩
def hD_Function_init : He.DefD := ⟨("Function", some "__init__"), "__init__", "Function.__init__", defArgs s_Function_init, defBody s_Function_init, defScope s_Function_init, [], []⟩
def hD_Reader_function : He.DefD := ⟨("Reader", some "function"), "function", "Reader.function", defArgs s_Reader_function, defBody s_Reader_function, defScope s_Reader_function, [], []⟩
def hD_check_calls : He.DefD := ⟨("check_calls", none), "check_calls", "check_calls", defArgs s_check_calls, defBody s_check_calls, defScope s_check_calls, [], []⟩
def hD_Program_init : He.DefD := ⟨("Program", some "__init__"), "__init__", "Program.__init__", defArgs s_Program_init, defBody s_Program_init, defScope s_Program_init, [], []⟩
def hD_Program_text : He.DefD := ⟨("Program", some "text"), "text", "Program.text", defArgs s_Program_text, defBody s_Program_text, defScope s_Program_text, [], []⟩
def hD_read_program : He.DefD := ⟨("read_program", none), "read_program", "read_program", defArgs s_read_program, defBody s_read_program, defScope s_read_program, [], []⟩
def hD_l_cell : He.DefD := ⟨("_law_cell", none), "_law_cell", "_law_cell", defArgs s_l_cell, defBody s_l_cell, defScope s_l_cell, [], []⟩
def hD_l_mixed : He.DefD := ⟨("_law_mixed", none), "_law_mixed", "_law_mixed", defArgs s_l_mixed, defBody s_l_mixed, defScope s_l_mixed, [], []⟩
def hD_l_twice : He.DefD := ⟨("_law_twice", none), "_law_twice", "_law_twice", defArgs s_l_twice, defBody s_l_twice, defScope s_l_twice, [], []⟩
def hD_l_well : He.DefD := ⟨("_law_well", none), "_law_well", "_law_well", defArgs s_l_well, defBody s_l_well, defScope s_l_well, [], []⟩
def hD_l_draw : He.DefD := ⟨("_law_draw", none), "_law_draw", "_law_draw", defArgs s_l_draw, defBody s_l_draw, defScope s_l_draw, [], []⟩
def hD_l_value : He.DefD := ⟨("_law_value", none), "_law_value", "_law_value", defArgs s_l_value, defBody s_l_value, defScope s_l_value, [], []⟩
def hD_l_name : He.DefD := ⟨("_law_name", none), "_law_name", "_law_name", defArgs s_l_name, defBody s_l_name, defScope s_l_name, [], []⟩
def hD_l_parts : He.DefD := ⟨("_law_parts", none), "_law_parts", "_law_parts", defArgs s_l_parts, defBody s_l_parts, defScope s_l_parts, [], []⟩
def hD_l_expr : He.DefD := ⟨("_law_expr", none), "_law_expr", "_law_expr", defArgs s_l_expr, defBody s_l_expr, defScope s_l_expr, [], []⟩
def hD_l_words_of : He.DefD := ⟨("_law_words_of", none), "_law_words_of", "_law_words_of", defArgs s_l_words_of, defBody s_l_words_of, defScope s_l_words_of, [], []⟩
def hD_l_some_expr : He.DefD := ⟨("_law_some_expr", none), "_law_some_expr", "_law_some_expr", defArgs s_l_some_expr, defBody s_l_some_expr, defScope s_l_some_expr, [], []⟩
def hD_l_heads : He.DefD := ⟨("_law_heads", none), "_law_heads", "_law_heads", defArgs s_l_heads, defBody s_l_heads, defScope s_l_heads, [], []⟩
def hD_l_simple : He.DefD := ⟨("_law_simple", none), "_law_simple", "_law_simple", defArgs s_l_simple, defBody s_l_simple, defScope s_l_simple, [], []⟩
def hD_l_line : He.DefD := ⟨("_law_line", none), "_law_line", "_law_line", defArgs s_l_line, defBody s_l_line, defScope s_l_line, [], []⟩
def hD_l_put_line : He.DefD := ⟨("_law_put_line", none), "_law_put_line", "_law_put_line", defArgs s_l_put_line, defBody s_l_put_line, defScope s_l_put_line, [], []⟩
def hD_l_row : He.DefD := ⟨("_law_row", none), "_law_row", "_law_row", defArgs s_l_row, defBody s_l_row, defScope s_l_row, [], []⟩
def hD_l_block : He.DefD := ⟨("_law_block", none), "_law_block", "_law_block", defArgs s_l_block, defBody s_l_block, defScope s_l_block, [], []⟩
def hD_l_world : He.DefD := ⟨("_law_world", none), "_law_world", "_law_world", defArgs s_l_world, defBody s_l_world, defScope s_l_world, [], []⟩
def hD_l_is_name : He.DefD := ⟨("_law_is_name", none), "_law_is_name", "_law_is_name", defArgs s_l_is_name, defBody s_l_is_name, defScope s_l_is_name, [], []⟩
def hD_l_is_value : He.DefD := ⟨("_law_is_value", none), "_law_is_value", "_law_is_value", defArgs s_l_is_value, defBody s_l_is_value, defScope s_l_is_value, [], []⟩
def hD_l_read : He.DefD := ⟨("_law_read", none), "_law_read", "_law_read", defArgs s_l_read, defBody s_l_read, defScope s_l_read, [], []⟩
def hD_l_many : He.DefD := ⟨("_law_many", none), "_law_many", "_law_many", defArgs s_l_many, defBody s_l_many, defScope s_l_many, [], []⟩
def hD_l_is_simple : He.DefD := ⟨("_law_is_simple", none), "_law_is_simple", "_law_is_simple", defArgs s_l_is_simple, defBody s_l_is_simple, defScope s_l_is_simple, [], []⟩
def hD_l_call : He.DefD := ⟨("_law_call", none), "_law_call", "_law_call", defArgs s_l_call, defBody s_l_call, defScope s_l_call, [], []⟩
def hD_l_behind : He.DefD := ⟨("_law_behind", none), "_law_behind", "_law_behind", defArgs s_l_behind, defBody s_l_behind, defScope s_l_behind, [], []⟩
def hD_l_fun_behind : He.DefD := ⟨("_law_fun_behind", none), "_law_fun_behind", "_law_fun_behind", defArgs s_l_fun_behind, defBody s_l_fun_behind, defScope s_l_fun_behind, [], []⟩
def hD_l_is_program : He.DefD := ⟨("_law_is_program", none), "_law_is_program", "_law_is_program", defArgs s_l_is_program, defBody s_l_is_program, defScope s_l_is_program, [], []⟩
def hD_l_found : He.DefD := ⟨("_law_found", none), "_law_found", "_law_found", defArgs s_l_found, defBody s_l_found, defScope s_l_found, [], []⟩
def hD_l_menu : He.DefD := ⟨("_law_menu", none), "_law_menu", "_law_menu", defArgs s_l_menu, defBody s_l_menu, defScope s_l_menu, [], []⟩
def hD_l_word_changed : He.DefD := ⟨("_law_word_changed", none), "_law_word_changed", "_law_word_changed", defArgs s_l_word_changed, defBody s_l_word_changed, defScope s_l_word_changed, [], []⟩
def hD_l_spoiled : He.DefD := ⟨("_law_spoiled", none), "_law_spoiled", "_law_spoiled", defArgs s_l_spoiled, defBody s_l_spoiled, defScope s_l_spoiled, [], []⟩
def hD_law : He.DefD := ⟨("law", none), "law", "law", defArgs s_law, defBody s_law, defScope s_law, [], []⟩
def hFn : List He.DefD := ([hD_is_name, hD_is_value_word, hD_Number_init, hD_Box_init, hD_Cell_init, hD_Two_init, hD_Expr_parts, hD_Cell_parts, hD_Two_parts, hD_expr_at, hD_exprs_of, hD_Row_init, hD_Set_init, hD_Put_init, hD_Ask_init, hD_Draw_init, hD_Tell_init, hD_Choice_init, hD_Loop_init, hD_Call_init, hD_Give_init, hD_check_names, hD_only, hD_simple_row, hD_Reader_head, hD_Reader_init, hD_Reader_pass_line, hD_Reader_call_row, hD_Reader_row_with_rows, hD_Reader_block] : List He.DefD) ++ ([hD_Reader_one_row, hD_Function_init, hD_Reader_function, hD_check_calls, hD_Program_init, hD_Program_text, hD_read_program, hD_l_cell, hD_l_mixed, hD_l_twice, hD_l_well, hD_l_draw, hD_l_value, hD_l_name, hD_l_parts, hD_l_expr, hD_l_words_of, hD_l_some_expr, hD_l_heads, hD_l_simple, hD_l_line, hD_l_put_line, hD_l_row, hD_l_block, hD_l_world, hD_l_is_name, hD_l_is_value, hD_l_read, hD_l_many, hD_l_is_simple] : List He.DefD) ++ ([hD_l_call, hD_l_behind, hD_l_fun_behind, hD_l_is_program, hD_l_found, hD_l_menu, hD_l_word_changed, hD_l_spoiled, hD_law] : List He.DefD)
def hFa : List FaM := ([fun K => (He.Fa.glo "is_name").ok K,
  fun K => (He.Fa.glo "is_value_word").ok K,
  fun K => (He.Fa.glo "expr_at").ok K,
  fun K => (He.Fa.glo "exprs_of").ok K,
  fun K => (He.Fa.glo "check_names").ok K,
  fun K => (He.Fa.glo "only").ok K,
  fun K => (He.Fa.glo "simple_row").ok K,
  fun K => (He.Fa.glo "check_calls").ok K,
  fun K => (He.Fa.glo "read_program").ok K,
  fun K => (He.Fa.glo "_law_cell").ok K,
  fun K => (He.Fa.glo "_law_mixed").ok K,
  fun K => (He.Fa.glo "_law_twice").ok K,
  fun K => (He.Fa.glo "_law_well").ok K,
  fun K => (He.Fa.glo "_law_draw").ok K,
  fun K => (He.Fa.glo "_law_value").ok K,
  fun K => (He.Fa.glo "_law_name").ok K,
  fun K => (He.Fa.glo "_law_parts").ok K,
  fun K => (He.Fa.glo "_law_expr").ok K,
  fun K => (He.Fa.glo "_law_words_of").ok K,
  fun K => (He.Fa.glo "_law_some_expr").ok K] : List FaM) ++
  ([fun K => (He.Fa.glo "_law_heads").ok K,
  fun K => (He.Fa.glo "_law_simple").ok K,
  fun K => (He.Fa.glo "_law_line").ok K,
  fun K => (He.Fa.glo "_law_put_line").ok K,
  fun K => (He.Fa.glo "_law_row").ok K,
  fun K => (He.Fa.glo "_law_block").ok K,
  fun K => (He.Fa.glo "_law_world").ok K,
  fun K => (He.Fa.glo "_law_is_name").ok K,
  fun K => (He.Fa.glo "_law_is_value").ok K,
  fun K => (He.Fa.glo "_law_read").ok K,
  fun K => (He.Fa.glo "_law_many").ok K,
  fun K => (He.Fa.glo "_law_is_simple").ok K,
  fun K => (He.Fa.glo "_law_call").ok K,
  fun K => (He.Fa.glo "_law_behind").ok K,
  fun K => (He.Fa.glo "_law_fun_behind").ok K,
  fun K => (He.Fa.glo "_law_is_program").ok K,
  fun K => (He.Fa.glo "_law_found").ok K,
  fun K => (He.Fa.glo "_law_menu").ok K,
  fun K => (He.Fa.glo "_law_word_changed").ok K,
  fun K => (He.Fa.glo "_law_spoiled").ok K] : List FaM) ++
  ([fun K => (He.Fa.glo "law").ok K,
  fun K => (He.Fa.glo "Reader").ok K,
  fun K => (He.Fa.cls "Reader").ok K,
  fun K => PySem.W.makesIn K (He.ga K "Reader"),
  fun K => (He.Fa.noat "Reader" "texts").ok K,
  fun K => (He.Fa.noat "Reader" "at").ok K,
  fun K => (He.Fa.noat "Reader" "by_number").ok K,
  fun K => (He.Fa.noat "Reader" "calls").ok K,
  fun K => (He.Fa.mkr "Reader").ok K,
  fun K => (He.Fa.glo "Function").ok K,
  fun K => (He.Fa.cls "Function").ok K,
  fun K => PySem.W.makesIn K (He.ga K "Function"),
  fun K => (He.Fa.noat "Function" "name").ok K,
  fun K => (He.Fa.noat "Function" "params").ok K,
  fun K => (He.Fa.noat "Function" "body").ok K,
  fun K => (He.Fa.noat "Function" "give").ok K,
  fun K => (He.Fa.mkr "Function").ok K,
  fun K => (He.Fa.glo "Program").ok K,
  fun K => (He.Fa.cls "Program").ok K,
  fun K => PySem.W.makesIn K (He.ga K "Program")] : List FaM) ++
  ([fun K => (He.Fa.noat "Program" "texts").ok K,
  fun K => (He.Fa.noat "Program" "main").ok K,
  fun K => (He.Fa.noat "Program" "functions").ok K,
  fun K => (He.Fa.noat "Program" "by_number").ok K,
  fun K => (He.Fa.mkr "Program").ok K,
  fun K => (He.Fa.glo "Number").ok K,
  fun K => (He.Fa.cls "Number").ok K,
  fun K => PySem.W.makesIn K (He.ga K "Number"),
  fun K => (He.Fa.noat "Number" "value").ok K,
  fun K => (He.Fa.mkr "Number").ok K,
  fun K => (He.Fa.glo "Expr").ok K,
  fun K => (He.Fa.cls "Expr").ok K,
  fun K => PySem.W.makesIn K (He.ga K "Expr"),
  fun K => (He.Fa.glo "Box").ok K,
  fun K => (He.Fa.cls "Box").ok K,
  fun K => PySem.W.makesIn K (He.ga K "Box"),
  fun K => (He.Fa.noat "Box" "name").ok K,
  fun K => (He.Fa.mkr "Box").ok K,
  fun K => (He.Fa.glo "Cell").ok K,
  fun K => (He.Fa.cls "Cell").ok K] : List FaM) ++
  ([fun K => PySem.W.makesIn K (He.ga K "Cell"),
  fun K => (He.Fa.noat "Cell" "inner").ok K,
  fun K => (He.Fa.mkr "Cell").ok K,
  fun K => (He.Fa.glo "Two").ok K,
  fun K => (He.Fa.cls "Two").ok K,
  fun K => PySem.W.makesIn K (He.ga K "Two"),
  fun K => (He.Fa.noat "Two" "word").ok K,
  fun K => (He.Fa.noat "Two" "left").ok K,
  fun K => (He.Fa.noat "Two" "right").ok K,
  fun K => (He.Fa.mkr "Two").ok K,
  fun K => (He.Fa.glo "Row").ok K,
  fun K => (He.Fa.cls "Row").ok K,
  fun K => PySem.W.makesIn K (He.ga K "Row"),
  fun K => (He.Fa.mkr "Row").ok K,
  fun K => (He.Fa.glo "Set").ok K,
  fun K => (He.Fa.cls "Set").ok K,
  fun K => PySem.W.makesIn K (He.ga K "Set"),
  fun K => (He.Fa.noat "Set" "number").ok K,
  fun K => (He.Fa.noat "Set" "box").ok K,
  fun K => (He.Fa.noat "Set" "expr").ok K] : List FaM) ++
  ([fun K => (He.Fa.mkr "Set").ok K,
  fun K => (He.Fa.glo "Put").ok K,
  fun K => (He.Fa.cls "Put").ok K,
  fun K => PySem.W.makesIn K (He.ga K "Put"),
  fun K => (He.Fa.noat "Put" "number").ok K,
  fun K => (He.Fa.noat "Put" "first").ok K,
  fun K => (He.Fa.noat "Put" "second").ok K,
  fun K => (He.Fa.mkr "Put").ok K,
  fun K => (He.Fa.glo "Ask").ok K,
  fun K => (He.Fa.cls "Ask").ok K,
  fun K => PySem.W.makesIn K (He.ga K "Ask"),
  fun K => (He.Fa.noat "Ask" "number").ok K,
  fun K => (He.Fa.noat "Ask" "box").ok K,
  fun K => (He.Fa.noat "Ask" "word").ok K,
  fun K => (He.Fa.noat "Ask" "expr").ok K,
  fun K => (He.Fa.mkr "Ask").ok K,
  fun K => (He.Fa.glo "Draw").ok K,
  fun K => (He.Fa.cls "Draw").ok K,
  fun K => PySem.W.makesIn K (He.ga K "Draw"),
  fun K => (He.Fa.noat "Draw" "number").ok K] : List FaM) ++
  ([fun K => (He.Fa.noat "Draw" "box").ok K,
  fun K => (He.Fa.noat "Draw" "word").ok K,
  fun K => (He.Fa.mkr "Draw").ok K,
  fun K => (He.Fa.glo "Tell").ok K,
  fun K => (He.Fa.cls "Tell").ok K,
  fun K => PySem.W.makesIn K (He.ga K "Tell"),
  fun K => (He.Fa.noat "Tell" "number").ok K,
  fun K => (He.Fa.noat "Tell" "expr").ok K,
  fun K => (He.Fa.mkr "Tell").ok K,
  fun K => (He.Fa.glo "Skip").ok K,
  fun K => (He.Fa.cls "Skip").ok K,
  fun K => PySem.W.makesIn K (He.ga K "Skip"),
  fun K => (He.Fa.noat "Skip" "number").ok K,
  fun K => (He.Fa.mkr "Skip").ok K,
  fun K => decide (He.ma K (He.ga K "Skip") "__init__" = He.ma K (He.ga K "Row") "__init__"),
  fun K => (He.Fa.glo "Call").ok K,
  fun K => (He.Fa.cls "Call").ok K,
  fun K => PySem.W.makesIn K (He.ga K "Call"),
  fun K => (He.Fa.noat "Call" "number").ok K,
  fun K => (He.Fa.noat "Call" "box").ok K] : List FaM) ++
  ([fun K => (He.Fa.noat "Call" "fun").ok K,
  fun K => (He.Fa.noat "Call" "given").ok K,
  fun K => (He.Fa.mkr "Call").ok K,
  fun K => (He.Fa.glo "Loop").ok K,
  fun K => (He.Fa.cls "Loop").ok K,
  fun K => PySem.W.makesIn K (He.ga K "Loop"),
  fun K => (He.Fa.noat "Loop" "number").ok K,
  fun K => (He.Fa.noat "Loop" "test").ok K,
  fun K => (He.Fa.noat "Loop" "body").ok K,
  fun K => (He.Fa.mkr "Loop").ok K,
  fun K => (He.Fa.glo "Choice").ok K,
  fun K => (He.Fa.cls "Choice").ok K,
  fun K => PySem.W.makesIn K (He.ga K "Choice"),
  fun K => (He.Fa.noat "Choice" "number").ok K,
  fun K => (He.Fa.noat "Choice" "test").ok K,
  fun K => (He.Fa.noat "Choice" "first").ok K,
  fun K => (He.Fa.noat "Choice" "second").ok K,
  fun K => (He.Fa.mkr "Choice").ok K,
  fun K => (He.Fa.glo "Give").ok K,
  fun K => (He.Fa.cls "Give").ok K] : List FaM) ++
  ([fun K => PySem.W.makesIn K (He.ga K "Give"),
  fun K => (He.Fa.noat "Give" "number").ok K,
  fun K => (He.Fa.noat "Give" "expr").ok K,
  fun K => (He.Fa.mkr "Give").ok K,
  fun K => (He.Fa.meth "Number" "parts").ok K,
  fun K => decide (He.ma K (He.ga K "Number") "parts" = He.ma K (He.ga K "Expr") "parts"),
  fun K => (He.Fa.meth "Box" "parts").ok K,
  fun K => decide (He.ma K (He.ga K "Box") "parts" = He.ma K (He.ga K "Expr") "parts"),
  fun K => (He.Fa.meth "Cell" "parts").ok K,
  fun K => (He.Fa.meth "Two" "parts").ok K,
  fun K => (He.Fa.meth "Reader" "block").ok K,
  fun K => (He.Fa.meth "Reader" "pass_line").ok K,
  fun K => (He.Fa.meth "Reader" "row_with_rows").ok K,
  fun K => (He.Fa.meth "Reader" "call_row").ok K,
  fun K => (He.Fa.meth "Reader" "head").ok K,
  fun K => (He.Fa.meth "Reader" "one_row").ok K,
  fun K => (He.Fa.meth "Reader" "function").ok K,
  fun K => (He.Fa.meth "Program" "text").ok K,
  fun K => cfnB K (He.ga K "Row") "__init__" (He.ma K (He.ga K "Row") "__init__"),
  fun K => (He.Fa.glo "PAIRS").ok K] : List FaM) ++
  ([fun K => He.tupB K "PAIRS" [.str "plus", .str "minus", .str "times", .str "over", .str "rest", .str "less", .str "same"],
  fun K => (He.Fa.glo "ROWS").ok K,
  fun K => He.tupB K "ROWS" [.str "skip", .str "set", .str "put", .str "ask", .str "draw", .str "tell", .str "if", .str "while", .str "call"],
  fun K => (He.Fa.glo "OTHERS").ok K,
  fun K => He.tupB K "OTHERS" [.str "else", .str "end", .str "fun", .str "main", .str "give", .str "cell"],
  fun K => (He.Fa.exc "NoProgram").ok K,
  fun K => (He.Fa.glo "NoProgram").ok K,
  fun K => (He.Fa.exc "HadError").ok K,
  fun K => (He.Fa.glo "HadError").ok K,
  fun K => (He.Fa.exc "NoChange").ok K,
  fun K => (He.Fa.glo "NoChange").ok K,
  fun K => (He.Fa.exc "NoText").ok K,
  fun K => (He.Fa.glo "NoText").ok K,
  fun K => (He.Fa.exc "NoValue").ok K,
  fun K => (He.Fa.glo "NoValue").ok K,
  fun K => (He.Fa.exc "NoWish").ok K,
  fun K => (He.Fa.glo "NoWish").ok K,
  fun K => decide ((He.ga K "Number") ≠ (He.ga K "Box")),
  fun K => decide ((He.ga K "Number") ≠ (He.ga K "Cell")),
  fun K => decide ((He.ga K "Number") ≠ (He.ga K "Two"))] : List FaM) ++
  ([fun K => decide ((He.ga K "Box") ≠ (He.ga K "Number")),
  fun K => decide ((He.ga K "Box") ≠ (He.ga K "Cell")),
  fun K => decide ((He.ga K "Box") ≠ (He.ga K "Two")),
  fun K => decide ((He.ga K "Cell") ≠ (He.ga K "Number")),
  fun K => decide ((He.ga K "Cell") ≠ (He.ga K "Box")),
  fun K => decide ((He.ga K "Cell") ≠ (He.ga K "Two")),
  fun K => decide ((He.ga K "Two") ≠ (He.ga K "Number")),
  fun K => decide ((He.ga K "Two") ≠ (He.ga K "Box")),
  fun K => decide ((He.ga K "Two") ≠ (He.ga K "Cell")),
  fun K => decide ((He.ga K "Skip") ≠ (He.ga K "Set")),
  fun K => decide ((He.ga K "Skip") ≠ (He.ga K "Put")),
  fun K => decide ((He.ga K "Skip") ≠ (He.ga K "Ask")),
  fun K => decide ((He.ga K "Skip") ≠ (He.ga K "Draw")),
  fun K => decide ((He.ga K "Skip") ≠ (He.ga K "Tell")),
  fun K => decide ((He.ga K "Skip") ≠ (He.ga K "Choice")),
  fun K => decide ((He.ga K "Skip") ≠ (He.ga K "Loop")),
  fun K => decide ((He.ga K "Skip") ≠ (He.ga K "Call")),
  fun K => decide ((He.ga K "Skip") ≠ (He.ga K "Give")),
  fun K => decide ((He.ga K "Set") ≠ (He.ga K "Skip")),
  fun K => decide ((He.ga K "Set") ≠ (He.ga K "Put"))] : List FaM) ++
  ([fun K => decide ((He.ga K "Set") ≠ (He.ga K "Ask")),
  fun K => decide ((He.ga K "Set") ≠ (He.ga K "Draw")),
  fun K => decide ((He.ga K "Set") ≠ (He.ga K "Tell")),
  fun K => decide ((He.ga K "Set") ≠ (He.ga K "Choice")),
  fun K => decide ((He.ga K "Set") ≠ (He.ga K "Loop")),
  fun K => decide ((He.ga K "Set") ≠ (He.ga K "Call")),
  fun K => decide ((He.ga K "Set") ≠ (He.ga K "Give")),
  fun K => decide ((He.ga K "Put") ≠ (He.ga K "Skip")),
  fun K => decide ((He.ga K "Put") ≠ (He.ga K "Set")),
  fun K => decide ((He.ga K "Put") ≠ (He.ga K "Ask")),
  fun K => decide ((He.ga K "Put") ≠ (He.ga K "Draw")),
  fun K => decide ((He.ga K "Put") ≠ (He.ga K "Tell")),
  fun K => decide ((He.ga K "Put") ≠ (He.ga K "Choice")),
  fun K => decide ((He.ga K "Put") ≠ (He.ga K "Loop")),
  fun K => decide ((He.ga K "Put") ≠ (He.ga K "Call")),
  fun K => decide ((He.ga K "Put") ≠ (He.ga K "Give")),
  fun K => decide ((He.ga K "Ask") ≠ (He.ga K "Skip")),
  fun K => decide ((He.ga K "Ask") ≠ (He.ga K "Set")),
  fun K => decide ((He.ga K "Ask") ≠ (He.ga K "Put")),
  fun K => decide ((He.ga K "Ask") ≠ (He.ga K "Draw"))] : List FaM) ++
  ([fun K => decide ((He.ga K "Ask") ≠ (He.ga K "Tell")),
  fun K => decide ((He.ga K "Ask") ≠ (He.ga K "Choice")),
  fun K => decide ((He.ga K "Ask") ≠ (He.ga K "Loop")),
  fun K => decide ((He.ga K "Ask") ≠ (He.ga K "Call")),
  fun K => decide ((He.ga K "Ask") ≠ (He.ga K "Give")),
  fun K => decide ((He.ga K "Draw") ≠ (He.ga K "Skip")),
  fun K => decide ((He.ga K "Draw") ≠ (He.ga K "Set")),
  fun K => decide ((He.ga K "Draw") ≠ (He.ga K "Put")),
  fun K => decide ((He.ga K "Draw") ≠ (He.ga K "Ask")),
  fun K => decide ((He.ga K "Draw") ≠ (He.ga K "Tell")),
  fun K => decide ((He.ga K "Draw") ≠ (He.ga K "Choice")),
  fun K => decide ((He.ga K "Draw") ≠ (He.ga K "Loop")),
  fun K => decide ((He.ga K "Draw") ≠ (He.ga K "Call")),
  fun K => decide ((He.ga K "Draw") ≠ (He.ga K "Give")),
  fun K => decide ((He.ga K "Tell") ≠ (He.ga K "Skip")),
  fun K => decide ((He.ga K "Tell") ≠ (He.ga K "Set")),
  fun K => decide ((He.ga K "Tell") ≠ (He.ga K "Put")),
  fun K => decide ((He.ga K "Tell") ≠ (He.ga K "Ask")),
  fun K => decide ((He.ga K "Tell") ≠ (He.ga K "Draw")),
  fun K => decide ((He.ga K "Tell") ≠ (He.ga K "Choice"))] : List FaM) ++
  ([fun K => decide ((He.ga K "Tell") ≠ (He.ga K "Loop")),
  fun K => decide ((He.ga K "Tell") ≠ (He.ga K "Call")),
  fun K => decide ((He.ga K "Tell") ≠ (He.ga K "Give")),
  fun K => decide ((He.ga K "Choice") ≠ (He.ga K "Skip")),
  fun K => decide ((He.ga K "Choice") ≠ (He.ga K "Set")),
  fun K => decide ((He.ga K "Choice") ≠ (He.ga K "Put")),
  fun K => decide ((He.ga K "Choice") ≠ (He.ga K "Ask")),
  fun K => decide ((He.ga K "Choice") ≠ (He.ga K "Draw")),
  fun K => decide ((He.ga K "Choice") ≠ (He.ga K "Tell")),
  fun K => decide ((He.ga K "Choice") ≠ (He.ga K "Loop")),
  fun K => decide ((He.ga K "Choice") ≠ (He.ga K "Call")),
  fun K => decide ((He.ga K "Choice") ≠ (He.ga K "Give")),
  fun K => decide ((He.ga K "Loop") ≠ (He.ga K "Skip")),
  fun K => decide ((He.ga K "Loop") ≠ (He.ga K "Set")),
  fun K => decide ((He.ga K "Loop") ≠ (He.ga K "Put")),
  fun K => decide ((He.ga K "Loop") ≠ (He.ga K "Ask")),
  fun K => decide ((He.ga K "Loop") ≠ (He.ga K "Draw")),
  fun K => decide ((He.ga K "Loop") ≠ (He.ga K "Tell")),
  fun K => decide ((He.ga K "Loop") ≠ (He.ga K "Choice")),
  fun K => decide ((He.ga K "Loop") ≠ (He.ga K "Call"))] : List FaM) ++
  ([fun K => decide ((He.ga K "Loop") ≠ (He.ga K "Give")),
  fun K => decide ((He.ga K "Call") ≠ (He.ga K "Skip")),
  fun K => decide ((He.ga K "Call") ≠ (He.ga K "Set")),
  fun K => decide ((He.ga K "Call") ≠ (He.ga K "Put")),
  fun K => decide ((He.ga K "Call") ≠ (He.ga K "Ask")),
  fun K => decide ((He.ga K "Call") ≠ (He.ga K "Draw")),
  fun K => decide ((He.ga K "Call") ≠ (He.ga K "Tell")),
  fun K => decide ((He.ga K "Call") ≠ (He.ga K "Choice")),
  fun K => decide ((He.ga K "Call") ≠ (He.ga K "Loop")),
  fun K => decide ((He.ga K "Call") ≠ (He.ga K "Give")),
  fun K => decide ((He.ga K "Give") ≠ (He.ga K "Skip")),
  fun K => decide ((He.ga K "Give") ≠ (He.ga K "Set")),
  fun K => decide ((He.ga K "Give") ≠ (He.ga K "Put")),
  fun K => decide ((He.ga K "Give") ≠ (He.ga K "Ask")),
  fun K => decide ((He.ga K "Give") ≠ (He.ga K "Draw")),
  fun K => decide ((He.ga K "Give") ≠ (He.ga K "Tell")),
  fun K => decide ((He.ga K "Give") ≠ (He.ga K "Choice")),
  fun K => decide ((He.ga K "Give") ≠ (He.ga K "Loop")),
  fun K => decide ((He.ga K "Give") ≠ (He.ga K "Call")),
  fun K => decide ((He.ga K "Number") ≠ (He.ga K "Reader"))] : List FaM) ++
  ([fun K => decide ((He.ga K "Box") ≠ (He.ga K "Reader")),
  fun K => decide ((He.ga K "Cell") ≠ (He.ga K "Reader")),
  fun K => decide ((He.ga K "Two") ≠ (He.ga K "Reader")),
  fun K => decide ((He.ga K "Function") ≠ (He.ga K "Reader")),
  fun K => decide ((He.ga K "Skip") ≠ (He.ga K "Reader")),
  fun K => decide ((He.ga K "Set") ≠ (He.ga K "Reader")),
  fun K => decide ((He.ga K "Put") ≠ (He.ga K "Reader")),
  fun K => decide ((He.ga K "Ask") ≠ (He.ga K "Reader")),
  fun K => decide ((He.ga K "Draw") ≠ (He.ga K "Reader")),
  fun K => decide ((He.ga K "Tell") ≠ (He.ga K "Reader")),
  fun K => decide ((He.ga K "Choice") ≠ (He.ga K "Reader")),
  fun K => decide ((He.ga K "Loop") ≠ (He.ga K "Reader")),
  fun K => decide ((He.ga K "Call") ≠ (He.ga K "Reader")),
  fun K => decide ((He.ga K "Give") ≠ (He.ga K "Reader")),
  fun K => decide (PySem.W.findIn K (.ref (He.ga K "NoProgram")) "__getattribute__" = some (some (.builtin "BaseException.__getattribute__"))),
  fun K => decide (PySem.W.findIn K (.ref (He.ga K "NoProgram")) "__getattr__" = some none),
  fun K => decide (PySem.W.hasDictIn K (He.ga K "NoProgram") = true),
  fun K => decide (PySem.W.findIn K (.ref (He.ga K "NoProgram")) "__class__" = some (some (.builtin "object.__class__"))),
  fun K => decide (PySem.W.specialIn K (.builtin "object.__class__") "__get__" = some (some (.builtin "getset_descriptor.__get__"))),
  fun K => decide (PySem.W.takesIn K (.builtin "object.__class__") = some true)] : List FaM) ++
  ([fun K => decide (PySem.W.mroIn K (He.ga K "NoProgram") (.type "object") = some true),
  fun K => decide (PySem.W.exmOne K (.ref (He.ga K "NoProgram")) (.ref (He.ga K "HadError")) = some true),
  fun K => decide (PySem.W.kitAny K (.ref (He.ga K "NoProgram")) [.ref (He.ga K "NoChange"), .ref (He.ga K "NoText"), .ref (He.ga K "NoValue"), .ref (He.ga K "NoWish")] = some false),
  fun K => decide (PySem.W.kitOne K (.ref (He.ga K "NoProgram")) (.type "ValueError") = some true),
  fun K => (He.Fa.str "LETTERS" "abcdefghijklmnopqrstuvwxyz").ok K,
  fun K => (He.Fa.str "FIGURES" "0123456789").ok K,
  fun K => (He.Fa.int "MOST_DEEP" 6).ok K,
  fun K => (He.Fa.int "MOST_PARTS" 15).ok K,
  fun K => (He.Fa.int "MOST_WITHIN" 5).ok K,
  fun K => (He.Fa.int "MOST_PARAMS" 3).ok K,
  fun K => (He.Fa.int "MOST_LINES" 60).ok K,
  fun K => (He.Fa.int "MOST_FUNCTIONS" 4).ok K,
  fun K => (He.Fa.free "str").ok K,
  fun K => (He.Fa.free "isinstance").ok K,
  fun K => (He.Fa.free "len").ok K,
  fun K => (He.Fa.free "all").ok K,
  fun K => (He.Fa.free "int").ok K,
  fun K => (He.Fa.free "set").ok K,
  fun K => (He.Fa.free "range").ok K,
  fun K => (He.Fa.free "sum").ok K] : List FaM) ++
  ([fun K => (He.Fa.free "tuple").ok K,
  fun K => (He.Fa.free "max").ok K,
  fun K => (He.Fa.free "ValueError").ok K] : List FaM)
def loose : List Str := (["_wall", "HadError", "NoProgram", "NoChange", "NoValue", "NoWish", "NoText", "MOST_PARTS", "MOST_DEEP", "LETTERS", "FIGURES", "PAIRS", "ROWS", "OTHERS", "is_name"] : List Str) ++ (["is_value_word", "Expr", "Number", "Box", "Cell", "Two", "expr_at", "exprs_of", "Row", "Skip", "Set", "Put", "Ask", "Draw", "Tell"] : List Str) ++ (["Choice", "Loop", "Call", "Give", "Function", "MOST_LINES", "MOST_FUNCTIONS", "MOST_PARAMS", "MOST_WITHIN", "Program", "Reader", "check_names", "only", "simple_row", "check_calls"] : List Str) ++ (["read_program", "_law_cell", "_law_mixed", "_law_twice", "_law_well", "_law_draw", "_law_value", "_law_name", "_law_parts", "_law_expr", "_law_words_of", "_law_some_expr", "_law_heads", "_law_simple", "_law_line"] : List Str) ++ (["_law_put_line", "_law_row", "_law_block", "_law_world", "_law_is_name", "_law_is_value", "_law_read", "_law_many", "_law_is_simple", "_law_call", "_law_behind", "_law_fun_behind", "_law_is_program", "_law_found", "_law_menu"] : List Str) ++ (["_law_word_changed", "_law_spoiled"] : List Str)
abbrev R : PySem.W.OpenRow := PySem.W.OpenLaw.row PySem.Challenge.rw_hadbeen_k12_no_program
abbrev hk : PySem.W.Hook := hookM ("law" :: loose) hFa hFn
def ob (s : PySem.W.SharedT) : He.AlD := obsMG ("law" :: loose) hFa hFn (HandSHeadRun.getT s)
theorem ob_eq (s : PySem.W.SharedT) : ob s = hk.obs s.abs := obsMG_eq (HandSHeadRun.getT_eq s)
end K12
namespace K12
open PySem PySem.Spec PyProof.Rows L2 TL
theorem run (w : World) : HandSHeadRun.RunEq R (PySem.W.view R.prog [82]) hk ob 12000 loose w := by
  intro os
  kernel_rfl
end K12
namespace K12
open PySem L2 TL

/-! ### len(set(xs)), xs a list of texts -/
/-- how many unlike ones stand among the first i -/
def cntTo (xs : List Str) : Nat → Nat
  | 0 => 0
  | i + 1 => if ((xs.take i).any (· == xs.getD i Str.empty)) = true then cntTo xs i else cntTo xs i + 1
theorem cntTo_le (xs : List Str) : ∀ i, cntTo xs i ≤ i
  | 0 => Nat.le_refl 0
  | i + 1 => by
    have := cntTo_le xs i
    unfold cntTo
    split <;> omega
section
open PySem.Spec PyProof.Rows SS
variable {prog : Program} {w : World} {A : Around} {R : Result → Shared → Prop} {I : Addr} {fp wr : List Addr} {G : Array GenState → Array GenState → Prop} {n : Nat} {P : Nat → Value → Prop} {Sx : Nat → Shared → Prop}
theorem loop_texts (W : WalksS prog w A.in1 I fp wr G n P Sx) (S : Addr) (nS : S ∉ fp) (xs : List Str) (lx : xs.length = n) (ln : n ≤ 100) (hv : ∀ i v, P i v → ∃ t, v = .str (xs.getD i Str.empty) t) :
    ∀ (k i : Nat) (s : Shared), n - i = k → i ≤ n → Sx i s → s.heap.SetOf (PySem.strKind prog w) S (fun z => (xs.take i).any (· == z)) (cntTo xs i) →
      (∀ s', Moved (S :: wr) G s s' → s'.heap.SetOf (PySem.strKind prog w) S (fun z => (xs.take n).any (· == z)) (cntTo xs n) → R (.ok (.ret .none)) s') →
      codeAny (model prog w) A (.builtin "set.update.loop" ⟨[.ref S, .ref I], []⟩) R s := by
  have nSw : S ∉ wr := fun h => nS (W.sub _ h)
  have wrs : ∀ b ∈ wr, b ∈ S :: wr := fun b hb => List.mem_cons_of_mem _ hb
  have moved : ∀ {s s' : Shared} {f : Str → Bool} {c : Nat}, Moved wr G s s' → s.heap.SetOf (PySem.strKind prog w) S f c → s'.heap.SetOf (PySem.strKind prog w) S f c := fun {s s' f c} hm ⟨o, es, ep, t, ho, rest⟩ => ⟨o, es, ep, t, hm.heap S o nSw ho, rest⟩
  intro k
  induction k with
  | zero =>
    intro i s hk hi st hS hR
    obtain rfl : i = n := by omega
    refine codeAny_builtin PyProof.Rows.F.entry_set_update_loop ?_
    rw [Around.under_plainId PyProof.Rows.F.plain_set_update_loop _]
    show wpAny _ A.in1 (pyNext (.ref I) >>= _) _ _ s
    exact wpAny_bind (W.done s _ _ st fun s' hm => wpAny_pure (hR s' (hm.mono wrs) (moved hm hS)))
  | succ k ih =>
    intro i s hk hi st hS hR
    have hlt : i < n := by omega
    refine codeAny_builtin PyProof.Rows.F.entry_set_update_loop ?_
    rw [Around.under_plainId PyProof.Rows.F.plain_set_update_loop _]
    show wpAny _ A.in1 (pyNext (.ref I) >>= _) _ _ s
    refine wpAny_bind (W.item i s _ _ hlt st fun v s' hP st' hm => ?_)
    obtain ⟨t, rfl⟩ := hv i v hP
    have hS' := moved hm hS
    show wpAny _ A.in1 (holding [Value.str (xs.getD i Str.empty) t] (setAdd S (.str (xs.getD i Str.empty) t)) >>= _) _ _ s'
    refine wpAny_bind (wpAny_holding ?_)
    unfold setAdd
    refine wpAny_holding (wpAny_bind ((PySem.strKind prog w).pyHash (k := xs.getD i Str.empty) (strKind_is _ _ _ _) ?_))
    refine wpAny_setAddHashed_of (knd := PySem.strKind prog w) (s := { s' with toks := s'.toks + 1 }) (strKind_is _ _ _ _) rfl hS' (by have := cntTo_le xs i; unfold scanBound; omega) fun h' sb hS2 => ?_
    have hS3 : h'.SetOf (PySem.strKind prog w) S (fun z => (xs.take (i + 1)).any (· == z)) (cntTo xs (i + 1)) := by
      refine SetOf_congr hS2 (fun z => ?_) rfl
      have e1 : xs[i]? = some (xs.getD i Str.empty) := by
        rw [List.getD_eq_getElem?_getD, List.getElem?_eq_getElem (by omega)]; rfl
      rw [List.take_add_one, e1]
      simp only [Option.toList, List.any_append, List.any_cons, List.any_nil, Bool.or_false]
      congr 1
      by_cases e : z = xs.getD i Str.empty
      · rw [e]; simp
      · rw [decide_eq_false e]
        exact (beq_eq_false_iff_ne.mpr fun q => e q.symm).symm
    refine wpAny_pure ⟨plainId_quiet PyProof.Rows.F.plain_set_update_loop _, ih (i + 1) _ (by omega) hlt (W.frame _ s' _ _ st' (Nat.le_succ _) fun b hb o e => ?_) hS3 fun s'' hm'' hS'' => ?_⟩
    · rw [sb.2 b (fun q : b = S => nS (q ▸ hb))]; exact e
    · refine hR s'' (Moved.trans W.gtrans ((hm.mono wrs).then_heap (Nat.le_succ _) fun b o hb e => ?_) hm'') hS''
      rw [sb.2 b (fun q : b = S => hb (q ▸ List.mem_cons_self))]; exact e
variable {E : Value → Shared → Prop} {s : Shared}
set_option maxHeartbeats 3200000 in
theorem call_set_texts {l : Addr} {items : Array Value} {xs : List Str} {Q : Value → Shared → Prop}
    (hh : A.handled = none) (hl : s.heap.IsList l items) (hi : PyProof.Rows.StrsAre items.toList xs) (ln : xs.length ≤ 100)
    (h : ∀ (h' : Heap) (tk : Nat), h'.SetOf (PySem.strKind prog w) s.heap.objs.size (fun z => (xs.take items.size).any (· == z)) (cntTo xs items.size) →
      (∀ b o, b < s.heap.objs.size → s.heap.get? b = some o → h'.get? b = some o) → Q (.ref s.heap.objs.size) { s with heap := h', toks := tk }) :
    wpAny (model prog w) A (call (.type "set") [.ref l]) Q E s := by
  have seen : ∀ led : Bool, wpAny (model prog w) A.in1.in1 (Builtin.«set.__init__» ⟨[.ref s.heap.objs.size, .ref l], []⟩)
      (fun fin s' => match fin with | .done f => wants (fun r s₂ => r = .none ∧ Q (.ref s.heap.objs.size) s₂) E (.ok f) s' | .again c' => c'.quiet = true ∧ codeAny (model prog w) A.in1 c' (wants (fun r s₂ => r = .none ∧ Q (.ref s.heap.objs.size) s₂) E) s')
      (fun e s' => wants (fun r s₂ => r = .none ∧ Q (.ref s.heap.objs.size) s₂) E (.error e) s') { s with heap := s.heap.push { cls := .type "set", dict := none, data := .set #[] 0 (.fresh 0 0 led) } } := fun led => by
    have hS : (s.heap.push { cls := .type "set", dict := none, data := .set #[] 0 (.fresh 0 0 led) }).get? s.heap.objs.size = some { cls := .type "set", dict := none, data := .set #[] 0 (.fresh 0 0 led) } := Heap.get?_push_size _ rfl
    obtain ⟨ol, hol, hcl, nl, hdl⟩ := hl
    obtain ⟨ocls, odict, odata, oslots⟩ := ol
    simp only at hcl hdl
    subst hcl; subst hdl
    have hol' : (s.heap.push { cls := .type "set", dict := none, data := .set #[] 0 (.fresh 0 0 led) }).get? l = some { cls := .type "list", dict := odict, data := .seq items nl, slots := oslots } := Heap.get?_push_of_some _ hol
    have hl1 : (s.heap.push { cls := .type "set", dict := none, data := .set #[] 0 (.fresh 0 0 led) }).IsList l items := ⟨_, hol', rfl, nl, rfl⟩
    have q1 := PySem.F.sub_list_set
    have q2 := PySem.F.sub_list_frozenset
    have q3 : (Value.type "list" == Value.type "dict") = false := by decide
    unfold Builtin.«set.__init__» noKeywords Builtin.Frozenset.updateFrom
    generalize hPI : pyIter = PI
    wp_walk
    subst hPI
    refine wpAny_pyIter_list hl1 ?_
    refine wpAny_bind (wpAny_runValue ?_)
    have lt : l < s.heap.objs.size := Heap.lt_size hol
    have sz1 : (s.heap.push { cls := .type "set", dict := none, data := .set #[] 0 (.fresh 0 0 led) }).objs.size = s.heap.objs.size + 1 := Heap.size_push ..
    have nI : l ≠ (s.heap.push { cls := .type "set", dict := none, data := .set #[] 0 (.fresh 0 0 led) }).objs.size := by rw [sz1]; exact Nat.ne_of_lt (Nat.lt_succ_of_lt lt)
    have nF : s.heap.objs.size ∉ [(s.heap.push { cls := .type "set", dict := none, data := .set #[] 0 (.fresh 0 0 led) }).objs.size, l] := by
      simp only [List.mem_cons, List.not_mem_nil, or_false, not_or]
      exact ⟨by rw [sz1]; exact Nat.ne_of_lt (Nat.lt_succ_self _), Nat.ne_of_gt lt⟩
    have hsz : xs.length = items.size := by rw [← StrsAre.len_eq hi, Array.length_toList]
    have hv : ∀ (i : Nat) (v : Value), items[i]? = some v → ∃ t, v = .str (xs.getD i Str.empty) t := fun i v hv => strs_at hi i v (by rw [Array.getElem?_toList]; exact hv)
    have hh3 : A.in1.in1.in1.handled = none := by simp [hh]
    refine loop_texts ((Walks.list hh3 _ l nI items).toS) s.heap.objs.size nF xs hsz (by omega) hv (items.size - 0) 0 _ (by omega) (Nat.zero_le _) ⟨⟨_, Heap.get?_push_size _ rfl, rfl, rfl⟩, (hl1.push _)⟩ ?_ ?_
    · have hg : ((s.heap.push { cls := .type "set", dict := none, data := .set #[] 0 (.fresh 0 0 led) }).push { cls := .type "list_iterator", data := .fields #[.ref l, .int 0 0] }).get? s.heap.objs.size = some { cls := .type "set", dict := none, data := .set #[] 0 (.fresh 0 0 led) } := Heap.get?_push_of_some _ hS
      exact PyProof.Rows.SetOf_congr ((PyProof.Rows.setObjOf_fresh (knd := PySem.strKind prog w) led).setOf hg (by unfold scanBound; omega)) (fun _ => rfl) rfl
    · intro s' hm hS'
      obtain ⟨h', g', d', tk', os'⟩ := s'
      obtain rfl : g' = s.gens := hm.gens
      obtain rfl : d' = s.drawn := hm.drawn
      obtain rfl : os' = s.os := hm.os
      show wpAny _ _ _ _ _ _
      refine wpAny_pure ?_
      show wpAny _ _ (ret Value.none) _ _ _
      refine wpAny_pure ⟨rfl, h h' tk' hS' fun b o hb e => ?_⟩
      exact hm.heap b o (by simp only [List.mem_cons, List.not_mem_nil, or_false, not_or]; exact ⟨Nat.ne_of_lt hb, by rw [sz1]; exact Nat.ne_of_lt (Nat.lt_succ_of_lt hb)⟩) (Heap.get?_push_of_some _ (Heap.get?_push_of_some _ e))
  obtain ⟨c, tl, m0⟩ := PySem.F.called_set.mro
  have m1 := PySem.F.called_set.made
  have m2 := PySem.F.called_set.sub
  refine wpAny_call (codeAny_of_tree ?_)
  show wpAny _ _ (callAny (.type "set") _) _ _ _
  refine wpAny_pure ⟨Code.quiet_builtin _ (by decide +kernel), codeAny_builtin PySem.F.entry_type_call ?_⟩
  rw [Around.under_plain (weight_type_call_type "set" [.ref l] []) rfl]
  have m3 := PySem.F.called_set.notType
  have m4 := PySem.F.called_set.canCreate
  have m5 := PySem.F.typeCall_set_1 (.ref l)
  repeat (any_goals (first | assumption | wp_step))
  refine codeAny_mono (code_set_new_1 (.ref l) (E := E) (Q₁ := fun ob s₁ => ∃ led : Bool, ob = .ref s.heap.objs.size ∧ s₁ = { s with heap := s.heap.push { cls := .type "set", dict := none, data := .set #[] 0 (.fresh 0 0 led) } }) fun led => ⟨led, rfl, rfl⟩) fun r s₁ hr => ?_
  cases r with
  | error e => exact hr
  | ok fl =>
    cases fl with
    | ret ob =>
      obtain ⟨led, rfl, rfl⟩ := hr
      have hS : (s.heap.push { cls := .type "set", dict := none, data := .set #[] 0 (.fresh 0 0 led) }).get? s.heap.objs.size = some { cls := .type "set", dict := none, data := .set #[] 0 (.fresh 0 0 led) } := Heap.get?_push_size _ rfl
      have hT : Shared.TypeIs { s with heap := s.heap.push { cls := .type "set", dict := none, data := .set #[] 0 (.fresh 0 0 led) } } (.ref s.heap.objs.size) "set" := ⟨_, hS, rfl⟩
      have m6 := PySem.F.called_set.init.lookup
      have m7 := PySem.F.called_set.init.bind (.ref s.heap.objs.size)
      repeat (any_goals (first | assumption | wp_step))
      refine codeAny_mono (codeAny_call_builtin (R := wants (fun r s₂ => r = .none ∧ Q (.ref s.heap.objs.size) s₂) E) PySem.F.called_set.init.plain PySem.F.entry_set_init (check_set_init_1 hT (seen led))) fun r₂ s₂ hr₂ => ?_
      cases r₂ with
      | error e => exact hr₂
      | ok fl₂ =>
        cases fl₂ with
        | ret r =>
          obtain ⟨rfl, hq⟩ := hr₂
          repeat (any_goals (first | assumption | wp_step))
        | _ => exact hr₂.elim
    | _ => exact hr.elim
end
/-- len(set(xs)) -/
def tLenTexts (K : PySem.W.Frag) (ta : TE) : TE := fun σ H Q => ta σ H fun x H1 => ∃ l, ∃ xs : List Str, x = .ref l ∧ SqL K H1 l (xs.map V.str) ∧ xs.length ≤ 100 ∧ Q (.int (cntTo xs xs.length : Nat)) H1
section
open PySem.Spec PyProof.Rows
variable {X : Cx}
theorem pe_lenTexts {a : Expr} {ta : TE} {p p2 q pos : Pos} (hc : X.calm = true) (hg : Gl X "len") (hm : X.mg "len" = none) (hg2 : Gl X "set") (hm2 : X.mg "set" = none) (ha : PE X a ta)
    (na : starEach [a] X.env = (false, eval a X.env) :: starEach [] X.env := by rfl) : PE X (.Call (.Name "len" p) [.Call (.Name "set" p2) [a] [] q] [] pos) (tLenTexts X.K ta) := by
  refine ⟨fun pins s σ H Q I h => ?_⟩
  refine Call_ (ld_blt I hg hm boot_len (PyProof.Rows.callWith_builtin1 (PyProof.Rows.args_cons ?_ rfl) rfl rfl))
  refine Call_ (ld_blt I hg2 hm2 boot_set (PyProof.Rows.callWith_type1 (PyProof.Rows.args_cons (thn (ha.run pins s σ H _ I h) fun v s1 ⟨x, H1, I1, r1, q1⟩ => PyProof.Rows.args_nil ?_) na) na rfl))
  obtain ⟨l, xs, rfl, hq, ln, q1⟩ := q1
  cases r1
  obtain ⟨its, r, pl, hz⟩ := I1.list hq
  refine call_set_texts (I1.ok.hd hc) pl.isList (by simpa using strsAre_of r) ln fun h' tk hS hk => PyProof.Rows.args_nil ?_
  have hl : its.toArray.size = xs.length := by rw [List.size_toArray, ← r.length, List.length_map]
  rw [hl] at hS
  have hcl := cntTo_le xs xs.length
  obtain ⟨o, es, ep, t, ho, hex, hd, _, _, _, hf, hn⟩ := hS
  have I2 : Inv X pins σ H1 { s1 with heap := h', toks := tk } := I1.kept fun b o e => hk b o (Heap.lt_size e) e
  exact call_len_set ho hex hd hf (by rw [hn]; omega) ⟨.int (cntTo xs xs.length : Nat), H1, I2.tok _, ⟨_, by rw [hn]⟩, q1⟩
end

end K12
namespace K12
open PySem L2 TL

/-! ### words: values by their figures, names -/
def isLow (c : Nat) : Bool := decide (97 ≤ c) && decide (c ≤ 122)
def isDig (c : Nat) : Bool := decide (48 ≤ c) && decide (c ≤ 57)
theorem fig_mem (c : Nat) : decide (c ∈ (Str.ofString "0123456789").cps.toList) = isDig c := by
  have e : (Str.ofString "0123456789").cps.toList = [48, 49, 50, 51, 52, 53, 54, 55, 56, 57] := by decide +kernel
  rw [e]
  unfold isDig
  rw [Bool.eq_iff_iff]
  simp only [decide_eq_true_eq, Bool.and_eq_true, List.mem_cons, List.not_mem_nil, or_false]
  omega
theorem let_mem (c : Nat) : decide (c ∈ (Str.ofString "abcdefghijklmnopqrstuvwxyz").cps.toList) = isLow c := by
  have e : (Str.ofString "abcdefghijklmnopqrstuvwxyz").cps.toList = [97, 98, 99, 100, 101, 102, 103, 104, 105, 106, 107, 108, 109, 110, 111, 112, 113, 114, 115, 116, 117, 118, 119, 120, 121, 122] := by decide +kernel
  rw [e]
  unfold isLow
  rw [Bool.eq_iff_iff]
  simp only [decide_eq_true_eq, Bool.and_eq_true, List.mem_cons, List.not_mem_nil, or_false]
  omega
def PAIRW : List Str := ["plus", "minus", "times", "over", "rest", "less", "same"]
def ROWW : List Str := ["skip", "set", "put", "ask", "draw", "tell", "if", "while", "call"]
def OTHW : List Str := ["else", "end", "fun", "main", "give", "cell"]
def lenOk (s : Str) : Bool := decide (1 ≤ (tl s).length) && decide ((tl s).length ≤ 6)
def isValW (s : Str) : Bool := lenOk s && !((tl s).head? == some 48 && decide (s ≠ "0")) && (tl s).all isDig
def isNameW (s : Str) : Bool := lenOk s && !(decide (s ∈ PAIRW) || (decide (s ∈ ROWW) || decide (s ∈ OTHW))) && (tl s).all isLow
def valOf (s : Str) : Int := ((NumText.digitsVal (tl s) : Nat) : Int)
def numT (n : Int) : Str := Str.ofString (toString n)
theorem inV_str (s : Str) : ∀ l : List Str, inV (.str s) (l.map V.str) = decide (s ∈ l)
  | [] => by simp [inV]
  | x :: r => by
    have ih := inV_str s r
    unfold inV at ih ⊢
    rw [List.map_cons, List.any_cons, ih]
    have e : eqV (.str x) (.str s) = decide (s = x) := by
      show (x == s) = decide (s = x)
      by_cases h : s = x
      · subst h; simp
      · rw [decide_eq_false h]; exact beq_eq_false_iff_ne.mpr fun e => h e.symm
    rw [e]
    by_cases h : s = x <;> simp [h]
theorem digits_of_all {l : List Nat} (h : l.all isDig = true) : NumText.AllDigits l := fun c hc => by
  have := List.all_eq_true.mp h c hc
  unfold isDig at this
  simp only [Bool.and_eq_true, decide_eq_true_eq] at this
  exact this
theorem all_of_digits {l : List Nat} (h : NumText.AllDigits l) : l.all isDig = true := List.all_eq_true.mpr fun c hc => by
  have := h c hc
  unfold isDig
  simp only [Bool.and_eq_true, decide_eq_true_eq]
  exact this
theorem foldl_lt : ∀ (l : List Nat) (a : Nat), NumText.AllDigits l → l.foldl (fun acc c => acc * 10 + (c - 48)) a < (a + 1) * 10 ^ l.length
  | [], a, _ => by simp
  | c :: r, a, h => by
    have hc := h c List.mem_cons_self
    have ih := foldl_lt r (a * 10 + (c - 48)) fun d hd => h d (List.mem_cons_of_mem _ hd)
    have e : (a + 1) * 10 ^ (r.length + 1) = ((a + 1) * 10) * 10 ^ r.length := by rw [Nat.pow_succ, Nat.mul_comm (10 ^ r.length) 10, ← Nat.mul_assoc]
    rw [List.foldl_cons, List.length_cons, e]
    exact Nat.lt_of_lt_of_le ih (Nat.mul_le_mul_right _ (by omega))
theorem digitsVal_lt {l : List Nat} (h : NumText.AllDigits l) : NumText.digitsVal l < 10 ^ l.length := by
  have := foldl_lt l 0 h
  rw [Nat.zero_add, Nat.one_mul] at this
  exact this
theorem valW_parts {s : Str} (h : isValW s = true) : (1 ≤ (tl s).length ∧ (tl s).length ≤ 6) ∧ ((tl s).head? = some 48 → s = "0") ∧ NumText.AllDigits (tl s) := by
  unfold isValW lenOk at h
  simp only [Bool.and_eq_true, decide_eq_true_eq, Bool.not_eq_true', Bool.and_eq_false_iff, beq_eq_false_iff_ne, decide_eq_false_iff_not] at h
  obtain ⟨⟨⟨h1, h2⟩, h3⟩, h4⟩ := h
  refine ⟨⟨h1, h2⟩, fun e => ?_, digits_of_all h4⟩
  rcases h3 with h3 | h3
  · exact absurd e h3
  · exact Classical.not_not.mp h3
theorem valW_int {s : Str} (h : isValW s = true) : PySem.intText? s = some (valOf s) ∧ s.length ≤ 640 ∧ 0 ≤ valOf s ∧ valOf s < 1000000 := by
  obtain ⟨⟨h1, h2⟩, _, h4⟩ := valW_parts h
  have hl : s.length = (tl s).length := len_tl s
  refine ⟨PySem.intText_digits (x := s) h4 (fun e => ?_) (by omega), by omega, Int.natCast_nonneg _, ?_⟩
  · have e' : tl s = [] := e
    rw [e'] at h1; simp at h1
  · have := digitsVal_lt h4
    have p : 10 ^ (tl s).length ≤ 10 ^ 6 := Nat.pow_le_pow_right (by decide) h2
    unfold valOf
    omega
theorem numL_head : ∀ n : Nat, (numL n).head? = some 48 → n = 0 := by
  intro n
  induction n using Nat.strongRecOn with
  | _ n ih =>
    intro h
    by_cases c : n < 10
    · rw [numL_lt c] at h
      simp at h
      omega
    · rw [numL_step (by omega)] at h
      cases q : numL (n / 10) with
      | nil => exact absurd q (numL_ne _)
      | cons x r =>
        rw [q, List.cons_append, List.head?_cons] at h
        have := ih (n / 10) (by omega) (by rw [q, List.head?_cons]; exact h)
        omega
theorem tl_numT {n : Int} (h : 0 ≤ n) : tl (numT n) = numL n.toNat := by
  have e : n = ((n.toNat : Nat) : Int) := by omega
  unfold numT
  rw [e]
  exact tl_num _
theorem numT_valW {n : Int} (h0 : 0 ≤ n) (h1 : n < 1000000) : isValW (numT n) = true ∧ valOf (numT n) = n := by
  have et := tl_numT h0
  have hl : (numL n.toNat).length ≤ 6 := numL_len (by decide) (by omega)
  have hp : 1 ≤ (numL n.toNat).length := by
    cases q : numL n.toNat with
    | nil => exact absurd q (numL_ne _)
    | cons x r => simp
  refine ⟨?_, ?_⟩
  · unfold isValW lenOk
    rw [et]
    simp only [Bool.and_eq_true, decide_eq_true_eq, Bool.not_eq_true', Bool.and_eq_false_iff, beq_eq_false_iff_ne, decide_eq_false_iff_not]
    refine ⟨⟨⟨hp, hl⟩, ?_⟩, all_of_digits (numL_digits _)⟩
    by_cases c : (numL n.toNat).head? = some 48
    · have z := numL_head _ c
      right
      have : n = 0 := by omega
      subst this
      exact fun e => e (by decide +kernel)
    · exact .inl c
  · unfold valOf
    rw [et, numL_val]
    omega
theorem numT_inj {m n : Int} (hm : 0 ≤ m) (hn : 0 ≤ n) (e : numT m = numT n) : m = n := by
  have e' := congrArg tl e
  rw [tl_numT hm, tl_numT hn] at e'
  have := numL_inj e'
  omega
theorem toDigits_digitsVal' {l : List Nat} (h : NumText.AllDigits l) (h1 : 1 ≤ l.length) (c : ¬ l.head? = some 48) : numL (NumText.digitsVal l) = l := by
  unfold numL
  rw [NumText.toDigits_digitsVal (l.length - 1) l (by omega) h (Or.inr ?_), List.map_map]
  · conv => rhs; rw [← List.map_id l]
    refine List.map_congr_left fun d hd => ?_
    have hd' := h d hd
    show (Char.ofNat d).toNat = d
    obtain ⟨a, b⟩ := hd'
    have : ∀ k, k < 10 → (Char.ofNat (48 + k)).toNat = 48 + k := by decide
    have e : d = 48 + (d - 48) := by omega
    rw [e]
    exact this _ (by omega)
  · cases l with
    | nil => simp at h1
    | cons x r =>
      refine ⟨x, r, rfl, ?_⟩
      have := h x List.mem_cons_self
      have : x ≠ 48 := fun e => c (by rw [e]; rfl)
      omega
theorem valW_canon {s : Str} (h : isValW s = true) : numT (valOf s) = s := by
  obtain ⟨⟨h1, h2⟩, h3, h4⟩ := valW_parts h
  refine ext_tl ?_
  rw [tl_numT (valW_int h).2.2.1]
  show numL ((NumText.digitsVal (tl s) : Nat) : Int).toNat = tl s
  rw [Int.toNat_natCast]
  by_cases c : (tl s).head? = some 48
  · rw [h3 c]; decide +kernel
  · have key := toDigits_digitsVal' h4 h1 c
    exact key
theorem nameW_parts {s : Str} (h : isNameW s = true) : (1 ≤ (tl s).length ∧ (tl s).length ≤ 6) ∧ s ∉ PAIRW ∧ s ∉ ROWW ∧ s ∉ OTHW ∧ ∀ c ∈ tl s, 97 ≤ c ∧ c ≤ 122 := by
  unfold isNameW lenOk at h
  simp only [Bool.and_eq_true, decide_eq_true_eq, Bool.not_eq_true', Bool.or_eq_false_iff, decide_eq_false_iff_not] at h
  obtain ⟨⟨⟨h1, h2⟩, h3, h5, h6⟩, h4⟩ := h
  refine ⟨⟨h1, h2⟩, h3, h5, h6, fun c hc => ?_⟩
  have := List.all_eq_true.mp h4 c hc
  unfold isLow at this
  simp only [Bool.and_eq_true, decide_eq_true_eq] at this
  exact this
theorem name_not_val {s : Str} (h : isNameW s = true) : isValW s = false := by
  obtain ⟨⟨h1, _⟩, _, _, _, h4⟩ := nameW_parts h
  cases c : isValW s with
  | false => rfl
  | true =>
    obtain ⟨_, _, h5⟩ := valW_parts c
    cases q : tl s with
    | nil => rw [q] at h1; simp at h1
    | cons x r =>
      have a1 := h4 x (by rw [q]; exact List.mem_cons_self)
      have a2 := h5 x (by rw [q]; exact List.mem_cons_self)
      omega
theorem val_free {s : Str} {c : Nat} (h : isValW s = true) (hc : c < 48 ∨ 57 < c) : c ∉ tl s := fun hm => by
  obtain ⟨_, _, h5⟩ := valW_parts h
  have a2 := h5 c hm
  omega
theorem name_free {s : Str} {c : Nat} (h : isNameW s = true) (hc : c < 97 ∨ 122 < c) : c ∉ tl s := fun hm => by
  obtain ⟨_, _, _, _, h4⟩ := nameW_parts h
  have a1 := h4 c hm
  omega
theorem pair_free : ∀ s ∈ PAIRW, ∀ c ∈ tl s, 97 ≤ c ∧ c ≤ 122 := by decide +kernel
theorem pair_not_val : ∀ s ∈ PAIRW, isValW s = false ∧ isNameW s = false ∧ s ≠ "cell" ∧ (tl s).length ≤ 6 := by decide +kernel
theorem cell_not : isValW "cell" = false ∧ isNameW "cell" = false := by decide +kernel
/-! ### expressions -/
inductive Ex where
  | num (n : Int)
  | box (s : Str)
  | cell (e : Ex)
  | two (w : Str) (l r : Ex)
namespace Ex
def depth : Ex → Nat
  | num _ => 1
  | box _ => 1
  | cell e => e.depth + 1
  | two _ l r => max l.depth r.depth + 1
def parts : Ex → Nat
  | num _ => 1
  | box _ => 1
  | cell e => 1 + e.parts
  | two _ l r => 1 + l.parts + r.parts
def toks : Ex → List Str
  | num n => [numT n]
  | box s => [s]
  | cell e => "cell" :: e.toks
  | two w l r => w :: (l.toks ++ r.toks)
def Wf : Ex → Prop
  | num n => 0 ≤ n ∧ n < 1000000
  | box s => isNameW s = true
  | cell e => e.Wf
  | two w l r => w ∈ PAIRW ∧ l.Wf ∧ r.Wf
def told : Ex → PyData
  | num n => .tuple [.str "number", .int n]
  | box s => .tuple [.str "box", .str s]
  | cell e => .tuple [.str "cell", e.told]
  | two w l r => .tuple [.str w, l.told, r.told]
theorem depth_pos : ∀ e : Ex, 1 ≤ e.depth
  | num _ => Nat.le_refl 1
  | box _ => Nat.le_refl 1
  | cell _ => Nat.le_add_left _ _
  | two _ _ _ => Nat.le_add_left _ _
theorem parts_pos : ∀ e : Ex, 1 ≤ e.parts
  | num _ => Nat.le_refl 1
  | box _ => Nat.le_refl 1
  | cell _ => Nat.le_add_right _ _
  | two _ _ _ => Nat.le_trans (Nat.le_add_right 1 _) (Nat.le_add_right _ _)
theorem toks_len : ∀ e : Ex, e.toks.length = e.parts
  | num _ => rfl
  | box _ => rfl
  | cell e => by show e.toks.length + 1 = 1 + e.parts; rw [toks_len e]; omega
  | two w l r => by
    show (l.toks ++ r.toks).length + 1 = 1 + l.parts + r.parts
    rw [List.length_append, toks_len l, toks_len r]; omega
theorem parts_depth : ∀ e : Ex, e.depth ≤ e.parts
  | num _ => Nat.le_refl 1
  | box _ => Nat.le_refl 1
  | cell e => by have := parts_depth e; show e.depth + 1 ≤ 1 + e.parts; omega
  | two w l r => by have := parts_depth l; have := parts_depth r; show max l.depth r.depth + 1 ≤ 1 + l.parts + r.parts; omega
theorem toks_ok : ∀ {e : Ex}, e.Wf → ∀ s ∈ e.toks, (tl s).length ≤ 6 ∧ ∀ c ∈ tl s, (48 ≤ c ∧ c ≤ 57) ∨ (97 ≤ c ∧ c ≤ 122)
  | num n, h, s, hs => by
    rw [List.mem_singleton.mp hs]
    obtain ⟨⟨_, h2⟩, _, h4⟩ := valW_parts (numT_valW h.1 h.2).1
    exact ⟨h2, fun c hc => .inl (h4 c hc)⟩
  | box b, h, s, hs => by
    rw [List.mem_singleton.mp hs]
    obtain ⟨⟨_, h2⟩, _, _, _, h4⟩ := nameW_parts h
    exact ⟨h2, fun c hc => .inr (h4 c hc)⟩
  | cell e, h, s, hs => by
    rcases List.mem_cons.mp hs with rfl | hs
    · exact ⟨by decide +kernel, fun c hc => .inr ((by decide +kernel : ∀ c ∈ tl (Str.ofString "cell"), 97 ≤ c ∧ c ≤ 122) c hc)⟩
    · exact toks_ok (e := e) h s hs
  | two w l r, h, s, hs => by
    rcases List.mem_cons.mp hs with rfl | hs
    · exact ⟨(pair_not_val _ h.1).2.2.2, fun c hc => .inr (pair_free _ h.1 c hc)⟩
    · rcases List.mem_append.mp hs with hs | hs
      · exact toks_ok (e := l) h.2.1 s hs
      · exact toks_ok (e := r) h.2.2 s hs
end Ex
/-- the expression that begins the words, of at most so many parts within one another; what is behind it -/
def parseE : Nat → List Str → Option (Ex × List Str)
  | 0, _ => none
  | _ + 1, [] => none
  | d + 1, w :: r =>
    if isValW w = true then some (.num (valOf w), r)
    else if isNameW w = true then some (.box w, r)
    else if w = "cell" then (match parseE d r with
      | none => none
      | some (e, r1) => some (.cell e, r1))
    else if w ∈ PAIRW then (match parseE d r with
      | none => none
      | some (l, r1) => (match parseE d r1 with
        | none => none
        | some (e, r2) => some (.two w l e, r2)))
    else none
theorem parse_toks : ∀ {d : Nat} {e : Ex}, e.Wf → e.depth ≤ d → ∀ r, parseE d (e.toks ++ r) = some (e, r)
  | 0, e, _, hd, _ => absurd (e.depth_pos) (by omega)
  | d + 1, .num n, h, _, r => by
    have q := numT_valW h.1 h.2
    show parseE (d + 1) (numT n :: r) = _
    unfold parseE
    rw [if_pos q.1, q.2]
  | d + 1, .box s, h, _, r => by
    show parseE (d + 1) (s :: r) = _
    unfold parseE
    rw [if_neg (by rw [name_not_val h]; decide), if_pos (show isNameW s = true from h)]
  | d + 1, .cell e, h, hd, r => by
    show parseE (d + 1) ("cell" :: (e.toks ++ r)) = _
    unfold parseE
    rw [if_neg (by rw [cell_not.1]; decide), if_neg (by rw [cell_not.2]; decide), if_pos rfl, parse_toks (d := d) (e := e) h (by have : e.depth + 1 ≤ d + 1 := hd; omega) r]
  | d + 1, .two w l e, h, hd, r => by
    obtain ⟨hw, hl, he⟩ := h
    have hd' : max l.depth e.depth + 1 ≤ d + 1 := hd
    obtain ⟨q1, q2, q3, _⟩ := pair_not_val w hw
    show parseE (d + 1) (w :: ((l.toks ++ e.toks) ++ r)) = _
    unfold parseE
    rw [if_neg (by rw [q1]; decide), if_neg (by rw [q2]; decide), if_neg q3, if_pos hw, List.append_assoc, parse_toks (d := d) hl (by omega) (e.toks ++ r)]
    show (match parseE d (e.toks ++ r) with | none => none | some (e, r2) => some (Ex.two w l e, r2)) = _
    rw [parse_toks (d := d) he (by omega) r]
theorem parse_wf : ∀ {d : Nat} {ws : List Str} {e : Ex} {r : List Str}, parseE d ws = some (e, r) → e.Wf ∧ e.depth ≤ d ∧ ws = e.toks ++ r
  | 0, _, _, _, h => by simp [parseE] at h
  | _ + 1, [], _, _, h => by simp [parseE] at h
  | d + 1, w :: t, e, r, h => by
    unfold parseE at h
    by_cases c1 : isValW w = true
    · rw [if_pos c1] at h
      cases h
      obtain ⟨_, _, h3, h4⟩ := valW_int c1
      exact ⟨⟨h3, h4⟩, Nat.le_add_left _ _, by show w :: t = [numT (valOf w)] ++ t; rw [valW_canon c1]; rfl⟩
    rw [if_neg c1] at h
    by_cases c2 : isNameW w = true
    · rw [if_pos c2] at h
      cases h
      exact ⟨c2, Nat.le_add_left _ _, rfl⟩
    rw [if_neg c2] at h
    by_cases c3 : w = "cell"
    · rw [if_pos c3] at h
      cases q : parseE d t with
      | none => rw [q] at h; cases h
      | some p =>
        obtain ⟨e1, r1⟩ := p
        rw [q] at h
        cases h
        obtain ⟨a1, a2, a3⟩ := parse_wf q
        exact ⟨a1, Nat.succ_le_succ a2, by rw [c3, a3]; rfl⟩
    rw [if_neg c3] at h
    by_cases c4 : w ∈ PAIRW
    · rw [if_pos c4] at h
      cases q : parseE d t with
      | none => rw [q] at h; cases h
      | some p =>
        obtain ⟨e1, r1⟩ := p
        rw [q] at h
        simp only at h
        cases q2 : parseE d r1 with
        | none => rw [q2] at h; cases h
        | some p2 =>
          obtain ⟨e2, r2⟩ := p2
          rw [q2] at h
          cases h
          obtain ⟨a1, a2, a3⟩ := parse_wf q
          obtain ⟨b1, b2, b3⟩ := parse_wf q2
          exact ⟨⟨c4, a1, b1⟩, by show max e1.depth e2.depth + 1 ≤ d + 1; omega, by rw [a3, b3]; show _ = w :: (e1.toks ++ e2.toks) ++ r; rw [List.cons_append, List.append_assoc]⟩
    · rw [if_neg c4] at h; cases h
/-- all the expressions of a row of words -/
def parseAll : Nat → List Str → Option (List Ex)
  | _, [] => some []
  | 0, _ :: _ => none
  | n + 1, ws => match parseE 6 ws with
    | none => none
    | some (e, r) => if e.parts ≤ 15 then (match parseAll n r with
      | none => none
      | some es => some (e :: es)) else none

/-! ### objects -/
structure EC where
  num : Addr
  box : Addr
  cell : Addr
  two : Addr
def EC.Fam (c : EC) (C : Addr) : Prop := C = c.num ∨ C = c.box ∨ C = c.cell ∨ C = c.two
def EC.of (c : EC) : Ex → Addr
  | .num _ => c.num
  | .box _ => c.box
  | .cell _ => c.cell
  | .two _ _ _ => c.two
theorem EC.fam (c : EC) : ∀ e : Ex, c.Fam (c.of e)
  | .num _ => .inl rfl
  | .box _ => .inr (.inl rfl)
  | .cell _ => .inr (.inr (.inl rfl))
  | .two _ _ _ => .inr (.inr (.inr rfl))
def fNum (n : Int) : List (Str × V) := [("value", .int n)]
def fBox (s : Str) : List (Str × V) := [("name", .str s)]
def fCell (i : V) : List (Str × V) := [("inner", i)]
def fTwo (w : Str) (a b : V) : List (Str × V) := [("word", .str w), ("left", a), ("right", b)]
/-- v is an object of the expression e -/
def ObjE (c : EC) (H : Hp) : Ex → V → Prop
  | .num n, v => ∃ p dx, v = .ref p ∧ H p = some (.ins c.num dx (fNum n))
  | .box s, v => ∃ p dx, v = .ref p ∧ H p = some (.ins c.box dx (fBox s))
  | .cell e, v => ∃ p dx i, v = .ref p ∧ H p = some (.ins c.cell dx (fCell i)) ∧ ObjE c H e i
  | .two w l r, v => ∃ p dx a b, v = .ref p ∧ H p = some (.ins c.two dx (fTwo w a b)) ∧ ObjE c H l a ∧ ObjE c H r b
theorem ObjE.same {c : EC} {H H' : Hp} (s : Same H H') : ∀ {e : Ex} {v : V}, ObjE c H e v → ObjE c H' e v
  | .num n, v, ⟨p, dx, h1, h2⟩ => ⟨p, dx, h1, s _ _ h2⟩
  | .box n, v, ⟨p, dx, h1, h2⟩ => ⟨p, dx, h1, s _ _ h2⟩
  | .cell e, v, ⟨p, dx, i, h1, h2, h3⟩ => ⟨p, dx, i, h1, s _ _ h2, ObjE.same s h3⟩
  | .two w l r, v, ⟨p, dx, a, b, h1, h2, h3, h4⟩ => ⟨p, dx, a, b, h1, s _ _ h2, ObjE.same s h3, ObjE.same s h4⟩
abbrev exMeth (m : Str) : Prop := m ∈ (["told", "words", "parts", "levels", "reckon"] : List Str)
theorem look_none {m : Str} (h : exMeth m) : (∀ n, (fNum n).lookup m = none) ∧ (∀ s, (fBox s).lookup m = none) ∧ (∀ i, (fCell i).lookup m = none) ∧ (∀ w a b, (fTwo w a b).lookup m = none) := by
  have n : ∀ k ∈ (["value", "name", "inner", "word", "left", "right"] : List Str), (m == k) = false := by
    intro k hk
    have : ∀ x ∈ (["told", "words", "parts", "levels", "reckon"] : List Str), ∀ y ∈ (["value", "name", "inner", "word", "left", "right"] : List Str), (x == y) = false := by decide +kernel
    exact this m h k hk
  refine ⟨fun z => ?_, fun z => ?_, fun z => ?_, fun w a b => ?_⟩
  · show (match m == "value" with | true => some (V.int z) | false => none) = none
    rw [n "value" (by decide +kernel)]
  · show (match m == "name" with | true => some (V.str z) | false => none) = none
    rw [n "name" (by decide +kernel)]
  · show (match m == "inner" with | true => some z | false => none) = none
    rw [n "inner" (by decide +kernel)]
  · unfold fTwo
    rw [List.lookup_cons, n "word" (by decide +kernel)]
    simp only
    rw [List.lookup_cons, n "left" (by decide +kernel)]
    simp only
    rw [List.lookup_cons, n "right" (by decide +kernel)]
    rfl
theorem ObjE.at {c : EC} {H : Hp} {m : Str} (hm : exMeth m) : ∀ {e : Ex} {v : V}, ObjE c H e v → ∃ p dx fs, v = .ref p ∧ H p = some (.ins (c.of e) dx fs) ∧ fs.lookup m = none
  | .num n, v, ⟨p, dx, h1, h2⟩ => ⟨p, dx, _, h1, h2, (look_none hm).1 _⟩
  | .box n, v, ⟨p, dx, h1, h2⟩ => ⟨p, dx, _, h1, h2, (look_none hm).2.1 _⟩
  | .cell e, v, ⟨p, dx, i, h1, h2, h3⟩ => ⟨p, dx, _, h1, h2, (look_none hm).2.2.1 _⟩
  | .two w l r, v, ⟨p, dx, a, b, h1, h2, h3, h4⟩ => ⟨p, dx, _, h1, h2, (look_none hm).2.2.2 _ _ _⟩
/-! ### data told -/
theorem dp_same {K : PySem.W.Frag} {H H' : Hp} (s : Same H H') {v : V} {d : PyData} (h : Dp K H v d) : Dp K H' v d := by
  refine Dp.rec (motive_1 := fun v d _ => Dp K H' v d) (motive_2 := fun vs ds _ => DpAll K H' vs ds) ?_ ?_ ?_ ?_ ?_ ?_ ?_ ?_ h
  · exact .non
  · exact fun b => .bl b
  · exact fun i => .int i
  · exact fun x => .str x
  · exact fun h1 _ h2 => .lst (s.seq h1) h2
  · exact fun h1 _ h2 => .tup (same_tup s h1) h2
  · exact .nil
  · exact fun _ _ h1 h2 => .cons h1 h2
theorem dpAll_same {K : PySem.W.Frag} {H H' : Hp} (s : Same H H') : ∀ {vs : List V} {ds : List PyData}, DpAll K H vs ds → DpAll K H' vs ds
  | _, _, .nil => .nil
  | _, _, .cons a b => .cons (dp_same s a) (dpAll_same s b)
/-- v is told data, a tuple that stands by itself -/
def TupD (K : PySem.W.Frag) (H : Hp) (v : V) (ds : List PyData) : Prop := ∃ t xs, v = .ref t ∧ H t = some (.tup xs) ∧ DpAll K H xs ds
theorem TupD.dp {K : PySem.W.Frag} {H : Hp} {v : V} {ds : List PyData} (h : TupD K H v ds) : Dp K H v (.tuple ds) := by
  obtain ⟨t, xs, rfl, h1, h2⟩ := h
  exact .tup (SqT.of h1) h2
theorem TupD.same {K : PySem.W.Frag} {H H' : Hp} (s : Same H H') {v : V} {ds : List PyData} (h : TupD K H v ds) : TupD K H' v ds := by
  obtain ⟨t, xs, rfl, h1, h2⟩ := h
  exact ⟨t, xs, rfl, s _ _ h1, dpAll_same s h2⟩
def Ex.items : Ex → List PyData
  | .num n => [.str "number", .int n]
  | .box s => [.str "box", .str s]
  | .cell e => [.str "cell", e.told]
  | .two w l r => [.str w, l.told, r.told]
theorem Ex.told_items : ∀ e : Ex, e.told = .tuple e.items
  | .num _ => rfl
  | .box _ => rfl
  | .cell _ => rfl
  | .two _ _ _ => rfl
/-- v is the told tuple of e: each inner tuple stands by itself -/
def ToldE (K : PySem.W.Frag) (H : Hp) : Ex → V → Prop
  | .num n, v => ∃ t, v = .ref t ∧ H t = some (.tup [.str "number", .int n])
  | .box s, v => ∃ t, v = .ref t ∧ H t = some (.tup [.str "box", .str s])
  | .cell e, v => ∃ t i, v = .ref t ∧ H t = some (.tup [.str "cell", i]) ∧ ToldE K H e i
  | .two w l r, v => ∃ t a b, v = .ref t ∧ H t = some (.tup [.str w, a, b]) ∧ ToldE K H l a ∧ ToldE K H r b
theorem ToldE.same {K : PySem.W.Frag} {H H' : Hp} (s : Same H H') : ∀ {e : Ex} {v : V}, ToldE K H e v → ToldE K H' e v
  | .num n, v, ⟨p, h1, h2⟩ => ⟨p, h1, s _ _ h2⟩
  | .box n, v, ⟨p, h1, h2⟩ => ⟨p, h1, s _ _ h2⟩
  | .cell e, v, ⟨p, i, h1, h2, h3⟩ => ⟨p, i, h1, s _ _ h2, ToldE.same s h3⟩
  | .two w l r, v, ⟨p, a, b, h1, h2, h3, h4⟩ => ⟨p, a, b, h1, s _ _ h2, ToldE.same s h3, ToldE.same s h4⟩
theorem ToldE.dp {K : PySem.W.Frag} {H : Hp} : ∀ {e : Ex} {v : V}, ToldE K H e v → Dp K H v e.told
  | .num n, v, ⟨p, h1, h2⟩ => by rw [h1]; exact .tup (SqT.of h2) (.cons (.str _) (.cons (.int _) .nil))
  | .box n, v, ⟨p, h1, h2⟩ => by rw [h1]; exact .tup (SqT.of h2) (.cons (.str _) (.cons (.str _) .nil))
  | .cell e, v, ⟨p, i, h1, h2, h3⟩ => by rw [h1]; exact .tup (SqT.of h2) (.cons (.str _) (.cons (ToldE.dp h3) .nil))
  | .two w l r, v, ⟨p, a, b, h1, h2, h3, h4⟩ => by rw [h1]; exact .tup (SqT.of h2) (.cons (.str _) (.cons (ToldE.dp h3) (.cons (ToldE.dp h4) .nil)))
theorem ToldE.ref {K : PySem.W.Frag} {H : Hp} : ∀ {e : Ex} {v : V}, ToldE K H e v → ∃ t xs, v = .ref t ∧ H t = some (.tup xs)
  | .num n, v, ⟨p, h1, h2⟩ => ⟨p, _, h1, h2⟩
  | .box n, v, ⟨p, h1, h2⟩ => ⟨p, _, h1, h2⟩
  | .cell e, v, ⟨p, i, h1, h2, h3⟩ => ⟨p, _, h1, h2⟩
  | .two w l r, v, ⟨p, a, b, h1, h2, h3, h4⟩ => ⟨p, _, h1, h2⟩
theorem strOk_of {s : Str} (h : ∀ c ∈ tl s, c ≤ 122) : PyData.strOk s = true := by
  unfold PyData.strOk
  rw [← Array.all_toList]
  refine List.all_eq_true.mpr fun c hc => ?_
  have := h c hc
  simp only [decide_eq_true_eq]
  omega
theorem Ex.lay : ∀ {e : Ex}, e.Wf → e.told.canLay0 = true
  | .num n, _ => by
    show (PyData.strOk _ && (true && true)) = true
    rw [strOk_of (by decide +kernel)]; rfl
  | .box s, h => by
    obtain ⟨_, _, _, _, h4⟩ := nameW_parts (s := s) h
    show (PyData.strOk _ && (PyData.strOk s && true)) = true
    rw [strOk_of (by decide +kernel), strOk_of fun c hc => (h4 c hc).2]; rfl
  | .cell e, h => by
    have ih := Ex.lay (e := e) h
    show (PyData.strOk _ && (e.told.canLay0 && true)) = true
    rw [strOk_of (by decide +kernel), ih]; rfl
  | .two w l r, h => by
    have h1 := Ex.lay (e := l) h.2.1
    have h2 := Ex.lay (e := r) h.2.2
    show (PyData.strOk w && (l.told.canLay0 && (r.told.canLay0 && true))) = true
    rw [strOk_of fun c hc => (pair_free w h.1 c hc).2, h1, h2]; rfl
theorem Ex.told_depth : ∀ e : Ex, e.told.depth ≤ e.depth
  | .num _ => by show max 0 (max 0 0) + 1 ≤ 1; omega
  | .box _ => by show max 0 (max 0 0) + 1 ≤ 1; omega
  | .cell e => by
    have := Ex.told_depth e
    show max 0 (max e.told.depth 0) + 1 ≤ e.depth + 1; omega
  | .two w l r => by
    have := Ex.told_depth l
    have := Ex.told_depth r
    show max 0 (max l.told.depth (max r.told.depth 0)) + 1 ≤ max l.depth r.depth + 1; omega
theorem Ex.shaped {e : Ex} (h : e.Wf) (hd : e.depth ≤ 60) : SeqAt.shaped e.told = true := by
  have h1 := Ex.lay h
  have h2 := Ex.told_depth e
  show (e.told.canLay0 && decide (e.told.depth ≤ 64)) = true
  rw [h1, decide_eq_true (by omega)]; rfl
theorem Ex.eqv {e : Ex} (h : e.Wf) : PyData.eqv e.told e.told = true := SeqAt.eqv_refl _ (Ex.lay h)
/-! ### texts -/
def Ex.text : Ex → Str
  | .num n => numT n
  | .box s => s
  | .cell e => (Str.ofString "cell ") ++ e.text
  | .two w l r => Txt.join (Str.ofString " ") [w, l.text, r.text]
theorem Ex.text_len : ∀ {e : Ex}, e.Wf → e.text.length + 1 ≤ 7 * e.parts
  | .num n, h => by
    have := Ex.toks_ok (e := .num n) h (numT n) (List.mem_singleton.mpr rfl)
    show (numT n).length + 1 ≤ 7 * 1
    rw [len_tl]; omega
  | .box s, h => by
    have := Ex.toks_ok (e := .box s) h s (List.mem_singleton.mpr rfl)
    show s.length + 1 ≤ 7 * 1
    rw [len_tl]; omega
  | .cell e, h => by
    have ih := Ex.text_len (e := e) h
    show (Str.ofString "cell " ++ e.text).length + 1 ≤ 7 * (1 + e.parts)
    rw [len_tl, tl_append, List.length_append]
    have : (tl (Str.ofString "cell ")).length = 5 := by decide +kernel
    rw [len_tl] at ih
    omega
  | .two w l r, h => by
    have h1 := Ex.text_len (e := l) h.2.1
    have h2 := Ex.text_len (e := r) h.2.2
    have h3 := (pair_not_val w h.1).2.2.2
    have b : (tl (Str.ofString " ")).length = 1 := by decide +kernel
    show (Txt.join (Str.ofString " ") [w, l.text, r.text]).length + 1 ≤ 7 * (1 + l.parts + r.parts)
    rw [join_eq, len_tl, tl_join]
    rw [len_tl] at h1 h2
    simp only [List.map_cons, List.map_nil, joinL, List.length_append, b]
    omega
theorem Ex.text_toks : ∀ {e : Ex}, tl e.text = joinL [32] (e.toks.map tl)
  | .num n => rfl
  | .box s => rfl
  | .cell e => by
    have ih := Ex.text_toks (e := e)
    show tl (Str.ofString "cell " ++ e.text) = joinL [32] ((Str.ofString "cell" :: e.toks).map tl)
    rw [tl_append, ih]
    have c1 : tl (Str.ofString "cell ") = tl (Str.ofString "cell") ++ [32] := by decide +kernel
    rw [c1]
    cases q : e.toks with
    | nil => have := e.toks_len; rw [q] at this; have := e.parts_pos; simp at *; omega
    | cons x r =>
      show _ = tl (Str.ofString "cell") ++ ([32] ++ joinL [32] ((x :: r).map tl))
      rw [List.append_assoc]
  | .two w l r => by
    have h1 := Ex.text_toks (e := l)
    have h2 := Ex.text_toks (e := r)
    show tl (Txt.join (Str.ofString " ") [w, l.text, r.text]) = joinL [32] ((w :: (l.toks ++ r.toks)).map tl)
    have b : tl (Str.ofString " ") = [32] := by decide +kernel
    rw [join_eq, tl_join, b]
    show tl w ++ ([32] ++ (tl l.text ++ ([32] ++ tl r.text))) = _
    rw [h1, h2, List.map_cons, List.map_append]
    have key : ∀ (a b : List (List Nat)), a ≠ [] → b ≠ [] → joinL [32] a ++ ([32] ++ joinL [32] b) = joinL [32] (a ++ b) := by
      intro a
      induction a with
      | nil => intro b h; exact absurd rfl h
      | cons x a ih =>
        intro b _ hb
        cases a with
        | nil =>
          cases b with
          | nil => exact absurd rfl hb
          | cons y b => rfl
        | cons x2 a =>
          have := ih b (by simp) hb
          show (x ++ ([32] ++ joinL [32] (x2 :: a))) ++ _ = x ++ ([32] ++ joinL [32] ((x2 :: a) ++ b))
          rw [← this]
          simp only [List.append_assoc]
    have n1 : l.toks.map tl ≠ [] := fun e => by have := congrArg List.length e; rw [List.length_map, l.toks_len] at this; have := l.parts_pos; simp at *; omega
    have n2 : r.toks.map tl ≠ [] := fun e => by have := congrArg List.length e; rw [List.length_map, r.toks_len] at this; have := r.parts_pos; simp at *; omega
    rw [key _ _ n1 n2]
    cases q : (l.toks.map tl ++ r.toks.map tl) with
    | nil => exact absurd (List.append_eq_nil_iff.mp q).1 n1
    | cons x z => rfl
theorem Ex.split_text {e : Ex} (h : e.Wf) : Txt.split e.text (Str.ofString " ") = e.toks := by
  have b : tl (Str.ofString " ") = 32 :: [] := by decide +kernel
  have ej : e.text = Txt.join (Str.ofString " ") e.toks := by
    refine ext_tl ?_
    rw [join_eq, tl_join, b, Ex.text_toks]
  rw [ej]
  refine split_join b (by decide +kernel) (fun q => ?_) fun p hp => ?_
  · have := e.toks_len; rw [q] at this; have := e.parts_pos; simp at *; omega
  · intro hm
    rcases (Ex.toks_ok h p hp).2 32 hm with c | c <;> omega
/-! ### promises -/
/-- one text in, a truth out; nothing else is touched -/
def spTruthS (f : Str → Bool) : Sp := fun vs H Q _ => ∃ s : Str, vs = [.str s] ∧ s.length ≤ 100000 ∧ ∀ H', Same H H' → Q (.bl (f s)) H'
def spInit1 (C : Addr) (f : Str) : Sp := fun vs H Q _ => ∃ (p dx : Addr) (x : V), vs = [.ref p, x] ∧ H p = some (.ins C dx []) ∧ Q .non (upd H p (.ins C dx [(f, x)]))
def spTwoI (C : Addr) : Sp := fun vs H Q _ => ∃ (p dx : Addr) (w : Str) (a b : V), vs = [.ref p, .str w, a, b] ∧ H p = some (.ins C dx []) ∧ Q .non (upd H p (.ins C dx (fTwo w a b)))
def spTold (K : PySem.W.Frag) (c : EC) (n : Nat) (C : Addr) : Sp := fun vs H Q _ => ∃ (e : Ex) (v : V), vs = [v] ∧ ObjE c H e v ∧ c.of e = C ∧ e.depth ≤ n ∧ ∀ r H', Same H H' → ToldE K H' e r → Q r H'
def spWords (c : EC) (n : Nat) (C : Addr) : Sp := fun vs H Q _ => ∃ (e : Ex) (v : V), vs = [v] ∧ ObjE c H e v ∧ c.of e = C ∧ e.depth ≤ n ∧ e.Wf ∧ e.parts ≤ 1000 ∧ ∀ H', Same H H' → Q (.str e.text) H'
def spParts (c : EC) (n : Nat) (C : Addr) : Sp := fun vs H Q _ => ∃ (e : Ex) (v : V), vs = [v] ∧ ObjE c H e v ∧ c.of e = C ∧ e.depth ≤ n ∧ Q (.int e.parts) H
def spExprAt (K : PySem.W.Frag) (c : EC) (N : Addr) (n : Nat) : Sp := fun vs H Q E => ∃ (a : Addr) (ws : List Str) (i d : Nat), vs = [.ref a, .int i, .int (7 - (d : Int))] ∧ SqL K H a (ws.map V.str) ∧ ws.length ≤ 100000 ∧ (∀ s ∈ ws, s.length ≤ 100000) ∧ d < n ∧ d ≤ 7 ∧
  (∀ e r, parseE d (ws.drop i) = some (e, r) → ∀ t H' v, Same H H' → H' t = some (.tup [v, .int ((ws.length - r.length : Nat) : Int)]) → ObjE c H' e v → Q (.ref t) H') ∧
  (parseE d (ws.drop i) = none → ∀ H', Same H H' → E (.ref N) none H')
inductive AllE (c : EC) (H : Hp) : List Ex → List V → Prop where
  | nil : AllE c H [] []
  | cons {e : Ex} {v : V} {es : List Ex} {vs : List V} : ObjE c H e v → AllE c H es vs → AllE c H (e :: es) (v :: vs)
theorem AllE.same {c : EC} {H H' : Hp} (s : Same H H') : ∀ {es : List Ex} {vs : List V}, AllE c H es vs → AllE c H' es vs
  | _, _, .nil => .nil
  | _, _, .cons a b => .cons (a.same s) (b.same s)
theorem AllE.snoc {c : EC} {H : Hp} {e : Ex} {v : V} (h : ObjE c H e v) : ∀ {es : List Ex} {vs : List V}, AllE c H es vs → AllE c H (es ++ [e]) (vs ++ [v])
  | _, _, .nil => .cons h .nil
  | _, _, .cons a b => .cons a (b.snoc h)
theorem AllE.length {c : EC} {H : Hp} : ∀ {es : List Ex} {vs : List V}, AllE c H es vs → es.length = vs.length
  | _, _, .nil => rfl
  | _, _, .cons _ b => congrArg (· + 1) b.length
def spExprs (K : PySem.W.Frag) (c : EC) (N : Addr) : Sp := fun vs H Q E => ∃ (a : Addr) (ws : List Str), vs = [.ref a] ∧ SqL K H a (ws.map V.str) ∧ ws.length ≤ 100000 ∧ (∀ s ∈ ws, s.length ≤ 100000) ∧
  (∀ es, parseAll ws.length ws = some es → ∀ l H' os, Same H H' → H l = none → H' l = some (.lst os) → AllE c H' es os → Q (.ref l) H') ∧ (parseAll ws.length ws = none → ∀ H', Same H H' → E (.ref N) none H')
def spReadE (c : EC) (N : Addr) : Sp := fun vs H Q E => ∃ (s : Str), vs = [.str s] ∧ s.length ≤ 99999 ∧
  (∀ e, parseAll (Txt.split s " ").length (Txt.split s " ") = some [e] → ∀ v H', Same H H' → ObjE c H' e v → Q v H') ∧
  ((∀ e, parseAll (Txt.split s " ").length (Txt.split s " ") ≠ some [e]) → ∀ H', Same H H' → E (.ref N) none H')
def spReadAny (K : PySem.W.Frag) (c : EC) (N : Addr) : Sp := fun vs H Q E => ∃ x : V, vs = [x] ∧ ((∃ (s : Str), x = .str s ∧ s.length ≤ 99999 ∧
  (∀ e, parseAll (Txt.split s " ").length (Txt.split s " ") = some [e] → ∀ v H', Same H H' → ObjE c H' e v → Q v H') ∧
  ((∀ e, parseAll (Txt.split s " ").length (Txt.split s " ") ≠ some [e]) → ∀ H', Same H H' → E (.ref N) none H')) ∨
  (∃ t, TyX K H x t ∧ PySem.W.kitOne K t (.type "str") = some false ∧ E (.ref N) none H))

theorem valW_false1 {s : Str} (h : ¬ 1 ≤ (tl s).length ∨ ¬ (tl s).length ≤ 6) : isValW s = false := by
  unfold isValW lenOk
  rcases h with h | h
  · rw [decide_eq_false h]; rfl
  · rw [decide_eq_false h, Bool.and_false]; rfl
theorem valW_false2 {s : Str} (h : (tl s).head? = some 48) (h2 : s ≠ "0") : isValW s = false := by
  unfold isValW
  have e : ((tl s).head? == some 48) = true := by rw [h]; rfl
  rw [e, decide_eq_true h2]
  simp
theorem valW_true {s : Str} (h1 : 1 ≤ (tl s).length) (h2 : (tl s).length ≤ 6) (h3 : (tl s).head? = some 48 → s = "0") : isValW s = (tl s).all isDig := by
  unfold isValW lenOk
  rw [decide_eq_true h1, decide_eq_true h2]
  by_cases c : (tl s).head? = some 48
  · rw [h3 c, decide_eq_false (fun e => e rfl)]; simp
  · have e : ((tl s).head? == some 48) = false := beq_eq_false_iff_ne.mpr c
    rw [e]; simp
theorem nameW_false1 {s : Str} (h : ¬ 1 ≤ (tl s).length ∨ ¬ (tl s).length ≤ 6) : isNameW s = false := by
  unfold isNameW lenOk
  rcases h with h | h
  · rw [decide_eq_false h]; rfl
  · rw [decide_eq_false h, Bool.and_false]; rfl
theorem nameW_false2 {s : Str} (h : s ∈ PAIRW ∨ s ∈ ROWW ∨ s ∈ OTHW) : isNameW s = false := by
  unfold isNameW
  have e : (decide (s ∈ PAIRW) || (decide (s ∈ ROWW) || decide (s ∈ OTHW))) = true := by
    rcases h with h | h | h <;> simp [h]
  rw [e]; simp
theorem nameW_true {s : Str} (h1 : 1 ≤ (tl s).length) (h2 : (tl s).length ≤ 6) (h3 : s ∉ PAIRW) (h4 : s ∉ ROWW) (h5 : s ∉ OTHW) : isNameW s = (tl s).all isLow := by
  unfold isNameW lenOk
  rw [decide_eq_true h1, decide_eq_true h2, decide_eq_false h3, decide_eq_false h4, decide_eq_false h5]; simp
theorem len_line {s : Str} (h : s.length ≤ 100000) : s.length ≤ sizeLine := Nat.le_trans h (by decide)

theorem log_small {n : Nat} (h : n < 2 ^ 20) : n.log2 < 1920 := by
  by_cases h0 : n = 0
  · subst h0; decide
  · exact Nat.lt_of_lt_of_le ((Nat.log2_lt h0).mpr h) (by decide)

theorem while_m {c : TT} {tb : TS} {D : Ends} {σ : St} {H : Hp} (Pv : Nat → St → Hp → Prop) (m0 : Nat) (h0 : Pv m0 σ H)
    (hs : ∀ m σ H, Pv m σ H → c σ H fun b H1 => if b = true then ∃ N : St → Hp → Prop, (∀ σ' H', N σ' H' → ∃ m', m' < m ∧ Pv m' σ' H') ∧ tb { D with nx := N, ct := N, bk := D.nx } σ H1 else D.nx σ H1) : tWhile c tb D σ H := ⟨Pv, ⟨m0, h0⟩, hs⟩
theorem made_same {H : Hp} {x dx : Addr} {o o1 o2 : HO} (hx : H x = none) (hd : H dx = none) : Same H (upd (upd (upd H dx o) x o1) x o2) := fun b u e => by
  have n1 : b ≠ x := ne_of_none e hx
  rw [upd_ne n1, upd_ne n1, upd_ne (ne_of_none e hd)]
  exact e
theorem mk_init {C : Addr} {f : Str} {H : Hp} {v : V} {Q : Hp → Prop} {E : XK} {x dx : Addr} (hx : H x = none) (hd : H dx = none) (k : ∀ H', Same H H' → H' x = some (.ins C dx [(f, v)]) → Q H') :
    spInit1 C f [.ref x, v] (upd (upd H dx (.own x)) x (.ins C dx [])) (fun v H2 => v = .non ∧ Q H2) E :=
  ⟨x, dx, v, rfl, upd_same, rfl, k _ (made_same hx hd) upd_same⟩
theorem mk_two {C : Addr} {H : Hp} {wd : Str} {a b : V} {Q : Hp → Prop} {E : XK} {x dx : Addr} (hx : H x = none) (hd : H dx = none) (k : ∀ H', Same H H' → H' x = some (.ins C dx (fTwo wd a b)) → Q H') :
    spTwoI C [.ref x, .str wd, a, b] (upd (upd H dx (.own x)) x (.ins C dx [])) (fun v H2 => v = .non ∧ Q H2) E :=
  ⟨x, dx, wd, a, b, rfl, upd_same, rfl, k _ (made_same hx hd) upd_same⟩
theorem parse_len {d : Nat} {ws : List Str} {e : Ex} {r : List Str} (h : parseE d ws = some (e, r)) : r.length < ws.length ∧ ws.drop (ws.length - r.length) = r := by
  obtain ⟨_, _, h3⟩ := parse_wf h
  have n1 := e.toks_len
  have n2 := e.parts_pos
  have hl : ws.length = e.toks.length + r.length := by rw [h3, List.length_append]
  refine ⟨by omega, ?_⟩
  have e1 : ws.length - r.length = e.toks.length := by omega
  rw [e1, h3, List.drop_left]
theorem parse_at {d i : Nat} {ws : List Str} {e : Ex} {r : List Str} (h : parseE d (ws.drop i) = some (e, r)) : i < ws.length - r.length ∧ ws.length - r.length ≤ ws.length ∧ ws.drop (ws.length - r.length) = r := by
  obtain ⟨_, _, h3⟩ := parse_wf h
  have n1 := e.toks_len
  have n2 := e.parts_pos
  have hl : (ws.drop i).length = e.toks.length + r.length := by rw [h3, List.length_append]
  rw [List.length_drop] at hl
  refine ⟨by omega, Nat.sub_le _ _, ?_⟩
  have e1 : ws.length - r.length = i + e.toks.length := by omega
  rw [e1, ← List.drop_drop, h3, List.drop_left]
theorem at_str {ws : List Str} {i : Nat} {s : Str} {r : List Str} (h : ws.drop i = s :: r) : i < ws.length ∧ atI (ws.map V.str) (i : Int) = some (.str s) ∧ ws.drop (i + 1) = r ∧ r.length = ws.length - (i + 1) ∧ s ∈ ws := by
  have hl : (ws.drop i).length = r.length + 1 := by rw [h]; rfl
  rw [List.length_drop] at hl
  have hi : i < ws.length := by omega
  have e1 : ws.drop i = ws[i] :: ws.drop (i + 1) := List.drop_eq_getElem_cons hi
  rw [h, List.cons.injEq] at e1
  refine ⟨hi, atI_nat (by rw [List.getElem?_map, List.getElem?_eq_getElem hi, ← e1.1]; rfl), e1.2.symm, by omega, ?_⟩
  rw [e1.1]; exact List.getElem_mem hi
theorem parseE_cons {d : Nat} {w : Str} {r : List Str} : parseE (d + 1) (w :: r) = (if isValW w = true then some (.num (valOf w), r)
    else if isNameW w = true then some (.box w, r)
    else if w = "cell" then (match parseE d r with
      | none => none
      | some (e, r1) => some (.cell e, r1))
    else if w ∈ PAIRW then (match parseE d r with
      | none => none
      | some (l, r1) => (match parseE d r1 with
        | none => none
        | some (e, r2) => some (.two w l e, r2)))
    else none) := rfl
theorem parseAll_fuel : ∀ (n : Nat) (ws : List Str), ws.length ≤ n → parseAll n ws = parseAll ws.length ws := by
  intro n
  induction n using Nat.strongRecOn with
  | _ n ih =>
    intro ws h
    cases ws with
    | nil => cases n <;> rfl
    | cons x t =>
      cases n with
      | zero => simp at h
      | succ n =>
        show (match parseE 6 (x :: t) with | none => none | some (e, r) => if e.parts ≤ 15 then (match parseAll n r with | none => none | some es => some (e :: es)) else none) = parseAll (t.length + 1) (x :: t)
        show _ = (match parseE 6 (x :: t) with | none => none | some (e, r) => if e.parts ≤ 15 then (match parseAll t.length r with | none => none | some es => some (e :: es)) else none)
        cases q : parseE 6 (x :: t) with
        | none => rfl
        | some p =>
          obtain ⟨e, r⟩ := p
          have hr := (parse_len q).1
          have hr' : r.length < t.length + 1 := hr
          have ht : t.length + 1 ≤ n + 1 := h
          show (if e.parts ≤ 15 then (match parseAll n r with | none => none | some es => some (e :: es)) else none) = (if e.parts ≤ 15 then (match parseAll t.length r with | none => none | some es => some (e :: es)) else none)
          rw [ih n (by omega) r (by omega)]
          by_cases c : t.length = n
          · rw [c, ih n (by omega) r (by omega)]
          · rw [ih t.length (by omega) r (by omega)]
/-- the words from here on, in one step -/
theorem parseAll_step {x : Str} {t : List Str} : parseAll (x :: t).length (x :: t) = (match parseE 6 (x :: t) with | none => none | some (e, r) => if e.parts ≤ 15 then (match parseAll r.length r with | none => none | some es => some (e :: es)) else none) := by
  show (match parseE 6 (x :: t) with | none => none | some (e, r) => if e.parts ≤ 15 then (match parseAll t.length r with | none => none | some es => some (e :: es)) else none) = _
  cases q : parseE 6 (x :: t) with
  | none => rfl
  | some p =>
    obtain ⟨e, r⟩ := p
    have hr := (parse_len q).1
    have hr' : r.length < t.length + 1 := hr
    show (if e.parts ≤ 15 then (match parseAll t.length r with | none => none | some es => some (e :: es)) else none) = (if e.parts ≤ 15 then (match parseAll r.length r with | none => none | some es => some (e :: es)) else none)
    rw [parseAll_fuel t.length r (by omega)]
def after (es : List Ex) : Option (List Ex) → Option (List Ex)
  | none => none
  | some fs => some (es ++ fs)

theorem objE_upd {c : EC} {H : Hp} {l : Addr} {xs ys : List V} (h : H l = some (.lst xs)) : ∀ {e : Ex} {v : V}, ObjE c H e v → ObjE c (upd H l (.lst ys)) e v
  | .num n, v, ⟨p, dx, h1, h2⟩ => ⟨p, dx, h1, by rw [upd_ne (ne_of h2 h (by intro z; cases z))]; exact h2⟩
  | .box n, v, ⟨p, dx, h1, h2⟩ => ⟨p, dx, h1, by rw [upd_ne (ne_of h2 h (by intro z; cases z))]; exact h2⟩
  | .cell e, v, ⟨p, dx, i, h1, h2, h3⟩ => ⟨p, dx, i, h1, by rw [upd_ne (ne_of h2 h (by intro z; cases z))]; exact h2, objE_upd h h3⟩
  | .two w l r, v, ⟨p, dx, a, b, h1, h2, h3, h4⟩ => ⟨p, dx, a, b, h1, by rw [upd_ne (ne_of h2 h (by intro z; cases z))]; exact h2, objE_upd h h3, objE_upd h h4⟩
theorem allE_upd {c : EC} {H : Hp} {l : Addr} {xs ys : List V} (h : H l = some (.lst xs)) : ∀ {es : List Ex} {vs : List V}, AllE c H es vs → AllE c (upd H l (.lst ys)) es vs
  | _, _, .nil => .nil
  | _, _, .cons a b => .cons (objE_upd h a) (allE_upd h b)
theorem allE_snoc_upd {c : EC} {H : Hp} {l : Addr} {xs ys : List V} {e : Ex} {v : V} {es : List Ex} {vs : List V} (h : H l = some (.lst xs)) (a : AllE c H es vs) (o : ObjE c H e v) : AllE c (upd H l (.lst ys)) (es ++ [e]) (vs ++ [v]) := (allE_upd h a).snoc (objE_upd h o)

theorem joinL_len : ∀ L : List (List Nat), L.length ≤ (joinL [32] L).length + 1 ∧ ∀ p ∈ L, p.length ≤ (joinL [32] L).length
  | [] => ⟨Nat.zero_le _, fun _ h => by cases h⟩
  | [x] => ⟨by simp, fun p h => by rw [List.mem_singleton.mp h]; exact Nat.le_refl _⟩
  | x :: y :: r => by
    have ih := joinL_len (y :: r)
    have e : joinL [32] (x :: y :: r) = x ++ ([32] ++ joinL [32] (y :: r)) := rfl
    rw [e, List.length_append, List.length_append]
    refine ⟨by have := ih.1; simp only [List.length_cons, List.length_nil] at this ⊢; omega, fun p h => ?_⟩
    rcases List.mem_cons.mp h with rfl | h
    · omega
    · have := ih.2 p h; omega
theorem split_small {s : Str} (h : s.length ≤ 100000 - 1) : (Txt.split s " ").length ≤ 100000 ∧ ∀ p ∈ Txt.split s " ", p.length ≤ 100000 := by
  have e := PySem.StrLaws.join_split s (Str.ofString " ")
  have e2 := congrArg tl e
  have b : tl (Str.ofString " ") = [32] := by decide +kernel
  rw [tl_join, b] at e2
  have q := joinL_len ((Txt.split s (Str.ofString " ")).map tl)
  rw [e2, List.length_map, ← len_tl s] at q
  refine ⟨by have := q.1; omega, fun p hp => ?_⟩
  have := q.2 (tl p) (List.mem_map.mpr ⟨p, hp, rfl⟩)
  rw [← len_tl p] at this
  omega

/-- all([sign in F for sign in s]) -/
theorem rd_all {K : PySem.W.Frag} {σ : St} {H : Hp} {s F : Str} {f : Nat → Bool} {Q : VK} {i j : Nat} (hi : σ[i]? = some (some (.str s))) (hj : j < σ.length) (hn : j ≠ i) (hl : s.length ≤ 16000000) (hf : ∀ c, decide (c ∈ F.cps.toList) = f c)
    (q : ∀ H', Same H H' → Q (.bl ((tl s).all f)) H') :
    tCB (rAll K) (tCons (tLc (iStr (tVar i)) (gName j) tYes (tOp (fun x y H Q => ∃ (c : Nat) (z : Str), x = .str ⟨#[c]⟩ ∧ y = .str z ∧ Q (.bl (decide (c ∈ z.cps.toList))) H) (tVar j) (tC (.str F))) [j]) tNil) σ H Q := by
  refine ⟨_, hi, s, rfl, fun D hD => lc_it walk_str (fun k H' => H' D = some (.lst ((((tl s).take k).map f).map V.bl)) ∧ Same H H') ⟨by rw [upd_same]; rfl, same_new hD⟩ (fun _ _ _ _ => trivial) ?_ ?_⟩
  · rintro k x H1 H2 hk ⟨h1, h2⟩ ⟨rfl, c, hc, rfl⟩
    have hjl : (wipe σ [j]).length = σ.length := wipe_length _ _
    refine ⟨by show ((σ.set j none).set j _).set j none = _; simp [wipe], ?_⟩
    refine ⟨_, by rw [List.getElem?_set_self (by rw [hjl]; exact hj)], c, F, rfl, rfl, ?_⟩
    have hs : k < (tl s).length := by
      have : s.cps.size = (tl s).length := by simp [tl]
      omega
    refine ⟨_, h1, ?_, ?_⟩
    · rw [List.length_map, List.length_map]
      have : s.length = (tl s).length := len_tl s
      refine Nat.lt_of_le_of_lt (List.length_take_le _ _) (by show k < 16777216; omega)
    · refine ⟨?_, fun b o e => ?_⟩
      · rw [upd_same]
        have e1 : (tl s)[k]? = some c := by rw [← hc]; simp [tl]
        rw [List.take_add_one, e1, hf c]
        simp
      · rw [upd_ne (ne_of_none e hD)]
        exact h2 b o e
  · rintro H' ⟨h1, h2⟩
    have hs : s.cps.size = (tl s).length := by simp [tl]
    rw [hs, List.take_length] at h1
    refine ⟨D, _, rfl, SqL.of h1, ?_⟩
    have e : ((tl s).map f).all id = (tl s).all f := by rw [List.all_map]; rfl
    rw [e]
    exact q H' h2

def spCell (K : PySem.W.Frag) : Sp := fun vs H Q _ => ∃ (a : Addr) (ns : List Int) (k : Int), vs = [.ref a, .int k] ∧ SqL K H a (ns.map V.int) ∧ 0 ≤ k ∧ ∀ n : Int, Q (.int n) H
/-- two ints go in, some int comes out -/
def spI2 : Sp := fun vs H Q _ => ∃ (a b : Int), vs = [.int a, .int b] ∧ ∀ n : Int, Q (.int n) H
def WellAt (H : Hp) (p : Addr) : Prop := ∃ a b c d : Int, H p = some (.lst [.int a, .int b, .int c, .int d])
def spWell (K : PySem.W.Frag) : Sp := fun vs H Q _ => ∃ (a : Addr) (ns : List Int) (k : Int), vs = [.ref a, .int k] ∧ SqL K H a (ns.map V.int) ∧ 0 ≤ k ∧ ∀ p H', H p = none → Same H H' → WellAt H' p → Q (.ref p) H'
def spDraw : Sp := fun vs H Q _ => ∃ (p : Addr) (m : Int), vs = [.ref p, .int m] ∧ WellAt H p ∧ 0 < m ∧ m ≤ 1000000 ∧ ∀ (n : Int) H', 0 ≤ n → n < m → KeepX p H H' → WellAt H' p → Q (.int n) H'
theorem at_int {ns : List Int} {k : Int} (h0 : 0 ≤ k) (h : k < (ns.length : Int)) : ∃ v : Int, atI (ns.map V.int) k = some (.int v) := by
  have hk : k.toNat < ns.length := by omega
  have ek : k = ((k.toNat : Nat) : Int) := by omega
  have q : atI (ns.map V.int) ((k.toNat : Nat) : Int) = some (.int ns[k.toNat]) := atI_nat (by rw [List.getElem?_map, List.getElem?_eq_getElem hk] <;> rfl)
  rw [← ek] at q
  exact ⟨_, q⟩
theorem mod64 {x y : Int} : CMul (x % 2147483647) y := Or.inl ⟨by omega, by omega⟩
theorem WellAt.ne {H : Hp} {p t : Addr} (W : WellAt H p) {o : HO} (h : H t = some o) (no : ∀ xs, o ≠ .lst xs) : t ≠ p := fun e => by
  obtain ⟨a, b, c, d, w⟩ := W
  rw [e, w] at h
  exact no _ (Option.some.inj h).symm
theorem KeepX.tup {p : Addr} {H H' : Hp} (k : KeepX p H H') (W : WellAt H p) {t : Addr} {xs : List V} (h : H t = some (.tup xs)) : H' t = some (.tup xs) := k _ _ (W.ne h (by intro _ e; cases e)) h
theorem WellAt.fresh {H : Hp} {p q : Addr} (W : WellAt H p) (h : H q = none) : q ≠ p := fun e => by
  obtain ⟨_, _, _, _, w⟩ := W
  rw [← e, h] at w; cases w
theorem WellAt.same {H H' : Hp} {p : Addr} (s : Same H H') : WellAt H p → WellAt H' p := fun ⟨a, b, c, d, w⟩ => ⟨a, b, c, d, s _ _ w⟩
/-- f i for all i below n -/
def seqV (f : Nat → V) (n : Nat) : List V := (List.range n).map f
theorem seqV_succ (f : Nat → V) (n : Nat) : seqV f (n + 1) = seqV f n ++ [f n] := by
  unfold seqV
  rw [List.range_succ, List.map_append]; rfl
theorem seqV_length (f : Nat → V) (n : Nat) : (seqV f n).length = n := by unfold seqV; rw [List.length_map, List.length_range]
/-- [e(x) for x in w]: each e gives a value that is known ahead -/
theorem lc_map {J : It} {n : Nat} {G : Hp → Prop} {Y : Nat → Hp → V → Hp → Prop} (w : Walk J n G Y) (f : Nat → V) {j : Nat} {te : TE} {σ : St} {H1 : Hp} {D : Addr} {Qd : Hp → Prop} (hD : H1 D = none) (hn : n < 16777216) (hj : j < σ.length)
    (hG : ∀ H, Same H1 H → G H) (hY : ∀ i H x H', Y i H x H' → H' = H)
    (step : ∀ i x H (Z : VK), i < n → Same H1 H → Y i H x H → (∀ H', Same H H' → Z (f i) H') → te ((σ.set j none).set j (some x)) H Z)
    (hd : ∀ H, Same H1 H → H D = some (.lst (seqV f n)) → Qd H) :
    ∃ W : Nat → Nat → Hp → Prop, (∃ m, W 0 m (upd H1 D (.lst []))) ∧ ∀ i m H, W i m H →
      (J.stop i H ∧ Qd H) ∨ (J.go i H ∧ ∃ Nx : Hp → Prop, (∀ H', Nx H' → ∃ m', m' < m ∧ W (i + 1) m' H') ∧ ∀ x H', J.yld i H x H' → gName j x (wipe σ [j]) H' fun σ2 H2 => wipe σ2 [j] = wipe σ [j] ∧ tYes σ2 H2 fun b H3 =>
        if b = true then te σ2 H3 fun y H4 => ∃ acc, H4 D = some (.lst acc) ∧ acc.length < sizeLine ∧ Nx (upd H4 D (.lst (acc ++ [y]))) else Nx H3) := by
  refine lc_it w (fun i H => H D = some (.lst (seqV f i)) ∧ Same H1 H) ⟨upd_same, same_new hD⟩ (fun i H _ h => hG H h.2) ?_ fun H h => hd H h.2 h.1
  rintro i x H H2 hi ⟨h1, h2⟩ y
  have e := hY _ _ _ _ y
  subst e
  have hw : wipe ((wipe σ [j]).set j (some x)) [j] = wipe σ [j] := by
    show ((σ.set j none).set j (some x)).set j none = σ.set j none
    simp
  refine ⟨hw, ?_⟩
  refine step i x _ _ hi h2 y fun H3 s3 => ⟨_, s3 _ _ h1, ?_, ?_⟩
  · rw [seqV_length]; exact Nat.lt_of_lt_of_le (Nat.lt_trans hi hn) (by decide)
  · refine ⟨by rw [upd_same, seqV_succ], fun b o hb => ?_⟩
    rw [upd_ne (ne_of_none hb hD)]
    exact s3 _ _ (h2 b o hb)
theorem at_strs {ss : List Str} {n : Int} (h0 : 0 ≤ n) (h1 : n < (ss.length : Int)) : ∃ s ∈ ss, atI (ss.map V.str) n = some (.str s) := by
  have hk : n.toNat < ss.length := by omega
  have ek : n = ((n.toNat : Nat) : Int) := by omega
  have q : atI (ss.map V.str) ((n.toNat : Nat) : Int) = some (.str ss[n.toNat]) := atI_nat (by rw [List.getElem?_map, List.getElem?_eq_getElem hk] <;> rfl)
  rw [← ek] at q
  exact ⟨_, List.getElem_mem hk, q⟩
/-- one proof for a goal that is asked more than once -/
theorem twice_asked {A B : Prop} (b : B) (f : B → A) : A := f b
def spValue : Sp := fun vs H Q _ => ∃ (p : Addr), vs = [.ref p] ∧ WellAt H p ∧ ∀ (n : Int) H', 0 ≤ n → n < 1000000 → KeepX p H H' → WellAt H' p → Q (.int n) H'
def spName : Sp := fun vs H Q _ => ∃ (p : Addr), vs = [.ref p] ∧ WellAt H p ∧ ∀ (s : Str) H', isNameW s = true → KeepX p H H' → WellAt H' p → Q (.str s) H'

/-! ### lists that go together -/
inductive All2 {α β : Type} (R : α → β → Prop) : List α → List β → Prop where
  | nil : All2 R [] []
  | cons {a : α} {b : β} {as : List α} {bs : List β} : R a b → All2 R as bs → All2 R (a :: as) (b :: bs)
theorem All2.length {α β : Type} {R : α → β → Prop} : ∀ {as : List α} {bs : List β}, All2 R as bs → as.length = bs.length
  | _, _, .nil => rfl
  | _, _, .cons _ h => congrArg (· + 1) h.length
theorem All2.mono {α β : Type} {R S : α → β → Prop} (f : ∀ a b, R a b → S a b) : ∀ {as : List α} {bs : List β}, All2 R as bs → All2 S as bs
  | _, _, .nil => .nil
  | _, _, .cons h t => .cons (f _ _ h) (t.mono f)
theorem All2.mono_mem {α β : Type} {R S : α → β → Prop} : ∀ {as : List α} {bs : List β}, (∀ a b, a ∈ as → b ∈ bs → R a b → S a b) → All2 R as bs → All2 S as bs
  | _, _, _, .nil => .nil
  | _, _, f, .cons h t => .cons (f _ _ List.mem_cons_self List.mem_cons_self h) (t.mono_mem fun a b ha hb => f a b (List.mem_cons_of_mem _ ha) (List.mem_cons_of_mem _ hb))
theorem All2.snoc {α β : Type} {R : α → β → Prop} {a : α} {b : β} (h : R a b) : ∀ {as : List α} {bs : List β}, All2 R as bs → All2 R (as ++ [a]) (bs ++ [b])
  | _, _, .nil => .cons h .nil
  | _, _, .cons g t => .cons g (t.snoc h)
theorem All2.at {α β : Type} {R : α → β → Prop} : ∀ {as : List α} {bs : List β} {i : Nat} {b : β}, All2 R as bs → bs[i]? = some b → ∃ a, as[i]? = some a ∧ R a b
  | _, _, 0, _, .cons h _, e => ⟨_, rfl, by cases e; exact h⟩
  | _, _, i + 1, _, .cons _ t, e => t.at (i := i) e
  | _, _, _, _, .nil, e => by simp at e
theorem All2.at2 {α β : Type} {R : α → β → Prop} : ∀ {as : List α} {bs : List β} {i : Nat} {a : α}, All2 R as bs → as[i]? = some a → ∃ b, bs[i]? = some b ∧ R a b
  | _, _, 0, _, .cons h _, e => ⟨_, rfl, by cases e; exact h⟩
  | _, _, i + 1, _, .cons _ t, e => t.at2 (i := i) e
  | _, _, _, _, .nil, e => by simp at e
theorem ints_of : ∀ {ys : List V} {P : Int → Prop}, (∀ y ∈ ys, ∃ n, y = V.int n ∧ P n) → ∃ ns : List Int, ys = ns.map V.int ∧ (∀ n ∈ ns, P n) ∧ ns.length = ys.length
  | [], _, _ => ⟨[], rfl, (fun _ h => by cases h), rfl⟩
  | y :: r, P, h => by
    obtain ⟨n, e, hn⟩ := h y List.mem_cons_self
    obtain ⟨ns, e2, hs, hl⟩ := ints_of (ys := r) fun z hz => h z (List.mem_cons_of_mem _ hz)
    refine ⟨n :: ns, by rw [e, e2]; rfl, fun z hz => ?_, congrArg (· + 1) hl⟩
    rcases List.mem_cons.mp hz with rfl | hz
    · exact hn
    · exact hs z hz
theorem strs_of : ∀ {ys : List V} {P : Str → Prop}, (∀ y ∈ ys, ∃ n, y = V.str n ∧ P n) → ∃ ns : List Str, ys = ns.map V.str ∧ (∀ n ∈ ns, P n) ∧ ns.length = ys.length
  | [], _, _ => ⟨[], rfl, (fun _ h => by cases h), rfl⟩
  | y :: r, P, h => by
    obtain ⟨n, e, hn⟩ := h y List.mem_cons_self
    obtain ⟨ns, e2, hs, hl⟩ := strs_of (ys := r) fun z hz => h z (List.mem_cons_of_mem _ hz)
    refine ⟨n :: ns, by rw [e, e2]; rfl, fun z hz => ?_, congrArg (· + 1) hl⟩
    rcases List.mem_cons.mp hz with rfl | hz
    · exact hn
    · exact hs z hz
/-- where a list may go on being written: nothing else moves -/
def LcGoal (J : It) (D : Addr) (te : TE) (j : Nat) (σ : St) (H1 : Hp) (Qd : Hp → Prop) : Prop :=
    ∃ W : Nat → Nat → Hp → Prop, (∃ m, W 0 m (upd H1 D (.lst []))) ∧ ∀ i m H, W i m H →
      (J.stop i H ∧ Qd H) ∨ (J.go i H ∧ ∃ Nx : Hp → Prop, (∀ H', Nx H' → ∃ m', m' < m ∧ W (i + 1) m' H') ∧ ∀ x H', J.yld i H x H' → gName j x (wipe σ [j]) H' fun σ2 H2 => wipe σ2 [j] = wipe σ [j] ∧ tYes σ2 H2 fun b H3 =>
        if b = true then te σ2 H3 fun y H4 => ∃ acc, H4 D = some (.lst acc) ∧ acc.length < sizeLine ∧ Nx (upd H4 D (.lst (acc ++ [y]))) else Nx H3)
theorem seqV_map {α : Type} (f : α → V) (d : α) (xs : List α) : seqV (fun i => f (xs.getD i d)) xs.length = xs.map f := by
  unfold seqV
  refine List.ext_getElem (by rw [List.length_map, List.length_map, List.length_range]) fun i h1 h2 => ?_
  rw [List.getElem_map, List.getElem_map, List.getElem_range]
  have : i < xs.length := by rw [List.length_map] at h2; exact h2
  rw [List.getD_eq_getElem?_getD, List.getElem?_eq_getElem this]
  rfl
/-- [f(x) for x in xs], known ahead -/
theorem lc_mapA {α : Type} (xs : List α) (g f : α → V) (d : α) {J : It} {G : Hp → Prop} {j : Nat} {te : TE} {σ : St} {H1 : Hp} {D : Addr} {Qd : Hp → Prop} (w : Walk J (xs.map g).length G (YAt (xs.map g))) (hD : H1 D = none) (hn : xs.length < 16777216) (hj : j < σ.length)
    (hG : ∀ H, Same H1 H → G H)
    (step : ∀ a ∈ xs, ∀ H (Z : VK), Same H1 H → (∀ H', Same H H' → Z (f a) H') → te ((σ.set j none).set j (some (g a))) H Z)
    (hd : ∀ H, Same H1 H → H D = some (.lst (xs.map f)) → Qd H) : LcGoal J D te j σ H1 Qd := by
  refine lc_map w (fun i => f (xs.getD i d)) hD (by rw [List.length_map]; exact hn) hj hG (fun _ _ _ _ y => y.1) ?_ fun H s h => hd H s ?_
  · rintro i x H Z hi s ⟨_, hx⟩ z
    rw [List.length_map] at hi
    have e : xs[i]? = some (xs.getD i d) := by rw [List.getD_eq_getElem?_getD, List.getElem?_eq_getElem hi]; rfl
    rw [List.getElem?_map, e] at hx
    cases hx
    exact step _ (List.mem_of_getElem? e) H Z s z
  · rw [h, List.length_map, seqV_map]
/-- [e for x in xs]: what each gives stands in R to its x -/
theorem lc_rel {H1 : Hp} {D : Addr} {α : Type} (xs : List α) {β : α → V → Prop} (R : Hp → α → V → Prop) {ws : List V} (hw : All2 β xs ws) (mono : ∀ H H' a y, Same H H' → R H a y → R H' a y) (lst : ∀ H a y ys ys', R H a y → H D = some (.lst ys) → R (upd H D (.lst ys')) a y) {J : It} {G : Hp → Prop} {j : Nat} {te : TE} {σ : St} {Qd : Hp → Prop} (w : Walk J ws.length G (YAt ws)) (hD : H1 D = none) (hn : xs.length < 16777216) (hj : j < σ.length)
    (hG : ∀ H, Same H1 H → G H)
    (step : ∀ a v, a ∈ xs → v ∈ ws → β a v → ∀ H (Z : VK), Same H1 H → (∃ ys, H D = some (.lst ys)) → (∀ H' y, Same H H' → R H' a y → Z y H') → te ((σ.set j none).set j (some v)) H Z)
    (hd : ∀ H ys, Same H1 H → All2 (R H) xs ys → H D = some (.lst ys) → Qd H) : LcGoal J D te j σ H1 Qd := by
  refine lc_it w (fun i H => ∃ ys, H D = some (.lst ys) ∧ Same H1 H ∧ All2 (R H) (xs.take i) ys) ⟨[], upd_same, same_new hD, by rw [List.take_zero]; exact .nil⟩ (fun i H _ h => hG H h.choose_spec.2.1) ?_ fun H ⟨ys, h1, h2, h3⟩ => hd H ys h2 (by rw [← hw.length, List.take_length] at h3; exact h3) h1
  rintro i v H H2 hi ⟨ys, h1, h2, h3⟩ ⟨e, hv⟩
  subst e
  have hw2 : wipe ((wipe σ [j]).set j (some v)) [j] = wipe σ [j] := by
    show ((σ.set j none).set j (some v)).set j none = σ.set j none
    simp
  refine ⟨hw2, ?_⟩
  obtain ⟨a, ha, hb⟩ := hw.at hv
  have hl := h3.length
  have hi' : i < xs.length := by rw [hw.length]; exact hi
  rw [List.length_take] at hl
  refine step a v (List.mem_of_getElem? ha) (List.mem_of_getElem? hv) hb _ _ h2 ⟨ys, h1⟩ fun H3 y s3 r3 => ⟨ys, s3 _ _ h1, ?_, ?_⟩
  · exact Nat.lt_of_lt_of_le (show ys.length < 16777216 by omega) (by decide)
  · refine ⟨ys ++ [y], upd_same, fun b o hb => ?_, ?_⟩
    · rw [upd_ne (ne_of_none hb hD)]
      exact s3 _ _ (h2 b o hb)
    · rw [List.take_add_one, ha]
      show All2 _ (xs.take i ++ [a]) _
      exact (h3.mono fun a' y' h => lst _ _ _ _ _ (mono _ _ _ _ s3 h) (s3 _ _ h1)).snoc (lst _ _ _ _ _ r3 (s3 _ _ h1))
/-- [e for k in ..], each e drawn at the well p: what each gives is P -/
theorem lc_drawn {J : It} {n : Nat} {G : Hp → Prop} {Y : Nat → Hp → V → Hp → Prop} (w : Walk J n G Y) (P : V → Prop) {p : Addr} {j : Nat} {te : TE} {σ : St} {H1 : Hp} {D : Addr} {Qd : Hp → Prop} (W : WellAt H1 p) (hD : H1 D = none) (hn : n < 16777216) (hj : j < σ.length)
    (hG : ∀ H, G H) (hY : ∀ i H x H', Y i H x H' → H' = H)
    (step : ∀ i x H (Z : VK), i < n → KeepX p H1 H → WellAt H p → Y i H x H → (∀ H' y, KeepX p H H' → WellAt H' p → P y → Z y H') → te ((σ.set j none).set j (some x)) H Z)
    (hd : ∀ H ys, KeepX p H1 H → WellAt H p → ys.length = n → (∀ y ∈ ys, P y) → H D = some (.lst ys) → Qd H) : LcGoal J D te j σ H1 Qd := by
  have npD : D ≠ p := fun e => by obtain ⟨_, _, _, _, w⟩ := W; rw [← e, hD] at w; cases w
  refine lc_it w (fun i H => ∃ ys, H D = some (.lst ys) ∧ KeepX p H1 H ∧ WellAt H p ∧ ys.length = i ∧ ∀ y ∈ ys, P y) ⟨[], upd_same, keepX_of (same_new hD), W.same (same_new hD), rfl, fun _ h => by cases h⟩ (fun i H _ _ => hG H) ?_ fun H ⟨ys, h1, h2, h3, h4, h5⟩ => hd H ys h2 h3 h4 h5 h1
  rintro i v H H2 hi ⟨ys, h1, h2, h3, h4, h5⟩ y
  have e := hY _ _ _ _ y
  subst e
  have hw2 : wipe ((wipe σ [j]).set j (some v)) [j] = wipe σ [j] := by
    show ((σ.set j none).set j (some v)).set j none = σ.set j none
    simp
  refine ⟨hw2, ?_⟩
  refine step i v _ _ hi h2 h3 y fun H3 z k3 W3 pz => ⟨ys, k3 _ _ npD h1, ?_, ?_⟩
  · exact Nat.lt_of_lt_of_le (show ys.length < 16777216 by omega) (by decide)
  · refine ⟨ys ++ [z], upd_same, fun b o nb hb => ?_, ?_, by rw [List.length_append, h4]; rfl, fun y hy => ?_⟩
    · rw [upd_ne (ne_of_none hb hD)]
      exact k3 _ _ nb (h2 b o nb hb)
    · obtain ⟨a, b, c, d, w⟩ := W3
      exact ⟨a, b, c, d, by rw [upd_ne npD.symm]; exact w⟩
    · rcases List.mem_append.mp hy with h | h
      · exact h5 y h
      · rw [List.mem_singleton.mp h]; exact pz

def SOMEN : List Str := ["a", "b", "i", "zz", "iff", "en", "cells", "giver", "mainly", "lesss", "sets", "whil"]
def BAD1 : List Str := ["if", "end", "ask", "set", "put", "fun", "main", "else", "skip", "draw", "tell", "call", "give"]
def BAD2 : List Str := ["cell", "plus", "over", "rest", "less", "same", "while", "minus", "times"]
theorem someN_ok : ∀ s ∈ SOMEN, isNameW s = true := by decide +kernel
theorem bad1_ok : ∀ s ∈ BAD1, isNameW (s ++ Str.ofString "x") = true ∧ s.length ≤ 6 := by decide +kernel
theorem bad2_ok : ∀ s ∈ BAD2, isNameW (Str.ofString "x" ++ s) = true ∧ s.length ≤ 6 := by decide +kernel
theorem words_bad : ∀ s ∈ PAIRW ++ (ROWW ++ OTHW), s ∈ BAD1 ∨ s ∈ BAD2 := by decide +kernel
/-- the k-th letter -/
theorem letter_at {n : Int} (h0 : 0 ≤ n) (h1 : n < 26) : ∃ c : Nat, atI (tl (Str.ofString "abcdefghijklmnopqrstuvwxyz")) n = some c ∧ 97 ≤ c ∧ c ≤ 122 := by
  have e : tl (Str.ofString "abcdefghijklmnopqrstuvwxyz") = (List.range 26).map (97 + ·) := by decide +kernel
  have hk : n.toNat < 26 := by omega
  have ek : n = ((n.toNat : Nat) : Int) := by omega
  rw [e, ek]
  refine ⟨97 + n.toNat, atI_nat ?_, by omega, by omega⟩
  rw [List.getElem?_map, List.getElem?_range hk]
  rfl
theorem name_of {s : Str} (h1 : 1 ≤ (tl s).length) (h2 : (tl s).length ≤ 6) (h3 : ∀ c ∈ tl s, 97 ≤ c ∧ c ≤ 122) (h4 : s ∉ BAD1) (h5 : s ∉ BAD2) : isNameW s = true := by
  have no : ∀ l : List Str, (∀ x ∈ l, x ∈ PAIRW ++ (ROWW ++ OTHW)) → s ∉ l := fun l hl hs => by
    rcases words_bad s (hl s hs) with h | h
    · exact h4 h
    · exact h5 h
  rw [nameW_true h1 h2 (no _ fun x hx => List.mem_append_left _ hx) (no _ fun x hx => List.mem_append_right _ (List.mem_append_left _ hx)) (no _ fun x hx => List.mem_append_right _ (List.mem_append_right _ hx))]
  refine List.all_eq_true.mpr fun c hc => ?_
  have := h3 c hc
  unfold isLow
  simp only [Bool.and_eq_true, decide_eq_true_eq]
  exact this

/-! ### told tuples of the law -/
theorem ToldE.keep {K : PySem.W.Frag} {p : Addr} {H H' : Hp} (k : KeepX p H H') (W : WellAt H p) : ∀ {e : Ex} {v : V}, ToldE K H e v → ToldE K H' e v
  | .num n, v, ⟨t, h1, h2⟩ => ⟨t, h1, k.tup W h2⟩
  | .box n, v, ⟨t, h1, h2⟩ => ⟨t, h1, k.tup W h2⟩
  | .cell e, v, ⟨t, i, h1, h2, h3⟩ => ⟨t, i, h1, k.tup W h2, ToldE.keep k W h3⟩
  | .two w l r, v, ⟨t, a, b, h1, h2, h3, h4⟩ => ⟨t, a, b, h1, k.tup W h2, ToldE.keep k W h3, ToldE.keep k W h4⟩
theorem in_num : inV (.str "number") [.str "number", .str "box"] = true := by decide +kernel
theorem in_box : inV (.str "box") [.str "number", .str "box"] = true := by decide +kernel
theorem in_cell : inV (.str "cell") [.str "number", .str "box"] = false := by decide +kernel
theorem in_pair {w : Str} (h : w ∈ PAIRW) : inV (.str w) [.str "number", .str "box"] = false := by
  have : ∀ w ∈ PAIRW, inV (.str w) [.str "number", .str "box"] = false := by decide +kernel
  exact this w h
theorem pair_ne {w : Str} (h : w ∈ PAIRW) : w ≠ "number" ∧ w ≠ "box" ∧ w ≠ "cell" := by
  have : ∀ w ∈ PAIRW, w ≠ "number" ∧ w ≠ "box" ∧ w ≠ "cell" := by decide +kernel
  exact this w h
def rStrAny : List V → Hp → VK → Prop := fun xs H Q => (∃ i, xs = [.int i] ∧ i.natAbs.log2 < 1920 ∧ Q (.str (toString i)) H) ∨ (∃ a, xs = [.str a] ∧ Q (.str a) H)
theorem call_str_any {X : Cx} : CallR X (.type "str") rStrAny := by
  intro pins s σ H xs us Q I r h
  rcases h with h | h
  · exact call_str_int pins s σ H xs us Q I r h
  · exact SkE.call_str_str pins s σ H xs us Q I r h
theorem sizeL2 {n : Nat} (h : n ≤ 16777216) : n ≤ sizeLine := Nat.le_trans h (by decide)
def spLParts (K : PySem.W.Frag) (n : Nat) : Sp := fun vs H Q _ => ∃ (e : Ex) (v : V), vs = [v] ∧ ToldE K H e v ∧ e.Wf ∧ e.depth ≤ n ∧ ∀ H', Same H H' → Q (.int e.parts) H'
def spLWords (K : PySem.W.Frag) (n : Nat) : Sp := fun vs H Q _ => ∃ (e : Ex) (v : V), vs = [v] ∧ ToldE K H e v ∧ e.Wf ∧ e.parts ≤ 1000 ∧ e.depth ≤ n ∧ ∀ H', Same H H' → Q (.str e.text) H'
def spLExpr (K : PySem.W.Frag) (n : Nat) : Sp := fun vs H Q _ => ∃ (p : Addr) (d m : Int), vs = [.ref p, .int d, .int m] ∧ WellAt H p ∧ 1 ≤ d ∧ d ≤ n ∧ n ≤ 8 ∧ 1 ≤ m ∧ ∀ e v H', e.Wf → (e.depth : Int) ≤ d → (e.parts : Int) ≤ m → ToldE K H' e v → KeepX p H H' → WellAt H' p → Q v H'
theorem text_cell (e : Ex) : Txt.join (Str.ofString " ") [Str.ofString "cell", e.text] = (Ex.cell e).text := by
  refine ext_tl ?_
  have b : tl (Str.ofString " ") = [32] := by decide +kernel
  have c1 : tl (Str.ofString "cell ") = tl (Str.ofString "cell") ++ [32] := by decide +kernel
  show _ = tl (Str.ofString "cell " ++ e.text)
  rw [join_eq, tl_join, b, tl_append, c1, List.append_assoc]
  rfl

/-- some lists move, all else stands -/
def KeepL (av : List Addr) (H H' : Hp) : Prop := ∀ q o, q ∉ av → H q = some o → H' q = some o

/-! ### rows -/
inductive RT where
  | skip
  | set (b : Str) (e : Ex)
  | put (a b : Ex)
  | ask (b w : Str) (e : Ex)
  | draw (b w : Str)
  | tell (e : Ex)
  | ifr (e : Ex)
  | loop (e : Ex)
  | call (b f : Str) (es : List Ex)
  | give (e : Ex)
structure RC where
  skip : Addr
  set : Addr
  put : Addr
  ask : Addr
  draw : Addr
  tell : Addr
  ifr : Addr
  loop : Addr
  call : Addr
  give : Addr
def RC.of (c : RC) : RT → Addr
  | .skip => c.skip
  | .set _ _ => c.set
  | .put _ _ => c.put
  | .ask _ _ _ => c.ask
  | .draw _ _ => c.draw
  | .tell _ => c.tell
  | .ifr _ => c.ifr
  | .loop _ => c.loop
  | .call _ _ _ => c.call
  | .give _ => c.give
def RC.Fam (c : RC) (C : Addr) : Prop := ∃ rt, c.of rt = C
def RT.exs : RT → List Ex
  | .skip => []
  | .set _ e => [e]
  | .put a b => [a, b]
  | .ask _ _ e => [e]
  | .draw _ _ => []
  | .tell e => [e]
  | .ifr e => [e]
  | .loop e => [e]
  | .call _ _ es => es
  | .give e => [e]
/-- v is the object of the row rt at line n; the list of what a call gives lies where N says -/
def RowO (c : RC) (ec : EC) (N : Addr → Prop) (H : Hp) (n : Int) : RT → V → Prop
  | .skip, v => ∃ p dx, v = .ref p ∧ H p = some (.ins c.skip dx [("number", .int n)])
  | .set b e, v => ∃ p dx x, v = .ref p ∧ H p = some (.ins c.set dx [("number", .int n), ("box", .str b), ("expr", x)]) ∧ ObjE ec H e x
  | .put a b, v => ∃ p dx x y, v = .ref p ∧ H p = some (.ins c.put dx [("number", .int n), ("first", x), ("second", y)]) ∧ ObjE ec H a x ∧ ObjE ec H b y
  | .ask b w e, v => ∃ p dx x, v = .ref p ∧ H p = some (.ins c.ask dx [("number", .int n), ("box", .str b), ("word", .str w), ("expr", x)]) ∧ ObjE ec H e x
  | .draw b w, v => ∃ p dx, v = .ref p ∧ H p = some (.ins c.draw dx [("number", .int n), ("box", .str b), ("word", .str w)])
  | .tell e, v => ∃ p dx x, v = .ref p ∧ H p = some (.ins c.tell dx [("number", .int n), ("expr", x)]) ∧ ObjE ec H e x
  | .ifr e, v => ∃ p dx x y z, v = .ref p ∧ H p = some (.ins c.ifr dx [("number", .int n), ("test", x), ("first", y), ("second", z)]) ∧ ObjE ec H e x
  | .loop e, v => ∃ p dx x y, v = .ref p ∧ H p = some (.ins c.loop dx [("number", .int n), ("test", x), ("body", y)]) ∧ ObjE ec H e x
  | .call b f es, v => ∃ p dx l os, v = .ref p ∧ H p = some (.ins c.call dx [("number", .int n), ("box", .str b), ("fun", .str f), ("given", .ref l)]) ∧ N l ∧ H l = some (.lst os) ∧ AllE ec H es os
  | .give e, v => ∃ p dx x, v = .ref p ∧ H p = some (.ins c.give dx [("number", .int n), ("expr", x)]) ∧ ObjE ec H e x
theorem RowO.at {c : RC} {ec : EC} {N : Addr → Prop} {H : Hp} {n : Int} : ∀ {rt : RT} {v : V}, RowO c ec N H n rt v → ∃ p dx fs, v = .ref p ∧ H p = some (.ins (c.of rt) dx fs) ∧ List.lookup ("told" : Str) fs = none ∧ List.lookup ("number" : Str) fs = some (V.int n)
  | .skip, v, ⟨p, dx, h1, h2⟩ => ⟨p, dx, _, h1, h2, rfl, rfl⟩
  | .set _ _, v, ⟨p, dx, _, h1, h2, _⟩ => ⟨p, dx, _, h1, h2, rfl, rfl⟩
  | .put _ _, v, ⟨p, dx, _, _, h1, h2, _⟩ => ⟨p, dx, _, h1, h2, rfl, rfl⟩
  | .ask _ _ _, v, ⟨p, dx, _, h1, h2, _⟩ => ⟨p, dx, _, h1, h2, rfl, rfl⟩
  | .draw _ _, v, ⟨p, dx, h1, h2⟩ => ⟨p, dx, _, h1, h2, rfl, rfl⟩
  | .tell _, v, ⟨p, dx, _, h1, h2, _⟩ => ⟨p, dx, _, h1, h2, rfl, rfl⟩
  | .ifr _, v, ⟨p, dx, _, _, _, h1, h2, _⟩ => ⟨p, dx, _, h1, h2, rfl, rfl⟩
  | .loop _, v, ⟨p, dx, _, _, h1, h2, _⟩ => ⟨p, dx, _, h1, h2, rfl, rfl⟩
  | .call _ _ _, v, ⟨p, dx, _, _, h1, h2, _⟩ => ⟨p, dx, _, h1, h2, rfl, rfl⟩
  | .give _, v, ⟨p, dx, _, h1, h2, _⟩ => ⟨p, dx, _, h1, h2, rfl, rfl⟩
/-- a move of the heap that leaves objects of the expressions' and rows' classes, and the lists that N tells -/
def KeepI (cs : Addr → Prop) (N : Addr → Prop) (H H' : Hp) : Prop := (∀ q C dx fs, cs C → H q = some (.ins C dx fs) → H' q = some (.ins C dx fs)) ∧ ∀ l xs, N l → H l = some (.lst xs) → H' l = some (.lst xs)
theorem ObjE.keepI {c : EC} {cs N : Addr → Prop} {H H' : Hp} (k : KeepI cs N H H') (hc : ∀ C, c.Fam C → cs C) : ∀ {e : Ex} {v : V}, ObjE c H e v → ObjE c H' e v
  | .num n, v, ⟨p, dx, h1, h2⟩ => ⟨p, dx, h1, k.1 _ _ _ _ (hc _ (.inl rfl)) h2⟩
  | .box n, v, ⟨p, dx, h1, h2⟩ => ⟨p, dx, h1, k.1 _ _ _ _ (hc _ (.inr (.inl rfl))) h2⟩
  | .cell e, v, ⟨p, dx, i, h1, h2, h3⟩ => ⟨p, dx, i, h1, k.1 _ _ _ _ (hc _ (.inr (.inr (.inl rfl)))) h2, ObjE.keepI k hc h3⟩
  | .two w l r, v, ⟨p, dx, a, b, h1, h2, h3, h4⟩ => ⟨p, dx, a, b, h1, k.1 _ _ _ _ (hc _ (.inr (.inr (.inr rfl)))) h2, ObjE.keepI k hc h3, ObjE.keepI k hc h4⟩
theorem AllE.keepI {c : EC} {cs N : Addr → Prop} {H H' : Hp} (k : KeepI cs N H H') (hc : ∀ C, c.Fam C → cs C) : ∀ {es : List Ex} {vs : List V}, AllE c H es vs → AllE c H' es vs
  | _, _, .nil => .nil
  | _, _, .cons a b => .cons (a.keepI k hc) (b.keepI k hc)
theorem RowO.keepI {c : RC} {ec : EC} {cs N : Addr → Prop} {H H' : Hp} (k : KeepI cs N H H') (hc : ∀ C, ec.Fam C → cs C) (hr : ∀ C, c.Fam C → cs C) {n : Int} : ∀ {rt : RT} {v : V}, RowO c ec N H n rt v → RowO c ec N H' n rt v
  | .skip, v, ⟨p, dx, h1, h2⟩ => ⟨p, dx, h1, k.1 _ _ _ _ (hr _ ⟨.skip, rfl⟩) h2⟩
  | .set b e, v, ⟨p, dx, x, h1, h2, h3⟩ => ⟨p, dx, x, h1, k.1 _ _ _ _ (hr _ ⟨.set b e, rfl⟩) h2, h3.keepI k hc⟩
  | .put a b, v, ⟨p, dx, x, y, h1, h2, h3, h4⟩ => ⟨p, dx, x, y, h1, k.1 _ _ _ _ (hr _ ⟨.put a b, rfl⟩) h2, h3.keepI k hc, h4.keepI k hc⟩
  | .ask b w e, v, ⟨p, dx, x, h1, h2, h3⟩ => ⟨p, dx, x, h1, k.1 _ _ _ _ (hr _ ⟨.ask b w e, rfl⟩) h2, h3.keepI k hc⟩
  | .draw b w, v, ⟨p, dx, h1, h2⟩ => ⟨p, dx, h1, k.1 _ _ _ _ (hr _ ⟨.draw b w, rfl⟩) h2⟩
  | .tell e, v, ⟨p, dx, x, h1, h2, h3⟩ => ⟨p, dx, x, h1, k.1 _ _ _ _ (hr _ ⟨.tell e, rfl⟩) h2, h3.keepI k hc⟩
  | .ifr e, v, ⟨p, dx, x, y, z, h1, h2, h3⟩ => ⟨p, dx, x, y, z, h1, k.1 _ _ _ _ (hr _ ⟨.ifr e, rfl⟩) h2, h3.keepI k hc⟩
  | .loop e, v, ⟨p, dx, x, y, h1, h2, h3⟩ => ⟨p, dx, x, y, h1, k.1 _ _ _ _ (hr _ ⟨.loop e, rfl⟩) h2, h3.keepI k hc⟩
  | .call b f es, v, ⟨p, dx, l, os, h1, h2, h3, h4, h5⟩ => ⟨p, dx, l, os, h1, k.1 _ _ _ _ (hr _ ⟨.call b f es, rfl⟩) h2, h3, k.2 _ _ h3 h4, h5.keepI k hc⟩
  | .give e, v, ⟨p, dx, x, h1, h2, h3⟩ => ⟨p, dx, x, h1, k.1 _ _ _ _ (hr _ ⟨.give e, rfl⟩) h2, h3.keepI k hc⟩
theorem keepI_same {cs N : Addr → Prop} {H H' : Hp} (s : Same H H') : KeepI cs N H H' := ⟨fun _ _ _ _ _ h => s _ _ h, fun _ _ _ h => s _ _ h⟩
theorem RowO.same {c : RC} {ec : EC} {N : Addr → Prop} {H H' : Hp} (s : Same H H') {n : Int} {rt : RT} {v : V} (h : RowO c ec N H n rt v) : RowO c ec N H' n rt v :=
  h.keepI (cs := fun _ => True) (keepI_same s) (fun _ _ => trivial) fun _ _ => trivial
theorem RowO.weak {c : RC} {ec : EC} {N M : Addr → Prop} {H : Hp} (f : ∀ l, (∃ o, H l = some o) → N l → M l) {n : Int} : ∀ {rt : RT} {v : V}, RowO c ec N H n rt v → RowO c ec M H n rt v
  | .skip, v, h => h
  | .set _ _, v, h => h
  | .put _ _, v, h => h
  | .ask _ _ _, v, h => h
  | .draw _ _, v, h => h
  | .tell _, v, h => h
  | .ifr _, v, h => h
  | .loop _, v, h => h
  | .call b g es, v, ⟨p, dx, l, os, h1, h2, h3, h4, h5⟩ => ⟨p, dx, l, os, h1, h2, f l ⟨_, h4⟩ h3, h4, h5⟩
  | .give _, v, h => h
def RT.data : RT → PyData
  | .skip => .tuple [.str "skip"]
  | .set b e => .tuple [.str "set", .str b, e.told]
  | .put a b => .tuple [.str "put", a.told, b.told]
  | .ask b w e => .tuple [.str "ask", .str b, .str w, e.told]
  | .draw b w => .tuple [.str "draw", .str b, .str w]
  | .tell e => .tuple [.str "tell", e.told]
  | .ifr e => .tuple [.str "if", e.told]
  | .loop e => .tuple [.str "while", e.told]
  | .call b f es => .tuple (.str "call" :: .str b :: .str f :: es.map Ex.told)
  | .give e => .tuple [.str "give", e.told]
/-- r is what a row's told gives -/
def RTold (K : PySem.W.Frag) (H : Hp) : RT → V → Prop
  | .skip, r => ∃ t, r = .ref t ∧ H t = some (.tup [.str "skip"])
  | .set b e, r => ∃ t x, r = .ref t ∧ H t = some (.tup [.str "set", .str b, x]) ∧ ToldE K H e x
  | .put a b, r => ∃ t x y, r = .ref t ∧ H t = some (.tup [.str "put", x, y]) ∧ ToldE K H a x ∧ ToldE K H b y
  | .ask b w e, r => ∃ t x, r = .ref t ∧ H t = some (.tup [.str "ask", .str b, .str w, x]) ∧ ToldE K H e x
  | .draw b w, r => ∃ t, r = .ref t ∧ H t = some (.tup [.str "draw", .str b, .str w])
  | .tell e, r => ∃ t x, r = .ref t ∧ H t = some (.tup [.str "tell", x]) ∧ ToldE K H e x
  | .ifr e, r => ∃ t x, r = .ref t ∧ H t = some (.tup [.str "if", x]) ∧ ToldE K H e x
  | .loop e, r => ∃ t x, r = .ref t ∧ H t = some (.tup [.str "while", x]) ∧ ToldE K H e x
  | .call b f es, r => ∃ t xs, r = .ref t ∧ H t = some (.tup (.str "call" :: .str b :: .str f :: xs)) ∧ All2 (ToldE K H) es xs
  | .give e, r => ∃ t x, r = .ref t ∧ H t = some (.tup [.str "give", x]) ∧ ToldE K H e x
theorem dps_told {K : PySem.W.Frag} {H : Hp} : ∀ {es : List Ex} {xs : List V}, All2 (ToldE K H) es xs → DpAll K H xs (es.map Ex.told)
  | _, _, .nil => .nil
  | _, _, .cons h t => .cons h.dp (dps_told t)
theorem RTold.dp {K : PySem.W.Frag} {H : Hp} : ∀ {rt : RT} {r : V}, RTold K H rt r → Dp K H r rt.data
  | .skip, r, ⟨t, h1, h2⟩ => by rw [h1]; exact .tup (SqT.of h2) (.cons (.str _) .nil)
  | .set _ _, r, ⟨t, x, h1, h2, h3⟩ => by rw [h1]; exact .tup (SqT.of h2) (.cons (.str _) (.cons (.str _) (.cons h3.dp .nil)))
  | .put _ _, r, ⟨t, x, y, h1, h2, h3, h4⟩ => by rw [h1]; exact .tup (SqT.of h2) (.cons (.str _) (.cons h3.dp (.cons h4.dp .nil)))
  | .ask _ _ _, r, ⟨t, x, h1, h2, h3⟩ => by rw [h1]; exact .tup (SqT.of h2) (.cons (.str _) (.cons (.str _) (.cons (.str _) (.cons h3.dp .nil))))
  | .draw _ _, r, ⟨t, h1, h2⟩ => by rw [h1]; exact .tup (SqT.of h2) (.cons (.str _) (.cons (.str _) (.cons (.str _) .nil)))
  | .tell _, r, ⟨t, x, h1, h2, h3⟩ => by rw [h1]; exact .tup (SqT.of h2) (.cons (.str _) (.cons h3.dp .nil))
  | .ifr _, r, ⟨t, x, h1, h2, h3⟩ => by rw [h1]; exact .tup (SqT.of h2) (.cons (.str _) (.cons h3.dp .nil))
  | .loop _, r, ⟨t, x, h1, h2, h3⟩ => by rw [h1]; exact .tup (SqT.of h2) (.cons (.str _) (.cons h3.dp .nil))
  | .call _ _ _, r, ⟨t, xs, h1, h2, h3⟩ => by rw [h1]; exact .tup (SqT.of h2) (.cons (.str _) (.cons (.str _) (.cons (.str _) (dps_told h3))))
  | .give _, r, ⟨t, x, h1, h2, h3⟩ => by rw [h1]; exact .tup (SqT.of h2) (.cons (.str _) (.cons h3.dp .nil))
/-! ### promises -/
def spRowInit (K : PySem.W.Frag) : Sp := fun vs H Q _ => ∃ (p C dx : Addr) (n : V), vs = [.ref p, n] ∧ H p = some (.ins C dx []) ∧ Cls K C ∧ NoAttr K C "number" ∧ Q .non (upd H p (.ins C dx [("number", n)]))
/-- __init__ of a row's class: number, then these -/
def spRI (C : Addr) (fs : List Str) : Sp := fun vs H Q _ => ∃ (p dx : Addr) (xs : List V), vs = .ref p :: xs ∧ xs.length = fs.length ∧ H p = some (.ins C dx []) ∧ Q .non (upd H p (.ins C dx (fs.zip xs)))
def spRTold (K : PySem.W.Frag) (c : RC) (ec : EC) (C : Addr) : Sp := fun vs H Q _ => ∃ (n : Int) (rt : RT) (v : V) (N : Addr → Prop), vs = [v] ∧ RowO c ec N H n rt v ∧ c.of rt = C ∧ (∀ e ∈ rt.exs, e.depth ≤ 7) ∧ rt.exs.length ≤ 1000 ∧ ∀ r H', Same H H' → RTold K H' rt r → Q r H'
theorem allE_all2 {c : EC} {H : Hp} : ∀ {es : List Ex} {vs : List V}, AllE c H es vs → All2 (ObjE c H) es vs
  | _, _, .nil => .nil
  | _, _, .cons a b => .cons a (allE_all2 b)
theorem mk_row {C : Addr} {fs : List Str} {H : Hp} {xs : List V} {Q : Hp → Prop} {E : XK} {x dx : Addr} (hx : H x = none) (hd : H dx = none) (hl : xs.length = fs.length) (k : ∀ H', Same H H' → H' x = some (.ins C dx (fs.zip xs)) → Q H') :
    spRI C fs (.ref x :: xs) (upd (upd H dx (.own x)) x (.ins C dx [])) (fun v H2 => v = .non ∧ Q H2) E :=
  ⟨x, dx, xs, rfl, hl, upd_same, rfl, k _ (made_same hx hd) upd_same⟩

theorem ToldE.keepU {K : PySem.W.Frag} {H : Hp} {D : Addr} {ys ys' : List V} (hD : H D = some (.lst ys)) : ∀ {e : Ex} {v : V}, ToldE K H e v → ToldE K (upd H D (.lst ys')) e v
  | .num n, v, ⟨p, h1, h2⟩ => ⟨p, h1, by rw [upd_ne (ne_of h2 hD (by intro z; cases z))]; exact h2⟩
  | .box n, v, ⟨p, h1, h2⟩ => ⟨p, h1, by rw [upd_ne (ne_of h2 hD (by intro z; cases z))]; exact h2⟩
  | .cell e, v, ⟨p, i, h1, h2, h3⟩ => ⟨p, i, h1, by rw [upd_ne (ne_of h2 hD (by intro z; cases z))]; exact h2, ToldE.keepU hD h3⟩
  | .two w l r, v, ⟨p, a, b, h1, h2, h3, h4⟩ => ⟨p, a, b, h1, by rw [upd_ne (ne_of h2 hD (by intro z; cases z))]; exact h2, ToldE.keepU hD h3, ToldE.keepU hD h4⟩

/-! ### programs: what the reader reads -/
structure RS where
  at_ : Nat
  num : List (Nat × RT)
  calls : List (Str × Nat)
def putN (l : List (Nat × RT)) (n : Nat) (r : RT) : List (Nat × RT) :=
  if (l.any fun x => decide (x.1 = n)) = true then l.map (fun x => if x.1 = n then (x.1, r) else x) else l ++ [(n, r)]
def wordsAt (ts : List Str) (i : Nat) : List Str := Txt.split (ts.getD i (Str.ofString "")) (Str.ofString " ")
def hd0 (ws : List Str) : Str := ws.headD (Str.ofString "")
def wd (ws : List Str) (i : Nat) : Str := ws.getD i (Str.ofString "")
def headAt (ts : List Str) (i : Nat) : Option Str := if i < ts.length then some (hd0 (wordsAt ts i)) else none
def exL (ws : List Str) : Option (List Ex) := parseAll ws.length ws
def namesOk (ws : List Str) (k : Nat) : Bool := decide (ws.length = k) && ws.all isNameW
def only1 : Option (List Ex) → Option Ex
  | some [e] => some e
  | _ => none
def simpleF (ws : List Str) : Option RT :=
  if hd0 ws = "set" then (if namesOk ((ws.drop 1).take 1) 1 = true then (only1 (exL (ws.drop 2))).map (RT.set (wd ws 1)) else none)
  else if hd0 ws = "put" then (match exL (ws.drop 1) with
    | some [a, b] => some (.put a b)
    | _ => none)
  else if hd0 ws = "ask" then (if namesOk ((ws.drop 1).take 2) 2 = true then (only1 (exL (ws.drop 3))).map (RT.ask (wd ws 1) (wd ws 2)) else none)
  else if hd0 ws = "draw" then (if namesOk (ws.drop 1) 2 = true then some (.draw (wd ws 1) (wd ws 2)) else none)
  else if hd0 ws = "tell" then (only1 (exL (ws.drop 1))).map RT.tell
  else if ws = [Str.ofString "skip"] then some .skip else none
def callF (ws : List Str) : Option (Str × Str × List Ex) := if namesOk ((ws.drop 1).take 2) 2 = true then (exL (ws.drop 3)).map fun es => (wd ws 1, wd ws 2, es) else none
def passF (ts : List Str) (t : Str) (st : RS) : Option RS := if st.at_ < ts.length ∧ ts.getD st.at_ (Str.ofString "") = t then some { st with at_ := st.at_ + 1 } else none
def rowsF (ts : List Str) (blk : RS → Option RS) (ok : Bool) (ws : List Str) (st : RS) : Option (RT × RS) :=
  if ok = true then (match only1 (exL (ws.drop 1)) with
    | none => none
    | some e => match blk st with
      | none => none
      | some st2 => if hd0 ws = "while" then (match passF ts "end" st2 with
          | none => none
          | some st3 => some (.loop e, st3))
        else match passF ts "else" st2 with
          | none => none
          | some st3 => match blk st3 with
            | none => none
            | some st4 => match passF ts "end" st4 with
              | none => none
              | some st5 => some (.ifr e, st5)) else none
def oneF (ts : List Str) (rows : List Str → RS → Option (RT × RS)) (st : RS) : Option (RT × RS) :=
  if hd0 (wordsAt ts st.at_) = "if" ∨ hd0 (wordsAt ts st.at_) = "while" then rows (wordsAt ts st.at_) { st with at_ := st.at_ + 1 }
  else if hd0 (wordsAt ts st.at_) = "call" then (match callF (wordsAt ts st.at_) with
    | none => none
    | some (b, f, es) => some (.call b f es, ⟨st.at_ + 1, st.num, st.calls ++ [(f, es.length)]⟩))
  else (simpleF (wordsAt ts st.at_)).map fun rt => (rt, ⟨st.at_ + 1, st.num, st.calls⟩)
def blkF (ts : List Str) (one : RS → Option (RT × RS)) : Nat → RS → Option RS
  | 0, _ => none
  | n + 1, st => match headAt ts st.at_ with
    | none => some st
    | some w => if w ∈ ROWW then (match one st with
        | none => none
        | some (rt, st2) => blkF ts one n ⟨st2.at_, putN st2.num st.at_ rt, st2.calls⟩) else some st
/-- a block; n: how many levels may stand within one another from here on, and one more -/
def blockF (ts : List Str) : Nat → RS → Option RS
  | 0, _ => none
  | n + 1, st => blkF ts (oneF ts (rowsF ts (blockF ts n) (decide (0 < n)))) (ts.length + 1) st
def functionF (ts : List Str) (st : RS) : Option ((Str × Nat) × RS) :=
  if ((wordsAt ts st.at_).drop 1).all isNameW = true ∧ 2 ≤ (wordsAt ts st.at_).length ∧ ((wordsAt ts st.at_).drop 2).length ≤ 3 ∧ cntTo ((wordsAt ts st.at_).drop 2) ((wordsAt ts st.at_).drop 2).length = ((wordsAt ts st.at_).drop 2).length then
    (match blockF ts 6 { st with at_ := st.at_ + 1 } with
    | none => none
    | some st2 => if headAt ts st2.at_ = some "give" then (match only1 (exL ((wordsAt ts st2.at_).drop 1)) with
        | none => none
        | some e => some ((wd (wordsAt ts st.at_) 1, ((wordsAt ts st.at_).drop 2).length), ⟨st2.at_ + 1, putN st2.num st2.at_ (.give e), st2.calls⟩)) else none) else none
def funsF (ts : List Str) : Nat → List (Str × Nat) → RS → Option (List (Str × Nat) × RS)
  | 0, _, _ => none
  | n + 1, fs, st => if headAt ts st.at_ = some "fun" then (match functionF ts st with
      | none => none
      | some (f, st2) => if (fs.any fun g => decide (g.1 = f.1)) = true ∨ fs.length = 4 then none else funsF ts n (fs ++ [f]) st2)
    else some (fs, st)
def callOk (fs : List (Str × Nat)) (c : Str × Nat) : Bool := match fs.find? fun f => decide (f.1 = c.1) with
  | some f => decide (f.2 = c.2)
  | none => false
def readF (ts : List Str) : Option (List (Nat × RT)) :=
  if ts.length ≤ 60 then (match funsF ts (ts.length + 1) [] ⟨0, [], []⟩ with
    | none => none
    | some (fs, st) => match passF ts "main" st with
      | none => none
      | some st1 => match blockF ts 6 st1 with
        | none => none
        | some st2 => if st2.at_ = ts.length ∧ st2.calls.all (callOk fs) = true then some st2.num else none) else none
/-! ### where it stands behind each -/
theorem passF_at {ts : List Str} {t : Str} {st st' : RS} (h : passF ts t st = some st') : st'.at_ = st.at_ + 1 ∧ st'.at_ ≤ ts.length ∧ st'.num = st.num ∧ st'.calls = st.calls := by
  unfold passF at h
  by_cases c : st.at_ < ts.length ∧ ts.getD st.at_ (Str.ofString "") = t
  · rw [if_pos c] at h
    cases h
    exact ⟨rfl, c.1, rfl, rfl⟩
  · rw [if_neg c] at h; cases h
theorem rowsF_at {ts : List Str} {blk : RS → Option RS} (hb : ∀ st st', st.at_ ≤ ts.length → blk st = some st' → st.at_ ≤ st'.at_ ∧ st'.at_ ≤ ts.length) {ok : Bool} {ws : List Str} {st st' : RS} {rt : RT} (hs : st.at_ ≤ ts.length) (h : rowsF ts blk ok ws st = some (rt, st')) : st.at_ ≤ st'.at_ ∧ st'.at_ ≤ ts.length := by
  unfold rowsF at h
  cases ok with
  | false => cases h
  | true =>
    rw [if_pos rfl] at h
    cases q1 : only1 (exL (ws.drop 1)) with
    | none => rw [q1] at h; cases h
    | some e =>
      rw [q1] at h
      simp only at h
      cases q2 : blk st with
      | none => rw [q2] at h; cases h
      | some st2 =>
        rw [q2] at h
        simp only at h
        have b1 := hb st st2 hs q2
        by_cases c : hd0 ws = "while"
        · rw [if_pos c] at h
          cases q3 : passF ts "end" st2 with
          | none => rw [q3] at h; cases h
          | some st3 =>
            rw [q3] at h
            cases h
            have := passF_at q3
            omega
        · rw [if_neg c] at h
          cases q3 : passF ts "else" st2 with
          | none => rw [q3] at h; cases h
          | some st3 =>
            rw [q3] at h
            simp only at h
            have p3 := passF_at q3
            cases q4 : blk st3 with
            | none => rw [q4] at h; cases h
            | some st4 =>
              rw [q4] at h
              simp only at h
              have b4 := hb st3 st4 p3.2.1 q4
              cases q5 : passF ts "end" st4 with
              | none => rw [q5] at h; cases h
              | some st5 =>
                rw [q5] at h
                cases h
                have := passF_at q5
                omega
theorem oneF_at {ts : List Str} {rows : List Str → RS → Option (RT × RS)} (hr : ∀ ws st rt st', st.at_ ≤ ts.length → rows ws st = some (rt, st') → st.at_ ≤ st'.at_ ∧ st'.at_ ≤ ts.length) {st st' : RS} {rt : RT} (hs : st.at_ < ts.length) (h : oneF ts rows st = some (rt, st')) : st.at_ < st'.at_ ∧ st'.at_ ≤ ts.length := by
  unfold oneF at h
  by_cases c1 : hd0 (wordsAt ts st.at_) = "if" ∨ hd0 (wordsAt ts st.at_) = "while"
  · rw [if_pos c1] at h
    have := hr _ _ _ _ (by show st.at_ + 1 ≤ ts.length; omega) h
    have h2 : st.at_ + 1 ≤ st'.at_ := this.1
    omega
  rw [if_neg c1] at h
  by_cases c2 : hd0 (wordsAt ts st.at_) = "call"
  · rw [if_pos c2] at h
    cases q : callF (wordsAt ts st.at_) with
    | none => rw [q] at h; cases h
    | some r =>
      obtain ⟨b, f, es⟩ := r
      rw [q] at h
      cases h
      exact ⟨Nat.lt_succ_self _, hs⟩
  · rw [if_neg c2] at h
    cases q : simpleF (wordsAt ts st.at_) with
    | none => rw [q] at h; cases h
    | some r => rw [q] at h; cases h; exact ⟨Nat.lt_succ_self _, hs⟩
theorem headAt_lt {ts : List Str} {i : Nat} {w : Str} (h : headAt ts i = some w) : i < ts.length ∧ w = hd0 (wordsAt ts i) := by
  unfold headAt at h
  by_cases c : i < ts.length
  · rw [if_pos c] at h; exact ⟨c, (Option.some.inj h).symm⟩
  · rw [if_neg c] at h; cases h
theorem blkF_at {ts : List Str} {one : RS → Option (RT × RS)} (ho : ∀ st rt st', st.at_ < ts.length → one st = some (rt, st') → st.at_ < st'.at_ ∧ st'.at_ ≤ ts.length) : ∀ {m : Nat} {st st' : RS}, st.at_ ≤ ts.length → blkF ts one m st = some st' → st.at_ ≤ st'.at_ ∧ st'.at_ ≤ ts.length
  | 0, _, _, _, h => by cases h
  | m + 1, st, st', hs, h => by
    unfold blkF at h
    cases q : headAt ts st.at_ with
    | none => rw [q] at h; cases h; exact ⟨Nat.le_refl _, hs⟩
    | some w =>
      rw [q] at h
      simp only at h
      by_cases c : w ∈ ROWW
      · rw [if_pos c] at h
        cases q2 : one st with
        | none => rw [q2] at h; cases h
        | some r =>
          obtain ⟨rt, st2⟩ := r
          rw [q2] at h
          simp only at h
          have o := ho _ _ _ (headAt_lt q).1 q2
          have := blkF_at ho (st := ⟨st2.at_, putN st2.num st.at_ rt, st2.calls⟩) o.2 h
          have h3 : st2.at_ ≤ st'.at_ := this.1
          omega
      · rw [if_neg c] at h; cases h; exact ⟨Nat.le_refl _, hs⟩
theorem blockF_at {ts : List Str} : ∀ {n : Nat} {st st' : RS}, st.at_ ≤ ts.length → blockF ts n st = some st' → st.at_ ≤ st'.at_ ∧ st'.at_ ≤ ts.length
  | 0, _, _, _, h => by cases h
  | n + 1, st, st', hs, h => blkF_at (fun st rt st' hs h => oneF_at (fun ws st rt st' hs h => rowsF_at (fun st st' hs h => blockF_at hs h) hs h) hs h) hs h
/-! ### how many rows are put -/
theorem putN_len (l : List (Nat × RT)) (n : Nat) (r : RT) : (putN l n r).length ≤ l.length + 1 := by
  unfold putN
  split
  · rw [List.length_map]; omega
  · rw [List.length_append, List.length_singleton]; exact Nat.le_refl _
theorem rowsF_gr {ts : List Str} {blk : RS → Option RS} (hb : ∀ st st', blk st = some st' → st'.num.length + st.at_ ≤ st.num.length + st'.at_) {ok : Bool} {ws : List Str} {st st' : RS} {rt : RT} (h : rowsF ts blk ok ws st = some (rt, st')) : st'.num.length + st.at_ ≤ st.num.length + st'.at_ := by
  unfold rowsF at h
  cases ok with
  | false => cases h
  | true =>
    rw [if_pos rfl] at h
    cases q1 : only1 (exL (ws.drop 1)) with
    | none => rw [q1] at h; cases h
    | some e =>
      rw [q1] at h
      simp only at h
      cases q2 : blk st with
      | none => rw [q2] at h; cases h
      | some st2 =>
        rw [q2] at h
        simp only at h
        have b1 := hb st st2 q2
        by_cases c : hd0 ws = "while"
        · rw [if_pos c] at h
          cases q3 : passF ts "end" st2 with
          | none => rw [q3] at h; cases h
          | some st3 =>
            rw [q3] at h
            cases h
            have p3 := passF_at q3
            rw [p3.2.2.1, p3.1]
            omega
        · rw [if_neg c] at h
          cases q3 : passF ts "else" st2 with
          | none => rw [q3] at h; cases h
          | some st3 =>
            rw [q3] at h
            simp only at h
            have p3 := passF_at q3
            cases q4 : blk st3 with
            | none => rw [q4] at h; cases h
            | some st4 =>
              rw [q4] at h
              simp only at h
              have b4 := hb st3 st4 q4
              cases q5 : passF ts "end" st4 with
              | none => rw [q5] at h; cases h
              | some st5 =>
                rw [q5] at h
                cases h
                have p5 := passF_at q5
                rw [p5.2.2.1, p5.1]
                rw [p3.2.2.1, p3.1] at b4
                omega
theorem oneF_gr {ts : List Str} {rows : List Str → RS → Option (RT × RS)} (hr : ∀ ws st rt st', rows ws st = some (rt, st') → st'.num.length + st.at_ ≤ st.num.length + st'.at_) {st st' : RS} {rt : RT} (h : oneF ts rows st = some (rt, st')) : st'.num.length + st.at_ + 1 ≤ st.num.length + st'.at_ := by
  unfold oneF at h
  by_cases c1 : hd0 (wordsAt ts st.at_) = "if" ∨ hd0 (wordsAt ts st.at_) = "while"
  · rw [if_pos c1] at h
    have h2 : st'.num.length + (st.at_ + 1) ≤ st.num.length + st'.at_ := hr _ _ _ _ h
    omega
  rw [if_neg c1] at h
  by_cases c2 : hd0 (wordsAt ts st.at_) = "call"
  · rw [if_pos c2] at h
    cases q : callF (wordsAt ts st.at_) with
    | none => rw [q] at h; cases h
    | some r =>
      obtain ⟨b, f, es⟩ := r
      rw [q] at h
      cases h
      show st.num.length + st.at_ + 1 ≤ st.num.length + (st.at_ + 1)
      omega
  · rw [if_neg c2] at h
    cases q : simpleF (wordsAt ts st.at_) with
    | none => rw [q] at h; cases h
    | some r =>
      rw [q] at h; cases h
      show st.num.length + st.at_ + 1 ≤ st.num.length + (st.at_ + 1)
      omega
theorem blkF_gr {ts : List Str} {one : RS → Option (RT × RS)} (ho : ∀ st rt st', one st = some (rt, st') → st'.num.length + st.at_ + 1 ≤ st.num.length + st'.at_) : ∀ {m : Nat} {st st' : RS}, blkF ts one m st = some st' → st'.num.length + st.at_ ≤ st.num.length + st'.at_
  | 0, _, _, h => by cases h
  | m + 1, st, st', h => by
    unfold blkF at h
    cases q : headAt ts st.at_ with
    | none => rw [q] at h; cases h; exact Nat.le_refl _
    | some w =>
      rw [q] at h
      simp only at h
      by_cases c : w ∈ ROWW
      · rw [if_pos c] at h
        cases q2 : one st with
        | none => rw [q2] at h; cases h
        | some r =>
          obtain ⟨rt, st2⟩ := r
          rw [q2] at h
          simp only at h
          have o := ho _ _ _ q2
          have b : st'.num.length + st2.at_ ≤ (putN st2.num st.at_ rt).length + st'.at_ := blkF_gr ho (st := ⟨st2.at_, putN st2.num st.at_ rt, st2.calls⟩) h
          have := putN_len st2.num st.at_ rt
          omega
      · rw [if_neg c] at h; cases h; exact Nat.le_refl _
theorem blockF_gr {ts : List Str} : ∀ {n : Nat} {st st' : RS}, blockF ts n st = some st' → st'.num.length + st.at_ ≤ st.num.length + st'.at_
  | 0, _, _, h => by cases h
  | n + 1, st, st', h => blkF_gr (fun st rt st' h => oneF_gr (fun ws st rt st' h => rowsF_gr (fun st st' h => blockF_gr h) h) h) h
/-! ### the reader's object -/
structure Rd where
  p : Addr
  d : Addr
  cl : Addr
  a : Addr
  ts : List Str
  /-- lists that grow by themselves -/
  av : List Addr
def Rd.N (X : Rd) (l : Addr) : Prop := l ≠ X.cl ∧ l ∉ X.av
def NumO (c : RC) (ec : EC) (N : Addr → Prop) (H : Hp) (x : Nat × RT) (kv : Key × V) : Prop := kv.1 = .inl ((x.1 : Nat) : Int) ∧ RowO c ec N H ((x.1 : Nat) : Int) x.2 kv.2
def CallO (c : RC) (ec : EC) (N : Addr → Prop) (H : Hp) (f : Str × Nat) (v : V) : Prop := ∃ (n : Int) (b : Str) (es : List Ex), es.length = f.2 ∧ RowO c ec N H n (.call b f.1 es) v
def rdF (X : Rd) (st : RS) : List (Str × V) := [("texts", .ref X.a), ("at", .int ((st.at_ : Nat) : Int)), ("by_number", .ref X.d), ("calls", .ref X.cl)]
structure RdH (K : PySem.W.Frag) (c : RC) (ec : EC) (R : Addr) (X : Rd) (H : Hp) (st : RS) : Prop where
  obj : ∃ dx, H X.p = some (.ins R dx (rdF X st))
  dict : ∃ kvs, H X.d = some (.dK kvs) ∧ All2 (NumO c ec X.N H) st.num kvs
  calls : ∃ os, H X.cl = some (.lst os) ∧ All2 (CallO c ec X.N H) st.calls os
  txts : H X.a = some (.lst (X.ts.map V.str))
  ne : X.a ≠ X.cl
  sm : X.ts.length ≤ 60 ∧ ∀ t ∈ X.ts, t.length ≤ 99999
  cod : ∀ t ∈ X.ts, PyData.strOk t = true
  at_ : st.at_ ≤ X.ts.length
  lists : ∀ a ∈ X.av, a ≠ X.cl ∧ a ≠ X.a ∧ ∃ xs, H a = some (.lst xs)
  cn : st.calls.length ≤ st.at_
  nn : st.num.length ≤ st.at_
theorem allE_same {c : EC} {H H' : Hp} (s : Same H H') {es : List Ex} {vs : List V} (h : AllE c H es vs) : AllE c H' es vs := h.same s
/-- all stands but the reader, its dict, its calls -/
def Mv (X : Rd) (H H' : Hp) : Prop := KeepL [X.p, X.d, X.cl] H H'
theorem Mv.trans {X : Rd} {H H1 H2 : Hp} (a : Mv X H H1) (b : Mv X H1 H2) : Mv X H H2 := fun q o n h => b q o n (a q o n h)
theorem mv_same {X : Rd} {H H' : Hp} (s : Same H H') : Mv X H H' := fun q o _ h => s q o h
section
variable {K : PySem.W.Frag} {c : RC} {ec : EC} {R : Addr} {X : Rd} {H H' : Hp} {st : RS}
theorem RdH.keepI (h : RdH K c ec R X H st) (k : Mv X H H') : KeepI (fun C => C ≠ R) X.N H H' := by
  obtain ⟨dx, h1⟩ := h.obj
  obtain ⟨kvs, h2, _⟩ := h.dict
  obtain ⟨os, h3, _⟩ := h.calls
  constructor
  · intro q C dx' fs hC hq
    refine k q _ (fun hm => ?_) hq
    simp only [List.mem_cons, List.not_mem_nil, or_false] at hm
    rcases hm with rfl | rfl | rfl
    · rw [h1] at hq; cases hq; exact hC rfl
    · rw [h2] at hq; cases hq
    · rw [h3] at hq; cases hq
  · intro l xs hl hq
    refine k l _ (fun hm => ?_) hq
    simp only [List.mem_cons, List.not_mem_nil, or_false] at hm
    rcases hm with rfl | rfl | rfl
    · rw [h1] at hq; cases hq
    · rw [h2] at hq; cases hq
    · exact hl.1 rfl
theorem RdH.keepList (h : RdH K c ec R X H st) (k : Mv X H H') {a : Addr} {xs : List V} (n : a ≠ X.cl) (e : H a = some (.lst xs)) : H' a = some (.lst xs) := by
  obtain ⟨dx, h1⟩ := h.obj
  obtain ⟨kvs, h2, _⟩ := h.dict
  refine k a _ (fun hm => ?_) e
  simp only [List.mem_cons, List.not_mem_nil, or_false] at hm
  rcases hm with rfl | rfl | rfl
  · rw [h1] at e; cases e
  · rw [h2] at e; cases e
  · exact n rfl
theorem RdH.keepLists (h : RdH K c ec R X H st) (k : Mv X H H') : ∀ a ∈ X.av, a ≠ X.cl ∧ a ≠ X.a ∧ ∃ xs, H' a = some (.lst xs) := fun a ha => by
  obtain ⟨n, n2, xs, e⟩ := h.lists a ha
  exact ⟨n, n2, xs, h.keepList k n e⟩
theorem RdH.seq (h : RdH K c ec R X H st) (k : Mv X H H') {a : Addr} {xs : List V} (n : a ≠ X.cl) (s : SqL K H a xs) : SqL K H' a xs := by
  obtain ⟨dx, h1⟩ := h.obj
  obtain ⟨kvs, h2, _⟩ := h.dict
  have ok : ∀ o, H a = some o → (o = .lst xs ∨ ∃ ob, o = .frz ob (.lst xs)) → H' a = some o := fun o ha ho => k a o (fun hm => by
    simp only [List.mem_cons, List.not_mem_nil, or_false] at hm
    rcases hm with rfl | rfl | rfl
    · rw [h1] at ha; rcases ho with rfl | ⟨_, rfl⟩ <;> cases ha
    · rw [h2] at ha; rcases ho with rfl | ⟨_, rfl⟩ <;> cases ha
    · exact n rfl) ha
  rcases s with (s | ⟨o, s⟩) | s
  · exact .inl (.inl (ok _ s (.inl rfl)))
  · exact .inl (.inr ⟨o, ok _ s (.inr ⟨o, rfl⟩)⟩)
  · exact .inr s
theorem RdH.same (h : RdH K c ec R X H st) (s : Same H H') : RdH K c ec R X H' st := by
  obtain ⟨dx, h1⟩ := h.obj
  obtain ⟨kvs, h2, h3⟩ := h.dict
  obtain ⟨os, h4, h5⟩ := h.calls
  exact ⟨⟨dx, s _ _ h1⟩, ⟨kvs, s _ _ h2, h3.mono fun a b h => ⟨h.1, h.2.same s⟩⟩, ⟨os, s _ _ h4, h5.mono fun a b ⟨n, b, es, h1, h2⟩ => ⟨n, b, es, h1, h2.same s⟩⟩, s _ _ h.txts, h.ne, h.sm, h.cod, h.at_, fun a ha => ⟨(h.lists a ha).1, (h.lists a ha).2.1, (h.lists a ha).2.2.elim fun xs e => ⟨xs, s _ _ e⟩⟩, h.cn, h.nn⟩
theorem RdH.ats (h : RdH K c ec R X H st) (hc : ∀ C, ec.Fam C → C ≠ R) (hr : ∀ C, c.Fam C → C ≠ R) (k : Mv X H H') {dx : Addr} {st' : RS} (h1 : H' X.p = some (.ins R dx (rdF X st'))) {kvs : List (Key × V)} (h2 : H' X.d = some (.dK kvs)) (h3 : All2 (NumO c ec X.N H') st'.num kvs) {os : List V} (h4 : H' X.cl = some (.lst os)) (h5 : All2 (CallO c ec X.N H') st'.calls os) (h6 : st'.at_ ≤ X.ts.length) (h7 : st'.calls.length ≤ st'.at_) (h8 : st'.num.length ≤ st'.at_) : RdH K c ec R X H' st' :=
  ⟨⟨dx, h1⟩, ⟨kvs, h2, h3⟩, ⟨os, h4, h5⟩, h.keepList k h.ne h.txts, h.ne, h.sm, h.cod, h6, h.keepLists k, h7, h8⟩
theorem numO_put {N : Addr → Prop} {n : Nat} {rt : RT} {v : V} (hv : RowO c ec N H (n : Int) rt v) : ∀ {num : List (Nat × RT)} {kvs : List (Key × V)}, All2 (NumO c ec N H) num kvs → All2 (NumO c ec N H) (putN num n rt) (putK kvs (.inl (n : Int)) v) := by
  intro num kvs h
  have e1 : (num.any fun x => decide (x.1 = n)) = kvs.any fun kv => decide (kv.1 = (.inl (n : Int) : Key)) := by
    induction h with
    | nil => rfl
    | @cons a b as bs hab _ ih =>
      rw [List.any_cons, List.any_cons, ih, hab.1]
      congr 1
      by_cases q : a.1 = n
      · rw [decide_eq_true q, q, decide_eq_true rfl]
      · rw [decide_eq_false q, decide_eq_false (fun e => q (Int.ofNat.inj (Sum.inl.inj e)) : ¬ ((.inl ((a.1 : Nat) : Int) : Key) = .inl ((n : Nat) : Int)))]
  unfold putN putK
  rw [e1]
  by_cases c1 : (kvs.any fun kv => decide (kv.1 = (.inl (n : Int) : Key))) = true
  · rw [if_pos c1, if_pos c1]
    clear c1 e1
    induction h with
    | nil => exact .nil
    | @cons a b as bs hab _ ih =>
      rw [List.map_cons, List.map_cons]
      refine .cons ?_ ih
      by_cases q : a.1 = n
      · have q2 : b.1 = (.inl (n : Int) : Key) := by rw [hab.1, q]
        rw [if_pos q, if_pos q2]
        exact ⟨hab.1, by show RowO c ec N H ((a.1 : Nat) : Int) rt v; rw [q]; exact hv⟩
      · have q2 : ¬ b.1 = (.inl (n : Int) : Key) := fun e => q (by rw [hab.1] at e; exact Int.ofNat.inj (Sum.inl.inj e))
        rw [if_neg q, if_neg q2]
        exact hab
  · rw [if_neg c1, if_neg c1]
    exact h.snoc ⟨rfl, hv⟩
theorem RdH.step (h : RdH K c ec R X H st) (hc : ∀ C, ec.Fam C → C ≠ R) (hr : ∀ C, c.Fam C → C ≠ R) (hlt : st.at_ < X.ts.length) {dx : Addr} (h1 : H X.p = some (.ins R dx (rdF X st))) :
    Mv X H (upd H X.p (.ins R dx (putF "at" (V.int (((st.at_ : Nat) : Int) + 1)) (rdF X st)))) ∧ RdH K c ec R X (upd H X.p (.ins R dx (putF "at" (V.int (((st.at_ : Nat) : Int) + 1)) (rdF X st)))) ⟨st.at_ + 1, st.num, st.calls⟩ := by
  have e2 : putF "at" (V.int (((st.at_ : Nat) : Int) + 1)) (rdF X st) = rdF X ⟨st.at_ + 1, st.num, st.calls⟩ := by
    show [_, (_, V.int (((st.at_ : Nat) : Int) + 1)), _, _] = [_, (_, V.int ((st.at_ + 1 : Nat) : Int)), _, _]
    rw [show ((st.at_ + 1 : Nat) : Int) = ((st.at_ : Nat) : Int) + 1 from by omega]
  rw [e2]
  have mv : Mv X H (upd H X.p (.ins R dx (rdF X ⟨st.at_ + 1, st.num, st.calls⟩))) := fun z o n h => by rw [upd_ne (fun e => n (by rw [e]; exact List.mem_cons_self))]; exact h
  obtain ⟨kvs, k1, k2⟩ := h.dict
  obtain ⟨os, k3, k4⟩ := h.calls
  have ki := h.keepI mv
  exact ⟨mv, h.ats hc hr mv upd_same (by rw [upd_ne (ne_of k1 h1 (by intro z; cases z))]; exact k1) (k2.mono fun x kv h => ⟨h.1, h.2.keepI ki hc hr⟩) (by rw [upd_ne (ne_of k3 h1 (by intro z; cases z))]; exact k3) (k4.mono fun f v ⟨n, b, es, z1, z2⟩ => ⟨n, b, es, z1, z2.keepI ki hc hr⟩) (show st.at_ + 1 ≤ X.ts.length by omega) (show st.calls.length ≤ st.at_ + 1 by have := h.cn; omega) (show st.num.length ≤ st.at_ + 1 by have := h.nn; omega)⟩
theorem RdH.put (h : RdH K c ec R X H st) (hc : ∀ C, ec.Fam C → C ≠ R) (hr : ∀ C, c.Fam C → C ≠ R) {n : Nat} {rt : RT} {v : V} (hv : RowO c ec X.N H (n : Int) rt v) (hn : (putN st.num n rt).length ≤ st.at_) :
    ∃ kvs, H X.d = some (.dK kvs) ∧ kvs.length ≤ 60 ∧ Mv X H (upd H X.d (.dK (putK kvs (.inl (n : Int)) v))) ∧ RdH K c ec R X (upd H X.d (.dK (putK kvs (.inl (n : Int)) v))) ⟨st.at_, putN st.num n rt, st.calls⟩ := by
  obtain ⟨dx, h1⟩ := h.obj
  obtain ⟨kvs, k1, k2⟩ := h.dict
  obtain ⟨os, k3, k4⟩ := h.calls
  have mv : Mv X H (upd H X.d (.dK (putK kvs (.inl (n : Int)) v))) := fun z o n h => by rw [upd_ne (fun e => n (by rw [e]; simp))]; exact h
  have ki := h.keepI mv
  refine ⟨kvs, k1, ?_, mv, ?_⟩
  · have := k2.length
    have := h.nn
    have := h.at_
    have := h.sm.1
    omega
  · exact h.ats hc hr mv (st' := ⟨st.at_, putN st.num n rt, st.calls⟩) (by rw [upd_ne (ne_of h1 k1 (by intro z; cases z))]; exact h1) upd_same (numO_put (hv.keepI ki hc hr) (k2.mono fun x kv h => ⟨h.1, h.2.keepI ki hc hr⟩)) (by rw [upd_ne (ne_of k3 k1 (by intro z; cases z))]; exact k3) (k4.mono fun f v ⟨n, b, es, z1, z2⟩ => ⟨n, b, es, z1, z2.keepI ki hc hr⟩) h.at_ h.cn hn
/-- with one list more that grows by itself -/
def Rd.add (X : Rd) (l : Addr) : Rd := ⟨X.p, X.d, X.cl, X.a, X.ts, l :: X.av⟩
theorem RdH.add (h : RdH K c ec R X H st) {l : Addr} (hl : H l = none) : RdH K c ec R (X.add l) (upd H l (.lst [])) st := by
  have s := same_new (o := .lst ([] : List V)) hl
  obtain ⟨dx, h1⟩ := h.obj
  obtain ⟨kvs, k1, k2⟩ := h.dict
  obtain ⟨os, k3, k4⟩ := h.calls
  have ncl : l ≠ X.cl := fun e => by rw [e, k3] at hl; cases hl
  have wk : ∀ a, (∃ o, H a = some o) → X.N a → (X.add l).N a := fun a ho hn => ⟨hn.1, fun hm => by
    rcases List.mem_cons.mp hm with rfl | hm
    · obtain ⟨o, e⟩ := ho; rw [hl] at e; cases e
    · exact hn.2 hm⟩
  refine ⟨⟨dx, s _ _ h1⟩, ⟨kvs, s _ _ k1, k2.mono fun x kv z => ⟨z.1, (z.2.weak wk).same s⟩⟩, ⟨os, s _ _ k3, k4.mono fun f v ⟨n, b, es, z1, z2⟩ => ⟨n, b, es, z1, (z2.weak wk).same s⟩⟩, s _ _ h.txts, h.ne, h.sm, h.cod, h.at_, ?_, h.cn, h.nn⟩
  intro a ha
  rcases List.mem_cons.mp ha with rfl | ha
  · exact ⟨ncl, fun e => (by have e' : a = X.a := e; rw [e', h.txts] at hl; cases hl), [], upd_same⟩
  · obtain ⟨n, n2, xs, e⟩ := h.lists a ha
    exact ⟨n, n2, xs, s _ _ e⟩
theorem RowO.drop {l : Addr} {n : Int} {rt : RT} {v : V} (h : RowO c ec (X.add l).N H n rt v) : RowO c ec X.N H n rt v := h.weak fun a _ hn => ⟨hn.1, fun hm => hn.2 (List.mem_cons_of_mem _ hm)⟩
theorem RdH.drop {l : Addr} (h : RdH K c ec R (X.add l) H st) : RdH K c ec R X H st := by
  obtain ⟨kvs, k1, k2⟩ := h.dict
  obtain ⟨os, k3, k4⟩ := h.calls
  exact ⟨h.obj, ⟨kvs, k1, k2.mono fun x kv z => ⟨z.1, z.2.drop⟩⟩, ⟨os, k3, k4.mono fun f v ⟨n, b, es, z1, z2⟩ => ⟨n, b, es, z1, z2.drop⟩⟩, h.txts, h.ne, h.sm, h.cod, h.at_, fun a ha => h.lists a (List.mem_cons_of_mem _ ha), h.cn, h.nn⟩
/-- the newest such list grows -/
theorem RdH.grow {l : Addr} (h : RdH K c ec R (X.add l) H st) {xs ys : List V} (e : H l = some (.lst xs)) : RdH K c ec R (X.add l) (upd H l (.lst ys)) st := by
  obtain ⟨dx, h1⟩ := h.obj
  obtain ⟨kvs, k1, k2⟩ := h.dict
  obtain ⟨os, k3, k4⟩ := h.calls
  have ncl : l ≠ X.cl := (h.lists l List.mem_cons_self).1
  have ki : KeepI (fun _ => True) (X.add l).N H (upd H l (.lst ys)) := ⟨fun q C dx fs _ hq => by rw [upd_ne (ne_of hq e (by intro z; cases z))]; exact hq, fun q zs hn hq => by
    have nq : q ≠ l := fun z => hn.2 (by rw [z]; exact List.mem_cons_self)
    rw [upd_ne nq]; exact hq⟩
  refine ⟨⟨dx, (upd_ne (ne_of h1 e (by intro z; cases z))).trans h1⟩, ⟨kvs, (upd_ne (ne_of k1 e (by intro z; cases z))).trans k1, k2.mono fun x kv z => ⟨z.1, z.2.keepI ki (fun _ _ => trivial) fun _ _ => trivial⟩⟩,
    ⟨os, (upd_ne (Ne.symm ncl)).trans k3, k4.mono fun f v ⟨n, b, es, z1, z2⟩ => ⟨n, b, es, z1, z2.keepI ki (fun _ _ => trivial) fun _ _ => trivial⟩⟩, ?_, h.ne, h.sm, h.cod, h.at_, ?_, h.cn, h.nn⟩
  · exact (upd_ne (Ne.symm (h.lists l List.mem_cons_self).2.1)).trans h.txts
  · intro a ha
    obtain ⟨n, n2, zs, e2⟩ := h.lists a ha
    refine ⟨n, n2, ?_⟩
    by_cases q : a = l
    · exact ⟨ys, by rw [q]; exact upd_same⟩
    · exact ⟨zs, by rw [upd_ne q]; exact e2⟩
end

section
variable (K : PySem.W.Frag) (c : RC) (ec : EC) (R N : Addr)
def headV (ts : List Str) (i : Nat) : V := match headAt ts i with
  | some w => .str w
  | none => .non
def Small (ws : List Str) : Prop := ws.length ≤ 100000 ∧ ∀ s ∈ ws, s.length ≤ 100000
def spHead : Sp := fun vs H Q _ => ∃ (X : Rd) (st : RS), vs = [.ref X.p] ∧ RdH K c ec R X H st ∧ ∀ H', Same H H' → Q (headV X.ts st.at_) H'
def spPass : Sp := fun vs H Q E => ∃ (X : Rd) (st : RS) (t : Str), vs = [.ref X.p, .str t] ∧ RdH K c ec R X H st ∧ (∀ st' H', passF X.ts t st = some st' → Mv X H H' → RdH K c ec R X H' st' → Q .non H') ∧ (passF X.ts t st = none → ∀ H', Mv X H H' → E (.ref N) none H')
def spBlk (n : Nat) : Sp := fun vs H Q E => ∃ (X : Rd) (st : RS), vs = [.ref X.p, .int (6 - (n : Int))] ∧ RdH K c ec R X H st ∧ 1 ≤ n ∧ (∀ st' l H', blockF X.ts n st = some st' → Mv X H H' → RdH K c ec R X H' st' → Q l H') ∧ (blockF X.ts n st = none → ∀ H', Mv X H H' → E (.ref N) none H')
def spRows (m : Nat) : Sp := fun vs H Q E => ∃ (X : Rd) (st : RS) (num : Nat) (w : Addr) (ws : List Str), vs = [.ref X.p, .int (num : Int), .ref w, .int (6 - (m : Int))] ∧ RdH K c ec R X H st ∧ SqL K H w (ws.map V.str) ∧ w ≠ X.cl ∧ ws ≠ [] ∧ Small ws ∧
  (∀ rt st' v H', rowsF X.ts (blockF X.ts m) (decide (0 < m)) ws st = some (rt, st') → Mv X H H' → RdH K c ec R X H' st' → RowO c ec X.N H' (num : Int) rt v → Q v H') ∧ (rowsF X.ts (blockF X.ts m) (decide (0 < m)) ws st = none → ∀ H', Mv X H H' → E (.ref N) none H')
def spOne (m : Nat) : Sp := fun vs H Q E => ∃ (X : Rd) (st : RS), vs = [.ref X.p, .int (5 - (m : Int))] ∧ RdH K c ec R X H st ∧ st.at_ < X.ts.length ∧
  (∀ rt st' v H', oneF X.ts (rowsF X.ts (blockF X.ts m) (decide (0 < m))) st = some (rt, st') → Mv X H H' → RdH K c ec R X H' st' → RowO c ec X.N H' (st.at_ : Int) rt v → Q v H') ∧ (oneF X.ts (rowsF X.ts (blockF X.ts m) (decide (0 < m))) st = none → ∀ H', Mv X H H' → E (.ref N) none H')
def spCallRow : Sp := fun vs H Q E => ∃ (X : Rd) (st : RS) (num : Nat) (w : Addr) (ws : List Str), vs = [.ref X.p, .int (num : Int), .ref w] ∧ RdH K c ec R X H st ∧ SqL K H w (ws.map V.str) ∧ w ≠ X.cl ∧ ws ≠ [] ∧ Small ws ∧ st.calls.length < st.at_ ∧
  (∀ b f es v H', callF ws = some (b, f, es) → Mv X H H' → RdH K c ec R X H' ⟨st.at_, st.num, st.calls ++ [(f, es.length)]⟩ → RowO c ec X.N H' (num : Int) (.call b f es) v → Q v H') ∧ (callF ws = none → ∀ H', Mv X H H' → E (.ref N) none H')
def Codes (ws : List Str) : Prop := ∀ s ∈ ws, PyData.strOk s = true
def spSimple : Sp := fun vs H Q E => ∃ (num : Nat) (w : Addr) (ws : List Str), vs = [.int (num : Int), .ref w] ∧ SqL K H w (ws.map V.str) ∧ ws ≠ [] ∧ Small ws ∧ Codes ws ∧
  (∀ rt v H', simpleF ws = some rt → Same H H' → (∀ M, RowO c ec M H' (num : Int) rt v) → Q v H') ∧ (simpleF ws = none → ∀ H', Same H H' → E (.ref N) none H')
def spNames : Sp := fun vs H Q E => ∃ (l : Addr) (ws : List Str) (k : Nat), vs = [.ref l, .int (k : Int)] ∧ SqL K H l (ws.map V.str) ∧ Small ws ∧ (namesOk ws k = true → ∀ H', Same H H' → Q .non H') ∧ (namesOk ws k = false → ∀ H', Same H H' → E (.ref N) none H')
def spOnly : Sp := fun vs H Q E => ∃ (l : Addr) (os : List V), vs = [.ref l] ∧ H l = some (.lst os) ∧ (∀ v, os = [v] → Q v H) ∧ (os.length ≠ 1 → E (.ref N) none H)
end
theorem cut_mid {ws : List Str} {i j : Nat} : cutV (ws.map V.str) (some (i : Int)) (some (j : Int)) = ((ws.drop i).take (j - i)).map V.str := by
  unfold cutV
  rw [HT.sIx_nat, HT.sIx_nat, List.length_map, ← List.map_drop, ← List.map_take]
  congr 1
  by_cases h : i ≤ ws.length
  · rw [Nat.min_eq_left h]
    by_cases h2 : j ≤ ws.length
    · rw [Nat.min_eq_left h2]
    · rw [Nat.min_eq_right (by omega), List.take_of_length_le (by rw [List.length_drop]; exact Nat.le_refl _), List.take_of_length_le (by rw [List.length_drop]; omega)]
  · have e1 : min i ws.length = ws.length := Nat.min_eq_right (by omega)
    rw [e1, List.drop_eq_nil_of_le (Nat.le_refl _), List.drop_eq_nil_of_le (by omega : ws.length ≤ i)]
    simp
theorem cut_drop {ws : List Str} {i : Nat} : cutV (ws.map V.str) (some (i : Int)) none = (ws.drop i).map V.str := by
  unfold cutV
  rw [HT.sIx_nat, HT.sIx_none, List.length_map, ← List.map_drop, ← List.map_take]
  congr 1
  by_cases h : i ≤ ws.length
  · rw [Nat.min_eq_left h, List.take_of_length_le (by rw [List.length_drop]; exact Nat.le_refl _)]
  · rw [Nat.min_eq_right (by omega), List.drop_eq_nil_of_le (Nat.le_refl _), List.drop_eq_nil_of_le (by omega : ws.length ≤ i)]
    simp
theorem cut_take {ws : List Str} {i : Nat} : cutV (ws.map V.str) none (some (i : Int)) = (ws.take i).map V.str := by
  unfold cutV
  rw [HT.sIx_nat, HT.sIx_none, List.length_map, List.drop_zero, ← List.map_take, Nat.sub_zero]
  congr 1
  by_cases h : i ≤ ws.length
  · rw [Nat.min_eq_left h]
  · rw [Nat.min_eq_right (by omega), List.take_of_length_le (Nat.le_refl _), List.take_of_length_le (by omega)]
theorem Small.drop {ws : List Str} (h : Small ws) (i : Nat) : Small (ws.drop i) := ⟨by rw [List.length_drop]; have := h.1; omega, fun s hs => h.2 s (List.mem_of_mem_drop hs)⟩
theorem Small.take {ws : List Str} (h : Small ws) (i : Nat) : Small (ws.take i) := ⟨by rw [List.length_take]; have := h.1; omega, fun s hs => h.2 s (List.mem_of_mem_take hs)⟩
theorem at_hd {ws : List Str} (h : ws ≠ []) : atI (ws.map V.str) 0 = some (.str (hd0 ws)) := by
  cases ws with
  | nil => exact absurd rfl h
  | cons x r => exact atI_nat (xs := (x :: r).map V.str) (j := 0) rfl
theorem at_wd {ws : List Str} {i : Nat} (h : i < ws.length) : atI (ws.map V.str) (i : Int) = some (.str (wd ws i)) :=
  atI_nat (by rw [List.getElem?_map, List.getElem?_eq_getElem h]; unfold wd; rw [List.getD_eq_getElem?_getD, List.getElem?_eq_getElem h]; rfl)
theorem allE_one {ec : EC} {H : Hp} {es : List Ex} {os : List V} (h : AllE ec H es os) : (∀ v, os = [v] → ∃ e, es = [e] ∧ ObjE ec H e v) ∧ (os.length ≠ 1 → only1 (some es) = none) := by
  constructor
  · rintro v rfl
    cases h with
    | cons a b => cases b; exact ⟨_, rfl, a⟩
  · intro hl
    cases h with
    | nil => rfl
    | cons a b =>
      cases b with
      | nil => exact absurd rfl hl
      | cons a2 b2 => rfl
theorem names_len {ws : List Str} {k : Nat} (h : namesOk ws k = true) : ws.length = k ∧ ∀ s ∈ ws, isNameW s = true := by
  unfold namesOk at h
  simp only [Bool.and_eq_true, decide_eq_true_eq, List.all_eq_true] at h
  exact h

def strsD (ws : List Str) : PyData := .list (ws.map PyData.str)
theorem dp_strs {K : PySem.W.Frag} {H : Hp} : ∀ ws : List Str, DpAll K H (ws.map V.str) (ws.map PyData.str)
  | [] => .nil
  | s :: r => .cons (.str s) (dp_strs r)
theorem strs_shaped {ws : List Str} (h : Codes ws) : SeqAt.shaped (strsD ws) = true := by
  have h1 : ∀ {ws : List Str}, Codes ws → PyData.canLayAll0 (ws.map PyData.str) = true := by
    intro ws
    induction ws with
    | nil => intro _; rfl
    | cons s r ih =>
      intro h
      show (PyData.strOk s && PyData.canLayAll0 (r.map PyData.str)) = true
      rw [h s List.mem_cons_self, ih fun z hz => h z (List.mem_cons_of_mem _ hz)]; rfl
  have h2 : ∀ ws : List Str, PyData.depthAll (ws.map PyData.str) = 0 := by
    intro ws
    induction ws with
    | nil => rfl
    | cons s r ih => show max 0 (PyData.depthAll (r.map PyData.str)) = 0; rw [ih]; rfl
  show (PyData.canLayAll0 _ && decide (PyData.depthAll _ + 1 ≤ 64)) = true
  rw [h1 h, h2]; rfl
theorem strs_eqv : ∀ a b : List Str, PyData.eqv (strsD a) (strsD b) = decide (a = b)
  | [], [] => rfl
  | [], _ :: _ => rfl
  | _ :: _, [] => rfl
  | x :: a, y :: b => by
    have ih := strs_eqv a b
    have ih' : PyData.eqvAll (a.map PyData.str) (b.map PyData.str) = decide (a = b) := ih
    show ((x == y) && PyData.eqvAll (a.map PyData.str) (b.map PyData.str)) = _
    rw [ih']
    by_cases h1 : x = y
    · subst h1
      by_cases h2 : a = b
      · subst h2; simp
      · rw [decide_eq_false h2, decide_eq_false (fun e => h2 (List.cons.inj e).2), Bool.and_false]
    · rw [decide_eq_false (fun e => h1 (List.cons.inj e).1), (beq_eq_false_iff_ne.mpr h1 : (x == y) = false), Bool.false_and]

section
variable (K : PySem.W.Frag) (c : RC) (ec : EC) (R N : Addr)
def spRdInit : Sp := fun vs H Q _ => ∃ (p dx a : Addr) (ts : List Str), vs = [.ref p, .ref a] ∧ H p = some (.ins R dx []) ∧ H a = some (.lst (ts.map V.str)) ∧ ts.length ≤ 60 ∧ (∀ t ∈ ts, t.length ≤ 99999) ∧ (∀ t ∈ ts, PyData.strOk t = true) ∧
  ∀ d cl H', H d = none → H cl = none → KeepL [p] H H' → RdH K c ec R ⟨p, d, cl, a, ts, []⟩ H' ⟨0, [], []⟩ → Q .non H'
end
theorem split_ne (x y : Str) : Txt.split x y ≠ [] := by
  unfold Txt.split
  split
  · simp
  · split
    · simp
    · intro e
      have := congrArg List.length e
      rw [length_partsBetween] at this
      simp at this
theorem wordsAt_ok {ts : List Str} (h : ∀ t ∈ ts, t.length ≤ 99999) (i : Nat) : Small (wordsAt ts i) ∧ wordsAt ts i ≠ [] := by
  have hs : (ts.getD i (Str.ofString "")).length ≤ 99999 := by
    rw [List.getD_eq_getElem?_getD]
    by_cases hi : i < ts.length
    · rw [List.getElem?_eq_getElem hi]; exact h _ (List.getElem_mem hi)
    · rw [List.getElem?_eq_none (by omega)]; decide
  refine ⟨split_small (s := ts.getD i (Str.ofString "")) hs, fun e => ?_⟩
  have e2 := congrArg List.length e
  unfold wordsAt at e2
  have := split_ne (ts.getD i (Str.ofString "")) (Str.ofString " ")
  exact this (List.eq_nil_of_length_eq_zero e2)

section
variable (K : PySem.W.Frag) (c : RC) (ec : EC) (R N F PC : Addr)
/-- v is a function's object: its name, so many parameters -/
def FunO (M : Addr → Prop) (H : Hp) (f : Str × Nat) (v : V) : Prop := ∃ (p dx l : Addr) (ps : List Str) (b g : V), v = .ref p ∧ H p = some (.ins F dx [("name", .str f.1), ("params", .ref l), ("body", b), ("give", g)]) ∧ M l ∧ H l = some (.lst (ps.map V.str)) ∧ ps.length = f.2
def FunK (M : Addr → Prop) (H : Hp) (f : Str × Nat) (kv : Key × V) : Prop := kv.1 = .inr f.1 ∧ FunO F M H f kv.2
def spFunction : Sp := fun vs H Q E => ∃ (X : Rd) (st : RS), vs = [.ref X.p] ∧ RdH K c ec R X H st ∧ headAt X.ts st.at_ = some "fun" ∧
  (∀ f st' v H', functionF X.ts st = some (f, st') → Mv X H H' → RdH K c ec R X H' st' → FunO F X.N H' f v → Q v H') ∧ (functionF X.ts st = none → ∀ H', Mv X H H' → E (.ref N) none H')
def spCalls : Sp := fun vs H Q E => ∃ (a d : Addr) (os : List V) (kvs : List (Key × V)) (M : Addr → Prop) (cs fs : List (Str × Nat)), vs = [.ref a, .ref d] ∧ H a = some (.lst os) ∧ H d = some (.dK kvs) ∧ All2 (CallO c ec M H) cs os ∧ All2 (FunK F M H) fs kvs ∧
  (cs.all (callOk fs) = true → Q .non H) ∧ (cs.all (callOk fs) = false → E (.ref N) none H)
/-- v is a program read from the lines ts, with these rows -/
def ProgO (H : Hp) (ts : List Str) (num : List (Nat × RT)) (v : V) : Prop := ∃ (p dx a d : Addr) (m f : V) (kvs : List (Key × V)), v = .ref p ∧ H p = some (.ins PC dx [("texts", .ref a), ("main", m), ("functions", f), ("by_number", .ref d)]) ∧ SqL K H a (ts.map V.str) ∧ H d = some (.dK kvs) ∧ All2 (NumO c ec (fun _ => True) H) num kvs
def TextOk (s : Str) : Prop := s.length ≤ 1000000 ∧ (∀ t ∈ Txt.split s "\n", t.length ≤ 99999) ∧ PyData.strOk s = true
def spRead : Sp := fun vs H Q E => ∃ x : V, vs = [x] ∧ ((∃ (s : Str), x = .str s ∧ TextOk s ∧
  (∀ num v H', readF (Txt.split s "\n") = some num → Same H H' → ProgO K c ec PC H' (Txt.split s "\n") num v → Q v H') ∧ (readF (Txt.split s "\n") = none → ∀ H', Same H H' → E (.ref N) none H')) ∨
  (∃ t, TyX K H x t ∧ PySem.W.kitOne K t (.type "str") = some false ∧ E (.ref N) none H))
def spPText : Sp := fun vs H Q _ => ∃ (v : V) (ts : List Str) (num : List (Nat × RT)), vs = [v] ∧ ProgO K c ec PC H ts num v ∧ ts.length ≤ 100 ∧ (∀ t ∈ ts, t.length ≤ 99999) ∧ Q (.str (Txt.join "\n" ts)) H
def spPLines : Sp := fun vs H Q _ => ∃ (v : V) (ts : List Str) (num : List (Nat × RT)), vs = [v] ∧ ProgO K c ec PC H ts num v ∧ ∀ l, H l = none → Q (.ref l) (upd H l (.lst (ts.map V.str)))
def rowOf (num : List (Nat × RT)) (n : Int) : Option RT := (num.find? fun x => decide ((x.1 : Int) = n)).map (·.2)
def spPRow : Sp := fun vs H Q _ => ∃ (v : V) (ts : List Str) (num : List (Nat × RT)) (n : Int), vs = [v, .int n] ∧ ProgO K c ec PC H ts num v ∧ (∀ rt, rowOf num n = some rt → (∀ e ∈ rt.exs, e.depth ≤ 7) ∧ rt.exs.length ≤ 1000) ∧
  (rowOf num n = none → Q .non H) ∧ (∀ rt, rowOf num n = some rt → ∀ r H', Same H H' → RTold K H' rt r → Q r H')
end


def MENU1 : List Str := ["", "0", "1", "00", "01", "999999", "1000000", "0999999", "-1", "1.0", "a", "abcdef", "abcdefg", "A", "a1"]
def MENU2 : List Str := ["cell", "plus", "minus", "times", "over", "rest", "less", "same", "skip", "set", "if", "main"]
def MENU3 : List Str := ["end", "give", "a_b"]
theorem menu_ok : ∀ s ∈ (MENU1 ++ MENU2) ++ MENU3, (tl s).length ≤ 7 ∧ ∀ c ∈ tl s, c < 128 := by decide +kernel
def WordOk (s : Str) : Prop := (tl s).length ≤ 7 ∧ ∀ c ∈ tl s, c < 128
def spMenu : Sp := fun vs H Q _ => ∃ (p : Addr), vs = [.ref p] ∧ WellAt H p ∧ ∀ (s : Str) H', WordOk s → KeepX p H H' → WellAt H' p → Q (.str s) H'
def spSpoiled : Sp := fun vs H Q _ => ∃ (p a : Addr) (ws : List Str), vs = [.ref p, .ref a] ∧ WellAt H p ∧ H a = some (.lst (ws.map V.str)) ∧ a ≠ p ∧ ws ≠ [] ∧ ws.length ≤ 100 ∧ (∀ s ∈ ws, WordOk s) ∧
  ∀ (b : Addr) (us : List Str) H', H' b = some (.lst (us.map V.str)) → b ≠ p → us ≠ [] → us.length ≤ ws.length + 1 → (∀ s ∈ us, WordOk s) → KeepX p H H' → WellAt H' p → Q (.ref b) H'
def Ascii (s : Str) : Prop := ∀ c ∈ tl s, c < 128
def spTruthA (f : Str → Bool) : Sp := fun vs H Q _ => ∃ s : Str, vs = [.str s] ∧ s.length ≤ 1000 ∧ Ascii s ∧ ∀ H', Same H H' → Q (.bl (f s)) H'
def spLRead (K : PySem.W.Frag) (n : Nat) : Sp := fun vs H Q _ => ∃ (a : Addr) (ws : List Str) (i : Nat), vs = [.ref a, .int i] ∧ SqL K H a (ws.map V.str) ∧ ws.length ≤ 1000 ∧ (∀ s ∈ ws, s.length ≤ 1000 ∧ Ascii s) ∧ ws.length - i < n ∧
  (∀ e r, parseE n (ws.drop i) = some (e, r) → ∀ t v H', Same H H' → H' t = some (.tup [v, .int ((ws.length - r.length : Nat) : Int), .int e.depth]) → ToldE K H' e v → Q (.ref t) H') ∧
  (parseE n (ws.drop i) = none → ∀ H', Same H H' → Q .non H')
def spDue (K : PySem.W.Frag) : Sp := fun vs H Q _ => ∃ (s : Str), vs = [.str s] ∧ s.length ≤ 156 ∧ Ascii s ∧
  (∀ e v H', parseAll (Txt.split s " ").length (Txt.split s " ") = some [e] → Same H H' → ToldE K H' e v → Q v H') ∧
  ((∀ e, parseAll (Txt.split s " ").length (Txt.split s " ") ≠ some [e]) → ∀ H', Same H H' → Q .non H')
def spFound (K : PySem.W.Frag) : Sp := fun vs H Q _ => ∃ x : V, vs = [x] ∧ ((∃ (s : Str), x = .str s ∧ s.length ≤ 99999 ∧
  (∀ e v H', parseAll (Txt.split s " ").length (Txt.split s " ") = some [e] → Same H H' → ToldE K H' e v → Q v H') ∧
  ((∀ e, parseAll (Txt.split s " ").length (Txt.split s " ") ≠ some [e]) → ∀ H', Same H H' → Q (.str "refused") H')) ∨
  (∃ t, TyX K H x t ∧ PySem.W.kitOne K t (.type "str") = some false ∧ ∀ H', Same H H' → Q (.str "refused") H'))
theorem cut_from {ws : List Str} {i : Nat} (h : i ≤ ws.length) : cutV (ws.map V.str) (some (i : Int)) none = (ws.drop i).map V.str := by
  unfold cutV
  rw [HT.sIx_nat, HT.sIx_none, List.length_map, Nat.min_eq_left h, ← List.map_drop, ← List.map_take, List.take_of_length_le (by rw [List.length_drop]; exact Nat.le_refl _)]
theorem cut_to {ws : List Str} {i : Nat} (h : i ≤ ws.length) : cutV (ws.map V.str) none (some (i : Int)) = (ws.take i).map V.str := by
  unfold cutV
  rw [HT.sIx_nat, HT.sIx_none, List.length_map, Nat.min_eq_left h, Nat.sub_zero, List.drop_zero, ← List.map_take]
theorem strOk_ascii {s : Str} (h : Ascii s) : PyData.strOk s = true := by
  unfold PyData.strOk
  rw [← Array.all_toList]
  refine List.all_eq_true.mpr fun c hc => ?_
  have := h c hc
  simp only [decide_eq_true_eq]
  omega
def signs (l : List Nat) : List V := l.map fun c => V.str ⟨#[c]⟩
theorem dp_signs {K : PySem.W.Frag} {H : Hp} : ∀ l : List Nat, DpAll K H (signs l) (l.map fun c => PyData.str ⟨#[c]⟩)
  | [] => .nil
  | c :: r => .cons (.str _) (dp_signs r)
theorem lay_signs : ∀ {l : List Nat}, (∀ c ∈ l, c < 128) → PyData.canLayAll0 (l.map fun c => PyData.str ⟨#[c]⟩) = true
  | [], _ => rfl
  | c :: r, h => by
    have h1 : PyData.strOk ⟨#[c]⟩ = true := strOk_ascii fun d hd => by
      have : d = c := List.mem_singleton.mp hd
      rw [this]; exact h c List.mem_cons_self
    show (PyData.strOk ⟨#[c]⟩ && PyData.canLayAll0 (r.map fun c => PyData.str ⟨#[c]⟩)) = true
    rw [h1, lay_signs fun d hd => h d (List.mem_cons_of_mem _ hd)]; rfl
theorem deep_signs : ∀ l : List Nat, PyData.depthAll (l.map fun c => PyData.str ⟨#[c]⟩) = 0
  | [] => rfl
  | c :: r => by show max 0 (PyData.depthAll (r.map fun c => PyData.str ⟨#[c]⟩)) = 0; rw [deep_signs r]; rfl
theorem signs_shaped {l : List Nat} (h : ∀ c ∈ l, c < 128) : SeqAt.shaped (.list (l.map fun c => PyData.str ⟨#[c]⟩)) = true := by
  show (PyData.canLayAll0 _ && decide (PyData.depthAll _ + 1 ≤ 64)) = true
  rw [lay_signs h, deep_signs]; rfl
theorem signs_eqv : ∀ l : List Nat, PyData.eqv (.list (l.map fun c => PyData.str ⟨#[c]⟩)) (.list []) = decide (l = [])
  | [] => rfl
  | c :: r => by rw [decide_eq_false (by simp)]; rfl
theorem sign_lt (a b : Nat) : [a] < [b] ↔ a < b := by
  constructor
  · intro h
    cases h with
    | rel h => exact h
    | cons h => cases h
  · exact fun h => .rel h
theorem lt_left {c n : Nat} {b : Str} (hb : b.cps.toList = [n]) : (⟨#[c]⟩ : Str).cps.toList < b.cps.toList ↔ c < n := by
  rw [hb]; exact sign_lt c n
theorem lt_right {c n : Nat} {b : Str} (hb : b.cps.toList = [n]) : b.cps.toList < (⟨#[c]⟩ : Str).cps.toList ↔ n < c := by
  rw [hb]; exact sign_lt n c
theorem filt_empty {f : Nat → Bool} (l : List Nat) : decide (l.filter (fun c => !f c) = []) = l.all f := by
  rw [Bool.eq_iff_iff, decide_eq_true_eq, List.filter_eq_nil_iff, List.all_eq_true]
  constructor
  · intro h c hc
    have := h c hc
    simp at this
    exact this
  · intro h c hc
    rw [h c hc]; simp
theorem refused_shaped : SeqAt.shaped (.str "refused") = true := by decide +kernel
theorem due_all {e : Ex} {ws : List Str} {n : Nat} (hn : ws.length < n) (h6 : 6 ≤ n) : parseAll ws.length ws = some [e] ↔ (parseE n ws = some (e, []) ∧ e.depth ≤ 6 ∧ e.parts ≤ 15) := by
  constructor
  · intro h
    cases ws with
    | nil => cases h
    | cons x t =>
      rw [parseAll_step] at h
      cases q : parseE 6 (x :: t) with
      | none => rw [q] at h; cases h
      | some p =>
        obtain ⟨e1, r⟩ := p
        rw [q] at h
        simp only at h
        by_cases c : e1.parts ≤ 15
        · rw [if_pos c] at h
          cases q2 : parseAll r.length r with
          | none => rw [q2] at h; cases h
          | some es =>
            rw [q2] at h
            have h2 : e1 :: es = [e] := Option.some.inj h
            injection h2 with h3 h4
            subst h3 h4
            have hr : r = [] := by
              cases r with
              | nil => rfl
              | cons y z =>
                rw [parseAll_step] at q2
                cases q3 : parseE 6 (y :: z) with
                | none => rw [q3] at q2; cases q2
                | some p3 =>
                  obtain ⟨e3, r3⟩ := p3
                  rw [q3] at q2
                  simp only at q2
                  by_cases c3 : e3.parts ≤ 15
                  · rw [if_pos c3] at q2
                    cases q4 : parseAll r3.length r3 with
                    | none => rw [q4] at q2; cases q2
                    | some es => rw [q4] at q2; cases q2
                  · rw [if_neg c3] at q2; cases q2
            subst hr
            obtain ⟨w1, w2, w3⟩ := parse_wf q
            refine ⟨?_, w2, c⟩
            rw [w3]
            exact parse_toks w1 (by omega) []
        · rw [if_neg c] at h; cases h
  · rintro ⟨h1, h2, h3⟩
    obtain ⟨w1, _, w3⟩ := parse_wf h1
    rw [List.append_nil] at w3
    rw [w3]
    have q := parse_toks w1 h2 []
    rw [List.append_nil] at q
    cases h4 : e.toks with
    | nil => have := e.toks_len; rw [h4] at this; have := e.parts_pos; simp at *; omega
    | cons x r =>
      rw [h4] at q
      rw [parseAll_step, q]
      show (if e.parts ≤ 15 then some [e] else none) = some [e]
      rw [if_pos h3]
def WL19 : List Str := ["skip", "set", "put", "ask", "draw", "tell", "if", "else", "end", "while", "call", "fun", "main", "give", "cell", "plus", "minus", "times", "over"]
def WL3 : List Str := ["rest", "less", "same"]
theorem wl_split : Txt.split (Str.ofString "skip set put ask draw tell if else end while call fun main give cell plus minus times over") (Str.ofString " ") = WL19 := by decide +kernel
theorem wl_to : ∀ s ∈ WL19 ++ WL3, s ∈ PAIRW ∨ s ∈ ROWW ∨ s ∈ OTHW := by decide +kernel
theorem wl_of : (∀ s ∈ PAIRW, s ∈ WL19 ++ WL3) ∧ (∀ s ∈ ROWW, s ∈ WL19 ++ WL3) ∧ (∀ s ∈ OTHW, s ∈ WL19 ++ WL3) := by decide +kernel
def KVS : List (Key × V) := (.inr "cell", .int 1) :: PAIRW.map fun w => (.inr w, .int 2)
def manyOf (w : Str) : Nat := if w = "cell" then 1 else if w ∈ PAIRW then 2 else 0
theorem kvs_merge : mergeK [] KVS = KVS := by kernel_rfl
theorem kvs_get (w : Str) : (valV KVS (.inr w)).getD (.int 0) = .int (manyOf w : Nat) := by
  unfold manyOf
  by_cases h0 : w = "cell"
  · rw [if_pos h0, h0]; exact (congrArg (fun z : Option V => z.getD (.int 0)) (valV_pos rfl))
  · rw [if_neg h0]
    unfold KVS
    rw [valV_neg (fun e => h0 (Sum.inr.inj e).symm)]
    have key : ∀ L : List Str, (valV (L.map fun w => ((.inr w : Key), V.int 2)) (.inr w)).getD (.int 0) = .int ((if w ∈ L then 2 else 0 : Nat) : Int) := by
      intro L
      induction L with
      | nil => rfl
      | cons x r ih =>
        rw [List.map_cons]
        by_cases hx : x = w
        · rw [valV_pos (by rw [hx]), if_pos (by rw [hx]; exact List.mem_cons_self)]; rfl
        · rw [valV_neg (fun e => hx (Sum.inr.inj e)), ih]
          by_cases hm : w ∈ r
          · rw [if_pos hm, if_pos (List.mem_cons_of_mem _ hm)]
          · rw [if_neg hm, if_neg (fun h => (List.mem_cons.mp h).elim (fun e => hx e.symm) hm)]
    exact key PAIRW
/-- so many expressions, one behind the other -/
def parseK (n : Nat) : Nat → List Str → Option (List Ex × List Str)
  | 0, ws => some ([], ws)
  | k + 1, ws => match parseK n k ws with
    | none => none
    | some (es, r) => match parseE n r with
      | none => none
      | some (e, r2) => some (es ++ [e], r2)
theorem parseK_none {n : Nat} {ws : List Str} {k : Nat} (h : parseK n k ws = none) : ∀ j, parseK n (k + j) ws = none
  | 0 => h
  | j + 1 => by
    show (match parseK n (k + j) ws with | none => none | some (es, r) => match parseE n r with | none => none | some (e, r2) => some (es ++ [e], r2)) = none
    rw [parseK_none h j]
def dmax (es : List Ex) : Nat := es.foldl (fun d e => max d e.depth) 0
theorem dmax_snoc (es : List Ex) (e : Ex) : dmax (es ++ [e]) = max (dmax es) e.depth := by
  unfold dmax
  rw [List.foldl_append]; rfl
theorem parseE_many {n : Nat} {w : Str} {r : List Str} (h1 : isValW w = false) (h2 : isNameW w = false) : parseE (n + 1) (w :: r) = (match manyOf w with
    | 0 => none
    | k + 1 => match parseK n (k + 1) r with
      | none => none
      | some (es, r2) => match es with
        | [e] => some (.cell e, r2)
        | [e1, e2] => some (.two w e1 e2, r2)
        | _ => none) := by
  rw [parseE_cons, if_neg (by rw [h1]; decide), if_neg (by rw [h2]; decide)]
  unfold manyOf
  by_cases c1 : w = "cell"
  · rw [if_pos c1, if_pos c1]
    show _ = (match (match parseE n r with | none => none | some (e, r2) => some (([] : List Ex) ++ [e], r2)) with | none => none | some (es, r2) => _)
    cases parseE n r with
    | none => rfl
    | some p => rfl
  · rw [if_neg c1, if_neg c1]
    by_cases c2 : w ∈ PAIRW
    · rw [if_pos c2, if_pos c2]
      show _ = (match (match (match parseE n r with | none => none | some (e, r2) => some (([] : List Ex) ++ [e], r2)) with | none => none | some (es, r) => match parseE n r with | none => none | some (e, r2) => some (es ++ [e], r2)) with | none => none | some (es, r2) => _)
      cases parseE n r with
      | none => rfl
      | some p =>
        obtain ⟨e1, r1⟩ := p
        simp only
        cases parseE n r1 with
        | none => rfl
        | some p => rfl
    · rw [if_neg c2, if_neg c2]
theorem parseK_len {n : Nat} {ws : List Str} : ∀ {k : Nat} {es : List Ex} {r : List Str}, parseK n k ws = some (es, r) → es.length = k
  | 0, es, r, h => by
    have : ([], ws) = (es, r) := Option.some.inj h
    rw [← (Prod.mk.inj this).1]; rfl
  | k + 1, es, r, h => by
    have h' : (match parseK n k ws with | none => none | some (es, r) => match parseE n r with | none => none | some (e, r2) => some (es ++ [e], r2)) = some (es, r) := h
    cases q : parseK n k ws with
    | none => rw [q] at h'; cases h'
    | some p =>
      obtain ⟨es1, r1⟩ := p
      rw [q] at h'
      simp only at h'
      cases q2 : parseE n r1 with
      | none => rw [q2] at h'; cases h'
      | some p2 =>
        obtain ⟨e2, r2⟩ := p2
        rw [q2] at h'
        have := (Prod.mk.inj (Option.some.inj h')).1
        rw [← this, List.length_append, parseK_len q]; rfl
theorem split_len {s : Str} : (Txt.split s " ").length ≤ s.length + 1 ∧ ∀ p ∈ Txt.split s " ", p.length ≤ s.length := by
  have e := PySem.StrLaws.join_split s (Str.ofString " ")
  have e2 := congrArg tl e
  have b : tl (Str.ofString " ") = [32] := by decide +kernel
  rw [tl_join, b] at e2
  have q := joinL_len ((Txt.split s (Str.ofString " ")).map tl)
  rw [e2, List.length_map, ← len_tl s] at q
  refine ⟨q.1, fun p hp => ?_⟩
  have := q.2 (tl p) (List.mem_map.mpr ⟨p, hp, rfl⟩)
  rw [← len_tl p] at this
  exact this
theorem joinL_sub : ∀ {L : List (List Nat)} {p : List Nat} {c : Nat} {z : List Nat}, p ∈ L → c ∈ p → c ∈ joinL z L
  | [x], p, c, z, h, hc => by rw [List.mem_singleton.mp h] at hc; exact hc
  | x :: y :: r, p, c, z, h, hc => by
    show c ∈ x ++ (z ++ joinL z (y :: r))
    rcases List.mem_cons.mp h with rfl | h
    · exact List.mem_append_left _ hc
    · exact List.mem_append_right _ (List.mem_append_right _ (joinL_sub h hc))
theorem split_ascii {s : Str} (h : Ascii s) : ∀ p ∈ Txt.split s " ", Ascii p := by
  have e2 := congrArg tl (PySem.StrLaws.join_split s (Str.ofString " "))
  rw [tl_join] at e2
  intro p hp c hc
  refine h c ?_
  rw [← e2]
  exact joinL_sub (List.mem_map.mpr ⟨p, hp, rfl⟩) hc
def spLaw (K : PySem.W.Frag) : Sp := fun vs H Q _ => ∃ (a : Addr) (ns : List Int), vs = [.ref a] ∧ SqL K H a (ns.map V.int) ∧ ns.length ≤ 63 ∧ ∀ H', Q (.bl true) H'

end K12
namespace K12
open PySem L2 TL
abbrev N_is_name : List Str := ["thing", "sign"]
theorem sc_is_name : FnScope ["thing", "sign"] ["thing"] (defScope s_is_name) := ⟨rfl, rfl, rfl, by decide +kernel, rfl, by decide +kernel, by decide +kernel⟩
abbrev N_is_value_word : List Str := ["word", "sign"]
theorem sc_is_value_word : FnScope ["word", "sign"] ["word"] (defScope s_is_value_word) := ⟨rfl, rfl, rfl, by decide +kernel, rfl, by decide +kernel, by decide +kernel⟩
abbrev N_Number_init : List Str := ["self", "value"]
theorem sc_Number_init : FnScope ["self", "value"] ["self", "value"] (defScope s_Number_init) := ⟨rfl, rfl, rfl, by decide +kernel, rfl, by decide +kernel, by decide +kernel⟩
abbrev N_Box_init : List Str := ["self", "name"]
theorem sc_Box_init : FnScope ["self", "name"] ["self", "name"] (defScope s_Box_init) := ⟨rfl, rfl, rfl, by decide +kernel, rfl, by decide +kernel, by decide +kernel⟩
abbrev N_Cell_init : List Str := ["self", "inner"]
theorem sc_Cell_init : FnScope ["self", "inner"] ["self", "inner"] (defScope s_Cell_init) := ⟨rfl, rfl, rfl, by decide +kernel, rfl, by decide +kernel, by decide +kernel⟩
abbrev N_Two_init : List Str := ["self", "word", "left", "right"]
theorem sc_Two_init : FnScope ["self", "word", "left", "right"] ["self", "word", "left", "right"] (defScope s_Two_init) := ⟨rfl, rfl, rfl, by decide +kernel, rfl, by decide +kernel, by decide +kernel⟩
abbrev N_Expr_parts : List Str := ["self"]
theorem sc_Expr_parts : FnScope ["self"] ["self"] (defScope s_Expr_parts) := ⟨rfl, rfl, rfl, by decide +kernel, rfl, by decide +kernel, by decide +kernel⟩
abbrev N_Cell_parts : List Str := ["self"]
theorem sc_Cell_parts : FnScope ["self"] ["self"] (defScope s_Cell_parts) := ⟨rfl, rfl, rfl, by decide +kernel, rfl, by decide +kernel, by decide +kernel⟩
abbrev N_Two_parts : List Str := ["self"]
theorem sc_Two_parts : FnScope ["self"] ["self"] (defScope s_Two_parts) := ⟨rfl, rfl, rfl, by decide +kernel, rfl, by decide +kernel, by decide +kernel⟩
abbrev N_expr_at : List Str := ["row", "at", "deep", "word", "inner", "behind", "left", "middle", "right"]
theorem sc_expr_at : FnScope ["row", "at", "deep", "word", "inner", "behind", "left", "middle", "right"] ["row", "at", "deep"] (defScope s_expr_at) := ⟨rfl, rfl, rfl, by decide +kernel, rfl, by decide +kernel, by decide +kernel⟩
abbrev N_exprs_of : List Str := ["row", "found", "at", "one"]
theorem sc_exprs_of : FnScope ["row", "found", "at", "one"] ["row"] (defScope s_exprs_of) := ⟨rfl, rfl, rfl, by decide +kernel, rfl, by decide +kernel, by decide +kernel⟩
abbrev N_Row_init : List Str := ["self", "number"]
theorem sc_Row_init : FnScope ["self", "number"] ["self", "number"] (defScope s_Row_init) := ⟨rfl, rfl, rfl, by decide +kernel, rfl, by decide +kernel, by decide +kernel⟩
abbrev N_Set_init : List Str := ["self", "number", "box", "expr"]
theorem sc_Set_init : FnScope ["self", "number", "box", "expr"] ["self", "number", "box", "expr"] (defScope s_Set_init) := ⟨rfl, rfl, rfl, by decide +kernel, rfl, by decide +kernel, by decide +kernel⟩
abbrev N_Put_init : List Str := ["self", "number", "first", "second"]
theorem sc_Put_init : FnScope ["self", "number", "first", "second"] ["self", "number", "first", "second"] (defScope s_Put_init) := ⟨rfl, rfl, rfl, by decide +kernel, rfl, by decide +kernel, by decide +kernel⟩
abbrev N_Ask_init : List Str := ["self", "number", "box", "word", "expr"]
theorem sc_Ask_init : FnScope ["self", "number", "box", "word", "expr"] ["self", "number", "box", "word", "expr"] (defScope s_Ask_init) := ⟨rfl, rfl, rfl, by decide +kernel, rfl, by decide +kernel, by decide +kernel⟩
abbrev N_Draw_init : List Str := ["self", "number", "box", "word"]
theorem sc_Draw_init : FnScope ["self", "number", "box", "word"] ["self", "number", "box", "word"] (defScope s_Draw_init) := ⟨rfl, rfl, rfl, by decide +kernel, rfl, by decide +kernel, by decide +kernel⟩
abbrev N_Tell_init : List Str := ["self", "number", "expr"]
theorem sc_Tell_init : FnScope ["self", "number", "expr"] ["self", "number", "expr"] (defScope s_Tell_init) := ⟨rfl, rfl, rfl, by decide +kernel, rfl, by decide +kernel, by decide +kernel⟩
abbrev N_Choice_init : List Str := ["self", "number", "test", "first", "second"]
theorem sc_Choice_init : FnScope ["self", "number", "test", "first", "second"] ["self", "number", "test", "first", "second"] (defScope s_Choice_init) := ⟨rfl, rfl, rfl, by decide +kernel, rfl, by decide +kernel, by decide +kernel⟩
abbrev N_Loop_init : List Str := ["self", "number", "test", "body"]
theorem sc_Loop_init : FnScope ["self", "number", "test", "body"] ["self", "number", "test", "body"] (defScope s_Loop_init) := ⟨rfl, rfl, rfl, by decide +kernel, rfl, by decide +kernel, by decide +kernel⟩
abbrev N_Call_init : List Str := ["self", "number", "box", "fun", "given"]
theorem sc_Call_init : FnScope ["self", "number", "box", "fun", "given"] ["self", "number", "box", "fun", "given"] (defScope s_Call_init) := ⟨rfl, rfl, rfl, by decide +kernel, rfl, by decide +kernel, by decide +kernel⟩
abbrev N_Give_init : List Str := ["self", "number", "expr"]
theorem sc_Give_init : FnScope ["self", "number", "expr"] ["self", "number", "expr"] (defScope s_Give_init) := ⟨rfl, rfl, rfl, by decide +kernel, rfl, by decide +kernel, by decide +kernel⟩
abbrev N_check_names : List Str := ["words", "many", "word"]
theorem sc_check_names : FnScope ["words", "many", "word"] ["words", "many"] (defScope s_check_names) := ⟨rfl, rfl, rfl, by decide +kernel, rfl, by decide +kernel, by decide +kernel⟩
abbrev N_only : List Str := ["found"]
theorem sc_only : FnScope ["found"] ["found"] (defScope s_only) := ⟨rfl, rfl, rfl, by decide +kernel, rfl, by decide +kernel, by decide +kernel⟩
abbrev N_simple_row : List Str := ["number", "words", "found"]
theorem sc_simple_row : FnScope ["number", "words", "found"] ["number", "words"] (defScope s_simple_row) := ⟨rfl, rfl, rfl, by decide +kernel, rfl, by decide +kernel, by decide +kernel⟩
abbrev N_Reader_head : List Str := ["self"]
theorem sc_Reader_head : FnScope ["self"] ["self"] (defScope s_Reader_head) := ⟨rfl, rfl, rfl, by decide +kernel, rfl, by decide +kernel, by decide +kernel⟩
abbrev N_Reader_init : List Str := ["self", "texts"]
theorem sc_Reader_init : FnScope ["self", "texts"] ["self", "texts"] (defScope s_Reader_init) := ⟨rfl, rfl, rfl, by decide +kernel, rfl, by decide +kernel, by decide +kernel⟩
abbrev N_Reader_pass_line : List Str := ["self", "text"]
theorem sc_Reader_pass_line : FnScope ["self", "text"] ["self", "text"] (defScope s_Reader_pass_line) := ⟨rfl, rfl, rfl, by decide +kernel, rfl, by decide +kernel, by decide +kernel⟩
abbrev N_Reader_call_row : List Str := ["self", "number", "words", "found"]
theorem sc_Reader_call_row : FnScope ["self", "number", "words", "found"] ["self", "number", "words"] (defScope s_Reader_call_row) := ⟨rfl, rfl, rfl, by decide +kernel, rfl, by decide +kernel, by decide +kernel⟩
abbrev N_Reader_row_with_rows : List Str := ["self", "number", "words", "within", "test", "first", "second"]
theorem sc_Reader_row_with_rows : FnScope ["self", "number", "words", "within", "test", "first", "second"] ["self", "number", "words", "within"] (defScope s_Reader_row_with_rows) := ⟨rfl, rfl, rfl, by decide +kernel, rfl, by decide +kernel, by decide +kernel⟩
abbrev N_Reader_block : List Str := ["self", "within", "found", "row"]
theorem sc_Reader_block : FnScope ["self", "within", "found", "row"] ["self", "within"] (defScope s_Reader_block) := ⟨rfl, rfl, rfl, by decide +kernel, rfl, by decide +kernel, by decide +kernel⟩
abbrev N_Reader_one_row : List Str := ["self", "within", "number", "words"]
theorem sc_Reader_one_row : FnScope ["self", "within", "number", "words"] ["self", "within"] (defScope s_Reader_one_row) := ⟨rfl, rfl, rfl, by decide +kernel, rfl, by decide +kernel, by decide +kernel⟩
abbrev N_Function_init : List Str := ["self", "name", "params", "body", "give"]
theorem sc_Function_init : FnScope ["self", "name", "params", "body", "give"] ["self", "name", "params", "body", "give"] (defScope s_Function_init) := ⟨rfl, rfl, rfl, by decide +kernel, rfl, by decide +kernel, by decide +kernel⟩
abbrev N_Reader_function : List Str := ["self", "words", "params", "body", "give"]
theorem sc_Reader_function : FnScope ["self", "words", "params", "body", "give"] ["self"] (defScope s_Reader_function) := ⟨rfl, rfl, rfl, by decide +kernel, rfl, by decide +kernel, by decide +kernel⟩
abbrev N_check_calls : List Str := ["calls", "functions", "one"]
theorem sc_check_calls : FnScope ["calls", "functions", "one"] ["calls", "functions"] (defScope s_check_calls) := ⟨rfl, rfl, rfl, by decide +kernel, rfl, by decide +kernel, by decide +kernel⟩
abbrev N_Program_init : List Str := ["self", "texts", "main", "functions", "by_number"]
theorem sc_Program_init : FnScope ["self", "texts", "main", "functions", "by_number"] ["self", "texts", "main", "functions", "by_number"] (defScope s_Program_init) := ⟨rfl, rfl, rfl, by decide +kernel, rfl, by decide +kernel, by decide +kernel⟩
abbrev N_Program_text : List Str := ["self"]
theorem sc_Program_text : FnScope ["self"] ["self"] (defScope s_Program_text) := ⟨rfl, rfl, rfl, by decide +kernel, rfl, by decide +kernel, by decide +kernel⟩
abbrev N_read_program : List Str := ["text", "texts", "reader", "functions", "found", "main"]
theorem sc_read_program : FnScope ["text", "texts", "reader", "functions", "found", "main"] ["text"] (defScope s_read_program) := ⟨rfl, rfl, rfl, by decide +kernel, rfl, by decide +kernel, by decide +kernel⟩
abbrev N_l_cell : List Str := ["_law_script", "_law_k"]
theorem sc_l_cell : FnScope ["_law_script", "_law_k"] ["_law_script", "_law_k"] (defScope s_l_cell) := ⟨rfl, rfl, rfl, by decide +kernel, rfl, by decide +kernel, by decide +kernel⟩
abbrev N_l_mixed : List Str := ["_law_cell_here", "_law_k", "_law_number"]
theorem sc_l_mixed : FnScope ["_law_cell_here", "_law_k", "_law_number"] ["_law_cell_here", "_law_k"] (defScope s_l_mixed) := ⟨rfl, rfl, rfl, by decide +kernel, rfl, by decide +kernel, by decide +kernel⟩
abbrev N_l_twice : List Str := ["_law_cell_here", "_law_k", "_law_number"]
theorem sc_l_twice : FnScope ["_law_cell_here", "_law_k", "_law_number"] ["_law_cell_here", "_law_k"] (defScope s_l_twice) := ⟨rfl, rfl, rfl, by decide +kernel, rfl, by decide +kernel, by decide +kernel⟩
abbrev N_l_well : List Str := ["_law_script", "_law_k"]
theorem sc_l_well : FnScope ["_law_script", "_law_k"] ["_law_script", "_law_k"] (defScope s_l_well) := ⟨rfl, rfl, rfl, by decide +kernel, rfl, by decide +kernel, by decide +kernel⟩
abbrev N_l_draw : List Str := ["_law_well_here", "_law_most", "_law_number"]
theorem sc_l_draw : FnScope ["_law_well_here", "_law_most", "_law_number"] ["_law_well_here", "_law_most"] (defScope s_l_draw) := ⟨rfl, rfl, rfl, by decide +kernel, rfl, by decide +kernel, by decide +kernel⟩
abbrev N_l_value : List Str := ["_law_well_here", "_law_way"]
theorem sc_l_value : FnScope ["_law_well_here", "_law_way"] ["_law_well_here"] (defScope s_l_value) := ⟨rfl, rfl, rfl, by decide +kernel, rfl, by decide +kernel, by decide +kernel⟩
abbrev N_l_name : List Str := ["_law_well_here", "_law_some", "_law_name_here", "_law_k"]
theorem sc_l_name : FnScope ["_law_well_here", "_law_some", "_law_name_here", "_law_k"] ["_law_well_here"] (defScope s_l_name) := ⟨rfl, rfl, rfl, by decide +kernel, rfl, by decide +kernel, by decide +kernel⟩
abbrev N_l_parts : List Str := ["_law_told", "_law_one"]
theorem sc_l_parts : FnScope ["_law_told", "_law_one"] ["_law_told"] (defScope s_l_parts) := ⟨rfl, rfl, rfl, by decide +kernel, rfl, by decide +kernel, by decide +kernel⟩
abbrev N_l_expr : List Str := ["_law_well_here", "_law_deep", "_law_most", "_law_way", "_law_word", "_law_left"]
theorem sc_l_expr : FnScope ["_law_well_here", "_law_deep", "_law_most", "_law_way", "_law_word", "_law_left"] ["_law_well_here", "_law_deep", "_law_most"] (defScope s_l_expr) := ⟨rfl, rfl, rfl, by decide +kernel, rfl, by decide +kernel, by decide +kernel⟩
abbrev N_l_words_of : List Str := ["_law_told", "_law_one"]
theorem sc_l_words_of : FnScope ["_law_told", "_law_one"] ["_law_told"] (defScope s_l_words_of) := ⟨rfl, rfl, rfl, by decide +kernel, rfl, by decide +kernel, by decide +kernel⟩
abbrev N_l_some_expr : List Str := ["_law_well_here", "_law_way"]
theorem sc_l_some_expr : FnScope ["_law_well_here", "_law_way"] ["_law_well_here"] (defScope s_l_some_expr) := ⟨rfl, rfl, rfl, by decide +kernel, rfl, by decide +kernel, by decide +kernel⟩
abbrev N_l_heads : List Str := ["_law_well_here", "_law_heads_here", "_law_k", "_law_name_here", "_law_params", "_law_turn"]
theorem sc_l_heads : FnScope ["_law_well_here", "_law_heads_here", "_law_k", "_law_name_here", "_law_params", "_law_turn"] ["_law_well_here"] (defScope s_l_heads) := ⟨rfl, rfl, rfl, by decide +kernel, rfl, by decide +kernel, by decide +kernel⟩
abbrev N_l_simple : List Str := ["_law_world_here", "_law_well_here", "_law_way", "_law_name_here", "_law_params", "_law_one"]
theorem sc_l_simple : FnScope ["_law_world_here", "_law_well_here", "_law_way", "_law_name_here", "_law_params", "_law_one"] ["_law_world_here", "_law_well_here", "_law_way"] (defScope s_l_simple) := ⟨rfl, rfl, rfl, by decide +kernel, rfl, by decide +kernel, by decide +kernel⟩
abbrev N_l_line : List Str := ["_law_told", "_law_found_here", "_law_part"]
theorem sc_l_line : FnScope ["_law_told", "_law_found_here", "_law_part"] ["_law_told"] (defScope s_l_line) := ⟨rfl, rfl, rfl, by decide +kernel, rfl, by decide +kernel, by decide +kernel⟩
abbrev N_l_put_line : List Str := ["_law_world_here", "_law_told"]
theorem sc_l_put_line : FnScope ["_law_world_here", "_law_told"] ["_law_world_here", "_law_told"] (defScope s_l_put_line) := ⟨rfl, rfl, rfl, by decide +kernel, rfl, by decide +kernel, by decide +kernel⟩
abbrev N_l_row : List Str := ["_law_world_here", "_law_well_here", "_law_within", "_law_way"]
theorem sc_l_row : FnScope ["_law_world_here", "_law_well_here", "_law_within", "_law_way"] ["_law_world_here", "_law_well_here", "_law_within"] (defScope s_l_row) := ⟨rfl, rfl, rfl, by decide +kernel, rfl, by decide +kernel, by decide +kernel⟩
abbrev N_l_block : List Str := ["_law_world_here", "_law_well_here", "_law_within", "_law_k"]
theorem sc_l_block : FnScope ["_law_world_here", "_law_well_here", "_law_within", "_law_k"] ["_law_world_here", "_law_well_here", "_law_within"] (defScope s_l_block) := ⟨rfl, rfl, rfl, by decide +kernel, rfl, by decide +kernel, by decide +kernel⟩
abbrev N_l_world : List Str := ["_law_script", "_law_k", "_law_well_here", "_law_heads_here", "_law_world_here", "_law_name_here", "_law_params", "_law_turn"]
theorem sc_l_world : FnScope ["_law_script", "_law_k", "_law_well_here", "_law_heads_here", "_law_world_here", "_law_name_here", "_law_params", "_law_turn"] ["_law_script", "_law_k"] (defScope s_l_world) := ⟨rfl, rfl, rfl, by decide +kernel, rfl, by decide +kernel, by decide +kernel⟩
abbrev N_l_is_name : List Str := ["_law_word", "_law_some", "_law_sign"]
theorem sc_l_is_name : FnScope ["_law_word", "_law_some", "_law_sign"] ["_law_word"] (defScope s_l_is_name) := ⟨rfl, rfl, rfl, by decide +kernel, rfl, by decide +kernel, by decide +kernel⟩
abbrev N_l_is_value : List Str := ["_law_word", "_law_sign"]
theorem sc_l_is_value : FnScope ["_law_word", "_law_sign"] ["_law_word"] (defScope s_l_is_value) := ⟨rfl, rfl, rfl, by decide +kernel, rfl, by decide +kernel, by decide +kernel⟩
abbrev N_l_read : List Str := ["_law_words", "_law_at", "_law_word", "_law_many_here", "_law_told", "_law_deep", "_law_k", "_law_found_here"]
theorem sc_l_read : FnScope ["_law_words", "_law_at", "_law_word", "_law_many_here", "_law_told", "_law_deep", "_law_k", "_law_found_here"] ["_law_words", "_law_at"] (defScope s_l_read) := ⟨rfl, rfl, rfl, by decide +kernel, rfl, by decide +kernel, by decide +kernel⟩
abbrev N_l_many : List Str := ["_law_words", "_law_many_here", "_law_at", "_law_found_here"]
theorem sc_l_many : FnScope ["_law_words", "_law_many_here", "_law_at", "_law_found_here"] ["_law_words"] (defScope s_l_many) := ⟨rfl, rfl, rfl, by decide +kernel, rfl, by decide +kernel, by decide +kernel⟩
abbrev N_l_is_simple : List Str := ["_law_words", "_law_names", "_law_word"]
theorem sc_l_is_simple : FnScope ["_law_words", "_law_names", "_law_word"] ["_law_words"] (defScope s_l_is_simple) := ⟨rfl, rfl, rfl, by decide +kernel, rfl, by decide +kernel, by decide +kernel⟩
abbrev N_l_call : List Str := ["_law_words", "_law_calls"]
theorem sc_l_call : FnScope ["_law_words", "_law_calls"] ["_law_words", "_law_calls"] (defScope s_l_call) := ⟨rfl, rfl, rfl, by decide +kernel, rfl, by decide +kernel, by decide +kernel⟩
abbrev N_l_behind : List Str := ["_law_lines", "_law_at", "_law_within", "_law_calls", "_law_words", "_law_good", "_law_ending"]
theorem sc_l_behind : FnScope ["_law_lines", "_law_at", "_law_within", "_law_calls", "_law_words", "_law_good", "_law_ending"] ["_law_lines", "_law_at", "_law_within", "_law_calls"] (defScope s_l_behind) := ⟨rfl, rfl, rfl, by decide +kernel, rfl, by decide +kernel, by decide +kernel⟩
abbrev N_l_fun_behind : List Str := ["_law_lines", "_law_at", "_law_heads_here", "_law_calls", "_law_words", "_law_word"]
theorem sc_l_fun_behind : FnScope ["_law_lines", "_law_at", "_law_heads_here", "_law_calls", "_law_words", "_law_word"] ["_law_lines", "_law_at", "_law_heads_here", "_law_calls"] (defScope s_l_fun_behind) := ⟨rfl, rfl, rfl, by decide +kernel, rfl, by decide +kernel, by decide +kernel⟩
abbrev N_l_is_program : List Str := ["_law_text", "_law_lines", "_law_heads_here", "_law_calls", "_law_at", "_law_one"]
theorem sc_l_is_program : FnScope ["_law_text", "_law_lines", "_law_heads_here", "_law_calls", "_law_at", "_law_one"] ["_law_text"] (defScope s_l_is_program) := ⟨rfl, rfl, rfl, by decide +kernel, rfl, by decide +kernel, by decide +kernel⟩
abbrev N_l_found : List Str := ["_law_text", "_law_program", "e", "_law_others", "_law_alone"]
theorem sc_l_found : FnScope ["_law_text", "_law_program", "e", "_law_others", "_law_alone"] ["_law_text"] (defScope s_l_found) := ⟨rfl, rfl, rfl, by decide +kernel, rfl, by decide +kernel, by decide +kernel⟩
abbrev N_l_menu : List Str := ["_law_well_here", "_law_some"]
theorem sc_l_menu : FnScope ["_law_well_here", "_law_some"] ["_law_well_here"] (defScope s_l_menu) := ⟨rfl, rfl, rfl, by decide +kernel, rfl, by decide +kernel, by decide +kernel⟩
abbrev N_l_word_changed : List Str := ["_law_well_here", "_law_line_here", "_law_words", "_law_at", "_law_way", "_law_other"]
theorem sc_l_word_changed : FnScope ["_law_well_here", "_law_line_here", "_law_words", "_law_at", "_law_way", "_law_other"] ["_law_well_here", "_law_line_here"] (defScope s_l_word_changed) := ⟨rfl, rfl, rfl, by decide +kernel, rfl, by decide +kernel, by decide +kernel⟩
abbrev N_l_spoiled : List Str := ["_law_well_here", "_law_lines", "_law_at", "_law_way", "_law_turned"]
theorem sc_l_spoiled : FnScope ["_law_well_here", "_law_lines", "_law_at", "_law_way", "_law_turned"] ["_law_well_here", "_law_lines"] (defScope s_l_spoiled) := ⟨rfl, rfl, rfl, by decide +kernel, rfl, by decide +kernel, by decide +kernel⟩
abbrev N_law : List Str := ["_law_script", "_law_lines", "_law_well_here", "_law_k", "_law_text", "_law_one", "_law_due", "_law_other"]
theorem sc_law : FnScope ["_law_script", "_law_lines", "_law_well_here", "_law_k", "_law_text", "_law_one", "_law_due", "_law_other"] ["_law_script"] (defScope s_law) := ⟨rfl, rfl, rfl, by decide +kernel, rfl, by decide +kernel, by decide +kernel⟩
structure Ads where
  is_name : Addr
  is_name_d : FuncData
  is_value_word : Addr
  is_value_word_d : FuncData
  Number_init : Addr
  Number_init_d : FuncData
  Box_init : Addr
  Box_init_d : FuncData
  Cell_init : Addr
  Cell_init_d : FuncData
  Two_init : Addr
  Two_init_d : FuncData
  Expr_parts : Addr
  Expr_parts_d : FuncData
  Cell_parts : Addr
  Cell_parts_d : FuncData
  Two_parts : Addr
  Two_parts_d : FuncData
  expr_at : Addr
  expr_at_d : FuncData
  exprs_of : Addr
  exprs_of_d : FuncData
  Row_init : Addr
  Row_init_d : FuncData
  Set_init : Addr
  Set_init_d : FuncData
  Put_init : Addr
  Put_init_d : FuncData
  Ask_init : Addr
  Ask_init_d : FuncData
  Draw_init : Addr
  Draw_init_d : FuncData
  Tell_init : Addr
  Tell_init_d : FuncData
  Choice_init : Addr
  Choice_init_d : FuncData
  Loop_init : Addr
  Loop_init_d : FuncData
  Call_init : Addr
  Call_init_d : FuncData
  Give_init : Addr
  Give_init_d : FuncData
  check_names : Addr
  check_names_d : FuncData
  only : Addr
  only_d : FuncData
  simple_row : Addr
  simple_row_d : FuncData
  Reader_head : Addr
  Reader_head_d : FuncData
  Reader_init : Addr
  Reader_init_d : FuncData
  Reader_pass_line : Addr
  Reader_pass_line_d : FuncData
  Reader_call_row : Addr
  Reader_call_row_d : FuncData
  Reader_row_with_rows : Addr
  Reader_row_with_rows_d : FuncData
  Reader_block : Addr
  Reader_block_d : FuncData
  Reader_one_row : Addr
  Reader_one_row_d : FuncData
  Function_init : Addr
  Function_init_d : FuncData
  Reader_function : Addr
  Reader_function_d : FuncData
  check_calls : Addr
  check_calls_d : FuncData
  Program_init : Addr
  Program_init_d : FuncData
  Program_text : Addr
  Program_text_d : FuncData
  read_program : Addr
  read_program_d : FuncData
  l_cell : Addr
  l_cell_d : FuncData
  l_mixed : Addr
  l_mixed_d : FuncData
  l_twice : Addr
  l_twice_d : FuncData
  l_well : Addr
  l_well_d : FuncData
  l_draw : Addr
  l_draw_d : FuncData
  l_value : Addr
  l_value_d : FuncData
  l_name : Addr
  l_name_d : FuncData
  l_parts : Addr
  l_parts_d : FuncData
  l_expr : Addr
  l_expr_d : FuncData
  l_words_of : Addr
  l_words_of_d : FuncData
  l_some_expr : Addr
  l_some_expr_d : FuncData
  l_heads : Addr
  l_heads_d : FuncData
  l_simple : Addr
  l_simple_d : FuncData
  l_line : Addr
  l_line_d : FuncData
  l_put_line : Addr
  l_put_line_d : FuncData
  l_row : Addr
  l_row_d : FuncData
  l_block : Addr
  l_block_d : FuncData
  l_world : Addr
  l_world_d : FuncData
  l_is_name : Addr
  l_is_name_d : FuncData
  l_is_value : Addr
  l_is_value_d : FuncData
  l_read : Addr
  l_read_d : FuncData
  l_many : Addr
  l_many_d : FuncData
  l_is_simple : Addr
  l_is_simple_d : FuncData
  l_call : Addr
  l_call_d : FuncData
  l_behind : Addr
  l_behind_d : FuncData
  l_fun_behind : Addr
  l_fun_behind_d : FuncData
  l_is_program : Addr
  l_is_program_d : FuncData
  l_found : Addr
  l_found_d : FuncData
  l_menu : Addr
  l_menu_d : FuncData
  l_word_changed : Addr
  l_word_changed_d : FuncData
  l_spoiled : Addr
  l_spoiled_d : FuncData
  law : Addr
  law_d : FuncData
  Reader : Addr
  Function : Addr
  Program : Addr
  Number : Addr
  Expr : Addr
  Box : Addr
  Cell : Addr
  Two : Addr
  Row : Addr
  Set : Addr
  Put : Addr
  Ask : Addr
  Draw : Addr
  Tell : Addr
  Skip : Addr
  Call : Addr
  Loop : Addr
  Choice : Addr
  Give : Addr
  PAIRS : Addr
  ROWS : Addr
  OTHERS : Addr
  NoProgram : Addr
  HadError : Addr
  NoChange : Addr
  NoText : Addr
  NoValue : Addr
  NoWish : Addr
structure Txt (K : PySem.W.Frag) (mg : Str → Option Value) (A : Ads) : Prop where
  F_is_name : Fun K "is_name" "is_name" s_is_name A.is_name A.is_name_d
  b_is_name : Binds K A.is_name_d ["thing"] []
  m_is_name : mg "is_name" = some (.ref A.is_name)
  F_is_value_word : Fun K "is_value_word" "is_value_word" s_is_value_word A.is_value_word A.is_value_word_d
  b_is_value_word : Binds K A.is_value_word_d ["word"] []
  m_is_value_word : mg "is_value_word" = some (.ref A.is_value_word)
  F_Number_init : Fun K "__init__" "Number.__init__" s_Number_init A.Number_init A.Number_init_d
  b_Number_init : Binds K A.Number_init_d ["self", "value"] []
  F_Box_init : Fun K "__init__" "Box.__init__" s_Box_init A.Box_init A.Box_init_d
  b_Box_init : Binds K A.Box_init_d ["self", "name"] []
  F_Cell_init : Fun K "__init__" "Cell.__init__" s_Cell_init A.Cell_init A.Cell_init_d
  b_Cell_init : Binds K A.Cell_init_d ["self", "inner"] []
  F_Two_init : Fun K "__init__" "Two.__init__" s_Two_init A.Two_init A.Two_init_d
  b_Two_init : Binds K A.Two_init_d ["self", "word", "left", "right"] []
  F_Expr_parts : Fun K "parts" "Expr.parts" s_Expr_parts A.Expr_parts A.Expr_parts_d
  b_Expr_parts : Binds K A.Expr_parts_d ["self"] []
  F_Cell_parts : Fun K "parts" "Cell.parts" s_Cell_parts A.Cell_parts A.Cell_parts_d
  b_Cell_parts : Binds K A.Cell_parts_d ["self"] []
  F_Two_parts : Fun K "parts" "Two.parts" s_Two_parts A.Two_parts A.Two_parts_d
  b_Two_parts : Binds K A.Two_parts_d ["self"] []
  F_expr_at : Fun K "expr_at" "expr_at" s_expr_at A.expr_at A.expr_at_d
  b_expr_at : Binds K A.expr_at_d ["row", "at", "deep"] []
  m_expr_at : mg "expr_at" = some (.ref A.expr_at)
  F_exprs_of : Fun K "exprs_of" "exprs_of" s_exprs_of A.exprs_of A.exprs_of_d
  b_exprs_of : Binds K A.exprs_of_d ["row"] []
  m_exprs_of : mg "exprs_of" = some (.ref A.exprs_of)
  F_Row_init : Fun K "__init__" "Row.__init__" s_Row_init A.Row_init A.Row_init_d
  b_Row_init : Binds K A.Row_init_d ["self", "number"] []
  F_Set_init : Fun K "__init__" "Set.__init__" s_Set_init A.Set_init A.Set_init_d
  b_Set_init : Binds K A.Set_init_d ["self", "number", "box", "expr"] []
  F_Put_init : Fun K "__init__" "Put.__init__" s_Put_init A.Put_init A.Put_init_d
  b_Put_init : Binds K A.Put_init_d ["self", "number", "first", "second"] []
  F_Ask_init : Fun K "__init__" "Ask.__init__" s_Ask_init A.Ask_init A.Ask_init_d
  b_Ask_init : Binds K A.Ask_init_d ["self", "number", "box", "word", "expr"] []
  F_Draw_init : Fun K "__init__" "Draw.__init__" s_Draw_init A.Draw_init A.Draw_init_d
  b_Draw_init : Binds K A.Draw_init_d ["self", "number", "box", "word"] []
  F_Tell_init : Fun K "__init__" "Tell.__init__" s_Tell_init A.Tell_init A.Tell_init_d
  b_Tell_init : Binds K A.Tell_init_d ["self", "number", "expr"] []
  F_Choice_init : Fun K "__init__" "Choice.__init__" s_Choice_init A.Choice_init A.Choice_init_d
  b_Choice_init : Binds K A.Choice_init_d ["self", "number", "test", "first", "second"] []
  F_Loop_init : Fun K "__init__" "Loop.__init__" s_Loop_init A.Loop_init A.Loop_init_d
  b_Loop_init : Binds K A.Loop_init_d ["self", "number", "test", "body"] []
  F_Call_init : Fun K "__init__" "Call.__init__" s_Call_init A.Call_init A.Call_init_d
  b_Call_init : Binds K A.Call_init_d ["self", "number", "box", "fun", "given"] []
  F_Give_init : Fun K "__init__" "Give.__init__" s_Give_init A.Give_init A.Give_init_d
  b_Give_init : Binds K A.Give_init_d ["self", "number", "expr"] []
  F_check_names : Fun K "check_names" "check_names" s_check_names A.check_names A.check_names_d
  b_check_names : Binds K A.check_names_d ["words", "many"] []
  m_check_names : mg "check_names" = some (.ref A.check_names)
  F_only : Fun K "only" "only" s_only A.only A.only_d
  b_only : Binds K A.only_d ["found"] []
  m_only : mg "only" = some (.ref A.only)
  F_simple_row : Fun K "simple_row" "simple_row" s_simple_row A.simple_row A.simple_row_d
  b_simple_row : Binds K A.simple_row_d ["number", "words"] []
  m_simple_row : mg "simple_row" = some (.ref A.simple_row)
  F_Reader_head : Fun K "head" "Reader.head" s_Reader_head A.Reader_head A.Reader_head_d
  b_Reader_head : Binds K A.Reader_head_d ["self"] []
  F_Reader_init : Fun K "__init__" "Reader.__init__" s_Reader_init A.Reader_init A.Reader_init_d
  b_Reader_init : Binds K A.Reader_init_d ["self", "texts"] []
  F_Reader_pass_line : Fun K "pass_line" "Reader.pass_line" s_Reader_pass_line A.Reader_pass_line A.Reader_pass_line_d
  b_Reader_pass_line : Binds K A.Reader_pass_line_d ["self", "text"] []
  F_Reader_call_row : Fun K "call_row" "Reader.call_row" s_Reader_call_row A.Reader_call_row A.Reader_call_row_d
  b_Reader_call_row : Binds K A.Reader_call_row_d ["self", "number", "words"] []
  F_Reader_row_with_rows : Fun K "row_with_rows" "Reader.row_with_rows" s_Reader_row_with_rows A.Reader_row_with_rows A.Reader_row_with_rows_d
  b_Reader_row_with_rows : Binds K A.Reader_row_with_rows_d ["self", "number", "words", "within"] []
  F_Reader_block : Fun K "block" "Reader.block" s_Reader_block A.Reader_block A.Reader_block_d
  b_Reader_block : Binds K A.Reader_block_d ["self", "within"] []
  F_Reader_one_row : Fun K "one_row" "Reader.one_row" s_Reader_one_row A.Reader_one_row A.Reader_one_row_d
  b_Reader_one_row : Binds K A.Reader_one_row_d ["self", "within"] []
  F_Function_init : Fun K "__init__" "Function.__init__" s_Function_init A.Function_init A.Function_init_d
  b_Function_init : Binds K A.Function_init_d ["self", "name", "params", "body", "give"] []
  F_Reader_function : Fun K "function" "Reader.function" s_Reader_function A.Reader_function A.Reader_function_d
  b_Reader_function : Binds K A.Reader_function_d ["self"] []
  F_check_calls : Fun K "check_calls" "check_calls" s_check_calls A.check_calls A.check_calls_d
  b_check_calls : Binds K A.check_calls_d ["calls", "functions"] []
  m_check_calls : mg "check_calls" = some (.ref A.check_calls)
  F_Program_init : Fun K "__init__" "Program.__init__" s_Program_init A.Program_init A.Program_init_d
  b_Program_init : Binds K A.Program_init_d ["self", "texts", "main", "functions", "by_number"] []
  F_Program_text : Fun K "text" "Program.text" s_Program_text A.Program_text A.Program_text_d
  b_Program_text : Binds K A.Program_text_d ["self"] []
  F_read_program : Fun K "read_program" "read_program" s_read_program A.read_program A.read_program_d
  b_read_program : Binds K A.read_program_d ["text"] []
  m_read_program : mg "read_program" = some (.ref A.read_program)
  F_l_cell : Fun K "_law_cell" "_law_cell" s_l_cell A.l_cell A.l_cell_d
  b_l_cell : Binds K A.l_cell_d ["_law_script", "_law_k"] []
  m_l_cell : mg "_law_cell" = some (.ref A.l_cell)
  F_l_mixed : Fun K "_law_mixed" "_law_mixed" s_l_mixed A.l_mixed A.l_mixed_d
  b_l_mixed : Binds K A.l_mixed_d ["_law_cell_here", "_law_k"] []
  m_l_mixed : mg "_law_mixed" = some (.ref A.l_mixed)
  F_l_twice : Fun K "_law_twice" "_law_twice" s_l_twice A.l_twice A.l_twice_d
  b_l_twice : Binds K A.l_twice_d ["_law_cell_here", "_law_k"] []
  m_l_twice : mg "_law_twice" = some (.ref A.l_twice)
  F_l_well : Fun K "_law_well" "_law_well" s_l_well A.l_well A.l_well_d
  b_l_well : Binds K A.l_well_d ["_law_script", "_law_k"] []
  m_l_well : mg "_law_well" = some (.ref A.l_well)
  F_l_draw : Fun K "_law_draw" "_law_draw" s_l_draw A.l_draw A.l_draw_d
  b_l_draw : Binds K A.l_draw_d ["_law_well_here", "_law_most"] []
  m_l_draw : mg "_law_draw" = some (.ref A.l_draw)
  F_l_value : Fun K "_law_value" "_law_value" s_l_value A.l_value A.l_value_d
  b_l_value : Binds K A.l_value_d ["_law_well_here"] []
  m_l_value : mg "_law_value" = some (.ref A.l_value)
  F_l_name : Fun K "_law_name" "_law_name" s_l_name A.l_name A.l_name_d
  b_l_name : Binds K A.l_name_d ["_law_well_here"] []
  m_l_name : mg "_law_name" = some (.ref A.l_name)
  F_l_parts : Fun K "_law_parts" "_law_parts" s_l_parts A.l_parts A.l_parts_d
  b_l_parts : Binds K A.l_parts_d ["_law_told"] []
  m_l_parts : mg "_law_parts" = some (.ref A.l_parts)
  F_l_expr : Fun K "_law_expr" "_law_expr" s_l_expr A.l_expr A.l_expr_d
  b_l_expr : Binds K A.l_expr_d ["_law_well_here", "_law_deep", "_law_most"] []
  m_l_expr : mg "_law_expr" = some (.ref A.l_expr)
  F_l_words_of : Fun K "_law_words_of" "_law_words_of" s_l_words_of A.l_words_of A.l_words_of_d
  b_l_words_of : Binds K A.l_words_of_d ["_law_told"] []
  m_l_words_of : mg "_law_words_of" = some (.ref A.l_words_of)
  F_l_some_expr : Fun K "_law_some_expr" "_law_some_expr" s_l_some_expr A.l_some_expr A.l_some_expr_d
  b_l_some_expr : Binds K A.l_some_expr_d ["_law_well_here"] []
  m_l_some_expr : mg "_law_some_expr" = some (.ref A.l_some_expr)
  F_l_heads : Fun K "_law_heads" "_law_heads" s_l_heads A.l_heads A.l_heads_d
  b_l_heads : Binds K A.l_heads_d ["_law_well_here"] []
  m_l_heads : mg "_law_heads" = some (.ref A.l_heads)
  F_l_simple : Fun K "_law_simple" "_law_simple" s_l_simple A.l_simple A.l_simple_d
  b_l_simple : Binds K A.l_simple_d ["_law_world_here", "_law_well_here", "_law_way"] []
  m_l_simple : mg "_law_simple" = some (.ref A.l_simple)
  F_l_line : Fun K "_law_line" "_law_line" s_l_line A.l_line A.l_line_d
  b_l_line : Binds K A.l_line_d ["_law_told"] []
  m_l_line : mg "_law_line" = some (.ref A.l_line)
  F_l_put_line : Fun K "_law_put_line" "_law_put_line" s_l_put_line A.l_put_line A.l_put_line_d
  b_l_put_line : Binds K A.l_put_line_d ["_law_world_here", "_law_told"] []
  m_l_put_line : mg "_law_put_line" = some (.ref A.l_put_line)
  F_l_row : Fun K "_law_row" "_law_row" s_l_row A.l_row A.l_row_d
  b_l_row : Binds K A.l_row_d ["_law_world_here", "_law_well_here", "_law_within"] []
  m_l_row : mg "_law_row" = some (.ref A.l_row)
  F_l_block : Fun K "_law_block" "_law_block" s_l_block A.l_block A.l_block_d
  b_l_block : Binds K A.l_block_d ["_law_world_here", "_law_well_here", "_law_within"] []
  m_l_block : mg "_law_block" = some (.ref A.l_block)
  F_l_world : Fun K "_law_world" "_law_world" s_l_world A.l_world A.l_world_d
  b_l_world : Binds K A.l_world_d ["_law_script", "_law_k"] []
  m_l_world : mg "_law_world" = some (.ref A.l_world)
  F_l_is_name : Fun K "_law_is_name" "_law_is_name" s_l_is_name A.l_is_name A.l_is_name_d
  b_l_is_name : Binds K A.l_is_name_d ["_law_word"] []
  m_l_is_name : mg "_law_is_name" = some (.ref A.l_is_name)
  F_l_is_value : Fun K "_law_is_value" "_law_is_value" s_l_is_value A.l_is_value A.l_is_value_d
  b_l_is_value : Binds K A.l_is_value_d ["_law_word"] []
  m_l_is_value : mg "_law_is_value" = some (.ref A.l_is_value)
  F_l_read : Fun K "_law_read" "_law_read" s_l_read A.l_read A.l_read_d
  b_l_read : Binds K A.l_read_d ["_law_words", "_law_at"] []
  m_l_read : mg "_law_read" = some (.ref A.l_read)
  F_l_many : Fun K "_law_many" "_law_many" s_l_many A.l_many A.l_many_d
  b_l_many : Binds K A.l_many_d ["_law_words"] []
  m_l_many : mg "_law_many" = some (.ref A.l_many)
  F_l_is_simple : Fun K "_law_is_simple" "_law_is_simple" s_l_is_simple A.l_is_simple A.l_is_simple_d
  b_l_is_simple : Binds K A.l_is_simple_d ["_law_words"] []
  m_l_is_simple : mg "_law_is_simple" = some (.ref A.l_is_simple)
  F_l_call : Fun K "_law_call" "_law_call" s_l_call A.l_call A.l_call_d
  b_l_call : Binds K A.l_call_d ["_law_words", "_law_calls"] []
  m_l_call : mg "_law_call" = some (.ref A.l_call)
  F_l_behind : Fun K "_law_behind" "_law_behind" s_l_behind A.l_behind A.l_behind_d
  b_l_behind : Binds K A.l_behind_d ["_law_lines", "_law_at", "_law_within", "_law_calls"] []
  m_l_behind : mg "_law_behind" = some (.ref A.l_behind)
  F_l_fun_behind : Fun K "_law_fun_behind" "_law_fun_behind" s_l_fun_behind A.l_fun_behind A.l_fun_behind_d
  b_l_fun_behind : Binds K A.l_fun_behind_d ["_law_lines", "_law_at", "_law_heads_here", "_law_calls"] []
  m_l_fun_behind : mg "_law_fun_behind" = some (.ref A.l_fun_behind)
  F_l_is_program : Fun K "_law_is_program" "_law_is_program" s_l_is_program A.l_is_program A.l_is_program_d
  b_l_is_program : Binds K A.l_is_program_d ["_law_text"] []
  m_l_is_program : mg "_law_is_program" = some (.ref A.l_is_program)
  F_l_found : Fun K "_law_found" "_law_found" s_l_found A.l_found A.l_found_d
  b_l_found : Binds K A.l_found_d ["_law_text"] []
  m_l_found : mg "_law_found" = some (.ref A.l_found)
  F_l_menu : Fun K "_law_menu" "_law_menu" s_l_menu A.l_menu A.l_menu_d
  b_l_menu : Binds K A.l_menu_d ["_law_well_here"] []
  m_l_menu : mg "_law_menu" = some (.ref A.l_menu)
  F_l_word_changed : Fun K "_law_word_changed" "_law_word_changed" s_l_word_changed A.l_word_changed A.l_word_changed_d
  b_l_word_changed : Binds K A.l_word_changed_d ["_law_well_here", "_law_line_here"] []
  m_l_word_changed : mg "_law_word_changed" = some (.ref A.l_word_changed)
  F_l_spoiled : Fun K "_law_spoiled" "_law_spoiled" s_l_spoiled A.l_spoiled A.l_spoiled_d
  b_l_spoiled : Binds K A.l_spoiled_d ["_law_well_here", "_law_lines"] []
  m_l_spoiled : mg "_law_spoiled" = some (.ref A.l_spoiled)
  F_law : Fun K "law" "law" s_law A.law A.law_d
  b_law : Binds K A.law_d ["_law_script"] []
  m_law : mg "law" = some (.ref A.law)
  m_Reader : mg "Reader" = some (.ref A.Reader)
  cl_Reader : Cls K A.Reader
  mk_Reader : PySem.W.makesIn K A.Reader = true
  n_Reader_texts : NoAttr K A.Reader "texts"
  n_Reader_at : NoAttr K A.Reader "at"
  n_Reader_by_number : NoAttr K A.Reader "by_number"
  n_Reader_calls : NoAttr K A.Reader "calls"
  k_Reader : Mk K A.Reader A.Reader_init
  m_Function : mg "Function" = some (.ref A.Function)
  cl_Function : Cls K A.Function
  mk_Function : PySem.W.makesIn K A.Function = true
  n_Function_name : NoAttr K A.Function "name"
  n_Function_params : NoAttr K A.Function "params"
  n_Function_body : NoAttr K A.Function "body"
  n_Function_give : NoAttr K A.Function "give"
  k_Function : Mk K A.Function A.Function_init
  m_Program : mg "Program" = some (.ref A.Program)
  cl_Program : Cls K A.Program
  mk_Program : PySem.W.makesIn K A.Program = true
  n_Program_texts : NoAttr K A.Program "texts"
  n_Program_main : NoAttr K A.Program "main"
  n_Program_functions : NoAttr K A.Program "functions"
  n_Program_by_number : NoAttr K A.Program "by_number"
  k_Program : Mk K A.Program A.Program_init
  m_Number : mg "Number" = some (.ref A.Number)
  cl_Number : Cls K A.Number
  mk_Number : PySem.W.makesIn K A.Number = true
  n_Number_value : NoAttr K A.Number "value"
  k_Number : Mk K A.Number A.Number_init
  m_Expr : mg "Expr" = some (.ref A.Expr)
  cl_Expr : Cls K A.Expr
  mk_Expr : PySem.W.makesIn K A.Expr = true
  m_Box : mg "Box" = some (.ref A.Box)
  cl_Box : Cls K A.Box
  mk_Box : PySem.W.makesIn K A.Box = true
  n_Box_name : NoAttr K A.Box "name"
  k_Box : Mk K A.Box A.Box_init
  m_Cell : mg "Cell" = some (.ref A.Cell)
  cl_Cell : Cls K A.Cell
  mk_Cell : PySem.W.makesIn K A.Cell = true
  n_Cell_inner : NoAttr K A.Cell "inner"
  k_Cell : Mk K A.Cell A.Cell_init
  m_Two : mg "Two" = some (.ref A.Two)
  cl_Two : Cls K A.Two
  mk_Two : PySem.W.makesIn K A.Two = true
  n_Two_word : NoAttr K A.Two "word"
  n_Two_left : NoAttr K A.Two "left"
  n_Two_right : NoAttr K A.Two "right"
  k_Two : Mk K A.Two A.Two_init
  m_Row : mg "Row" = some (.ref A.Row)
  cl_Row : Cls K A.Row
  mk_Row : PySem.W.makesIn K A.Row = true
  k_Row : Mk K A.Row A.Row_init
  m_Set : mg "Set" = some (.ref A.Set)
  cl_Set : Cls K A.Set
  mk_Set : PySem.W.makesIn K A.Set = true
  n_Set_number : NoAttr K A.Set "number"
  n_Set_box : NoAttr K A.Set "box"
  n_Set_expr : NoAttr K A.Set "expr"
  k_Set : Mk K A.Set A.Set_init
  m_Put : mg "Put" = some (.ref A.Put)
  cl_Put : Cls K A.Put
  mk_Put : PySem.W.makesIn K A.Put = true
  n_Put_number : NoAttr K A.Put "number"
  n_Put_first : NoAttr K A.Put "first"
  n_Put_second : NoAttr K A.Put "second"
  k_Put : Mk K A.Put A.Put_init
  m_Ask : mg "Ask" = some (.ref A.Ask)
  cl_Ask : Cls K A.Ask
  mk_Ask : PySem.W.makesIn K A.Ask = true
  n_Ask_number : NoAttr K A.Ask "number"
  n_Ask_box : NoAttr K A.Ask "box"
  n_Ask_word : NoAttr K A.Ask "word"
  n_Ask_expr : NoAttr K A.Ask "expr"
  k_Ask : Mk K A.Ask A.Ask_init
  m_Draw : mg "Draw" = some (.ref A.Draw)
  cl_Draw : Cls K A.Draw
  mk_Draw : PySem.W.makesIn K A.Draw = true
  n_Draw_number : NoAttr K A.Draw "number"
  n_Draw_box : NoAttr K A.Draw "box"
  n_Draw_word : NoAttr K A.Draw "word"
  k_Draw : Mk K A.Draw A.Draw_init
  m_Tell : mg "Tell" = some (.ref A.Tell)
  cl_Tell : Cls K A.Tell
  mk_Tell : PySem.W.makesIn K A.Tell = true
  n_Tell_number : NoAttr K A.Tell "number"
  n_Tell_expr : NoAttr K A.Tell "expr"
  k_Tell : Mk K A.Tell A.Tell_init
  m_Skip : mg "Skip" = some (.ref A.Skip)
  cl_Skip : Cls K A.Skip
  mk_Skip : PySem.W.makesIn K A.Skip = true
  n_Skip_number : NoAttr K A.Skip "number"
  k_Skip : Mk K A.Skip A.Row_init
  m_Call : mg "Call" = some (.ref A.Call)
  cl_Call : Cls K A.Call
  mk_Call : PySem.W.makesIn K A.Call = true
  n_Call_number : NoAttr K A.Call "number"
  n_Call_box : NoAttr K A.Call "box"
  n_Call_fun : NoAttr K A.Call "fun"
  n_Call_given : NoAttr K A.Call "given"
  k_Call : Mk K A.Call A.Call_init
  m_Loop : mg "Loop" = some (.ref A.Loop)
  cl_Loop : Cls K A.Loop
  mk_Loop : PySem.W.makesIn K A.Loop = true
  n_Loop_number : NoAttr K A.Loop "number"
  n_Loop_test : NoAttr K A.Loop "test"
  n_Loop_body : NoAttr K A.Loop "body"
  k_Loop : Mk K A.Loop A.Loop_init
  m_Choice : mg "Choice" = some (.ref A.Choice)
  cl_Choice : Cls K A.Choice
  mk_Choice : PySem.W.makesIn K A.Choice = true
  n_Choice_number : NoAttr K A.Choice "number"
  n_Choice_test : NoAttr K A.Choice "test"
  n_Choice_first : NoAttr K A.Choice "first"
  n_Choice_second : NoAttr K A.Choice "second"
  k_Choice : Mk K A.Choice A.Choice_init
  m_Give : mg "Give" = some (.ref A.Give)
  cl_Give : Cls K A.Give
  mk_Give : PySem.W.makesIn K A.Give = true
  n_Give_number : NoAttr K A.Give "number"
  n_Give_expr : NoAttr K A.Give "expr"
  k_Give : Mk K A.Give A.Give_init
  me_Number_parts : Meth K A.Number "parts" A.Expr_parts
  me_Box_parts : Meth K A.Box "parts" A.Expr_parts
  me_Cell_parts : Meth K A.Cell "parts" A.Cell_parts
  me_Two_parts : Meth K A.Two "parts" A.Two_parts
  me_Reader_block : Meth K A.Reader "block" A.Reader_block
  me_Reader_pass_line : Meth K A.Reader "pass_line" A.Reader_pass_line
  me_Reader_row_with_rows : Meth K A.Reader "row_with_rows" A.Reader_row_with_rows
  me_Reader_call_row : Meth K A.Reader "call_row" A.Reader_call_row
  me_Reader_head : Meth K A.Reader "head" A.Reader_head
  me_Reader_one_row : Meth K A.Reader "one_row" A.Reader_one_row
  me_Reader_function : Meth K A.Reader "function" A.Reader_function
  me_Program_text : Meth K A.Program "text" A.Program_text
  cf_Row_init : CFn K A.Row "__init__" A.Row_init
  m_PAIRS : mg "PAIRS" = some (.ref A.PAIRS)
  q_PAIRS : ∀ H, SqT K H A.PAIRS [V.str "plus", V.str "minus", V.str "times", V.str "over", V.str "rest", V.str "less", V.str "same"]
  m_ROWS : mg "ROWS" = some (.ref A.ROWS)
  q_ROWS : ∀ H, SqT K H A.ROWS [V.str "skip", V.str "set", V.str "put", V.str "ask", V.str "draw", V.str "tell", V.str "if", V.str "while", V.str "call"]
  m_OTHERS : mg "OTHERS" = some (.ref A.OTHERS)
  q_OTHERS : ∀ H, SqT K H A.OTHERS [V.str "else", V.str "end", V.str "fun", V.str "main", V.str "give", V.str "cell"]
  m_NoProgram : mg "NoProgram" = some (.ref A.NoProgram)
  x_NoProgram : PySem.W.excIn K A.NoProgram [.type "ValueError", .type "Exception", .type "BaseException", .type "object"] "ValueError.__new__" = true
  kk_NoProgram : PySem.W.keepIn K (.ref A.NoProgram) = true
  bb_NoProgram : PySem.W.subIn K (.ref A.NoProgram) (.type "BaseException") = some true
  tt_NoProgram : PySem.W.typeIn K (.ref A.NoProgram) = some (.type "type")
  m_HadError : mg "HadError" = some (.ref A.HadError)
  x_HadError : PySem.W.excIn K A.HadError [.type "ValueError", .type "Exception", .type "BaseException", .type "object"] "ValueError.__new__" = true
  kk_HadError : PySem.W.keepIn K (.ref A.HadError) = true
  bb_HadError : PySem.W.subIn K (.ref A.HadError) (.type "BaseException") = some true
  tt_HadError : PySem.W.typeIn K (.ref A.HadError) = some (.type "type")
  m_NoChange : mg "NoChange" = some (.ref A.NoChange)
  x_NoChange : PySem.W.excIn K A.NoChange [.type "ValueError", .type "Exception", .type "BaseException", .type "object"] "ValueError.__new__" = true
  kk_NoChange : PySem.W.keepIn K (.ref A.NoChange) = true
  bb_NoChange : PySem.W.subIn K (.ref A.NoChange) (.type "BaseException") = some true
  tt_NoChange : PySem.W.typeIn K (.ref A.NoChange) = some (.type "type")
  m_NoText : mg "NoText" = some (.ref A.NoText)
  x_NoText : PySem.W.excIn K A.NoText [.type "ValueError", .type "Exception", .type "BaseException", .type "object"] "ValueError.__new__" = true
  kk_NoText : PySem.W.keepIn K (.ref A.NoText) = true
  bb_NoText : PySem.W.subIn K (.ref A.NoText) (.type "BaseException") = some true
  tt_NoText : PySem.W.typeIn K (.ref A.NoText) = some (.type "type")
  m_NoValue : mg "NoValue" = some (.ref A.NoValue)
  x_NoValue : PySem.W.excIn K A.NoValue [.type "ValueError", .type "Exception", .type "BaseException", .type "object"] "ValueError.__new__" = true
  kk_NoValue : PySem.W.keepIn K (.ref A.NoValue) = true
  bb_NoValue : PySem.W.subIn K (.ref A.NoValue) (.type "BaseException") = some true
  tt_NoValue : PySem.W.typeIn K (.ref A.NoValue) = some (.type "type")
  m_NoWish : mg "NoWish" = some (.ref A.NoWish)
  x_NoWish : PySem.W.excIn K A.NoWish [.type "ValueError", .type "Exception", .type "BaseException", .type "object"] "ValueError.__new__" = true
  kk_NoWish : PySem.W.keepIn K (.ref A.NoWish) = true
  bb_NoWish : PySem.W.subIn K (.ref A.NoWish) (.type "BaseException") = some true
  tt_NoWish : PySem.W.typeIn K (.ref A.NoWish) = some (.type "type")
  ne_num_box : A.Number ≠ A.Box
  ne_num_cell : A.Number ≠ A.Cell
  ne_num_two : A.Number ≠ A.Two
  ne_box_num : A.Box ≠ A.Number
  ne_box_cell : A.Box ≠ A.Cell
  ne_box_two : A.Box ≠ A.Two
  ne_cell_num : A.Cell ≠ A.Number
  ne_cell_box : A.Cell ≠ A.Box
  ne_cell_two : A.Cell ≠ A.Two
  ne_two_num : A.Two ≠ A.Number
  ne_two_box : A.Two ≠ A.Box
  ne_two_cell : A.Two ≠ A.Cell
  ne_Skip_Set : A.Skip ≠ A.Set
  ne_Skip_Put : A.Skip ≠ A.Put
  ne_Skip_Ask : A.Skip ≠ A.Ask
  ne_Skip_Draw : A.Skip ≠ A.Draw
  ne_Skip_Tell : A.Skip ≠ A.Tell
  ne_Skip_Choice : A.Skip ≠ A.Choice
  ne_Skip_Loop : A.Skip ≠ A.Loop
  ne_Skip_Call : A.Skip ≠ A.Call
  ne_Skip_Give : A.Skip ≠ A.Give
  ne_Set_Skip : A.Set ≠ A.Skip
  ne_Set_Put : A.Set ≠ A.Put
  ne_Set_Ask : A.Set ≠ A.Ask
  ne_Set_Draw : A.Set ≠ A.Draw
  ne_Set_Tell : A.Set ≠ A.Tell
  ne_Set_Choice : A.Set ≠ A.Choice
  ne_Set_Loop : A.Set ≠ A.Loop
  ne_Set_Call : A.Set ≠ A.Call
  ne_Set_Give : A.Set ≠ A.Give
  ne_Put_Skip : A.Put ≠ A.Skip
  ne_Put_Set : A.Put ≠ A.Set
  ne_Put_Ask : A.Put ≠ A.Ask
  ne_Put_Draw : A.Put ≠ A.Draw
  ne_Put_Tell : A.Put ≠ A.Tell
  ne_Put_Choice : A.Put ≠ A.Choice
  ne_Put_Loop : A.Put ≠ A.Loop
  ne_Put_Call : A.Put ≠ A.Call
  ne_Put_Give : A.Put ≠ A.Give
  ne_Ask_Skip : A.Ask ≠ A.Skip
  ne_Ask_Set : A.Ask ≠ A.Set
  ne_Ask_Put : A.Ask ≠ A.Put
  ne_Ask_Draw : A.Ask ≠ A.Draw
  ne_Ask_Tell : A.Ask ≠ A.Tell
  ne_Ask_Choice : A.Ask ≠ A.Choice
  ne_Ask_Loop : A.Ask ≠ A.Loop
  ne_Ask_Call : A.Ask ≠ A.Call
  ne_Ask_Give : A.Ask ≠ A.Give
  ne_Draw_Skip : A.Draw ≠ A.Skip
  ne_Draw_Set : A.Draw ≠ A.Set
  ne_Draw_Put : A.Draw ≠ A.Put
  ne_Draw_Ask : A.Draw ≠ A.Ask
  ne_Draw_Tell : A.Draw ≠ A.Tell
  ne_Draw_Choice : A.Draw ≠ A.Choice
  ne_Draw_Loop : A.Draw ≠ A.Loop
  ne_Draw_Call : A.Draw ≠ A.Call
  ne_Draw_Give : A.Draw ≠ A.Give
  ne_Tell_Skip : A.Tell ≠ A.Skip
  ne_Tell_Set : A.Tell ≠ A.Set
  ne_Tell_Put : A.Tell ≠ A.Put
  ne_Tell_Ask : A.Tell ≠ A.Ask
  ne_Tell_Draw : A.Tell ≠ A.Draw
  ne_Tell_Choice : A.Tell ≠ A.Choice
  ne_Tell_Loop : A.Tell ≠ A.Loop
  ne_Tell_Call : A.Tell ≠ A.Call
  ne_Tell_Give : A.Tell ≠ A.Give
  ne_Choice_Skip : A.Choice ≠ A.Skip
  ne_Choice_Set : A.Choice ≠ A.Set
  ne_Choice_Put : A.Choice ≠ A.Put
  ne_Choice_Ask : A.Choice ≠ A.Ask
  ne_Choice_Draw : A.Choice ≠ A.Draw
  ne_Choice_Tell : A.Choice ≠ A.Tell
  ne_Choice_Loop : A.Choice ≠ A.Loop
  ne_Choice_Call : A.Choice ≠ A.Call
  ne_Choice_Give : A.Choice ≠ A.Give
  ne_Loop_Skip : A.Loop ≠ A.Skip
  ne_Loop_Set : A.Loop ≠ A.Set
  ne_Loop_Put : A.Loop ≠ A.Put
  ne_Loop_Ask : A.Loop ≠ A.Ask
  ne_Loop_Draw : A.Loop ≠ A.Draw
  ne_Loop_Tell : A.Loop ≠ A.Tell
  ne_Loop_Choice : A.Loop ≠ A.Choice
  ne_Loop_Call : A.Loop ≠ A.Call
  ne_Loop_Give : A.Loop ≠ A.Give
  ne_Call_Skip : A.Call ≠ A.Skip
  ne_Call_Set : A.Call ≠ A.Set
  ne_Call_Put : A.Call ≠ A.Put
  ne_Call_Ask : A.Call ≠ A.Ask
  ne_Call_Draw : A.Call ≠ A.Draw
  ne_Call_Tell : A.Call ≠ A.Tell
  ne_Call_Choice : A.Call ≠ A.Choice
  ne_Call_Loop : A.Call ≠ A.Loop
  ne_Call_Give : A.Call ≠ A.Give
  ne_Give_Skip : A.Give ≠ A.Skip
  ne_Give_Set : A.Give ≠ A.Set
  ne_Give_Put : A.Give ≠ A.Put
  ne_Give_Ask : A.Give ≠ A.Ask
  ne_Give_Draw : A.Give ≠ A.Draw
  ne_Give_Tell : A.Give ≠ A.Tell
  ne_Give_Choice : A.Give ≠ A.Choice
  ne_Give_Loop : A.Give ≠ A.Loop
  ne_Give_Call : A.Give ≠ A.Call
  nr_Number : A.Number ≠ A.Reader
  nr_Box : A.Box ≠ A.Reader
  nr_Cell : A.Cell ≠ A.Reader
  nr_Two : A.Two ≠ A.Reader
  nr_Function : A.Function ≠ A.Reader
  nr_Skip : A.Skip ≠ A.Reader
  nr_Set : A.Set ≠ A.Reader
  nr_Put : A.Put ≠ A.Reader
  nr_Ask : A.Ask ≠ A.Reader
  nr_Draw : A.Draw ≠ A.Reader
  nr_Tell : A.Tell ≠ A.Reader
  nr_Choice : A.Choice ≠ A.Reader
  nr_Loop : A.Loop ≠ A.Reader
  nr_Call : A.Call ≠ A.Reader
  nr_Give : A.Give ≠ A.Reader
  xg : PySem.W.findIn K (.ref A.NoProgram) "__getattribute__" = some (some (.builtin "BaseException.__getattribute__"))
  xk : PySem.W.findIn K (.ref A.NoProgram) "__getattr__" = some none
  xd : PySem.W.hasDictIn K A.NoProgram = true
  xa : PySem.W.findIn K (.ref A.NoProgram) "__class__" = some (some (.builtin "object.__class__"))
  xn : PySem.W.specialIn K (.builtin "object.__class__") "__get__" = some (some (.builtin "getset_descriptor.__get__"))
  xt : PySem.W.takesIn K (.builtin "object.__class__") = some true
  xm : PySem.W.mroIn K A.NoProgram (.type "object") = some true
  xh : PySem.W.exmOne K (.ref A.NoProgram) (.ref A.HadError) = some true
  xo : PySem.W.kitAny K (.ref A.NoProgram) [.ref A.NoChange, .ref A.NoText, .ref A.NoValue, .ref A.NoWish] = some false
  xv : PySem.W.kitOne K (.ref A.NoProgram) (.type "ValueError") = some true
  c_LETTERS : ∃ t, mg "LETTERS" = some (.str "abcdefghijklmnopqrstuvwxyz" t)
  c_FIGURES : ∃ t, mg "FIGURES" = some (.str "0123456789" t)
  c_MOST_DEEP : ∃ t, mg "MOST_DEEP" = some (.int 6 t)
  c_MOST_PARTS : ∃ t, mg "MOST_PARTS" = some (.int 15 t)
  c_MOST_WITHIN : ∃ t, mg "MOST_WITHIN" = some (.int 5 t)
  c_MOST_PARAMS : ∃ t, mg "MOST_PARAMS" = some (.int 3 t)
  c_MOST_LINES : ∃ t, mg "MOST_LINES" = some (.int 60 t)
  c_MOST_FUNCTIONS : ∃ t, mg "MOST_FUNCTIONS" = some (.int 4 t)
  z_str : mg "str" = none
  z_isinstance : mg "isinstance" = none
  z_len : mg "len" = none
  z_all : mg "all" = none
  z_int : mg "int" = none
  z_set : mg "set" = none
  z_range : mg "range" = none
  z_sum : mg "sum" = none
  z_tuple : mg "tuple" = none
  z_max : mg "max" = none
  z_ValueError : mg "ValueError" = none
abbrev Ads.ec (A : Ads) : EC := ⟨A.Number, A.Box, A.Cell, A.Two⟩
abbrev Ads.rc (A : Ads) : RC := ⟨A.Skip, A.Set, A.Put, A.Ask, A.Draw, A.Tell, A.Choice, A.Loop, A.Call, A.Give⟩
theorem excNP {K : PySem.W.Frag} {mg : Str → Option Value} {A : Ads} (T : Txt K mg A) : ExcC K A.NoProgram := ⟨T.xg, T.xk, T.bb_NoProgram, T.xd, T.xa, T.xn, T.xt, T.xm⟩
theorem is_self {K : PySem.W.Frag} (C : Addr) : PySem.W.kitOne K (.ref C) (.ref C) = some true := by
  unfold PySem.W.kitOne
  rw [if_pos (by simp)]

theorem notR_ec {K : PySem.W.Frag} {mg : Str → Option Value} {A : Ads} (T : Txt K mg A) : ∀ C, A.ec.Fam C → C ≠ A.Reader := fun C h => by
  rcases h with rfl | rfl | rfl | rfl
  · exact T.nr_Number
  · exact T.nr_Box
  · exact T.nr_Cell
  · exact T.nr_Two
theorem notR_rc {K : PySem.W.Frag} {mg : Str → Option Value} {A : Ads} (T : Txt K mg A) : ∀ C, A.rc.Fam C → C ≠ A.Reader := fun C h => by
  obtain ⟨rt, rfl⟩ := h
  cases rt with
  | skip => exact T.nr_Skip
  | set _ _ => exact T.nr_Set
  | put _ _ => exact T.nr_Put
  | ask _ _ _ => exact T.nr_Ask
  | draw _ _ => exact T.nr_Draw
  | tell _ => exact T.nr_Tell
  | ifr _ => exact T.nr_Choice
  | loop _ => exact T.nr_Loop
  | call _ _ _ => exact T.nr_Call
  | give _ => exact T.nr_Give
end K12
open PySem L2 TL

local macro_rules | `(tactic| walk_at "rd") => `(tactic| repeat (first
  | refine ⟨_, rfl, ?_⟩
  | refine ⟨_, _, rfl, rfl, ?_⟩
  | refine ⟨Or.inl ⟨by decide, by decide⟩, ?_⟩
  | refine ⟨Or.inr ⟨by decide, by decide⟩, ?_⟩
  | refine ⟨(⟨by decide, by decide⟩ : CDiv _ _), ?_⟩
  | refine ⟨(⟨by decide, by decide, by decide⟩ : CPow _ _), ?_⟩
  | refine ⟨(by show (0 : Int) < _; decide), ?_⟩
  | refine ⟨K12.mod64, ?_⟩))
namespace K12
open PySem L2 TL
section
variable {P : Program} {w : World} {K : PySem.W.Frag} {mg : Str → Option Value} {base : Heap} {A : Ads}
theorem ok_is_name (T : Txt K mg A) : FnOk P w K mg base CX0 1 A.is_name A.is_name_d ["thing"] (spTruthS isNameW) := by
  refine T.F_is_name.ok sc_is_name (fun vs H Q E h => ?_) (fun cdv A0 outer s H vs Q E hr h => ?_)
  · obtain ⟨s, rfl, hl, q⟩ := h
    rfl
  obtain ⟨s, rfl, hl, q⟩ := h
  refine ⟨_, (pss_cons (ps_if (PW.pt (pw_or (pt_not (pt_val (pe_callB call_isi (by rfl) T.z_isinstance (by decide +kernel) (pa_cons (pv 0) (pa_cons (pe_bltn (v := .ty "str") (by rfl) T.z_str (by decide +kernel) rfl) pa_nil))))) (pw_or1 (pt_not (pt_chain op_le op_le pe_int (pe_callB call_len_str (by rfl) T.z_len (by decide +kernel) (pa_cons (pv 0) pa_nil)) pe_int)))))
    (pss_one (ps_ret pe_bl))
    pss_nil)
   (pss_cons (ps_if (PW.pt (pw_or (pt_cmpR op_in_seq (pv 0) (pe_glob (v := .ref A.PAIRS) (by rfl) T.m_PAIRS rfl) (by rfl)) (pw_or (pt_cmpR op_in_seq (pv 0) (pe_glob (v := .ref A.ROWS) (by rfl) T.m_ROWS rfl) (by rfl)) (pw_or1 (pt_cmpR op_in_seq (pv 0) (pe_glob (v := .ref A.OTHERS) (by rfl) T.m_OTHERS rfl) (by rfl))))))
    (pss_one (ps_ret pe_bl))
    pss_nil)
   (pss_one (ps_ret (pe_callB (cr_all rfl) (by rfl) T.z_all (by decide +kernel) (pa_cons (pe_lc (own := [("sign", 1)]) (g := gName 1) (tt := tYes) rfl sc_is_name.nd (pi_str (pv 0)) (blkOk_by (own := [("sign", 1)]) (N := N_is_name) (sc := defScope s_is_name) (by decide +kernel)) (fun _ _ _ _ _ => pg_name (i := 1) sc_is_name.nd rfl (Or.inl rfl)) (fun _ _ _ _ _ => pts_nil) (fun _ _ _ _ _ => (pe_cmpR op_in_sign (pv 1) (pe_glob (v := .str "abcdefghijklmnopqrstuvwxyz") (by rfl) T.c_LETTERS.choose_spec ⟨_, rfl⟩) rfl))) pa_nil)))))), ?_⟩
  have hs : s.length = (tl s).length := len_tl s
  refine ⟨_, rfl, _, _, _, _, true, rfl, .ty _, .base (.str _), kit_ty (by decide +kernel), _, rfl, iteF ?_⟩
  refine ⟨_, rfl, _, rfl, len_line hl, _, _, rfl, rfl, _, rfl, ?_⟩
  refine iteD2 (fun c1 => ?_) (fun c1 => ?_)
  · refine ⟨_, _, rfl, rfl, _, rfl, iteN2 (fun c2 => ?_) (fun c2 => ?_)⟩
    · refine (nameW_false1 (s := s) (Or.inr ?_)) ▸ q _ (Same.refl H)
      omega
    · refine ⟨_, rfl, A.PAIRS, PAIRW.map V.str, rfl, .inr (T.q_PAIRS _), rfl, rfl, _, rfl, ?_⟩
      rw [if_neg Bool.false_ne_true, inV_str]
      refine iteD2 (fun c3 => (nameW_false2 (s := s) (.inl c3)) ▸ q _ (Same.refl H)) (fun c3 => ?_)
      refine ⟨_, rfl, A.ROWS, ROWW.map V.str, rfl, .inr (T.q_ROWS _), rfl, rfl, _, rfl, ?_⟩
      rw [if_neg Bool.false_ne_true, inV_str]
      refine iteD2 (fun c4 => (nameW_false2 (s := s) (.inr (.inl c4))) ▸ q _ (Same.refl H)) (fun c4 => ?_)
      refine ⟨_, rfl, A.OTHERS, OTHW.map V.str, rfl, .inr (T.q_OTHERS _), rfl, rfl, _, rfl, ?_⟩
      rw [if_neg Bool.false_ne_true, inV_str]
      refine iteD2 (fun c5 => (nameW_false2 (s := s) (.inr (.inr c5))) ▸ q _ (Same.refl H)) (fun c5 => ?_)
      exact rd_all (f := isLow) rfl (by show 1 < 2; decide) (by decide) (by omega) let_mem fun H' s' => (nameW_true (s := s) (by omega) (by omega) c3 c4 c5) ▸ q H' s'
  · refine ⟨_, rfl, iteT ?_⟩
    refine (nameW_false1 (s := s) (Or.inl ?_)) ▸ q _ (Same.refl H)
    omega

theorem ok_is_value_word (T : Txt K mg A) : FnOk P w K mg base CX0 1 A.is_value_word A.is_value_word_d ["word"] (spTruthS isValW) := by
  refine T.F_is_value_word.ok sc_is_value_word (fun vs H Q E h => ?_) (fun cdv A0 outer s H vs Q E hr h => ?_)
  · obtain ⟨s, rfl, hl, q⟩ := h
    rfl
  obtain ⟨s, rfl, hl, q⟩ := h
  refine ⟨_, (pss_cons (ps_if (PW.pt (pw_or (pt_not (pt_chain op_le op_le pe_int (pe_callB call_len_str (by rfl) T.z_len (by decide +kernel) (pa_cons (pv 0) pa_nil)) pe_int)) (pw_or1 (PW.pt (pw_and (pt_cmpR op_eq (pe_ix ix_str (pv 0) pe_int (fun _ _ => rfl)) pe_str (nomark _)) (pw_and1 (pt_cmpR op_ne (pv 0) pe_str (nomark _))))))))
    (pss_one (ps_ret pe_bl))
    pss_nil)
   (pss_one (ps_ret (pe_callB (cr_all rfl) (by rfl) T.z_all (by decide +kernel) (pa_cons (pe_lc (own := [("sign", 1)]) (g := gName 1) (tt := tYes) rfl sc_is_value_word.nd (pi_str (pv 0)) (blkOk_by (own := [("sign", 1)]) (N := N_is_value_word) (sc := defScope s_is_value_word) (by decide +kernel)) (fun _ _ _ _ _ => pg_name (i := 1) sc_is_value_word.nd rfl (Or.inl rfl)) (fun _ _ _ _ _ => pts_nil) (fun _ _ _ _ _ => (pe_cmpR op_in_sign (pv 1) (pe_glob (v := .str "0123456789") (by rfl) T.c_FIGURES.choose_spec ⟨_, rfl⟩) rfl))) pa_nil))))), ?_⟩
  have hs : s.length = (tl s).length := len_tl s
  refine ⟨_, rfl, _, rfl, len_line hl, _, _, rfl, rfl, _, rfl, ?_⟩
  refine iteD2 (fun c1 => ?_) (fun c1 => ?_)
  · refine ⟨_, _, rfl, rfl, _, rfl, iteN2 (fun c2 => ?_) (fun c2 => ?_)⟩
    · refine (valW_false1 (s := s) (Or.inr ?_)) ▸ q _ (Same.refl H)
      omega
    · have h6 : (tl s).length ≤ 6 ∧ 1 ≤ (tl s).length := by omega
      obtain ⟨c, r, hc⟩ : ∃ c r, tl s = c :: r := by
        cases e : tl s with
        | nil => rw [e] at h6; simp at h6
        | cons c r => exact ⟨c, r, rfl⟩
      refine ⟨_, rfl, s, 0, c, rfl, rfl, len_line hl, (by show atI (tl s) ((0 : Nat) : Int) = some c; rw [hc]; exact atI_nat rfl), rfl, _, rfl, ?_⟩
      refine iteD2 (fun c3 => ?_) (fun c3 => ?_)
      · refine ⟨_, rfl, rfl, _, rfl, iteN2 (fun c4 => ?_) (fun c4 => ?_)⟩
        · refine (valW_false2 (s := s) ?_ (fun e => c4 (congrArg V.str e))) ▸ q _ (Same.refl H)
          rw [hc]
          have := congrArg tl (V.str.inj c3)
          have z : tl (Str.ofString "0") = [48] := by decide +kernel
          rw [z] at this
          have e2 : [c] = [48] := this
          rw [List.cons.injEq] at e2
          rw [e2.1]; rfl
        · exact rd_all (f := isDig) rfl (by show 1 < 2; decide) (by decide) (by omega) fig_mem fun H' s' => (valW_true (s := s) h6.2 h6.1 (fun _ => V.str.inj c4)) ▸ q H' s'
      · refine rd_all (f := isDig) rfl (by show 1 < 2; decide) (by decide) (by omega) fig_mem fun H' s' => (valW_true (s := s) h6.2 h6.1 (fun e => ?_)) ▸ q H' s'
        rw [hc, List.head?_cons] at e
        refine absurd (congrArg V.str ?_) c3
        refine ext_tl ?_
        have z : tl (Str.ofString "0") = [48] := by decide +kernel
        rw [z, Option.some.inj e]
  · refine ⟨_, rfl, iteT ?_⟩
    refine (valW_false1 (s := s) (Or.inl ?_)) ▸ q _ (Same.refl H)
    omega

end
end K12
namespace K12
open PySem L2 TL
section
variable {P : Program} {w : World} {K : PySem.W.Frag} {mg : Str → Option Value} {base : Heap} {A : Ads}
theorem ok_Number_init (T : Txt K mg A) : FnOk P w K mg base CX0 1 A.Number_init A.Number_init_d ["self", "value"] (spInit1 A.Number "value") := by
  refine T.F_Number_init.ok sc_Number_init (fun vs H Q E h => ?_) (fun cdv A0 outer s H vs Q E hr h => ?_)
  · obtain ⟨p, dx, x, rfl, hp, q⟩ := h
    rfl
  obtain ⟨p, dx, x, rfl, hp, q⟩ := h
  refine ⟨_, (pss_one (ps_fld (pv 0) (pv 1) rfl)), ?_⟩
  exact ⟨_, rfl, _, rfl, p, A.Number, dx, [], rfl, hp, T.cl_Number, T.n_Number_value, (by show 0 < 1000; decide), q⟩

theorem ok_Box_init (T : Txt K mg A) : FnOk P w K mg base CX0 1 A.Box_init A.Box_init_d ["self", "name"] (spInit1 A.Box "name") := by
  refine T.F_Box_init.ok sc_Box_init (fun vs H Q E h => ?_) (fun cdv A0 outer s H vs Q E hr h => ?_)
  · obtain ⟨p, dx, x, rfl, hp, q⟩ := h
    rfl
  obtain ⟨p, dx, x, rfl, hp, q⟩ := h
  refine ⟨_, (pss_one (ps_fld (pv 0) (pv 1) rfl)), ?_⟩
  exact ⟨_, rfl, _, rfl, p, A.Box, dx, [], rfl, hp, T.cl_Box, T.n_Box_name, (by show 0 < 1000; decide), q⟩

theorem ok_Cell_init (T : Txt K mg A) : FnOk P w K mg base CX0 1 A.Cell_init A.Cell_init_d ["self", "inner"] (spInit1 A.Cell "inner") := by
  refine T.F_Cell_init.ok sc_Cell_init (fun vs H Q E h => ?_) (fun cdv A0 outer s H vs Q E hr h => ?_)
  · obtain ⟨p, dx, x, rfl, hp, q⟩ := h
    rfl
  obtain ⟨p, dx, x, rfl, hp, q⟩ := h
  refine ⟨_, (pss_one (ps_fld (pv 0) (pv 1) rfl)), ?_⟩
  exact ⟨_, rfl, _, rfl, p, A.Cell, dx, [], rfl, hp, T.cl_Cell, T.n_Cell_inner, (by show 0 < 1000; decide), q⟩

theorem ok_Two_init (T : Txt K mg A) : FnOk P w K mg base CX0 1 A.Two_init A.Two_init_d ["self", "word", "left", "right"] (spTwoI A.Two) := by
  refine T.F_Two_init.ok sc_Two_init (fun vs H Q E h => ?_) (fun cdv A0 outer s H vs Q E hr h => ?_)
  · obtain ⟨p, dx, wd, l, r, rfl, hp, q⟩ := h
    rfl
  obtain ⟨p, dx, wd, l, r, rfl, hp, q⟩ := h
  refine ⟨_, (pss_cons (ps_fld (pv 0) (pv 1) rfl)
   (pss_cons (ps_fld (pv 0) (pv 2) rfl)
   (pss_one (ps_fld (pv 0) (pv 3) rfl)))), ?_⟩
  refine ⟨_, rfl, _, rfl, p, A.Two, dx, [], rfl, hp, T.cl_Two, T.n_Two_word, (by show 0 < 1000; decide), ?_⟩
  refine ⟨_, rfl, _, rfl, p, A.Two, dx, _, rfl, upd_same, T.cl_Two, T.n_Two_left, (by show 1 < 1000; decide), ?_⟩
  refine ⟨_, rfl, _, rfl, p, A.Two, dx, _, rfl, upd_same, T.cl_Two, T.n_Two_right, (by show 2 < 1000; decide), ?_⟩
  rw [upd_upd, upd_upd]
  exact q

end
end K12
namespace K12
open PySem L2 TL
section
variable {P : Program} {w : World} {K : PySem.W.Frag} {mg : Str → Option Value} {base : Heap} {A : Ads}
theorem ok_Expr_parts (T : Txt K mg A) {n : Nat} {C : Addr} (hC : C = A.Number ∨ C = A.Box) : FnOk P w K mg base CX0 (n + 2) A.Expr_parts A.Expr_parts_d ["self"] (spParts A.ec (n + 1) C) := by
  refine T.F_Expr_parts.ok sc_Expr_parts (fun vs H Q E h => ?_) (fun cdv A0 outer s H vs Q E hr h => ?_)
  · obtain ⟨e, v, rfl, ho, hc, hd, q⟩ := h
    rfl
  obtain ⟨e, v, rfl, ho, hc, hd, q⟩ := h
  refine ⟨_, (pss_one (ps_ret pe_int)), ?_⟩
  cases e with
  | num n => exact q
  | box s => exact q
  | cell e =>
    rcases hC with h | h
    · exact (T.ne_cell_num (hc.trans h)).elim
    · exact (T.ne_cell_box (hc.trans h)).elim
  | two w l r =>
    rcases hC with h | h
    · exact (T.ne_two_num (hc.trans h)).elim
    · exact (T.ne_two_box (hc.trans h)).elim

theorem ok_Cell_parts (T : Txt K mg A) {n : Nat} (D_parts : ∀ C, A.ec.Fam C → Disp P w K mg base CX0 "parts" (n + 1) C (spParts A.ec n C)) : FnOk P w K mg base CX0 (n + 2) A.Cell_parts A.Cell_parts_d ["self"] (spParts A.ec (n + 1) A.Cell) := by
  refine T.F_Cell_parts.ok sc_Cell_parts (fun vs H Q E h => ?_) (fun cdv A0 outer s H vs Q E hr h => ?_)
  · obtain ⟨e, v, rfl, ho, hc, hd, q⟩ := h
    rfl
  obtain ⟨e, v, rfl, ho, hc, hd, q⟩ := h
  refine ⟨_, (pss_one (ps_ret (pe_op op_add pe_int (pe_methP0 (pe_fld (pv 0) rfl) D_parts (hr.mono (by omega)) pass0)))), ?_⟩
  cases e with
  | num n => exact (T.ne_num_cell hc).elim
  | box z => exact (T.ne_box_cell hc).elim
  | cell e =>
    obtain ⟨p, dx, i, rfl, h1, h2⟩ := ho
    have hd' : e.depth ≤ n := Nat.le_of_succ_le_succ hd
    obtain ⟨p2, d2, f2, e2, g1, g2⟩ := h2.at (m := "parts") (by decide +kernel)
    refine ⟨_, rfl, p, A.Cell, dx, _, _, rfl, h1, T.cl_Cell, T.n_Cell_inner, rfl, p2, _, d2, f2, e2, g1, g2, A.ec.fam e, e, i, rfl, h2, rfl, hd', ?_⟩
    refine ⟨_, _, rfl, rfl, ?_⟩
    have e1 : (1 : Int) + (e.parts : Int) = ((Ex.cell e).parts : Int) := by show (1 : Int) + (e.parts : Int) = ((1 + e.parts : Nat) : Int); omega
    show Q (.int ((1 : Int) + (e.parts : Int))) H
    rw [e1]
    exact q
  | two wd l r => exact (T.ne_two_cell hc).elim

theorem ok_Two_parts (T : Txt K mg A) {n : Nat} (D_parts : ∀ C, A.ec.Fam C → Disp P w K mg base CX0 "parts" (n + 1) C (spParts A.ec n C)) : FnOk P w K mg base CX0 (n + 2) A.Two_parts A.Two_parts_d ["self"] (spParts A.ec (n + 1) A.Two) := by
  refine T.F_Two_parts.ok sc_Two_parts (fun vs H Q E h => ?_) (fun cdv A0 outer s H vs Q E hr h => ?_)
  · obtain ⟨e, v, rfl, ho, hc, hd, q⟩ := h
    rfl
  obtain ⟨e, v, rfl, ho, hc, hd, q⟩ := h
  refine ⟨_, (pss_one (ps_ret (pe_op op_add (pe_op op_add pe_int (pe_methP0 (pe_fld (pv 0) rfl) D_parts (hr.mono (by omega)) pass0)) (pe_methP0 (pe_fld (pv 0) rfl) D_parts (hr.mono (by omega)) pass0)))), ?_⟩
  cases e with
  | num n => exact (T.ne_num_two hc).elim
  | box z => exact (T.ne_box_two hc).elim
  | cell e => exact (T.ne_cell_two hc).elim
  | two wd l r =>
    obtain ⟨p, dx, a, b, rfl, h1, h2, h3⟩ := ho
    have hd' : max l.depth r.depth ≤ n := Nat.le_of_succ_le_succ hd
    obtain ⟨p2, d2, f2, e2, g1, g2⟩ := h2.at (m := "parts") (by decide +kernel)
    obtain ⟨p3, d3, f3, e3, k1, k2⟩ := h3.at (m := "parts") (by decide +kernel)
    refine ⟨_, rfl, p, A.Two, dx, _, _, rfl, h1, T.cl_Two, T.n_Two_left, rfl, p2, _, d2, f2, e2, g1, g2, A.ec.fam l, l, a, rfl, h2, rfl, by omega, ?_⟩
    refine ⟨_, _, rfl, rfl, ?_⟩
    refine ⟨_, rfl, p, A.Two, dx, _, _, rfl, h1, T.cl_Two, T.n_Two_right, rfl, p3, _, d3, f3, e3, k1, k2, A.ec.fam r, r, b, rfl, h3, rfl, by omega, ?_⟩
    refine ⟨_, _, rfl, rfl, ?_⟩
    have e1 : (1 : Int) + (l.parts : Int) + (r.parts : Int) = ((Ex.two wd l r).parts : Int) := by show (1 : Int) + (l.parts : Int) + (r.parts : Int) = ((1 + l.parts + r.parts : Nat) : Int); omega
    show Q (.int ((1 : Int) + (l.parts : Int) + (r.parts : Int))) H
    rw [e1]
    exact q

theorem disp_parts (T : Txt K mg A) : ∀ (n : Nat) (C : Addr), A.ec.Fam C → Disp P w K mg base CX0 "parts" (n + 1) C (spParts A.ec n C)
  | 0, C, h => by
    have no : ∀ vs H Q E, spParts A.ec 0 C vs H Q E → False := fun vs H Q E ⟨e, v, _, _, _, hd, _⟩ => by have := e.depth_pos; omega
    rcases h with rfl | rfl | rfl | rfl
    · exact ⟨_, A.Expr_parts_d, _, T.cl_Number, T.me_Number_parts, fn_none (ps := ["self"]) no, T.b_Expr_parts⟩
    · exact ⟨_, A.Expr_parts_d, _, T.cl_Box, T.me_Box_parts, fn_none (ps := ["self"]) no, T.b_Expr_parts⟩
    · exact ⟨_, A.Cell_parts_d, _, T.cl_Cell, T.me_Cell_parts, fn_none (ps := ["self"]) no, T.b_Cell_parts⟩
    · exact ⟨_, A.Two_parts_d, _, T.cl_Two, T.me_Two_parts, fn_none (ps := ["self"]) no, T.b_Two_parts⟩
  | n + 1, C, h => by
    have D := disp_parts T n
    rcases h with rfl | rfl | rfl | rfl
    · exact ⟨_, _, _, T.cl_Number, T.me_Number_parts, ok_Expr_parts T (.inl rfl), T.b_Expr_parts⟩
    · exact ⟨_, _, _, T.cl_Box, T.me_Box_parts, ok_Expr_parts T (.inr rfl), T.b_Expr_parts⟩
    · exact ⟨_, _, _, T.cl_Cell, T.me_Cell_parts, ok_Cell_parts T D, T.b_Cell_parts⟩
    · exact ⟨_, _, _, T.cl_Two, T.me_Two_parts, ok_Two_parts T D, T.b_Two_parts⟩

end
end K12
namespace K12
open PySem L2 TL
section
variable {P : Program} {w : World} {K : PySem.W.Frag} {mg : Str → Option Value} {base : Heap} {A : Ads}
theorem ok_expr_at (T : Txt K mg A) : ∀ n : Nat, FnOk P w K mg base (L2.CX P w) (n + 2) A.expr_at A.expr_at_d ["row", "at", "deep"] (spExprAt K A.ec A.NoProgram n)
| 0 => fn_none fun vs H Q E h => by
    obtain ⟨_, _, _, d, _, _, _, _, hd, _⟩ := h; omega
| n + 1 => by
  have G_expr_at := ok_expr_at T n
  have G_is_value_word := ok_is_value_word (P := P) (w := w) (base := base) T
  have G_Number_init := ok_Number_init (P := P) (w := w) (base := base) T
  have G_is_name := ok_is_name (P := P) (w := w) (base := base) T
  have G_Box_init := ok_Box_init (P := P) (w := w) (base := base) T
  have G_Cell_init := ok_Cell_init (P := P) (w := w) (base := base) T
  have G_Two_init := ok_Two_init (P := P) (w := w) (base := base) T
  refine T.F_expr_at.okX sc_expr_at (fun vs H Q E h => ?_) (fun cdv A0 outer s H vs Q E hr h => ?_)
  · obtain ⟨a, ws, i, d, rfl, hS, hlen, hws, hdn, hd7, q1, q2⟩ := h
    rfl
  obtain ⟨a, ws, i, d, rfl, hS, hlen, hws, hdn, hd7, q1, q2⟩ := h
  refine ⟨_, (pss_cons (ps_if (PW.pt (pw_or (pt_cmpR op_gt (pv 2) (pe_glob (v := .int 6) (by rfl) T.c_MOST_DEEP.choose_spec ⟨_, rfl⟩) (nomark _)) (pw_or1 (pt_cmpR op_ge (pv 1) (pe_callB call_lenK (by rfl) T.z_len (by decide +kernel) (pa_cons (pv 0) pa_nil)) (nomark _)))))
    (pss_one (ps_raise rfl (takes_of rfl rfl rfl rfl) (pmk_own PySem.F.excBase_ValueError T.x_NoProgram T.m_NoProgram T.kk_NoProgram (raises_own T.bb_NoProgram T.tt_NoProgram) (by exact rfl))))
    pss_nil)
   (pss_cons (ps_set (i := 3) sc_expr_at.nd rfl (Or.inl rfl) (pe_ix ix_list (pv 0) (pv 1) (fun _ _ => rfl)))
   (pss_cons (ps_if (pt_val (pe_call G_is_value_word (hr.mono (by omega)) rfl T.m_is_value_word T.F_is_value_word.kp T.b_is_value_word .nil pass0 (pa_cons (pv 3) pa_nil)))
    (pss_one (ps_ret (pe_tup (pa_cons (pe_make T.k_Number G_Number_init (hr.mono (by omega)) rfl T.m_Number T.b_Number_init .nil pass0 (pa_cons (pe_callTy call_int_str (by rfl) T.z_int (by decide +kernel) (pa_cons (pv 3) pa_nil)) pa_nil)) (pa_cons (pe_op op_add (pv 1) pe_int) pa_nil)))))
    pss_nil)
   (pss_cons (ps_if (pt_val (pe_call G_is_name (hr.mono (by omega)) rfl T.m_is_name T.F_is_name.kp T.b_is_name .nil pass0 (pa_cons (pv 3) pa_nil)))
    (pss_one (ps_ret (pe_tup (pa_cons (pe_make T.k_Box G_Box_init (hr.mono (by omega)) rfl T.m_Box T.b_Box_init .nil pass0 (pa_cons (pv 3) pa_nil)) (pa_cons (pe_op op_add (pv 1) pe_int) pa_nil)))))
    pss_nil)
   (pss_cons (ps_if (pt_cmpR op_eq (pv 3) pe_str (nomark _))
    (pss_cons (ps_asg (pe_call G_expr_at (hr.mono (by omega)) rfl T.m_expr_at T.F_expr_at.kp T.b_expr_at .nil (passes_call (takes_of rfl rfl rfl rfl) (fun _ _ _ _ h => h)) (pa_cons (pv 0) (pa_cons (pe_op op_add (pv 1) pe_int) (pa_cons (pe_op op_add (pv 2) pe_int) pa_nil)))) (pg_tup (by rfl) (pgs_cons (pg_name (i := 4) sc_expr_at.nd rfl (Or.inl rfl)) (pgs_cons (pg_name (i := 5) sc_expr_at.nd rfl (Or.inl rfl)) pgs_nil))))
   (pss_one (ps_ret (pe_tup (pa_cons (pe_make T.k_Cell G_Cell_init (hr.mono (by omega)) rfl T.m_Cell T.b_Cell_init .nil pass0 (pa_cons (pv 4) pa_nil)) (pa_cons (pv 5) pa_nil))))))
    pss_nil)
   (pss_cons (ps_if (pt_cmpR op_notIn_seq (pv 3) (pe_glob (v := .ref A.PAIRS) (by rfl) T.m_PAIRS rfl) (by rfl))
    (pss_one (ps_raise rfl (takes_of rfl rfl rfl rfl) (pmk_own PySem.F.excBase_ValueError T.x_NoProgram T.m_NoProgram T.kk_NoProgram (raises_own T.bb_NoProgram T.tt_NoProgram) (by exact rfl))))
    pss_nil)
   (pss_cons (ps_asg (pe_call G_expr_at (hr.mono (by omega)) rfl T.m_expr_at T.F_expr_at.kp T.b_expr_at .nil (passes_call (takes_of rfl rfl rfl rfl) (fun _ _ _ _ h => h)) (pa_cons (pv 0) (pa_cons (pe_op op_add (pv 1) pe_int) (pa_cons (pe_op op_add (pv 2) pe_int) pa_nil)))) (pg_tup (by rfl) (pgs_cons (pg_name (i := 6) sc_expr_at.nd rfl (Or.inl rfl)) (pgs_cons (pg_name (i := 7) sc_expr_at.nd rfl (Or.inl rfl)) pgs_nil))))
   (pss_cons (ps_asg (pe_call G_expr_at (hr.mono (by omega)) rfl T.m_expr_at T.F_expr_at.kp T.b_expr_at .nil (passes_call (takes_of rfl rfl rfl rfl) (fun _ _ _ _ h => h)) (pa_cons (pv 0) (pa_cons (pv 7) (pa_cons (pe_op op_add (pv 2) pe_int) pa_nil)))) (pg_tup (by rfl) (pgs_cons (pg_name (i := 8) sc_expr_at.nd rfl (Or.inl rfl)) (pgs_cons (pg_name (i := 5) sc_expr_at.nd rfl (Or.inl rfl)) pgs_nil))))
   (pss_one (ps_ret (pe_tup (pa_cons (pe_make T.k_Two G_Two_init (hr.mono (by omega)) rfl T.m_Two T.b_Two_init .nil pass0 (pa_cons (pv 3) (pa_cons (pv 6) (pa_cons (pv 8) pa_nil)))) (pa_cons (pv 5) pa_nil))))))))))))), ?_⟩
  refine ⟨_, rfl, _, _, rfl, rfl, _, rfl, ?_⟩
  refine iteD2 (fun c1 => ?_) (fun c1 => ?_)
  · have d0 : d = 0 := by omega
    subst d0
    exact q2 rfl H (Same.refl H)
  obtain ⟨d', rfl⟩ : ∃ d', d = d' + 1 := ⟨d - 1, by omega⟩
  refine ⟨_, rfl, _, rfl, a, _, rfl, .inl hS, _, _, rfl, rfl, _, rfl, ?_⟩
  rw [List.length_map]
  refine iteD2 (fun c2 => ?_) (fun c2 => ?_)
  · refine q2 ?_ H (Same.refl H)
    rw [List.drop_eq_nil_of_le (by omega)]
    rfl
  obtain ⟨w1, r1, hw⟩ : ∃ w1 r1, ws.drop i = w1 :: r1 := ⟨_, _, List.drop_eq_getElem_cons (by omega)⟩
  obtain ⟨hi, hat, hdr, hrl, hmem⟩ := at_str hw
  rw [hw, parseE_cons] at q1 q2
  have hl1 := hws _ hmem
  refine ⟨_, rfl, _, rfl, a, _, _, _, rfl, rfl, hS, hat, ?_⟩
  refine ⟨_, rfl, w1, rfl, hl1, fun H1 s1 => ⟨_, rfl, iteB2 (fun c3 => ?_) (fun c3 => ?_)⟩⟩
  · rw [if_pos c3] at q1
    have hv := valW_int c3
    refine ⟨_, rfl, w1, valOf w1, rfl, hv.1, hv.2.1, fun x dx hx hdx _ => mk_init hx hdx fun H2 s2 h2 => ?_⟩
    refine ⟨_, rfl, _, _, rfl, rfl, by show 2 ≤ sizeLine; decide, fun t ht => ?_⟩
    refine q1 _ _ rfl t _ (.ref x) (s1.trans (s2.trans (same_new ht))) ?_ ⟨x, dx, rfl, (same_new ht) _ _ h2⟩
    rw [upd_same, hrl]
    have : ((ws.length - (ws.length - (i + 1)) : Nat) : Int) = (i : Int) + 1 := by omega
    rw [this]
  rw [if_neg (by rw [c3]; decide)] at q1 q2
  refine ⟨_, rfl, w1, rfl, hl1, fun H2 s2 => ⟨_, rfl, iteB2 (fun c4 => ?_) (fun c4 => ?_)⟩⟩
  · rw [if_pos c4] at q1
    refine ⟨_, rfl, fun x dx hx hdx _ => mk_init hx hdx fun H3 s3 h3 => ?_⟩
    refine ⟨_, rfl, _, _, rfl, rfl, by show 2 ≤ sizeLine; decide, fun t ht => ?_⟩
    refine q1 _ _ rfl t _ (.ref x) (s1.trans (s2.trans (s3.trans (same_new ht)))) ?_ ⟨x, dx, rfl, (same_new ht) _ _ h3⟩
    rw [upd_same, hrl]
    have : ((ws.length - (ws.length - (i + 1)) : Nat) : Int) = (i : Int) + 1 := by omega
    rw [this]
  rw [if_neg (by rw [c4]; decide)] at q1 q2
  have s12 := s1.trans s2
  have e1 : (i : Int) + 1 = ((i + 1 : Nat) : Int) := by omega
  have e2 : (7 : Int) - ((d' + 1 : Nat) : Int) + 1 = 7 - (d' : Int) := by omega
  refine ⟨_, rfl, rfl, _, rfl, ?_⟩
  refine iteD2 (fun c5 => ?_) (fun c5 => ?_)
  · rw [if_pos (V.str.inj c5)] at q1 q2
    refine ⟨_, rfl, _, rfl, _, _, rfl, rfl, _, rfl, _, _, rfl, rfl, a, ws, i + 1, d', (by show [V.ref a, V.int ((i : Int) + 1), V.int ((7 : Int) - ((d' + 1 : Nat) : Int) + 1)] = _; rw [e1, e2]), s12.seq hS, hlen, hws, by omega, by omega, fun e3 r3 p3 t H3 v s3 ht ho => ?_, fun p3 H3 s3 => ?_⟩
    · rw [hdr] at p3
      rw [p3] at q1
      refine ⟨t, _, rfl, SqT.of ht, rfl, _, _, rfl, _, _, rfl, rfl, ?_⟩
      refine ⟨_, rfl, fun x dx hx hdx _ => mk_init hx hdx fun H4 s4 h4 => ?_⟩
      refine ⟨_, rfl, by show 2 ≤ sizeLine; decide, fun t2 ht2 => ?_⟩
      exact q1 _ _ rfl t2 _ (.ref x) (s12.trans (s3.trans (s4.trans (same_new ht2)))) upd_same ⟨x, dx, v, rfl, (same_new ht2) _ _ h4, ho.same (s4.trans (same_new ht2))⟩
    · rw [hdr] at p3
      rw [p3] at q2
      exact q2 rfl H3 (s12.trans s3)
  rw [if_neg (fun e => c5 (congrArg V.str e))] at q1 q2
  refine ⟨_, rfl, A.PAIRS, PAIRW.map V.str, rfl, .inr (T.q_PAIRS _), rfl, rfl, _, rfl, ?_⟩
  rw [if_pos rfl, inV_str]
  refine iteN2 (fun c6 => ?_) (fun c6 => ?_)
  · rw [if_neg c6] at q2
    exact q2 rfl H2 s12
  rw [if_pos c6] at q1 q2
  refine ⟨_, rfl, _, rfl, _, _, rfl, rfl, _, rfl, _, _, rfl, rfl, a, ws, i + 1, d', (by show [V.ref a, V.int ((i : Int) + 1), V.int ((7 : Int) - ((d' + 1 : Nat) : Int) + 1)] = _; rw [e1, e2]), s12.seq hS, hlen, hws, by omega, by omega, fun e3 r3 p3 t H3 v s3 ht ho => ?_, fun p3 H3 s3 => ?_⟩
  · rw [hdr] at p3
    rw [p3] at q1 q2
    have pa := parse_at (i := i + 1) (d := d') (ws := ws) (by rw [hdr]; exact p3)
    refine ⟨t, _, rfl, SqT.of ht, rfl, _, _, rfl, _, _, rfl, rfl, ?_⟩
    refine ⟨_, rfl, _, rfl, _, rfl, _, _, rfl, rfl, a, ws, ws.length - r3.length, d', (by show [V.ref a, V.int _, V.int ((7 : Int) - ((d' + 1 : Nat) : Int) + 1)] = _; rw [e2]), s3.seq (s12.seq hS), hlen, hws, by omega, by omega, fun e4 r4 p4 t2 H4 v2 s4 ht2 ho2 => ?_, fun p4 H4 s4 => ?_⟩
    · rw [pa.2.2] at p4
      simp only at q1
      rw [p4] at q1
      refine ⟨t2, _, rfl, SqT.of ht2, rfl, _, _, rfl, _, _, rfl, rfl, ?_⟩
      refine ⟨_, rfl, _, rfl, _, rfl, fun x dx hx hdx _ => mk_two hx hdx fun H5 s5 h5 => ?_⟩
      refine ⟨_, rfl, by show 2 ≤ sizeLine; decide, fun t3 ht3 => ?_⟩
      exact q1 _ _ rfl t3 _ (.ref x) (s12.trans (s3.trans (s4.trans (s5.trans (same_new ht3))))) upd_same ⟨x, dx, v, v2, rfl, (same_new ht3) _ _ h5, ho.same (s4.trans (s5.trans (same_new ht3))), ho2.same (s5.trans (same_new ht3))⟩
    · rw [pa.2.2] at p4
      simp only at q2
      rw [p4] at q2
      exact q2 rfl H4 (s12.trans (s3.trans s4))
  · rw [hdr] at p3
    rw [p3] at q2
    exact q2 rfl H3 (s12.trans s3)

end
end K12
namespace K12
open PySem L2 TL
section
variable {P : Program} {w : World} {K : PySem.W.Frag} {mg : Str → Option Value} {base : Heap} {A : Ads}
theorem ok_exprs_of (T : Txt K mg A) : FnOk P w K mg base (L2.CX P w) 11 A.exprs_of A.exprs_of_d ["row"] (spExprs K A.ec A.NoProgram) := by
  have G_expr_at := ok_expr_at (P := P) (w := w) (base := base) T 8
  have D_parts := disp_parts (P := P) (w := w) (base := base) T 7
  refine T.F_exprs_of.okX sc_exprs_of (fun vs H Q E h => ?_) (fun cdv A0 outer s H vs Q E hr h => ?_)
  · obtain ⟨a, ws, rfl, hS, hlen, hws, q1, q2⟩ := h
    rfl
  obtain ⟨a, ws, rfl, hS, hlen, hws, q1, q2⟩ := h
  refine ⟨_, (pss_cons (ps_set (i := 1) sc_exprs_of.nd rfl (Or.inl rfl) (pe_lst pa_nil))
   (pss_cons (ps_set (i := 2) sc_exprs_of.nd rfl (Or.inl rfl) pe_int)
   (pss_cons (ps_while (passes_of rfl) (pt_cmpR op_lt (pv 2) (pe_callB call_lenK (by rfl) T.z_len (by decide +kernel) (pa_cons (pv 0) pa_nil)) (nomark _))
    (pss_cons (ps_asg (pe_call G_expr_at (hr.mono (by decide)) rfl T.m_expr_at T.F_expr_at.kp T.b_expr_at .nil (passes_call (takes_of rfl rfl rfl rfl) (fun _ _ _ _ h => h)) (pa_cons (pv 0) (pa_cons (pv 2) (pa_cons pe_int pa_nil)))) (pg_tup (by rfl) (pgs_cons (pg_name (i := 3) sc_exprs_of.nd rfl (Or.inl rfl)) (pgs_cons (pg_name (i := 2) sc_exprs_of.nd rfl (Or.inl rfl)) pgs_nil))))
   (pss_cons (ps_if (pt_cmpR op_gt (pe_methP0 (pv 3) D_parts (hr.mono (by decide)) pass0) (pe_glob (v := .int 15) (by rfl) T.c_MOST_PARTS.choose_spec ⟨_, rfl⟩) (nomark _))
    (pss_one (ps_raise rfl (takes_of rfl rfl rfl rfl) (pmk_own PySem.F.excBase_ValueError T.x_NoProgram T.m_NoProgram T.kk_NoProgram (raises_own T.bb_NoProgram T.tt_NoProgram) (by exact rfl))))
    pss_nil)
   (pss_one (ps_expr (pe_bm PySem.F.plainAttrs_list PySem.F.slot_list_append PySem.F.type_list_append mt_append (pv 1) (pa_cons (pv 3) pa_nil)))))))
   (pss_one (ps_ret (pv 1)))))), ?_⟩
  refine ⟨by show 0 ≤ sizeLine; decide, fun l hl => ?_⟩
  refine while_m (fun m σ H' => ∃ (i : Nat) (es : List Ex) (os : List V) (z : Option V), σ = [some (.ref a), some (.ref l), some (.int i), z] ∧ m = ws.length - i ∧ i ≤ ws.length ∧ Same H H' ∧ H' l = some (.lst os) ∧ os.length ≤ i ∧ AllE A.ec H' es os ∧ after es (parseAll (ws.drop i).length (ws.drop i)) = parseAll ws.length ws) ws.length
    ⟨0, [], [], none, rfl, rfl, Nat.zero_le _, same_new hl, upd_same, Nat.le_refl _, .nil, by rw [List.drop_zero]; cases parseAll ws.length ws <;> rfl⟩ ?_
  rintro m σ H1 ⟨i, es, os, z, rfl, rfl, hi, s1, h1, hos, ha, hp⟩
  refine ⟨_, rfl, _, rfl, a, _, rfl, .inl (s1.seq hS), _, _, rfl, rfl, _, rfl, ?_⟩
  rw [List.length_map]
  refine iteD2 (fun c1 => ?_) (fun c1 => ?_)
  · refine ⟨fun σ' H' => ∃ (i' : Nat) (es : List Ex) (os : List V) (z : Option V), i < i' ∧ σ' = [some (.ref a), some (.ref l), some (.int i'), z] ∧ i' ≤ ws.length ∧ Same H H' ∧ H' l = some (.lst os) ∧ os.length ≤ i' ∧ AllE A.ec H' es os ∧ after es (parseAll (ws.drop i').length (ws.drop i')) = parseAll ws.length ws,
      fun σ' H' ⟨i', es, os, z, hi', hσ, k⟩ => ⟨ws.length - i', by omega, i', es, os, z, hσ, rfl, k⟩, ?_⟩
    obtain ⟨w1, r1, hw⟩ : ∃ w1 r1, ws.drop i = w1 :: r1 := ⟨_, _, List.drop_eq_getElem_cons (by omega)⟩
    rw [hw, parseAll_step, ← hw] at hp
    refine ⟨_, rfl, _, rfl, a, ws, i, 6, rfl, s1.seq hS, hlen, hws, by decide, by decide, fun e r p t H2 v s2 ht ho => ?_, fun p H2 s2 => ?_⟩
    · rw [p] at hp
      have pa := parse_at p
      simp only at hp
      refine ⟨t, _, rfl, SqT.of ht, rfl, _, _, rfl, _, _, rfl, rfl, ?_⟩
      obtain ⟨p2, d2, f2, e2, g1, g2⟩ := ho.at (m := "parts") (by decide +kernel)
      refine ⟨_, rfl, p2, _, d2, f2, e2, g1, g2, A.ec.fam e, e, v, by rw [e2]; rfl, ho, rfl, by have := (parse_wf p).2.1; omega, ?_⟩
      refine ⟨_, _, rfl, rfl, _, rfl, ?_⟩
      refine iteD2 (fun c2 => ?_) (fun c2 => ?_)
      · rw [if_neg (by omega)] at hp
        exact q2 hp.symm H2 (s1.trans s2)
      · rw [if_pos (by omega)] at hp
        have h2 := s2 _ _ h1
        refine ⟨_, rfl, .inl ⟨rfl, _, SqL.of h2⟩, _, rfl, l, _, _, rfl, rfl, h2, Nat.lt_of_le_of_lt (Nat.le_trans hos (Nat.le_trans hi hlen)) (by decide), ?_⟩
        have kx : ∀ b o, H b = some o → upd H2 l (.lst (os ++ [v])) b = some o := fun b o hb => by rw [upd_ne (ne_of_none hb hl)]; exact (s1.trans s2) b o hb
        have hol : ∀ {e : Ex} {v : V} {X : Hp}, Same X H2 → ObjE A.ec X e v → ObjE A.ec (upd H2 l (.lst (os ++ [v]))) e v := fun sx hx => objE_upd h2 (hx.same sx)
        refine ⟨ws.length - r.length, es ++ [e], os ++ [v], _, pa.1, rfl, pa.2.1, kx, upd_same, by rw [List.length_append, List.length_singleton]; omega, allE_snoc_upd h2 (ha.same s2) ho, ?_⟩
        rw [pa.2.2, ← hp]
        cases q : parseAll r.length r with
        | none => rfl
        | some fs => show some ((es ++ [e]) ++ fs) = some (es ++ (e :: fs)); rw [List.append_assoc]; rfl
    · rw [p] at hp
      exact q2 hp.symm H2 (s1.trans s2)
  · have ei : i = ws.length := by omega
    subst ei
    rw [List.drop_length] at hp
    have hp' : some es = parseAll ws.length ws := by
      rw [← hp]; show _ = some (es ++ []); rw [List.append_nil]
    exact ⟨_, rfl, q1 es hp'.symm l H1 os s1 hl h1 ha⟩

end
end K12
namespace K12
open PySem L2 TL
section
variable {P : Program} {w : World} {K : PySem.W.Frag} {mg : Str → Option Value} {base : Heap} {A : Ads}
theorem ok_Row_init (T : Txt K mg A) : FnOk P w K mg base CX0 1 A.Row_init A.Row_init_d ["self", "number"] (spRowInit K) := by
  refine T.F_Row_init.ok sc_Row_init (fun vs H Q E h => ?_) (fun cdv A0 outer s H vs Q E hr h => ?_)
  · obtain ⟨p, C, dx, n, rfl, hp, hC, hN, q⟩ := h
    rfl
  obtain ⟨p, C, dx, n, rfl, hp, hC, hN, q⟩ := h
  refine ⟨_, (pss_one (ps_fld (pv 0) (pv 1) rfl)), ?_⟩
  exact ⟨_, rfl, _, rfl, p, C, dx, [], rfl, hp, hC, hN, (by show 0 < 1000; decide), q⟩

theorem ok_Set_init (T : Txt K mg A) : FnOk P w K mg base CX0 3 A.Set_init A.Set_init_d ["self", "number", "box", "expr"] (spRI A.Set ["number", "box", "expr"]) := by
  have G_Row_init := ok_Row_init (P := P) (w := w) (base := base) T
  refine T.F_Set_init.ok sc_Set_init (fun vs H Q E h => ?_) (fun cdv A0 outer s H vs Q E hr h => ?_)
  · obtain ⟨p, dx, xs, rfl, hl, hp, q⟩ := h
    exact congrArg (· + 1) hl
  obtain ⟨p, dx, xs, rfl, hl, hp, q⟩ := h
  refine ⟨_, (pss_cons (ps_expr (pe_cfn (pe_glob (v := .ref A.Row) (by rfl) T.m_Row rfl) T.cf_Row_init G_Row_init (hr.mono (by decide)) T.b_Row_init .nil pass0 (pa_cons (pv 0) (pa_cons (pv 1) pa_nil))))
   (pss_cons (ps_fld (pv 0) (pv 2) rfl)
   (pss_one (ps_fld (pv 0) (pv 3) rfl)))), ?_⟩
  obtain ⟨x0, x1, x2, rfl⟩ : ∃ x0 x1 x2, xs = [x0, x1, x2] := by
    match xs, hl with
    | [x0, x1, x2], _ => exact ⟨x0, x1, x2, rfl⟩
  refine ⟨rfl, _, rfl, _, rfl, p, A.Set, dx, x0, rfl, hp, T.cl_Set, T.n_Set_number, ?_⟩
  refine ⟨_, rfl, _, rfl, p, A.Set, dx, _, rfl, upd_same, T.cl_Set, T.n_Set_box, (by show 1 < 1000; decide), ?_⟩
  refine ⟨_, rfl, _, rfl, p, A.Set, dx, _, rfl, upd_same, T.cl_Set, T.n_Set_expr, (by show 2 < 1000; decide), ?_⟩
  rw [upd_upd, upd_upd]
  exact q

theorem ok_Put_init (T : Txt K mg A) : FnOk P w K mg base CX0 3 A.Put_init A.Put_init_d ["self", "number", "first", "second"] (spRI A.Put ["number", "first", "second"]) := by
  have G_Row_init := ok_Row_init (P := P) (w := w) (base := base) T
  refine T.F_Put_init.ok sc_Put_init (fun vs H Q E h => ?_) (fun cdv A0 outer s H vs Q E hr h => ?_)
  · obtain ⟨p, dx, xs, rfl, hl, hp, q⟩ := h
    exact congrArg (· + 1) hl
  obtain ⟨p, dx, xs, rfl, hl, hp, q⟩ := h
  refine ⟨_, (pss_cons (ps_expr (pe_cfn (pe_glob (v := .ref A.Row) (by rfl) T.m_Row rfl) T.cf_Row_init G_Row_init (hr.mono (by decide)) T.b_Row_init .nil pass0 (pa_cons (pv 0) (pa_cons (pv 1) pa_nil))))
   (pss_cons (ps_fld (pv 0) (pv 2) rfl)
   (pss_one (ps_fld (pv 0) (pv 3) rfl)))), ?_⟩
  obtain ⟨x0, x1, x2, rfl⟩ : ∃ x0 x1 x2, xs = [x0, x1, x2] := by
    match xs, hl with
    | [x0, x1, x2], _ => exact ⟨x0, x1, x2, rfl⟩
  refine ⟨rfl, _, rfl, _, rfl, p, A.Put, dx, x0, rfl, hp, T.cl_Put, T.n_Put_number, ?_⟩
  refine ⟨_, rfl, _, rfl, p, A.Put, dx, _, rfl, upd_same, T.cl_Put, T.n_Put_first, (by show 1 < 1000; decide), ?_⟩
  refine ⟨_, rfl, _, rfl, p, A.Put, dx, _, rfl, upd_same, T.cl_Put, T.n_Put_second, (by show 2 < 1000; decide), ?_⟩
  rw [upd_upd, upd_upd]
  exact q

theorem ok_Ask_init (T : Txt K mg A) : FnOk P w K mg base CX0 3 A.Ask_init A.Ask_init_d ["self", "number", "box", "word", "expr"] (spRI A.Ask ["number", "box", "word", "expr"]) := by
  have G_Row_init := ok_Row_init (P := P) (w := w) (base := base) T
  refine T.F_Ask_init.ok sc_Ask_init (fun vs H Q E h => ?_) (fun cdv A0 outer s H vs Q E hr h => ?_)
  · obtain ⟨p, dx, xs, rfl, hl, hp, q⟩ := h
    exact congrArg (· + 1) hl
  obtain ⟨p, dx, xs, rfl, hl, hp, q⟩ := h
  refine ⟨_, (pss_cons (ps_expr (pe_cfn (pe_glob (v := .ref A.Row) (by rfl) T.m_Row rfl) T.cf_Row_init G_Row_init (hr.mono (by decide)) T.b_Row_init .nil pass0 (pa_cons (pv 0) (pa_cons (pv 1) pa_nil))))
   (pss_cons (ps_fld (pv 0) (pv 2) rfl)
   (pss_cons (ps_fld (pv 0) (pv 3) rfl)
   (pss_one (ps_fld (pv 0) (pv 4) rfl))))), ?_⟩
  obtain ⟨x0, x1, x2, x3, rfl⟩ : ∃ x0 x1 x2 x3, xs = [x0, x1, x2, x3] := by
    match xs, hl with
    | [x0, x1, x2, x3], _ => exact ⟨x0, x1, x2, x3, rfl⟩
  refine ⟨rfl, _, rfl, _, rfl, p, A.Ask, dx, x0, rfl, hp, T.cl_Ask, T.n_Ask_number, ?_⟩
  refine ⟨_, rfl, _, rfl, p, A.Ask, dx, _, rfl, upd_same, T.cl_Ask, T.n_Ask_box, (by show 1 < 1000; decide), ?_⟩
  refine ⟨_, rfl, _, rfl, p, A.Ask, dx, _, rfl, upd_same, T.cl_Ask, T.n_Ask_word, (by show 2 < 1000; decide), ?_⟩
  refine ⟨_, rfl, _, rfl, p, A.Ask, dx, _, rfl, upd_same, T.cl_Ask, T.n_Ask_expr, (by show 3 < 1000; decide), ?_⟩
  rw [upd_upd, upd_upd, upd_upd]
  exact q

theorem ok_Draw_init (T : Txt K mg A) : FnOk P w K mg base CX0 3 A.Draw_init A.Draw_init_d ["self", "number", "box", "word"] (spRI A.Draw ["number", "box", "word"]) := by
  have G_Row_init := ok_Row_init (P := P) (w := w) (base := base) T
  refine T.F_Draw_init.ok sc_Draw_init (fun vs H Q E h => ?_) (fun cdv A0 outer s H vs Q E hr h => ?_)
  · obtain ⟨p, dx, xs, rfl, hl, hp, q⟩ := h
    exact congrArg (· + 1) hl
  obtain ⟨p, dx, xs, rfl, hl, hp, q⟩ := h
  refine ⟨_, (pss_cons (ps_expr (pe_cfn (pe_glob (v := .ref A.Row) (by rfl) T.m_Row rfl) T.cf_Row_init G_Row_init (hr.mono (by decide)) T.b_Row_init .nil pass0 (pa_cons (pv 0) (pa_cons (pv 1) pa_nil))))
   (pss_cons (ps_fld (pv 0) (pv 2) rfl)
   (pss_one (ps_fld (pv 0) (pv 3) rfl)))), ?_⟩
  obtain ⟨x0, x1, x2, rfl⟩ : ∃ x0 x1 x2, xs = [x0, x1, x2] := by
    match xs, hl with
    | [x0, x1, x2], _ => exact ⟨x0, x1, x2, rfl⟩
  refine ⟨rfl, _, rfl, _, rfl, p, A.Draw, dx, x0, rfl, hp, T.cl_Draw, T.n_Draw_number, ?_⟩
  refine ⟨_, rfl, _, rfl, p, A.Draw, dx, _, rfl, upd_same, T.cl_Draw, T.n_Draw_box, (by show 1 < 1000; decide), ?_⟩
  refine ⟨_, rfl, _, rfl, p, A.Draw, dx, _, rfl, upd_same, T.cl_Draw, T.n_Draw_word, (by show 2 < 1000; decide), ?_⟩
  rw [upd_upd, upd_upd]
  exact q

theorem ok_Tell_init (T : Txt K mg A) : FnOk P w K mg base CX0 3 A.Tell_init A.Tell_init_d ["self", "number", "expr"] (spRI A.Tell ["number", "expr"]) := by
  have G_Row_init := ok_Row_init (P := P) (w := w) (base := base) T
  refine T.F_Tell_init.ok sc_Tell_init (fun vs H Q E h => ?_) (fun cdv A0 outer s H vs Q E hr h => ?_)
  · obtain ⟨p, dx, xs, rfl, hl, hp, q⟩ := h
    exact congrArg (· + 1) hl
  obtain ⟨p, dx, xs, rfl, hl, hp, q⟩ := h
  refine ⟨_, (pss_cons (ps_expr (pe_cfn (pe_glob (v := .ref A.Row) (by rfl) T.m_Row rfl) T.cf_Row_init G_Row_init (hr.mono (by decide)) T.b_Row_init .nil pass0 (pa_cons (pv 0) (pa_cons (pv 1) pa_nil))))
   (pss_one (ps_fld (pv 0) (pv 2) rfl))), ?_⟩
  obtain ⟨x0, x1, rfl⟩ : ∃ x0 x1, xs = [x0, x1] := by
    match xs, hl with
    | [x0, x1], _ => exact ⟨x0, x1, rfl⟩
  refine ⟨rfl, _, rfl, _, rfl, p, A.Tell, dx, x0, rfl, hp, T.cl_Tell, T.n_Tell_number, ?_⟩
  refine ⟨_, rfl, _, rfl, p, A.Tell, dx, _, rfl, upd_same, T.cl_Tell, T.n_Tell_expr, (by show 1 < 1000; decide), ?_⟩
  rw [upd_upd]
  exact q

theorem ok_Choice_init (T : Txt K mg A) : FnOk P w K mg base CX0 3 A.Choice_init A.Choice_init_d ["self", "number", "test", "first", "second"] (spRI A.Choice ["number", "test", "first", "second"]) := by
  have G_Row_init := ok_Row_init (P := P) (w := w) (base := base) T
  refine T.F_Choice_init.ok sc_Choice_init (fun vs H Q E h => ?_) (fun cdv A0 outer s H vs Q E hr h => ?_)
  · obtain ⟨p, dx, xs, rfl, hl, hp, q⟩ := h
    exact congrArg (· + 1) hl
  obtain ⟨p, dx, xs, rfl, hl, hp, q⟩ := h
  refine ⟨_, (pss_cons (ps_expr (pe_cfn (pe_glob (v := .ref A.Row) (by rfl) T.m_Row rfl) T.cf_Row_init G_Row_init (hr.mono (by decide)) T.b_Row_init .nil pass0 (pa_cons (pv 0) (pa_cons (pv 1) pa_nil))))
   (pss_cons (ps_fld (pv 0) (pv 2) rfl)
   (pss_cons (ps_fld (pv 0) (pv 3) rfl)
   (pss_one (ps_fld (pv 0) (pv 4) rfl))))), ?_⟩
  obtain ⟨x0, x1, x2, x3, rfl⟩ : ∃ x0 x1 x2 x3, xs = [x0, x1, x2, x3] := by
    match xs, hl with
    | [x0, x1, x2, x3], _ => exact ⟨x0, x1, x2, x3, rfl⟩
  refine ⟨rfl, _, rfl, _, rfl, p, A.Choice, dx, x0, rfl, hp, T.cl_Choice, T.n_Choice_number, ?_⟩
  refine ⟨_, rfl, _, rfl, p, A.Choice, dx, _, rfl, upd_same, T.cl_Choice, T.n_Choice_test, (by show 1 < 1000; decide), ?_⟩
  refine ⟨_, rfl, _, rfl, p, A.Choice, dx, _, rfl, upd_same, T.cl_Choice, T.n_Choice_first, (by show 2 < 1000; decide), ?_⟩
  refine ⟨_, rfl, _, rfl, p, A.Choice, dx, _, rfl, upd_same, T.cl_Choice, T.n_Choice_second, (by show 3 < 1000; decide), ?_⟩
  rw [upd_upd, upd_upd, upd_upd]
  exact q

theorem ok_Loop_init (T : Txt K mg A) : FnOk P w K mg base CX0 3 A.Loop_init A.Loop_init_d ["self", "number", "test", "body"] (spRI A.Loop ["number", "test", "body"]) := by
  have G_Row_init := ok_Row_init (P := P) (w := w) (base := base) T
  refine T.F_Loop_init.ok sc_Loop_init (fun vs H Q E h => ?_) (fun cdv A0 outer s H vs Q E hr h => ?_)
  · obtain ⟨p, dx, xs, rfl, hl, hp, q⟩ := h
    exact congrArg (· + 1) hl
  obtain ⟨p, dx, xs, rfl, hl, hp, q⟩ := h
  refine ⟨_, (pss_cons (ps_expr (pe_cfn (pe_glob (v := .ref A.Row) (by rfl) T.m_Row rfl) T.cf_Row_init G_Row_init (hr.mono (by decide)) T.b_Row_init .nil pass0 (pa_cons (pv 0) (pa_cons (pv 1) pa_nil))))
   (pss_cons (ps_fld (pv 0) (pv 2) rfl)
   (pss_one (ps_fld (pv 0) (pv 3) rfl)))), ?_⟩
  obtain ⟨x0, x1, x2, rfl⟩ : ∃ x0 x1 x2, xs = [x0, x1, x2] := by
    match xs, hl with
    | [x0, x1, x2], _ => exact ⟨x0, x1, x2, rfl⟩
  refine ⟨rfl, _, rfl, _, rfl, p, A.Loop, dx, x0, rfl, hp, T.cl_Loop, T.n_Loop_number, ?_⟩
  refine ⟨_, rfl, _, rfl, p, A.Loop, dx, _, rfl, upd_same, T.cl_Loop, T.n_Loop_test, (by show 1 < 1000; decide), ?_⟩
  refine ⟨_, rfl, _, rfl, p, A.Loop, dx, _, rfl, upd_same, T.cl_Loop, T.n_Loop_body, (by show 2 < 1000; decide), ?_⟩
  rw [upd_upd, upd_upd]
  exact q

theorem ok_Call_init (T : Txt K mg A) : FnOk P w K mg base CX0 3 A.Call_init A.Call_init_d ["self", "number", "box", "fun", "given"] (spRI A.Call ["number", "box", "fun", "given"]) := by
  have G_Row_init := ok_Row_init (P := P) (w := w) (base := base) T
  refine T.F_Call_init.ok sc_Call_init (fun vs H Q E h => ?_) (fun cdv A0 outer s H vs Q E hr h => ?_)
  · obtain ⟨p, dx, xs, rfl, hl, hp, q⟩ := h
    exact congrArg (· + 1) hl
  obtain ⟨p, dx, xs, rfl, hl, hp, q⟩ := h
  refine ⟨_, (pss_cons (ps_expr (pe_cfn (pe_glob (v := .ref A.Row) (by rfl) T.m_Row rfl) T.cf_Row_init G_Row_init (hr.mono (by decide)) T.b_Row_init .nil pass0 (pa_cons (pv 0) (pa_cons (pv 1) pa_nil))))
   (pss_cons (ps_fld (pv 0) (pv 2) rfl)
   (pss_cons (ps_fld (pv 0) (pv 3) rfl)
   (pss_one (ps_fld (pv 0) (pv 4) rfl))))), ?_⟩
  obtain ⟨x0, x1, x2, x3, rfl⟩ : ∃ x0 x1 x2 x3, xs = [x0, x1, x2, x3] := by
    match xs, hl with
    | [x0, x1, x2, x3], _ => exact ⟨x0, x1, x2, x3, rfl⟩
  refine ⟨rfl, _, rfl, _, rfl, p, A.Call, dx, x0, rfl, hp, T.cl_Call, T.n_Call_number, ?_⟩
  refine ⟨_, rfl, _, rfl, p, A.Call, dx, _, rfl, upd_same, T.cl_Call, T.n_Call_box, (by show 1 < 1000; decide), ?_⟩
  refine ⟨_, rfl, _, rfl, p, A.Call, dx, _, rfl, upd_same, T.cl_Call, T.n_Call_fun, (by show 2 < 1000; decide), ?_⟩
  refine ⟨_, rfl, _, rfl, p, A.Call, dx, _, rfl, upd_same, T.cl_Call, T.n_Call_given, (by show 3 < 1000; decide), ?_⟩
  rw [upd_upd, upd_upd, upd_upd]
  exact q

theorem ok_Give_init (T : Txt K mg A) : FnOk P w K mg base CX0 3 A.Give_init A.Give_init_d ["self", "number", "expr"] (spRI A.Give ["number", "expr"]) := by
  have G_Row_init := ok_Row_init (P := P) (w := w) (base := base) T
  refine T.F_Give_init.ok sc_Give_init (fun vs H Q E h => ?_) (fun cdv A0 outer s H vs Q E hr h => ?_)
  · obtain ⟨p, dx, xs, rfl, hl, hp, q⟩ := h
    exact congrArg (· + 1) hl
  obtain ⟨p, dx, xs, rfl, hl, hp, q⟩ := h
  refine ⟨_, (pss_cons (ps_expr (pe_cfn (pe_glob (v := .ref A.Row) (by rfl) T.m_Row rfl) T.cf_Row_init G_Row_init (hr.mono (by decide)) T.b_Row_init .nil pass0 (pa_cons (pv 0) (pa_cons (pv 1) pa_nil))))
   (pss_one (ps_fld (pv 0) (pv 2) rfl))), ?_⟩
  obtain ⟨x0, x1, rfl⟩ : ∃ x0 x1, xs = [x0, x1] := by
    match xs, hl with
    | [x0, x1], _ => exact ⟨x0, x1, rfl⟩
  refine ⟨rfl, _, rfl, _, rfl, p, A.Give, dx, x0, rfl, hp, T.cl_Give, T.n_Give_number, ?_⟩
  refine ⟨_, rfl, _, rfl, p, A.Give, dx, _, rfl, upd_same, T.cl_Give, T.n_Give_expr, (by show 1 < 1000; decide), ?_⟩
  rw [upd_upd]
  exact q

end
end K12
namespace K12
open PySem L2 TL
section
variable {P : Program} {w : World} {K : PySem.W.Frag} {mg : Str → Option Value} {base : Heap} {A : Ads}
theorem ok_check_names (T : Txt K mg A) : FnOk P w K mg base (L2.CX P w) 2 A.check_names A.check_names_d ["words", "many"] (spNames K A.NoProgram) := by
  have G_is_name := ok_is_name (P := P) (w := w) (base := base) T
  refine T.F_check_names.okX sc_check_names (fun vs H Q E h => ?_) (fun cdv A0 outer s H vs Q E hr h => ?_)
  · obtain ⟨l, ws, k, rfl, hS, hsm, q1, q2⟩ := h
    rfl
  obtain ⟨l, ws, k, rfl, hS, hsm, q1, q2⟩ := h
  refine ⟨_, (pss_one (ps_if (PW.pt (pw_or (pt_cmpR op_ne (pe_callB call_lenK (by rfl) T.z_len (by decide +kernel) (pa_cons (pv 0) pa_nil)) (pv 1) (nomark _)) (pw_or1 (pt_not (pt_val (pe_callB (cr_all rfl) (by rfl) T.z_all (by decide +kernel) (pa_cons (pe_lc (own := [("word", 2)]) (g := gName 2) (tt := tYes) rfl sc_check_names.nd (pi_list (pv 0)) (blkOk_by (own := [("word", 2)]) (N := N_check_names) (sc := defScope s_check_names) (by decide +kernel)) (fun _ _ _ _ _ => pg_name (i := 2) sc_check_names.nd rfl (Or.inl rfl)) (fun _ _ _ _ _ => pts_nil) (fun _ _ _ _ _ => (pe_call G_is_name (hr.mono (by decide)) rfl T.m_is_name T.F_is_name.kp T.b_is_name .nil pass0 (pa_cons (pv 2) pa_nil)))) pa_nil)))))))
    (pss_one (ps_raise rfl (takes_of rfl rfl rfl rfl) (pmk_own PySem.F.excBase_ValueError T.x_NoProgram T.m_NoProgram T.kk_NoProgram (raises_own T.bb_NoProgram T.tt_NoProgram) (by exact rfl))))
    pss_nil)), ?_⟩
  refine ⟨_, rfl, l, _, rfl, .inl hS, _, rfl, rfl, _, rfl, iteN2 (fun c1 => ?_) (fun c1 => ?_)⟩
  · refine q2 ?_ H (Same.refl H)
    unfold namesOk
    rw [decide_eq_false (fun e => c1 (by rw [List.length_map, e])), Bool.false_and]
  · have hk : ws.length = k := by
      have := V.int.inj c1
      rw [List.length_map] at this
      omega
    refine ⟨_, rfl, l, rfl, ⟨_, hS⟩, fun D hD => lc_mapA ws V.str (fun w => V.bl (isNameW w)) (Str.ofString "") walk_list hD (by have := hsm.1; omega) (by show 2 < 3; decide) (fun H' s' => s'.seq hS) ?_ ?_⟩
    · intro s hs H' Z s' z
      exact ⟨_, rfl, s, rfl, hsm.2 s hs, z⟩
    · intro H' s' hD'
      refine ⟨D, ws.map isNameW, rfl, SqL.of (by rw [hD', List.map_map]; rfl), _, rfl, ?_⟩
      have e : (ws.map isNameW).all id = ws.all isNameW := by rw [List.all_map]; rfl
      rw [e]
      cases ha : ws.all isNameW with
      | true => exact iteF (q1 (by unfold namesOk; rw [ha, decide_eq_true hk]; rfl) H' s')
      | false => exact iteT (q2 (by unfold namesOk; rw [ha, Bool.and_false]) H' s')

end
end K12
namespace K12
open PySem L2 TL
section
variable {P : Program} {w : World} {K : PySem.W.Frag} {mg : Str → Option Value} {base : Heap} {A : Ads}
theorem ok_only (T : Txt K mg A) : FnOk P w K mg base (L2.CX P w) 1 A.only A.only_d ["found"] (spOnly A.NoProgram) := by
  refine T.F_only.okX sc_only (fun vs H Q E h => ?_) (fun cdv A0 outer s H vs Q E hr h => ?_)
  · obtain ⟨l, os, rfl, hl, q1, q2⟩ := h
    rfl
  obtain ⟨l, os, rfl, hl, q1, q2⟩ := h
  refine ⟨_, (pss_cons (ps_if (pt_cmpR op_ne (pe_callB call_lenK (by rfl) T.z_len (by decide +kernel) (pa_cons (pv 0) pa_nil)) pe_int (nomark _))
    (pss_one (ps_raise rfl (takes_of rfl rfl rfl rfl) (pmk_own PySem.F.excBase_ValueError T.x_NoProgram T.m_NoProgram T.kk_NoProgram (raises_own T.bb_NoProgram T.tt_NoProgram) (by exact rfl))))
    pss_nil)
   (pss_one (ps_ret (pe_ix ix_list (pv 0) pe_int (fun _ _ => rfl))))), ?_⟩
  refine ⟨_, rfl, l, _, rfl, .inl (SqL.of hl), rfl, _, rfl, iteN2 (fun c1 => ?_) (fun c1 => ?_)⟩
  · exact q2 fun e => c1 (by rw [e]; rfl)
  · have c1 := V.int.inj c1
    obtain ⟨v, rfl⟩ : ∃ v, os = [v] := by
      match os, c1 with
      | [v], _ => exact ⟨v, rfl⟩
      | [], h => exact absurd h (by decide)
      | _ :: _ :: r, h => simp only [List.length_cons] at h; omega
    exact ⟨_, rfl, l, _, _, _, rfl, rfl, SqL.of hl, rfl, q1 v rfl⟩

end
end K12
namespace K12
open PySem L2 TL
section
variable {P : Program} {w : World} {K : PySem.W.Frag} {mg : Str → Option Value} {base : Heap} {A : Ads}
theorem ok_simple_row (T : Txt K mg A) : FnOk P w K mg base (L2.CX P w) 12 A.simple_row A.simple_row_d ["number", "words"] (spSimple K A.rc A.ec A.NoProgram) := by
  have G_check_names := ok_check_names (P := P) (w := w) (base := base) T
  have G_Set_init := ok_Set_init (P := P) (w := w) (base := base) T
  have G_only := ok_only (P := P) (w := w) (base := base) T
  have G_exprs_of := ok_exprs_of (P := P) (w := w) (base := base) T
  have G_Put_init := ok_Put_init (P := P) (w := w) (base := base) T
  have G_Ask_init := ok_Ask_init (P := P) (w := w) (base := base) T
  have G_Draw_init := ok_Draw_init (P := P) (w := w) (base := base) T
  have G_Tell_init := ok_Tell_init (P := P) (w := w) (base := base) T
  have G_Row_init := ok_Row_init (P := P) (w := w) (base := base) T
  refine T.F_simple_row.okX sc_simple_row (fun vs H Q E h => ?_) (fun cdv A0 outer s H vs Q E hr h => ?_)
  · obtain ⟨num, w, ws, rfl, hS, hne, hsm, hsc, q1, q2⟩ := h
    rfl
  obtain ⟨num, w, ws, rfl, hS, hne, hsm, hsc, q1, q2⟩ := h
  refine ⟨_, (pss_cons (ps_if (pt_cmpR op_eq (pe_ix ix_list (pv 1) pe_int (fun _ _ => rfl)) pe_str (nomark _))
    (pss_cons (ps_expr (pe_call G_check_names (hr.mono (by decide)) rfl T.m_check_names T.F_check_names.kp T.b_check_names .nil (passes_call (takes_of rfl rfl rfl rfl) (fun _ _ _ _ h => h)) (pa_cons (pe_slice sl_list (pv 1) (po_some pe_int) (po_some pe_int)) (pa_cons pe_int pa_nil))))
   (pss_one (ps_ret (pe_make T.k_Set G_Set_init (hr.mono (by decide)) rfl T.m_Set T.b_Set_init .nil pass0 (pa_cons (pv 0) (pa_cons (pe_ix ix_list (pv 1) pe_int (fun _ _ => rfl)) (pa_cons (pe_call G_only (hr.mono (by decide)) rfl T.m_only T.F_only.kp T.b_only .nil (passes_call (takes_of rfl rfl rfl rfl) (fun _ _ _ _ h => h)) (pa_cons (pe_call G_exprs_of (hr.mono (by decide)) rfl T.m_exprs_of T.F_exprs_of.kp T.b_exprs_of .nil (passes_call (takes_of rfl rfl rfl rfl) (fun _ _ _ _ h => h)) (pa_cons (pe_slice sl_list (pv 1) (po_some pe_int) po_none) pa_nil)) pa_nil)) pa_nil)))))))
    pss_nil)
   (pss_cons (ps_if (pt_cmpR op_eq (pe_ix ix_list (pv 1) pe_int (fun _ _ => rfl)) pe_str (nomark _))
    (pss_cons (ps_set (i := 2) sc_simple_row.nd rfl (Or.inl rfl) (pe_call G_exprs_of (hr.mono (by decide)) rfl T.m_exprs_of T.F_exprs_of.kp T.b_exprs_of .nil (passes_call (takes_of rfl rfl rfl rfl) (fun _ _ _ _ h => h)) (pa_cons (pe_slice sl_list (pv 1) (po_some pe_int) po_none) pa_nil)))
   (pss_cons (ps_if (pt_cmpR op_ne (pe_callB call_lenK (by rfl) T.z_len (by decide +kernel) (pa_cons (pv 2) pa_nil)) pe_int (nomark _))
    (pss_one (ps_raise rfl (takes_of rfl rfl rfl rfl) (pmk_own PySem.F.excBase_ValueError T.x_NoProgram T.m_NoProgram T.kk_NoProgram (raises_own T.bb_NoProgram T.tt_NoProgram) (by exact rfl))))
    pss_nil)
   (pss_one (ps_ret (pe_make T.k_Put G_Put_init (hr.mono (by decide)) rfl T.m_Put T.b_Put_init .nil pass0 (pa_cons (pv 0) (pa_cons (pe_ix ix_list (pv 2) pe_int (fun _ _ => rfl)) (pa_cons (pe_ix ix_list (pv 2) pe_int (fun _ _ => rfl)) pa_nil))))))))
    pss_nil)
   (pss_cons (ps_if (pt_cmpR op_eq (pe_ix ix_list (pv 1) pe_int (fun _ _ => rfl)) pe_str (nomark _))
    (pss_cons (ps_expr (pe_call G_check_names (hr.mono (by decide)) rfl T.m_check_names T.F_check_names.kp T.b_check_names .nil (passes_call (takes_of rfl rfl rfl rfl) (fun _ _ _ _ h => h)) (pa_cons (pe_slice sl_list (pv 1) (po_some pe_int) (po_some pe_int)) (pa_cons pe_int pa_nil))))
   (pss_one (ps_ret (pe_make T.k_Ask G_Ask_init (hr.mono (by decide)) rfl T.m_Ask T.b_Ask_init .nil pass0 (pa_cons (pv 0) (pa_cons (pe_ix ix_list (pv 1) pe_int (fun _ _ => rfl)) (pa_cons (pe_ix ix_list (pv 1) pe_int (fun _ _ => rfl)) (pa_cons (pe_call G_only (hr.mono (by decide)) rfl T.m_only T.F_only.kp T.b_only .nil (passes_call (takes_of rfl rfl rfl rfl) (fun _ _ _ _ h => h)) (pa_cons (pe_call G_exprs_of (hr.mono (by decide)) rfl T.m_exprs_of T.F_exprs_of.kp T.b_exprs_of .nil (passes_call (takes_of rfl rfl rfl rfl) (fun _ _ _ _ h => h)) (pa_cons (pe_slice sl_list (pv 1) (po_some pe_int) po_none) pa_nil)) pa_nil)) pa_nil))))))))
    pss_nil)
   (pss_cons (ps_if (pt_cmpR op_eq (pe_ix ix_list (pv 1) pe_int (fun _ _ => rfl)) pe_str (nomark _))
    (pss_cons (ps_expr (pe_call G_check_names (hr.mono (by decide)) rfl T.m_check_names T.F_check_names.kp T.b_check_names .nil (passes_call (takes_of rfl rfl rfl rfl) (fun _ _ _ _ h => h)) (pa_cons (pe_slice sl_list (pv 1) (po_some pe_int) po_none) (pa_cons pe_int pa_nil))))
   (pss_one (ps_ret (pe_make T.k_Draw G_Draw_init (hr.mono (by decide)) rfl T.m_Draw T.b_Draw_init .nil pass0 (pa_cons (pv 0) (pa_cons (pe_ix ix_list (pv 1) pe_int (fun _ _ => rfl)) (pa_cons (pe_ix ix_list (pv 1) pe_int (fun _ _ => rfl)) pa_nil)))))))
    pss_nil)
   (pss_cons (ps_if (pt_cmpR op_eq (pe_ix ix_list (pv 1) pe_int (fun _ _ => rfl)) pe_str (nomark _))
    (pss_one (ps_ret (pe_make T.k_Tell G_Tell_init (hr.mono (by decide)) rfl T.m_Tell T.b_Tell_init .nil pass0 (pa_cons (pv 0) (pa_cons (pe_call G_only (hr.mono (by decide)) rfl T.m_only T.F_only.kp T.b_only .nil (passes_call (takes_of rfl rfl rfl rfl) (fun _ _ _ _ h => h)) (pa_cons (pe_call G_exprs_of (hr.mono (by decide)) rfl T.m_exprs_of T.F_exprs_of.kp T.b_exprs_of .nil (passes_call (takes_of rfl rfl rfl rfl) (fun _ _ _ _ h => h)) (pa_cons (pe_slice sl_list (pv 1) (po_some pe_int) po_none) pa_nil)) pa_nil)) pa_nil)))))
    pss_nil)
   (pss_cons (ps_if (pt_cmpR (op_neD hr.units) (pv 1) (pe_lst (pa_cons pe_str pa_nil)) (nomark _))
    (pss_one (ps_raise rfl (takes_of rfl rfl rfl rfl) (pmk_own PySem.F.excBase_ValueError T.x_NoProgram T.m_NoProgram T.kk_NoProgram (raises_own T.bb_NoProgram T.tt_NoProgram) (by exact rfl))))
    pss_nil)
   (pss_one (ps_ret (pe_make T.k_Skip G_Row_init (hr.mono (by decide)) rfl T.m_Skip T.b_Row_init .nil pass0 (pa_cons (pv 0) pa_nil)))))))))), ?_⟩
  unfold simpleF at q1 q2

  refine ⟨_, rfl, w, _, _, _, rfl, rfl, hS, at_hd hne, rfl, _, rfl, iteD2 (fun c1 => ?_) (fun c1 => ?_)⟩
  · rw [if_pos (V.str.inj c1)] at q1 q2
    refine ⟨_, rfl, 1, rfl, 2, rfl, w, _, rfl, hS, fun l1 hl1 => ?_⟩
    rw [show ((1 : Int) = ((1 : Nat) : Int)) from rfl, show ((2 : Int) = ((2 : Nat) : Int)) from rfl, cut_mid]
    have s1 := same_new (o := .lst (((ws.drop 1).take (2 - 1)).map V.str)) hl1
    refine ⟨l1, (ws.drop 1).take 1, 1, rfl, SqL.of upd_same, (hsm.drop 1).take 1, fun ok H1 s2 => ?_, fun no H1 s2 => ?_⟩
    rotate_left
    · exact q2 (if_neg (by rw [no]; decide)) H1 (s1.trans s2)
    rw [if_pos ok] at q1 q2
    have hl2 : 1 < ws.length := by have := (names_len ok).1; rw [List.length_take, List.length_drop] at this; omega
    have s12 := s1.trans s2
    refine ⟨_, rfl, _, rfl, w, _, _, _, rfl, rfl, s12.seq hS, at_wd (i := 1) hl2, ?_⟩
    refine ⟨_, rfl, 2, rfl, w, _, rfl, s12.seq hS, fun l2 hl2 => ?_⟩
    rw [show ((2 : Int) = ((2 : Nat) : Int)) from rfl, cut_drop]
    have s3 := same_new (o := .lst ((ws.drop 2).map V.str)) hl2
    refine ⟨l2, ws.drop 2, rfl, SqL.of upd_same, (hsm.drop 2).1, (hsm.drop 2).2, fun es pe l3 H2 os s4 hn4 h4 ha => ?_, fun pe H2 s4 => ?_⟩
    · have s14 := s12.trans (s3.trans s4)
      have pe' : exL (ws.drop 2) = some es := pe
      rw [pe'] at q1 q2
      refine ⟨l3, os, rfl, h4, fun v hv => ?_, fun hn => ?_⟩
      · obtain ⟨e, rfl, ho⟩ := (allE_one ha).1 v hv
        refine fun x dx hx hdx _ => mk_row (xs := [_, _, _]) hx hdx rfl fun H3 s5 g5 => ?_
        exact q1 _ _ H3 rfl (s14.trans s5) fun M => ⟨x, dx, v, rfl, g5, ho.same s5⟩
      · rw [(allE_one ha).2 hn] at q2
        exact q2 rfl H2 s14
    · have pe' : exL (ws.drop 2) = none := pe
      rw [pe'] at q2
      exact q2 rfl H2 (s12.trans (s3.trans s4))
  rw [if_neg (fun e => c1 (congrArg V.str e))] at q1 q2

  refine ⟨_, rfl, w, _, _, _, rfl, rfl, hS, at_hd hne, rfl, _, rfl, iteD2 (fun c2 => ?_) (fun c2 => ?_)⟩
  · rw [if_pos (V.str.inj c2)] at q1 q2
    refine ⟨_, rfl, 1, rfl, w, _, rfl, hS, fun l2 hl2 => ?_⟩
    rw [show ((1 : Int) = ((1 : Nat) : Int)) from rfl, cut_drop]
    have s3 := same_new (o := .lst ((ws.drop 1).map V.str)) hl2
    refine ⟨l2, ws.drop 1, rfl, SqL.of upd_same, (hsm.drop 1).1, (hsm.drop 1).2, fun es pe l3 H2 os s4 hn4 h4 ha => ?_, fun pe H2 s4 => ?_⟩
    rotate_left
    · have pe' : exL (ws.drop 1) = none := pe
      rw [pe'] at q2
      exact q2 rfl H2 (s3.trans s4)
    have s34 := s3.trans s4
    have pe' : exL (ws.drop 1) = some es := pe
    rw [pe'] at q1 q2
    refine ⟨_, rfl, l3, _, rfl, .inl (SqL.of h4), rfl, _, rfl, iteN2 (fun d1 => ?_) (fun d1 => ?_)⟩
    · refine q2 ?_ H2 s34
      have hl := ha.length
      match es, hl with
      | [], _ => rfl
      | [_], _ => rfl
      | [_, _], h => exact absurd (by rw [← h]; rfl) d1
      | _ :: _ :: _ :: _, _ => rfl
    · have d1 := V.int.inj d1
      obtain ⟨a, b, x1, x2, rfl, rfl, o1, o2⟩ : ∃ a b x1 x2, es = [a, b] ∧ os = [x1, x2] ∧ ObjE A.ec H2 a x1 ∧ ObjE A.ec H2 b x2 := by
        cases ha with
        | nil => exact absurd d1 (by decide)
        | cons a1 r1 =>
          cases r1 with
          | nil => exact absurd d1 (by show ¬ (((1 : Nat) : Int) = 2); decide)
          | cons a2 r2 =>
            cases r2 with
            | nil => exact ⟨_, _, _, _, rfl, rfl, a1, a2⟩
            | cons a3 r3 => simp only [List.length_cons] at d1; omega
      refine ⟨_, rfl, _, rfl, l3, _, _, _, rfl, rfl, SqL.of h4, rfl, _, rfl, l3, _, _, _, rfl, rfl, SqL.of h4, rfl, fun x dx hx hdx _ => mk_row (xs := [_, _, _]) hx hdx rfl fun H3 s5 g5 => ?_⟩
      exact q1 _ _ H3 rfl (s34.trans s5) fun M => ⟨x, dx, x1, x2, rfl, g5, o1.same s5, o2.same s5⟩
  rw [if_neg (fun e => c2 (congrArg V.str e))] at q1 q2

  refine ⟨_, rfl, w, _, _, _, rfl, rfl, hS, at_hd hne, rfl, _, rfl, iteD2 (fun c3 => ?_) (fun c3 => ?_)⟩
  · rw [if_pos (V.str.inj c3)] at q1 q2
    refine ⟨_, rfl, 1, rfl, 3, rfl, w, _, rfl, hS, fun l1 hl1 => ?_⟩
    rw [show ((1 : Int) = ((1 : Nat) : Int)) from rfl, show ((3 : Int) = ((3 : Nat) : Int)) from rfl, cut_mid]
    have s1 := same_new (o := .lst (((ws.drop 1).take (3 - 1)).map V.str)) hl1
    refine ⟨l1, (ws.drop 1).take 2, 2, rfl, SqL.of upd_same, (hsm.drop 1).take 2, fun ok H1 s2 => ?_, fun no H1 s2 => ?_⟩
    rotate_left
    · exact q2 (if_neg (by rw [no]; decide)) H1 (s1.trans s2)
    rw [if_pos ok] at q1 q2
    have hl2 : 2 < ws.length := by have := (names_len ok).1; rw [List.length_take, List.length_drop] at this; omega
    have s12 := s1.trans s2
    refine ⟨_, rfl, _, rfl, w, _, _, _, rfl, rfl, s12.seq hS, at_wd (i := 1) (by omega), ?_⟩
    refine ⟨_, rfl, w, _, _, _, rfl, rfl, s12.seq hS, at_wd (i := 2) hl2, ?_⟩
    refine ⟨_, rfl, 3, rfl, w, _, rfl, s12.seq hS, fun l2 hl2 => ?_⟩
    rw [show ((3 : Int) = ((3 : Nat) : Int)) from rfl, cut_drop]
    have s3 := same_new (o := .lst ((ws.drop 3).map V.str)) hl2
    refine ⟨l2, ws.drop 3, rfl, SqL.of upd_same, (hsm.drop 3).1, (hsm.drop 3).2, fun es pe l3 H2 os s4 hn4 h4 ha => ?_, fun pe H2 s4 => ?_⟩
    · have s14 := s12.trans (s3.trans s4)
      have pe' : exL (ws.drop 3) = some es := pe
      rw [pe'] at q1 q2
      refine ⟨l3, os, rfl, h4, fun v hv => ?_, fun hn => ?_⟩
      · obtain ⟨e, rfl, ho⟩ := (allE_one ha).1 v hv
        refine fun x dx hx hdx _ => mk_row (xs := [_, _, _, _]) hx hdx rfl fun H3 s5 g5 => ?_
        exact q1 _ _ H3 rfl (s14.trans s5) fun M => ⟨x, dx, v, rfl, g5, ho.same s5⟩
      · rw [(allE_one ha).2 hn] at q2
        exact q2 rfl H2 s14
    · have pe' : exL (ws.drop 3) = none := pe
      rw [pe'] at q2
      exact q2 rfl H2 (s12.trans (s3.trans s4))
  rw [if_neg (fun e => c3 (congrArg V.str e))] at q1 q2

  refine ⟨_, rfl, w, _, _, _, rfl, rfl, hS, at_hd hne, rfl, _, rfl, iteD2 (fun c4 => ?_) (fun c4 => ?_)⟩
  · rw [if_pos (V.str.inj c4)] at q1 q2
    refine ⟨_, rfl, 1, rfl, w, _, rfl, hS, fun l1 hl1 => ?_⟩
    rw [show ((1 : Int) = ((1 : Nat) : Int)) from rfl, cut_drop]
    have s1 := same_new (o := .lst ((ws.drop 1).map V.str)) hl1
    refine ⟨l1, ws.drop 1, 2, rfl, SqL.of upd_same, hsm.drop 1, fun ok H1 s2 => ?_, fun no H1 s2 => ?_⟩
    rotate_left
    · exact q2 (if_neg (by rw [no]; decide)) H1 (s1.trans s2)
    rw [if_pos ok] at q1 q2
    have hl2 : 2 < ws.length := by have := (names_len ok).1; rw [List.length_drop] at this; omega
    have s12 := s1.trans s2
    refine ⟨_, rfl, _, rfl, w, _, _, _, rfl, rfl, s12.seq hS, at_wd (i := 1) (by omega), ?_⟩
    refine ⟨_, rfl, w, _, _, _, rfl, rfl, s12.seq hS, at_wd (i := 2) hl2, fun x dx hx hdx _ => mk_row (xs := [_, _, _]) hx hdx rfl fun H3 s5 g5 => ?_⟩
    exact q1 _ _ H3 rfl (s12.trans s5) fun M => ⟨x, dx, rfl, g5⟩
  rw [if_neg (fun e => c4 (congrArg V.str e))] at q1 q2

  refine ⟨_, rfl, w, _, _, _, rfl, rfl, hS, at_hd hne, rfl, _, rfl, iteD2 (fun c5 => ?_) (fun c5 => ?_)⟩
  · rw [if_pos (V.str.inj c5)] at q1 q2
    refine ⟨_, rfl, _, rfl, 1, rfl, w, _, rfl, hS, fun l2 hl2 => ?_⟩
    rw [show ((1 : Int) = ((1 : Nat) : Int)) from rfl, cut_drop]
    have s3 := same_new (o := .lst ((ws.drop 1).map V.str)) hl2
    refine ⟨l2, ws.drop 1, rfl, SqL.of upd_same, (hsm.drop 1).1, (hsm.drop 1).2, fun es pe l3 H2 os s4 hn4 h4 ha => ?_, fun pe H2 s4 => ?_⟩
    · have s14 := s3.trans s4
      have pe' : exL (ws.drop 1) = some es := pe
      rw [pe'] at q1 q2
      refine ⟨l3, os, rfl, h4, fun v hv => ?_, fun hn => ?_⟩
      · obtain ⟨e, rfl, ho⟩ := (allE_one ha).1 v hv
        refine fun x dx hx hdx _ => mk_row (xs := [_, _]) hx hdx rfl fun H3 s5 g5 => ?_
        exact q1 _ _ H3 rfl (s14.trans s5) fun M => ⟨x, dx, v, rfl, g5, ho.same s5⟩
      · rw [(allE_one ha).2 hn] at q2
        exact q2 rfl H2 s14
    · have pe' : exL (ws.drop 1) = none := pe
      rw [pe'] at q2
      exact q2 rfl H2 (s3.trans s4)
  rw [if_neg (fun e => c5 (congrArg V.str e))] at q1 q2

  refine ⟨_, rfl, by show 1 ≤ sizeLine; decide, fun l1 hl1 => ?_⟩
  have s1 := same_new (o := .lst [V.str "skip"]) hl1
  refine ⟨strsD ws, strsD [Str.ofString "skip"], .lst (s1.seq hS) (dp_strs ws), .lst (SqL.of upd_same) (dp_strs [Str.ofString "skip"]), strs_shaped hsc, strs_shaped (by unfold Codes; decide +kernel), _, rfl, ?_⟩
  rw [strs_eqv]
  refine iteN2 (fun c6 => ?_) (fun c6 => ?_)
  · exact q2 (if_neg c6) _ s1
  · rw [if_pos c6] at q1
    refine ⟨_, rfl, fun x dx hx hdx _ => ?_⟩
    refine ⟨x, A.Skip, dx, _, rfl, upd_same, T.cl_Skip, T.n_Skip_number, rfl, ?_⟩
    have s2 := made_same (o := .own x) (o1 := .ins A.Skip dx []) (o2 := .ins A.Skip dx [("number", .int (num : Int))]) hx hdx
    exact q1 _ _ _ rfl (s1.trans s2) fun M => ⟨x, dx, rfl, upd_same⟩

end
end K12
namespace K12
open PySem L2 TL
section
variable {P : Program} {w : World} {K : PySem.W.Frag} {mg : Str → Option Value} {base : Heap} {A : Ads}
theorem ok_Reader_head (T : Txt K mg A) : FnOk P w K mg base CX0 1 A.Reader_head A.Reader_head_d ["self"] (spHead K A.rc A.ec A.Reader) := by
  refine T.F_Reader_head.ok sc_Reader_head (fun vs H Q E h => ?_) (fun cdv A0 outer s H vs Q E hr h => ?_)
  · obtain ⟨X, st, rfl, hR, q⟩ := h
    rfl
  obtain ⟨X, st, rfl, hR, q⟩ := h
  refine ⟨_, (pss_cons (ps_if (pt_cmpR op_eq (pe_fld (pv 0) rfl) (pe_callB call_lenK (by rfl) T.z_len (by decide +kernel) (pa_cons (pe_fld (pv 0) rfl) pa_nil)) (nomark _))
    (pss_one (ps_ret pe_non))
    pss_nil)
   (pss_one (ps_ret (pe_ix ix_list (pe_split (pe_ix ix_list (pe_fld (pv 0) rfl) (pe_fld (pv 0) rfl) (fun _ _ => rfl)) pe_str) pe_int (fun _ _ => rfl))))), ?_⟩
  obtain ⟨dx, h1⟩ := hR.obj
  refine ⟨_, rfl, X.p, A.Reader, dx, _, _, rfl, h1, T.cl_Reader, T.n_Reader_at, rfl, _, rfl, X.p, A.Reader, dx, _, _, rfl, h1, T.cl_Reader, T.n_Reader_texts, rfl, X.a, _, rfl, .inl (SqL.of hR.txts), rfl, _, rfl, iteD2 (fun c1 => ?_) (fun c1 => ?_)⟩
  · have e : headV X.ts st.at_ = .non := by
      have c1 := V.int.inj c1
      rw [List.length_map] at c1
      unfold headV headAt
      rw [if_neg (by omega)]
    rw [e] at q
    exact q H (Same.refl H)
  · have hlt : st.at_ < X.ts.length := by
      have := hR.at_
      have c2 : ¬ ((st.at_ : Nat) : Int) = ((X.ts.length : Nat) : Int) := fun e => c1 (by rw [List.length_map, e])
      omega
    have e : headV X.ts st.at_ = .str (hd0 (wordsAt X.ts st.at_)) := by
      unfold headV headAt
      rw [if_pos hlt]
    rw [e] at q
    have hok := wordsAt_ok hR.sm.2 st.at_
    refine ⟨_, rfl, X.p, A.Reader, dx, _, _, rfl, h1, T.cl_Reader, T.n_Reader_texts, rfl, _, rfl, X.p, A.Reader, dx, _, _, rfl, h1, T.cl_Reader, T.n_Reader_at, rfl, X.a, _, _, _, rfl, rfl, (SqL.of hR.txts), at_wd hlt, ⟨_, rfl⟩, _, _, rfl, rfl, (by decide +kernel), ?_, fun l hl => ?_⟩
    · have : (wd X.ts st.at_).length ≤ 99999 := by
        unfold wd
        rw [List.getD_eq_getElem?_getD, List.getElem?_eq_getElem hlt]
        exact hR.sm.2 _ (List.getElem_mem hlt)
      exact sizeL2 (by omega)
    · refine ⟨l, (wordsAt X.ts st.at_).map V.str, _, _, rfl, rfl, SqL.of upd_same, at_hd hok.2, ?_⟩
      exact q _ (same_new hl)

end
end K12
namespace K12
open PySem L2 TL
section
variable {P : Program} {w : World} {K : PySem.W.Frag} {mg : Str → Option Value} {base : Heap} {A : Ads}
theorem ok_Reader_init (T : Txt K mg A) : FnOk P w K mg base CX0 1 A.Reader_init A.Reader_init_d ["self", "texts"] (spRdInit K A.rc A.ec A.Reader) := by
  refine T.F_Reader_init.ok sc_Reader_init (fun vs H Q E h => ?_) (fun cdv A0 outer s H vs Q E hr h => ?_)
  · obtain ⟨p, dx, a, ts, rfl, hp, hS, hl, ht, hcod, q⟩ := h
    rfl
  obtain ⟨p, dx, a, ts, rfl, hp, hS, hl, ht, hcod, q⟩ := h
  refine ⟨_, (pss_cons (ps_fld (pv 0) (pv 1) rfl)
   (pss_cons (ps_fld (pv 0) pe_int rfl)
   (pss_cons (ps_fld (pv 0) pe_dnewK rfl)
   (pss_one (ps_fld (pv 0) (pe_lst pa_nil) rfl))))), ?_⟩
  refine ⟨_, rfl, _, rfl, p, A.Reader, dx, [], rfl, hp, T.cl_Reader, T.n_Reader_texts, (by show 0 < 1000; decide), ?_⟩
  refine ⟨_, rfl, p, A.Reader, dx, _, rfl, upd_same, T.cl_Reader, T.n_Reader_at, (by show 1 < 1000; decide), ?_⟩
  rw [upd_upd]
  have f1 : KeepL [p] H (upd H p (.ins A.Reader dx [("texts", .ref a), ("at", .int 0)])) := fun z o n h => by rw [upd_ne (fun e => n (by rw [e]; exact List.mem_singleton.mpr rfl))]; exact h
  have g1 := upd_same (H := H) (a := p) (o := .ins A.Reader dx [("texts", .ref a), ("at", .int 0)])
  show ∀ d, _ → _
  intro d hd
  have ndp : d ≠ p := fun e => by rw [e, upd_same] at hd; cases hd
  have hd0 : H d = none := by rw [upd_ne ndp] at hd; exact hd
  have s2 := same_new (o := .dK []) hd
  refine ⟨_, rfl, p, A.Reader, dx, _, rfl, s2 _ _ g1, T.cl_Reader, T.n_Reader_by_number, (by show 2 < 1000; decide), ?_⟩
  refine ⟨by show 0 ≤ sizeLine; decide, fun cl hcl => ?_⟩
  have g2 : upd (upd (upd H p (.ins A.Reader dx [("texts", .ref a), ("at", .int 0)])) d (.dK [])) p (.ins A.Reader dx [("texts", .ref a), ("at", .int 0), ("by_number", .ref d)]) p = some (.ins A.Reader dx [("texts", .ref a), ("at", .int 0), ("by_number", .ref d)]) := upd_same
  have hd2 : upd (upd (upd H p (.ins A.Reader dx [("texts", .ref a), ("at", .int 0)])) d (.dK [])) p (.ins A.Reader dx [("texts", .ref a), ("at", .int 0), ("by_number", .ref d)]) d = some (.dK []) := by rw [upd_ne ndp]; exact upd_same
  have k2 : KeepL [p] H (upd (upd (upd H p (.ins A.Reader dx [("texts", .ref a), ("at", .int 0)])) d (.dK [])) p (.ins A.Reader dx [("texts", .ref a), ("at", .int 0), ("by_number", .ref d)])) := fun z o n h => by
    have nz : z ≠ p := fun e => n (by rw [e]; exact List.mem_singleton.mpr rfl)
    rw [upd_ne nz]
    exact s2 _ _ (f1 z o n h)
  have hcl0 : H cl = none := by
    cases e : H cl with
    | none => rfl
    | some o =>
      by_cases c : cl = p
      · have hcl' : upd (upd (upd H p (.ins A.Reader dx [("texts", .ref a), ("at", .int 0)])) d (.dK [])) p (.ins A.Reader dx [("texts", .ref a), ("at", .int 0), ("by_number", .ref d)]) cl = none := hcl
        rw [c, g2] at hcl'; cases hcl'
      · have hcl' : upd (upd (upd H p (.ins A.Reader dx [("texts", .ref a), ("at", .int 0)])) d (.dK [])) p (.ins A.Reader dx [("texts", .ref a), ("at", .int 0), ("by_number", .ref d)]) cl = none := hcl
        have := k2 cl o (fun h => c (List.mem_singleton.mp h)) e
        rw [hcl'] at this; cases this
  have ncp : cl ≠ p := fun e => by rw [e, hp] at hcl0; cases hcl0
  have ncd : cl ≠ d := fun e => by
    have hcl' : upd (upd (upd H p (.ins A.Reader dx [("texts", .ref a), ("at", .int 0)])) d (.dK [])) p (.ins A.Reader dx [("texts", .ref a), ("at", .int 0), ("by_number", .ref d)]) cl = none := hcl
    rw [e, hd2] at hcl'; cases hcl'
  have nac : a ≠ cl := fun e => by rw [e, hcl0] at hS; cases hS
  have nap : a ≠ p := ne_of hS hp (by intro z; cases z)
  refine ⟨_, rfl, p, A.Reader, dx, _, rfl, by rw [upd_ne (Ne.symm ncp)]; exact g2, T.cl_Reader, T.n_Reader_calls, (by show 3 < 1000; decide), ?_⟩
  have sc := same_new (o := .lst ([] : List V)) hcl
  refine q d cl _ hd0 hcl0 (fun z o n h => ?_) ⟨⟨dx, upd_same⟩, ⟨[], by rw [upd_ne ndp]; exact sc _ _ hd2, .nil⟩, ⟨[], by rw [upd_ne ncp]; exact upd_same, .nil⟩, (by rw [upd_ne nap]; exact sc _ _ (k2 _ _ (fun h => nap (List.mem_singleton.mp h)) hS)), nac, ⟨hl, ht⟩, hcod, Nat.zero_le _, (fun _ h => by cases h), Nat.zero_le _, Nat.zero_le _⟩
  rw [upd_ne (fun e => n (by rw [e]; exact List.mem_singleton.mpr rfl))]
  exact sc _ _ (k2 z o n h)

end
end K12
namespace K12
open PySem L2 TL
section
variable {P : Program} {w : World} {K : PySem.W.Frag} {mg : Str → Option Value} {base : Heap} {A : Ads}
theorem ok_Reader_pass_line (T : Txt K mg A) : FnOk P w K mg base (L2.CX P w) 1 A.Reader_pass_line A.Reader_pass_line_d ["self", "text"] (spPass K A.rc A.ec A.Reader A.NoProgram) := by
  refine T.F_Reader_pass_line.okX sc_Reader_pass_line (fun vs H Q E h => ?_) (fun cdv A0 outer s H vs Q E hr h => ?_)
  · obtain ⟨X, st, t, rfl, hR, q1, q2⟩ := h
    rfl
  obtain ⟨X, st, t, rfl, hR, q1, q2⟩ := h
  refine ⟨_, (pss_cons (ps_if (PW.pt (pw_or (pt_cmpR op_eq (pe_fld (pv 0) rfl) (pe_callB call_lenK (by rfl) T.z_len (by decide +kernel) (pa_cons (pe_fld (pv 0) rfl) pa_nil)) (nomark _)) (pw_or1 (pt_cmpR op_ne (pe_ix ix_list (pe_fld (pv 0) rfl) (pe_fld (pv 0) rfl) (fun _ _ => rfl)) (pv 1) (nomark _)))))
    (pss_one (ps_raise rfl (takes_of rfl rfl rfl rfl) (pmk_own PySem.F.excBase_ValueError T.x_NoProgram T.m_NoProgram T.kk_NoProgram (raises_own T.bb_NoProgram T.tt_NoProgram) (by exact rfl))))
    pss_nil)
   (pss_one (ps_fldaug (pv 0) pe_int in_add))), ?_⟩
  obtain ⟨dx, h1⟩ := hR.obj
  refine ⟨_, rfl, X.p, A.Reader, dx, _, _, rfl, h1, T.cl_Reader, T.n_Reader_at, rfl, _, rfl, X.p, A.Reader, dx, _, _, rfl, h1, T.cl_Reader, T.n_Reader_texts, rfl, X.a, _, rfl, .inl (SqL.of hR.txts), rfl, _, rfl, iteD2 (fun c1 => ?_) (fun c1 => ?_)⟩
  · have c1 := V.int.inj c1
    rw [List.length_map] at c1
    refine q2 ?_ H (mv_same (Same.refl H))
    unfold passF
    rw [if_neg (fun h => by have := h.1; omega)]
  · have hlt : st.at_ < X.ts.length := by
      have := hR.at_
      have c2 : ¬ ((st.at_ : Nat) : Int) = ((X.ts.length : Nat) : Int) := fun e => c1 (by rw [List.length_map, e])
      omega
    refine ⟨_, rfl, X.p, A.Reader, dx, _, _, rfl, h1, T.cl_Reader, T.n_Reader_texts, rfl, _, rfl, X.p, A.Reader, dx, _, _, rfl, h1, T.cl_Reader, T.n_Reader_at, rfl, X.a, _, _, _, rfl, rfl, (SqL.of hR.txts), at_wd hlt, _, rfl, rfl, _, rfl, iteN2 (fun c2 => ?_) (fun c2 => ?_)⟩
    · refine q2 ?_ H (mv_same (Same.refl H))
      unfold passF
      rw [if_neg (fun h => c2 (congrArg V.str h.2))]
    · have hp : passF X.ts t st = some { st with at_ := st.at_ + 1 } := by
        unfold passF
        rw [if_pos ⟨hlt, V.str.inj c2⟩]
      refine ⟨_, rfl, X.p, A.Reader, dx, _, _, rfl, h1, T.cl_Reader, T.n_Reader_at, rfl, _, _, rfl, rfl, dx, _, h1, (by show 4 < 1000; decide), ?_⟩
      have e1 : putF "at" (V.int ((st.at_ : Nat) + 1)) (rdF X st) = rdF X { st with at_ := st.at_ + 1 } := by
        show [_, (_, V.int (((st.at_ : Nat) : Int) + 1)), _, _] = [_, (_, V.int ((st.at_ + 1 : Nat) : Int)), _, _]
        rw [show ((st.at_ + 1 : Nat) : Int) = ((st.at_ : Nat) : Int) + 1 from by omega]
      have mv : Mv X H (upd H X.p (.ins A.Reader dx (rdF X { st with at_ := st.at_ + 1 }))) := fun z o n h => by rw [upd_ne (fun e => n (by rw [e]; exact List.mem_cons_self))]; exact h
      obtain ⟨kvs, k1, k2⟩ := hR.dict
      obtain ⟨os, k3, k4⟩ := hR.calls
      have ki := hR.keepI mv
      have e2 : putF "at" (V.int (((st.at_ : Nat) : Int) + 1)) (rdF X st) = rdF X { st with at_ := st.at_ + 1 } := e1
      show Q .non (upd H X.p (.ins A.Reader dx (putF "at" (V.int (((st.at_ : Nat) : Int) + 1)) (rdF X st))))
      rw [e2]
      refine q1 _ _ hp mv (hR.ats (notR_ec T) (notR_rc T) mv upd_same (by rw [upd_ne (ne_of k1 h1 (by intro z; cases z))]; exact k1) (k2.mono fun x kv h => ⟨h.1, h.2.keepI ki (notR_ec T) (notR_rc T)⟩) (by rw [upd_ne (ne_of k3 h1 (by intro z; cases z))]; exact k3) (k4.mono fun f v ⟨n, b, es, z1, z2⟩ => ⟨n, b, es, z1, z2.keepI ki (notR_ec T) (notR_rc T)⟩) (show st.at_ + 1 ≤ X.ts.length by omega) (show st.calls.length ≤ st.at_ + 1 by have := hR.cn; omega) (show st.num.length ≤ st.at_ + 1 by have := hR.nn; omega))

end
end K12
namespace K12
open PySem L2 TL
section
variable {P : Program} {w : World} {K : PySem.W.Frag} {mg : Str → Option Value} {base : Heap} {A : Ads}
theorem ok_Reader_call_row (T : Txt K mg A) : FnOk P w K mg base (L2.CX P w) 12 A.Reader_call_row A.Reader_call_row_d ["self", "number", "words"] (spCallRow K A.rc A.ec A.Reader A.NoProgram) := by
  have G_check_names := ok_check_names (P := P) (w := w) (base := base) T
  have G_Call_init := ok_Call_init (P := P) (w := w) (base := base) T
  have G_exprs_of := ok_exprs_of (P := P) (w := w) (base := base) T
  refine T.F_Reader_call_row.okX sc_Reader_call_row (fun vs H Q E h => ?_) (fun cdv A0 outer s H vs Q E hr h => ?_)
  · obtain ⟨X, st, num, w, ws, rfl, hR, hS, hwc, hne, hsm, hcn, q1, q2⟩ := h
    rfl
  obtain ⟨X, st, num, w, ws, rfl, hR, hS, hwc, hne, hsm, hcn, q1, q2⟩ := h
  refine ⟨_, (pss_cons (ps_expr (pe_call G_check_names (hr.mono (by decide)) rfl T.m_check_names T.F_check_names.kp T.b_check_names .nil (passes_call (takes_of rfl rfl rfl rfl) (fun _ _ _ _ h => h)) (pa_cons (pe_slice sl_list (pv 2) (po_some pe_int) (po_some pe_int)) (pa_cons pe_int pa_nil))))
   (pss_cons (ps_set (i := 3) sc_Reader_call_row.nd rfl (Or.inl rfl) (pe_make T.k_Call G_Call_init (hr.mono (by decide)) rfl T.m_Call T.b_Call_init .nil pass0 (pa_cons (pv 1) (pa_cons (pe_ix ix_list (pv 2) pe_int (fun _ _ => rfl)) (pa_cons (pe_ix ix_list (pv 2) pe_int (fun _ _ => rfl)) (pa_cons (pe_call G_exprs_of (hr.mono (by decide)) rfl T.m_exprs_of T.F_exprs_of.kp T.b_exprs_of .nil (passes_call (takes_of rfl rfl rfl rfl) (fun _ _ _ _ h => h)) (pa_cons (pe_slice sl_list (pv 2) (po_some pe_int) po_none) pa_nil)) pa_nil))))))
   (pss_cons (ps_expr (pe_bm PySem.F.plainAttrs_list PySem.F.slot_list_append PySem.F.type_list_append mt_append (pe_fld (pv 0) rfl) (pa_cons (pv 3) pa_nil)))
   (pss_one (ps_ret (pv 3)))))), ?_⟩
  unfold callF at q2
  refine ⟨_, rfl, 1, rfl, 3, rfl, w, _, rfl, hS, fun l1 hl1 => ?_⟩
  rw [show ((1 : Int) = ((1 : Nat) : Int)) from rfl, show ((3 : Int) = ((3 : Nat) : Int)) from rfl, cut_mid]
  have s1 := same_new (o := .lst (((ws.drop 1).take (3 - 1)).map V.str)) hl1
  refine ⟨l1, (ws.drop 1).take 2, 2, rfl, SqL.of upd_same, (hsm.drop 1).take 2, fun ok H1 s2 => ?_, fun no H1 s2 => ?_⟩
  rotate_left
  · exact q2 (if_neg (by rw [no]; decide)) H1 (mv_same (s1.trans s2))
  rw [if_pos ok] at q2
  have hl2 : 2 < ws.length := by have := (names_len ok).1; rw [List.length_take, List.length_drop] at this; omega
  have s12 := s1.trans s2
  refine ⟨_, rfl, _, rfl, w, _, _, _, rfl, rfl, s12.seq hS, at_wd (i := 1) (by omega), ?_⟩
  refine ⟨_, rfl, w, _, _, _, rfl, rfl, s12.seq hS, at_wd (i := 2) hl2, ?_⟩
  refine ⟨_, rfl, 3, rfl, w, _, rfl, s12.seq hS, fun l2 hl2 => ?_⟩
  rw [show ((3 : Int) = ((3 : Nat) : Int)) from rfl, cut_drop]
  have s3 := same_new (o := .lst ((ws.drop 3).map V.str)) hl2
  refine ⟨l2, ws.drop 3, rfl, SqL.of upd_same, (hsm.drop 3).1, (hsm.drop 3).2, fun es pe l3 H2 os s4 hn4 h4 ha => ?_, fun pe H2 s4 => ?_⟩
  rotate_left
  · have pe' : exL (ws.drop 3) = none := pe
    rw [pe'] at q2
    exact q2 rfl H2 (mv_same (s12.trans (s3.trans s4)))
  have s14 := s12.trans (s3.trans s4)
  have pe' : exL (ws.drop 3) = some es := pe
  refine fun x dx hx hdx _ => mk_row (xs := [_, _, _, _]) hx hdx rfl fun H3 s5 g5 => ?_
  have s15 := s14.trans s5
  have hR3 := hR.same s15
  obtain ⟨dxr, k1⟩ := hR3.obj
  obtain ⟨kvs, k2, k3⟩ := hR3.dict
  obtain ⟨os2, k4, k5⟩ := hR3.calls
  have hol := k5.length
  have ncl : l3 ≠ X.cl := fun e => by
    obtain ⟨os3, z1, _⟩ := (hR.same (s12.trans s3)).calls
    rw [← e, hn4] at z1; cases z1
  have nav : l3 ∉ X.av := fun e => by
    obtain ⟨_, _, xs3, z1⟩ := (hR.same (s12.trans s3)).lists l3 e
    rw [hn4] at z1; cases z1
  refine ⟨_, rfl, X.p, A.Reader, dxr, _, _, rfl, k1, T.cl_Reader, T.n_Reader_calls, rfl, .inl ⟨rfl, _, SqL.of k4⟩, _, rfl, X.cl, _, _, rfl, rfl, k4, Nat.lt_of_lt_of_le (show os2.length < 16777216 by have := hR.sm.1; have := hR.at_; omega) (by decide), ?_⟩
  have mv : Mv X H (upd H3 X.cl (.lst (os2 ++ [.ref x]))) := fun z o n h => by
    rw [upd_ne (fun e => n (by rw [e]; simp))]
    exact s15 _ _ h
  have mv3 : Mv X H3 (upd H3 X.cl (.lst (os2 ++ [.ref x]))) := fun z o n h => by
    rw [upd_ne (fun e => n (by rw [e]; simp))]
    exact h
  have ki := hR3.keepI mv3
  have row : RowO A.rc A.ec X.N H3 (num : Int) (.call (wd ws 1) (wd ws 2) es) (.ref x) := ⟨x, dx, l3, os, rfl, g5, ⟨ncl, nav⟩, s5 _ _ h4, allE_same s5 ha⟩
  have row2 := row.keepI ki (notR_ec T) (notR_rc T)
  have e1 : callF ws = some (wd ws 1, wd ws 2, es) := by
    unfold callF
    rw [if_pos ok, pe']; rfl
  refine ⟨_, rfl, q1 _ _ _ _ _ e1 mv (hR.ats (notR_ec T) (notR_rc T) mv (st' := ⟨st.at_, st.num, st.calls ++ [(wd ws 2, es.length)]⟩) (by rw [upd_ne (ne_of k1 k4 (by intro z; cases z))]; exact k1) (by rw [upd_ne (ne_of k2 k4 (by intro z; cases z))]; exact k2) (k3.mono fun x kv h => ⟨h.1, h.2.keepI ki (notR_ec T) (notR_rc T)⟩) upd_same ((k5.mono fun f v ⟨n, b, es, z1, z2⟩ => ⟨n, b, es, z1, z2.keepI ki (notR_ec T) (notR_rc T)⟩).snoc ⟨_, _, es, rfl, row2⟩) hR.at_ (by rw [List.length_append, List.length_singleton]; exact hcn) hR.nn) row2⟩

end
end K12
namespace K12
open PySem L2 TL
section
variable {P : Program} {w : World} {K : PySem.W.Frag} {mg : Str → Option Value} {base : Heap} {A : Ads}
theorem ok_Reader_row_with_rows (T : Txt K mg A) {m : Nat} (G_Reader_block : FnOk P w K mg base (L2.CX P w) (3 * m + 12) A.Reader_block A.Reader_block_d ["self", "within"] (spBlk K A.rc A.ec A.Reader A.NoProgram m)) : FnOk P w K mg base (L2.CX P w) (3 * m + 13) A.Reader_row_with_rows A.Reader_row_with_rows_d ["self", "number", "words", "within"] (spRows K A.rc A.ec A.Reader A.NoProgram m) := by
  have G_only := ok_only (P := P) (w := w) (base := base) T
  have G_exprs_of := ok_exprs_of (P := P) (w := w) (base := base) T
  have G_Reader_pass_line := ok_Reader_pass_line (P := P) (w := w) (base := base) T
  have G_Loop_init := ok_Loop_init (P := P) (w := w) (base := base) T
  have G_Choice_init := ok_Choice_init (P := P) (w := w) (base := base) T
  refine T.F_Reader_row_with_rows.okX sc_Reader_row_with_rows (fun vs H Q E h => ?_) (fun cdv A0 outer s H vs Q E hr h => ?_)
  · obtain ⟨X, st, num, w, ws, rfl, hR, hS, hwc, hne, hsm, q1, q2⟩ := h
    rfl
  obtain ⟨X, st, num, w, ws, rfl, hR, hS, hwc, hne, hsm, q1, q2⟩ := h
  refine ⟨_, (pss_cons (ps_if (pt_cmpR op_gt (pv 3) (pe_glob (v := .int 5) (by rfl) T.c_MOST_WITHIN.choose_spec ⟨_, rfl⟩) (nomark _))
    (pss_one (ps_raise rfl (takes_of rfl rfl rfl rfl) (pmk_own PySem.F.excBase_ValueError T.x_NoProgram T.m_NoProgram T.kk_NoProgram (raises_own T.bb_NoProgram T.tt_NoProgram) (by exact rfl))))
    pss_nil)
   (pss_cons (ps_set (i := 4) sc_Reader_row_with_rows.nd rfl (Or.inl rfl) (pe_call G_only (hr.mono (by omega)) rfl T.m_only T.F_only.kp T.b_only .nil (passes_call (takes_of rfl rfl rfl rfl) (fun _ _ _ _ h => h)) (pa_cons (pe_call G_exprs_of (hr.mono (by omega)) rfl T.m_exprs_of T.F_exprs_of.kp T.b_exprs_of .nil (passes_call (takes_of rfl rfl rfl rfl) (fun _ _ _ _ h => h)) (pa_cons (pe_slice sl_list (pv 2) (po_some pe_int) po_none) pa_nil)) pa_nil)))
   (pss_cons (ps_set (i := 5) sc_Reader_row_with_rows.nd rfl (Or.inl rfl) (pe_meth (pv 0) T.cl_Reader T.me_Reader_block G_Reader_block (hr.mono (by omega)) T.b_Reader_block .nil (passes_call (takes_of rfl rfl rfl rfl) (fun _ _ _ _ h => h)) (pa_cons (pv 3) pa_nil)))
   (pss_cons (ps_if (pt_cmpR op_eq (pe_ix ix_list (pv 2) pe_int (fun _ _ => rfl)) pe_str (nomark _))
    (pss_cons (ps_expr (pe_meth (pv 0) T.cl_Reader T.me_Reader_pass_line G_Reader_pass_line (hr.mono (by omega)) T.b_Reader_pass_line .nil (passes_call (takes_of rfl rfl rfl rfl) (fun _ _ _ _ h => h)) (pa_cons pe_str pa_nil)))
   (pss_one (ps_ret (pe_make T.k_Loop G_Loop_init (hr.mono (by omega)) rfl T.m_Loop T.b_Loop_init .nil pass0 (pa_cons (pv 1) (pa_cons (pv 4) (pa_cons (pv 5) pa_nil)))))))
    pss_nil)
   (pss_cons (ps_expr (pe_meth (pv 0) T.cl_Reader T.me_Reader_pass_line G_Reader_pass_line (hr.mono (by omega)) T.b_Reader_pass_line .nil (passes_call (takes_of rfl rfl rfl rfl) (fun _ _ _ _ h => h)) (pa_cons pe_str pa_nil)))
   (pss_cons (ps_set (i := 6) sc_Reader_row_with_rows.nd rfl (Or.inl rfl) (pe_meth (pv 0) T.cl_Reader T.me_Reader_block G_Reader_block (hr.mono (by omega)) T.b_Reader_block .nil (passes_call (takes_of rfl rfl rfl rfl) (fun _ _ _ _ h => h)) (pa_cons (pv 3) pa_nil)))
   (pss_cons (ps_expr (pe_meth (pv 0) T.cl_Reader T.me_Reader_pass_line G_Reader_pass_line (hr.mono (by omega)) T.b_Reader_pass_line .nil (passes_call (takes_of rfl rfl rfl rfl) (fun _ _ _ _ h => h)) (pa_cons pe_str pa_nil)))
   (pss_one (ps_ret (pe_make T.k_Choice G_Choice_init (hr.mono (by omega)) rfl T.m_Choice T.b_Choice_init .nil pass0 (pa_cons (pv 1) (pa_cons (pv 4) (pa_cons (pv 5) (pa_cons (pv 6) pa_nil)))))))))))))), ?_⟩
  unfold rowsF at q1 q2
  refine ⟨_, rfl, _, _, rfl, rfl, _, rfl, iteD2 (fun c1 => ?_) (fun c1 => ?_)⟩
  · have hm0 : ¬ 0 < m := by omega
    refine q2 ?_ H (mv_same (Same.refl H))
    rw [decide_eq_false hm0]; rfl
  have hm0 : 0 < m := by omega
  rw [decide_eq_true hm0, if_pos rfl] at q2
  rw [decide_eq_true hm0] at q1
  simp only [if_true] at q1
  refine ⟨_, rfl, 1, rfl, w, _, rfl, hS, fun l2 hl2 => ?_⟩
  rw [show ((1 : Int) = ((1 : Nat) : Int)) from rfl, cut_drop]
  have s3 := same_new (o := .lst ((ws.drop 1).map V.str)) hl2
  refine ⟨l2, ws.drop 1, rfl, SqL.of upd_same, (hsm.drop 1).1, (hsm.drop 1).2, fun es pe l3 H2 os s4 hn4 h4 ha => ?_, fun pe H2 s4 => ?_⟩
  rotate_left
  · have pe' : exL (ws.drop 1) = none := pe
    rw [pe'] at q2
    exact q2 rfl H2 (mv_same (s3.trans s4))
  have s34 := s3.trans s4
  have pe' : exL (ws.drop 1) = some es := pe
  rw [pe'] at q1 q2
  refine ⟨l3, os, rfl, h4, fun v hv => ?_, fun hn => ?_⟩
  rotate_left
  · rw [(allE_one ha).2 hn] at q2
    exact q2 rfl H2 (mv_same s34)
  obtain ⟨e, rfl, ho⟩ := (allE_one ha).1 v hv
  simp only [only1] at q1 q2
  have hR2 := hR.same s34
  obtain ⟨dx2, o2⟩ := hR2.obj
  refine ⟨_, rfl, X.p, dx2, _, rfl, o2, rfl, _, rfl, X, st, rfl, hR2, hm0, fun st2 first H3 b1 mv1 hR3 => ?_, fun b1 H3 mv1 => ?_⟩
  rotate_left
  · rw [b1] at q2
    exact q2 rfl H3 ((mv_same s34).trans mv1)
  rw [b1] at q1 q2
  simp only at q1 q2
  have mv3 := (mv_same (X := X) s34).trans mv1
  have ho3 := ho.keepI (hR2.keepI mv1) (notR_ec T)
  have hS3 := hR.seq mv3 hwc hS
  refine ⟨_, rfl, w, _, _, _, rfl, rfl, hS3, at_hd hne, rfl, _, rfl, iteD2 (fun c2 => ?_) (fun c2 => ?_)⟩
  · rw [if_pos (V.str.inj c2)] at q2
    simp only [if_pos (V.str.inj c2)] at q1
    obtain ⟨dx3, o3⟩ := hR3.obj
    refine ⟨_, rfl, X.p, dx3, _, rfl, o3, rfl, X, st2, _, rfl, hR3, fun st3 H4 p1 mv4 hR4 => ?_, fun p1 H4 mv4 => ?_⟩
    rotate_left
    · rw [p1] at q2
      exact q2 rfl H4 (mv3.trans mv4)
    rw [p1] at q1
    have ho4 := ho3.keepI (hR3.keepI mv4) (notR_ec T)
    refine ⟨_, rfl, _, rfl, _, rfl, fun x dx hx hdx _ => mk_row (xs := [_, _, _]) hx hdx rfl fun H5 s5 g5 => ?_⟩
    exact q1 _ _ _ H5 rfl ((mv3.trans mv4).trans (mv_same s5)) (hR4.same s5) ⟨x, dx, v, first, rfl, g5, ho4.same s5⟩
  · have c2' : ¬ hd0 ws = "while" := fun e => c2 (congrArg V.str e)
    rw [if_neg c2'] at q2
    simp only [if_neg c2'] at q1
    obtain ⟨dx3, o3⟩ := hR3.obj
    refine ⟨_, rfl, X.p, dx3, _, rfl, o3, rfl, X, st2, _, rfl, hR3, fun st3 H4 p1 mv4 hR4 => ?_, fun p1 H4 mv4 => ?_⟩
    rotate_left
    · rw [p1] at q2
      exact q2 rfl H4 (mv3.trans mv4)
    rw [p1] at q1 q2
    simp only at q1 q2
    have ho4 := ho3.keepI (hR3.keepI mv4) (notR_ec T)
    obtain ⟨dx4, o4⟩ := hR4.obj
    refine ⟨_, rfl, X.p, dx4, _, rfl, o4, rfl, _, rfl, X, st3, rfl, hR4, hm0, fun st4 second H5 b2 mv5 hR5 => ?_, fun b2 H5 mv5 => ?_⟩
    rotate_left
    · rw [b2] at q2
      exact q2 rfl H5 ((mv3.trans mv4).trans mv5)
    rw [b2] at q1 q2
    simp only at q1 q2
    have ho5 := ho4.keepI (hR4.keepI mv5) (notR_ec T)
    obtain ⟨dx5, o5⟩ := hR5.obj
    refine ⟨_, rfl, X.p, dx5, _, rfl, o5, rfl, X, st4, _, rfl, hR5, fun st5 H6 p2 mv6 hR6 => ?_, fun p2 H6 mv6 => ?_⟩
    rotate_left
    · rw [p2] at q2
      exact q2 rfl H6 (((mv3.trans mv4).trans mv5).trans mv6)
    rw [p2] at q1
    have ho6 := ho5.keepI (hR5.keepI mv6) (notR_ec T)
    refine ⟨_, rfl, _, rfl, _, rfl, _, rfl, fun x dx hx hdx _ => mk_row (xs := [_, _, _, _]) hx hdx rfl fun H7 s7 g7 => ?_⟩
    exact q1 _ _ _ H7 rfl ((((mv3.trans mv4).trans mv5).trans mv6).trans (mv_same s7)) (hR6.same s7) ⟨x, dx, v, first, second, rfl, g7, ho6.same s7⟩

theorem rc_cls (T : Txt K mg A) : ∀ rt : RT, Cls K (A.rc.of rt) ∧ NoAttr K (A.rc.of rt) "number"
  | .skip => ⟨T.cl_Skip, T.n_Skip_number⟩
  | .set _ _ => ⟨T.cl_Set, T.n_Set_number⟩
  | .put _ _ => ⟨T.cl_Put, T.n_Put_number⟩
  | .ask _ _ _ => ⟨T.cl_Ask, T.n_Ask_number⟩
  | .draw _ _ => ⟨T.cl_Draw, T.n_Draw_number⟩
  | .tell _ => ⟨T.cl_Tell, T.n_Tell_number⟩
  | .ifr _ => ⟨T.cl_Choice, T.n_Choice_number⟩
  | .loop _ => ⟨T.cl_Loop, T.n_Loop_number⟩
  | .call _ _ _ => ⟨T.cl_Call, T.n_Call_number⟩
  | .give _ => ⟨T.cl_Give, T.n_Give_number⟩

theorem joinL_mem {b : List Nat} : ∀ {ps : List (List Nat)} {p : List Nat}, p ∈ ps → ∀ c ∈ p, c ∈ joinL b ps
  | [], _, h => by cases h
  | [x], p, h => by
    rw [List.mem_singleton.mp h]
    exact fun c hc => hc
  | x :: y :: r, p, h => by
    intro c hc
    show c ∈ x ++ (b ++ joinL b (y :: r))
    rcases List.mem_cons.mp h with rfl | h
    · exact List.mem_append.mpr (.inl hc)
    · exact List.mem_append.mpr (.inr (List.mem_append.mpr (.inr (joinL_mem h c hc))))
theorem split_cod {s : Str} (h : PyData.strOk s = true) (t : Str) : ∀ p ∈ Txt.split s t, PyData.strOk p = true := by
  intro p hp
  have e2 := congrArg tl (PySem.StrLaws.join_split s t)
  rw [tl_join] at e2
  unfold PyData.strOk at h ⊢
  rw [← Array.all_toList] at h ⊢
  refine List.all_eq_true.mpr fun c hc => ?_
  refine List.all_eq_true.mp h c ?_
  show c ∈ tl s
  rw [← e2]
  exact joinL_mem (List.mem_map.mpr ⟨p, hp, rfl⟩) c hc
theorem words_cod {ts : List Str} (h : ∀ t ∈ ts, PyData.strOk t = true) (i : Nat) : Codes (wordsAt ts i) := fun s hs => by
  refine split_cod ?_ _ s hs
  rw [List.getD_eq_getElem?_getD]
  by_cases hi : i < ts.length
  · rw [List.getElem?_eq_getElem hi]; exact h _ (List.getElem_mem hi)
  · rw [List.getElem?_eq_none (by omega)]; decide +kernel
theorem wd_size {ts : List Str} (h : ∀ t ∈ ts, t.length ≤ 99999) {i : Nat} (hi : i < ts.length) : (wd ts i).length + 2 ≤ sizeLine := by
  have : (wd ts i).length ≤ 99999 := by
    unfold wd
    rw [List.getD_eq_getElem?_getD, List.getElem?_eq_getElem hi]
    exact h _ (List.getElem_mem hi)
  exact sizeL2 (by omega)
theorem all2_find {α : Type} {R : α → Key × V → Prop} {p : α → Bool} {k : Key} (hp : ∀ a kv, R a kv → p a = decide (kv.1 = k)) : ∀ {as : List α} {kvs : List (Key × V)}, All2 R as kvs →
    (as.find? p = none ∧ valV kvs k = none) ∨ ∃ a v, a ∈ as ∧ as.find? p = some a ∧ p a = true ∧ valV kvs k = some v ∧ R a (k, v)
  | _, _, .nil => .inl ⟨rfl, rfl⟩
  | a :: as, kv :: kvs, .cons h t => by
    have e := hp a kv h
    by_cases c : kv.1 = k
    · rw [decide_eq_true c] at e
      refine .inr ⟨a, kv.2, List.mem_cons_self, by rw [List.find?_cons, e], e, valV_pos c, ?_⟩
      rw [← c]; exact h
    · rw [decide_eq_false c] at e
      rcases all2_find hp t with ⟨e1, e2⟩ | ⟨b, v, hb, e1, e3, e2, hr⟩
      · exact .inl ⟨by rw [List.find?_cons, e]; exact e1, by rw [valV_neg c]; exact e2⟩
      · exact .inr ⟨b, v, List.mem_cons_of_mem _ hb, by rw [List.find?_cons, e]; exact e1, e3, by rw [valV_neg c]; exact e2, hr⟩

end
end K12
namespace K12
open PySem L2 TL
section
variable {P : Program} {w : World} {K : PySem.W.Frag} {mg : Str → Option Value} {base : Heap} {A : Ads}
theorem ok_Reader_one_row (T : Txt K mg A) {m : Nat} (G_Reader_row_with_rows : FnOk P w K mg base (L2.CX P w) (3 * m + 13) A.Reader_row_with_rows A.Reader_row_with_rows_d ["self", "number", "words", "within"] (spRows K A.rc A.ec A.Reader A.NoProgram m)) : FnOk P w K mg base (L2.CX P w) (3 * m + 14) A.Reader_one_row A.Reader_one_row_d ["self", "within"] (spOne K A.rc A.ec A.Reader A.NoProgram m) := by
  have G_Reader_call_row := ok_Reader_call_row (P := P) (w := w) (base := base) T
  have G_simple_row := ok_simple_row (P := P) (w := w) (base := base) T
  refine T.F_Reader_one_row.okX sc_Reader_one_row (fun vs H Q E h => ?_) (fun cdv A0 outer s H vs Q E hr h => ?_)
  · obtain ⟨X, st, rfl, hR, hat, q1, q2⟩ := h
    rfl
  obtain ⟨X, st, rfl, hR, hat, q1, q2⟩ := h
  refine ⟨_, (pss_cons (ps_set (i := 2) sc_Reader_one_row.nd rfl (Or.inl rfl) (pe_fld (pv 0) rfl))
   (pss_cons (ps_set (i := 3) sc_Reader_one_row.nd rfl (Or.inl rfl) (pe_split (pe_ix ix_list (pe_fld (pv 0) rfl) (pv 2) (fun _ _ => rfl)) pe_str))
   (pss_cons (ps_fldaug (pv 0) pe_int in_add)
   (pss_cons (ps_ifC (PW.pt (pw_or (pt_cmpR op_eq (pe_ix ix_list (pv 3) pe_int (fun _ _ => rfl)) pe_str (nomark _)) (pw_or1 (pt_cmpR op_eq (pe_ix ix_list (pv 3) pe_int (fun _ _ => rfl)) pe_str (nomark _)))))
    (pss_one (ps_ret (pe_meth (pv 0) T.cl_Reader T.me_Reader_row_with_rows G_Reader_row_with_rows (hr.mono (by omega)) T.b_Reader_row_with_rows .nil (passes_call (takes_of rfl rfl rfl rfl) (fun _ _ _ _ h => h)) (pa_cons (pv 2) (pa_cons (pv 3) (pa_cons (pe_op op_add (pv 1) pe_int) pa_nil))))))
    pss_nil)
   (pss_cons (ps_if (pt_cmpR op_eq (pe_ix ix_list (pv 3) pe_int (fun _ _ => rfl)) pe_str (nomark _))
    (pss_one (ps_ret (pe_meth (pv 0) T.cl_Reader T.me_Reader_call_row G_Reader_call_row (hr.mono (by omega)) T.b_Reader_call_row .nil (passes_call (takes_of rfl rfl rfl rfl) (fun _ _ _ _ h => h)) (pa_cons (pv 2) (pa_cons (pv 3) pa_nil)))))
    pss_nil)
   (pss_one (ps_ret (pe_call G_simple_row (hr.mono (by omega)) rfl T.m_simple_row T.F_simple_row.kp T.b_simple_row .nil (passes_call (takes_of rfl rfl rfl rfl) (fun _ _ _ _ h => h)) (pa_cons (pv 2) (pa_cons (pv 3) pa_nil)))))))))), ?_⟩
  unfold oneF at q1 q2
  obtain ⟨dx, h1⟩ := hR.obj
  have hok := wordsAt_ok hR.sm.2 st.at_
  refine ⟨_, rfl, X.p, A.Reader, dx, _, _, rfl, h1, T.cl_Reader, T.n_Reader_at, rfl, _, rfl, X.p, A.Reader, dx, _, _, rfl, h1, T.cl_Reader, T.n_Reader_texts, rfl, _, rfl, X.a, _, _, _, rfl, rfl, (SqL.of hR.txts), at_wd hat, ⟨_, rfl⟩, _, _, rfl, rfl, (by decide +kernel), ?_, fun l hl => ?_⟩
  · have : (wd X.ts st.at_).length ≤ 99999 := by
      unfold wd
      rw [List.getD_eq_getElem?_getD, List.getElem?_eq_getElem hat]
      exact hR.sm.2 _ (List.getElem_mem hat)
    exact sizeL2 (by omega)
  have s1 := same_new (o := .lst ((wordsAt X.ts st.at_).map V.str)) hl
  have hR1 := hR.same s1
  have k1 := s1 _ _ h1
  refine ⟨_, rfl, X.p, A.Reader, dx, _, _, rfl, k1, T.cl_Reader, T.n_Reader_at, rfl, _, _, rfl, rfl, dx, _, k1, (by show 4 < 1000; decide), ?_⟩
  obtain ⟨mv2, hR2⟩ := hR1.step (notR_ec T) (notR_rc T) hat k1
  show tSeq _ _ _ _ (upd (upd H l (.lst ((wordsAt X.ts st.at_).map V.str))) X.p (.ins A.Reader dx (putF "at" (V.int (((st.at_ : Nat) : Int) + 1)) (rdF X st))))
  generalize hG : upd (upd H l (.lst ((wordsAt X.ts st.at_).map V.str))) X.p (.ins A.Reader dx (putF "at" (V.int (((st.at_ : Nat) : Int) + 1)) (rdF X st))) = H2 at mv2 hR2 ⊢
  have nlcl : l ≠ X.cl := fun e => by
    obtain ⟨os, z, _⟩ := hR.calls
    rw [← e, hl] at z; cases z
  have mv := (mv_same (X := X) s1).trans mv2
  have hS2 : SqL K H2 l ((wordsAt X.ts st.at_).map V.str) := hR1.seq mv2 nlcl (SqL.of upd_same)
  have hne := hok.2
  obtain ⟨dx2, o2⟩ := hR2.obj
  refine ⟨decide (hd0 (wordsAt X.ts st.at_) = "if" ∨ hd0 (wordsAt X.ts st.at_) = "while"), H2, fun Z hZ => ?_, ?_⟩
  · refine ⟨_, rfl, l, _, _, _, rfl, rfl, hS2, at_hd hne, rfl, _, rfl, iteD2 (fun c1 => ?_) (fun c1 => ?_)⟩
    · exact zTrue hZ (.inl (V.str.inj c1))
    · refine ⟨_, rfl, l, _, _, _, rfl, rfl, hS2, at_hd hne, rfl, _, rfl, ?_⟩
      by_cases c2 : hd0 (wordsAt X.ts st.at_) = "while"
      · rw [decide_eq_true (congrArg V.str c2)]; exact zTrue hZ (.inr c2)
      · rw [decide_eq_false (fun e => c2 (V.str.inj e))]
        exact zFalse hZ fun h => h.elim (fun e => c1 (congrArg V.str e)) c2
  refine iteD2 (fun c1 => ?_) (fun c1 => ?_)
  · rw [if_pos c1] at q2
    simp only [if_pos c1] at q1
    refine ⟨_, rfl, X.p, dx2, _, rfl, o2, rfl, _, rfl, _, rfl, _, rfl, _, _, rfl, rfl, ?_⟩
    refine ⟨X, _, st.at_, l, _, ?_, hR2, hS2, nlcl, hne, hok.1, fun rt st' v H' e mv' hR' ho => q1 rt st' v H' e (mv.trans mv') hR' ho, fun e H' mv' => q2 e H' (mv.trans mv')⟩
    show _ = [V.ref X.p, .int (st.at_ : Int), .ref l, .int (6 - (m : Int))]
    rw [show (6 : Int) - m = 5 - m + 1 from by omega]
    rfl
  rw [if_neg c1] at q2
  simp only [if_neg c1] at q1
  refine ⟨_, rfl, l, _, _, _, rfl, rfl, hS2, at_hd hne, rfl, _, rfl, iteD2 (fun c2 => ?_) (fun c2 => ?_)⟩
  · rw [if_pos (V.str.inj c2)] at q2
    simp only [if_pos (V.str.inj c2)] at q1
    refine ⟨_, rfl, X.p, dx2, _, rfl, o2, rfl, _, rfl, _, rfl, ?_⟩
    refine ⟨X, _, st.at_, l, _, rfl, hR2, hS2, nlcl, hne, hok.1, Nat.lt_succ_of_le hR.cn, fun b f es v H' e mv' hR' ho => ?_, fun e H' mv' => ?_⟩
    · exact q1 _ _ v H' (by rw [e]) (mv.trans mv') hR' ho
    · exact q2 (by rw [e]) H' (mv.trans mv')
  · have c2' : ¬ hd0 (wordsAt X.ts st.at_) = "call" := fun e => c2 (congrArg V.str e)
    rw [if_neg c2'] at q2
    simp only [if_neg c2'] at q1
    refine ⟨_, rfl, _, rfl, st.at_, l, _, rfl, hS2, hne, hok.1, words_cod hR.cod st.at_, fun rt v H' e s' ho => ?_, fun e H' s' => ?_⟩
    · exact q1 _ _ v H' (by rw [e]; rfl) (mv.trans (mv_same s')) (hR2.same s') (ho _)
    · exact q2 (by rw [e]; rfl) H' (mv.trans (mv_same s'))

end
end K12
namespace K12
open PySem L2 TL
section
variable {P : Program} {w : World} {K : PySem.W.Frag} {mg : Str → Option Value} {base : Heap} {A : Ads}
theorem ok_Reader_block (T : Txt K mg A) : ∀ n : Nat, FnOk P w K mg base (L2.CX P w) (3 * n + 12) A.Reader_block A.Reader_block_d ["self", "within"] (spBlk K A.rc A.ec A.Reader A.NoProgram n)
| 0 => fn_none fun vs H Q E h => by
    obtain ⟨X, st, _, _, h1, _⟩ := h; omega
| n + 1 => by
  have G_Reader_block := ok_Reader_block T n
  have G_Reader_head := ok_Reader_head (P := P) (w := w) (base := base) T
  have G_Reader_row_with_rows := ok_Reader_row_with_rows (P := P) (w := w) (base := base) T G_Reader_block
  have G_Reader_one_row := ok_Reader_one_row (P := P) (w := w) (base := base) T G_Reader_row_with_rows
  refine T.F_Reader_block.okX sc_Reader_block (fun vs H Q E h => ?_) (fun cdv A0 outer s H vs Q E hr h => ?_)
  · obtain ⟨X, st, rfl, hR, hn, q1, q2⟩ := h
    rfl
  obtain ⟨X, st, rfl, hR, hn, q1, q2⟩ := h
  refine ⟨_, (pss_cons (ps_set (i := 2) sc_Reader_block.nd rfl (Or.inl rfl) (pe_lst pa_nil))
   (pss_cons (ps_while (passes_of rfl) (pt_cmpR op_in_seq (pe_meth0 (pv 0) T.cl_Reader T.me_Reader_head G_Reader_head (hr.mono (by omega)) T.b_Reader_head .nil pass0) (pe_glob (v := .ref A.ROWS) (by rfl) T.m_ROWS rfl) (by rfl))
    (pss_cons (ps_set (i := 3) sc_Reader_block.nd rfl (Or.inl rfl) (pe_meth (pv 0) T.cl_Reader T.me_Reader_one_row G_Reader_one_row (hr.mono (by omega)) T.b_Reader_one_row .nil (passes_call (takes_of rfl rfl rfl rfl) (fun _ _ _ _ h => h)) (pa_cons (pv 1) pa_nil)))
   (pss_cons (ps_dput (hu_of hr) (pe_fld (pv 0) rfl) (pe_fld (pv 3) rfl) (pv 3) rfl)
   (pss_one (ps_expr (pe_bm PySem.F.plainAttrs_list PySem.F.slot_list_append PySem.F.type_list_append mt_append (pv 2) (pa_cons (pv 3) pa_nil)))))))
   (pss_one (ps_ret (pv 2))))), ?_⟩
  refine ⟨by show 0 ≤ sizeLine; decide, fun l hl => ?_⟩
  have ew : (6 : Int) - ((n + 1 : Nat) : Int) = 5 - (n : Int) := by omega
  have s0 := same_new (o := .lst ([] : List V)) hl
  refine while_m (fun m σ H' => ∃ (st' : RS) (f : Nat) (os : List V) (z : Option V), σ = [some (.ref X.p), some (.int (6 - ((n + 1 : Nat) : Int))), some (.ref l), z] ∧ m = X.ts.length - st'.at_ ∧ Mv X H H' ∧ RdH K A.rc A.ec A.Reader (X.add l) H' st' ∧ H' l = some (.lst os) ∧ os.length ≤ st'.at_ ∧ X.ts.length + 1 ≤ f + st'.at_ ∧ blkF X.ts (oneF X.ts (rowsF X.ts (blockF X.ts n) (decide (0 < n)))) f st' = blockF X.ts (n + 1) st) (X.ts.length - st.at_)
    ⟨st, X.ts.length + 1, [], none, rfl, rfl, mv_same s0, hR.add hl, upd_same, Nat.zero_le _, Nat.le_add_right _ _, rfl⟩ ?_
  rintro m σ H1 ⟨st1, f, os, z, rfl, rfl, mv1, hR1, h1, hos, hf, hb⟩
  have hat1 := hR1.at_
  obtain ⟨f, rfl⟩ : ∃ f', f = f' + 1 := ⟨f - 1, by have : st1.at_ ≤ X.ts.length := hat1; omega⟩
  obtain ⟨dx1, o1⟩ := hR1.obj
  refine ⟨_, rfl, X.p, dx1, _, rfl, o1, rfl, X.add l, st1, rfl, hR1, fun H2 s2 => ?_⟩
  have hR2 := hR1.same s2
  have mv2 := mv1.trans (mv_same s2)
  refine ⟨A.ROWS, ROWW.map V.str, rfl, .inr (T.q_ROWS _), ?_, rfl, _, rfl, ?_⟩
  · unfold headV; cases headAt (X.add l).ts st1.at_ <;> rfl
  rw [if_neg Bool.false_ne_true]
  have hb' := hb
  unfold blkF at hb'
  unfold headV
  show if inV (match headAt X.ts st1.at_ with | some w => V.str w | none => V.non) (ROWW.map V.str) = true then _ else _
  cases hh : headAt X.ts st1.at_ with
  | none =>
    rw [hh] at hb'
    refine iteF ⟨_, rfl, q1 st1 _ H2 hb'.symm mv2 hR2.drop⟩
  | some w =>
    rw [hh] at hb'
    simp only at hb'
    rw [inV_str]
    refine iteD2 (fun c1 => ?_) (fun c1 => ?_)
    rotate_left
    · rw [if_neg c1] at hb'
      exact ⟨_, rfl, q1 st1 _ H2 hb'.symm mv2 hR2.drop⟩
    rw [if_pos c1] at hb'
    obtain ⟨hlt, hw⟩ := headAt_lt hh
    refine ⟨fun σ' H' => ∃ (st' : RS) (f : Nat) (os : List V) (z : Option V), st1.at_ < st'.at_ ∧ st'.at_ ≤ X.ts.length ∧ σ' = [some (.ref X.p), some (.int (6 - ((n + 1 : Nat) : Int))), some (.ref l), z] ∧ Mv X H H' ∧ RdH K A.rc A.ec A.Reader (X.add l) H' st' ∧ H' l = some (.lst os) ∧ os.length ≤ st'.at_ ∧ X.ts.length + 1 ≤ f + st'.at_ ∧ blkF X.ts (oneF X.ts (rowsF X.ts (blockF X.ts n) (decide (0 < n)))) f st' = blockF X.ts (n + 1) st,
      fun σ' H' ⟨st', f, os, z, g1, g2, hσ, k⟩ => ⟨X.ts.length - st'.at_, by omega, st', f, os, z, hσ, rfl, k⟩, ?_⟩
    obtain ⟨dx2, o2⟩ := hR2.obj
    refine ⟨_, rfl, X.p, dx2, _, rfl, o2, rfl, _, rfl, X.add l, st1, ?_, hR2, hlt, fun rt st2 v H3 e3 mv3 hR3 ho => ?_, fun e3 H3 mv3 => ?_⟩
    · show [V.ref X.p, V.int (6 - ((n + 1 : Nat) : Int))] = [V.ref X.p, V.int (5 - (n : Int))]
      rw [ew]
    rotate_left
    · have e3' : oneF X.ts (rowsF X.ts (blockF X.ts n) (decide (0 < n))) st1 = none := e3
      rw [e3'] at hb'
      exact q2 hb'.symm H3 (mv2.trans mv3)
    have e3' : oneF X.ts (rowsF X.ts (blockF X.ts n) (decide (0 < n))) st1 = some (rt, st2) := e3
    rw [e3'] at hb'
    simp only at hb'
    have gr := oneF_gr (fun ws st rt st' h => rowsF_gr (fun st st' h => blockF_gr h) h) e3'
    have hat3 : st2.at_ ≤ X.ts.length := hR3.at_
    have hlt3 : st1.at_ < st2.at_ := (oneF_at (fun ws st rt st' hs h => rowsF_at (fun st st' hs h => blockF_at hs h) hs h) hlt e3').1
    have ncl : l ≠ X.cl := (hR1.lists l List.mem_cons_self).1
    have h2 := s2 _ _ h1
    have h3 := hR2.keepList mv3 ncl h2
    obtain ⟨pr, dr, fr, er, gr1, gr2, gr3⟩ := ho.at
    obtain ⟨dx3, o3⟩ := hR3.obj
    have hn3 : (putN st2.num st1.at_ rt).length ≤ st2.at_ := by
      have := putN_len st2.num st1.at_ rt
      have hnn : st1.num.length ≤ st1.at_ := hR1.nn
      omega
    obtain ⟨kvs, k1, k2, mv4, hR4⟩ := hR3.put (notR_ec T) (notR_rc T) ho hn3
    have k1' : H3 X.d = some (.dK kvs) := k1
    refine ⟨_, rfl, _, rfl, X.p, A.Reader, dx3, _, _, rfl, o3, T.cl_Reader, T.n_Reader_by_number, rfl, _, rfl, pr, _, dr, _, _, er, gr1, (rc_cls T rt).1, (rc_cls T rt).2, gr3, X.d, _, rfl, DPut.k (k := .inl (st1.at_ : Int)) (v := v) k1' (Nat.lt_of_le_of_lt k2 (by decide)), ?_⟩
    have h4 : upd H3 (X.add l).d (.dK (putK kvs (.inl (st1.at_ : Int)) v)) l = some (.lst os) := hR3.keepList mv4 ncl h3
    show tSeq _ _ _ _ (upd H3 (X.add l).d (.dK (putK kvs (.inl (st1.at_ : Int)) v)))
    generalize hG : upd H3 (X.add l).d (.dK (putK kvs (.inl (st1.at_ : Int)) v)) = H4 at mv4 hR4 h4 ⊢
    refine ⟨_, rfl, .inl ⟨rfl, _, SqL.of h4⟩, _, rfl, l, _, _, rfl, rfl, h4, Nat.lt_of_le_of_lt (show os.length ≤ 60 by have := hR1.sm.1; have : st1.at_ ≤ X.ts.length := hat1; have : X.ts.length ≤ 60 := hR1.sm.1; omega) (by decide), ?_⟩
    refine ⟨⟨st2.at_, putN st2.num st1.at_ rt, st2.calls⟩, f, _, _, hlt3, hat3, rfl, ?_, hR4.grow h4, upd_same, ?_, ?_, hb'⟩
    · exact fun z o n h => by
        rw [upd_ne (ne_of_none h hl)]
        exact ((mv2.trans mv3).trans mv4) z o n h
    · rw [List.length_append, List.length_singleton]; show os.length + 1 ≤ st2.at_; omega
    · show X.ts.length + 1 ≤ f + st2.at_; omega

end
end K12
namespace K12
open PySem L2 TL
section
variable {P : Program} {w : World} {K : PySem.W.Frag} {mg : Str → Option Value} {base : Heap} {A : Ads}
theorem ok_Function_init (T : Txt K mg A) : FnOk P w K mg base CX0 1 A.Function_init A.Function_init_d ["self", "name", "params", "body", "give"] (spRI A.Function ["name", "params", "body", "give"]) := by
  refine T.F_Function_init.ok sc_Function_init (fun vs H Q E h => ?_) (fun cdv A0 outer s H vs Q E hr h => ?_)
  · obtain ⟨p, dx, xs, rfl, hl, hp, q⟩ := h
    exact congrArg (· + 1) hl
  obtain ⟨p, dx, xs, rfl, hl, hp, q⟩ := h
  refine ⟨_, (pss_cons (ps_fld (pv 0) (pv 1) rfl)
   (pss_cons (ps_fld (pv 0) (pv 2) rfl)
   (pss_cons (ps_fld (pv 0) (pv 3) rfl)
   (pss_one (ps_fld (pv 0) (pv 4) rfl))))), ?_⟩
  obtain ⟨x0, x1, x2, x3, rfl⟩ : ∃ x0 x1 x2 x3, xs = [x0, x1, x2, x3] := by
    match xs, hl with
    | [x0, x1, x2, x3], _ => exact ⟨x0, x1, x2, x3, rfl⟩
  refine ⟨_, rfl, _, rfl, p, A.Function, dx, _, rfl, hp, T.cl_Function, T.n_Function_name, (by show 0 < 1000; decide), ?_⟩
  refine ⟨_, rfl, _, rfl, p, A.Function, dx, _, rfl, upd_same, T.cl_Function, T.n_Function_params, (by show 1 < 1000; decide), ?_⟩
  refine ⟨_, rfl, _, rfl, p, A.Function, dx, _, rfl, upd_same, T.cl_Function, T.n_Function_body, (by show 2 < 1000; decide), ?_⟩
  refine ⟨_, rfl, _, rfl, p, A.Function, dx, _, rfl, upd_same, T.cl_Function, T.n_Function_give, (by show 3 < 1000; decide), ?_⟩
  rw [upd_upd, upd_upd, upd_upd]
  exact q

end
end K12
namespace K12
open PySem L2 TL
section
variable {P : Program} {w : World} {K : PySem.W.Frag} {mg : Str → Option Value} {base : Heap} {A : Ads}
theorem ok_Reader_function (T : Txt K mg A) : FnOk P w K mg base (L2.CX P w) 31 A.Reader_function A.Reader_function_d ["self"] (spFunction K A.rc A.ec A.Reader A.NoProgram A.Function) := by
  have G_check_names := ok_check_names (P := P) (w := w) (base := base) T
  have G_Reader_block := ok_Reader_block (P := P) (w := w) (base := base) T 6
  have G_Reader_head := ok_Reader_head (P := P) (w := w) (base := base) T
  have G_Give_init := ok_Give_init (P := P) (w := w) (base := base) T
  have G_only := ok_only (P := P) (w := w) (base := base) T
  have G_exprs_of := ok_exprs_of (P := P) (w := w) (base := base) T
  have G_Function_init := ok_Function_init (P := P) (w := w) (base := base) T
  refine T.F_Reader_function.okX sc_Reader_function (fun vs H Q E h => ?_) (fun cdv A0 outer s H vs Q E hr h => ?_)
  · obtain ⟨X, st, rfl, hR, hh, q1, q2⟩ := h
    rfl
  obtain ⟨X, st, rfl, hR, hh, q1, q2⟩ := h
  refine ⟨_, (pss_cons (ps_set (i := 1) sc_Reader_function.nd rfl (Or.inl rfl) (pe_split (pe_ix ix_list (pe_fld (pv 0) rfl) (pe_fld (pv 0) rfl) (fun _ _ => rfl)) pe_str))
   (pss_cons (ps_fldaug (pv 0) pe_int in_add)
   (pss_cons (ps_set (i := 2) sc_Reader_function.nd rfl (Or.inl rfl) (pe_slice sl_list (pv 1) (po_some pe_int) po_none))
   (pss_cons (ps_expr (pe_call G_check_names (hr.mono (by decide)) rfl T.m_check_names T.F_check_names.kp T.b_check_names .nil (passes_call (takes_of rfl rfl rfl rfl) (fun _ _ _ _ h => h)) (pa_cons (pe_slice sl_list (pv 1) (po_some pe_int) po_none) (pa_cons (pe_op op_sub (pe_callB call_lenK (by rfl) T.z_len (by decide +kernel) (pa_cons (pv 1) pa_nil)) pe_int) pa_nil))))
   (pss_cons (ps_ifC (PW.pt (pw_or (pt_cmpR op_lt (pe_callB call_lenK (by rfl) T.z_len (by decide +kernel) (pa_cons (pv 1) pa_nil)) pe_int (nomark _)) (pw_or (pt_cmpR op_gt (pe_callB call_lenK (by rfl) T.z_len (by decide +kernel) (pa_cons (pv 2) pa_nil)) (pe_glob (v := .int 3) (by rfl) T.c_MOST_PARAMS.choose_spec ⟨_, rfl⟩) (nomark _)) (pw_or1 (pt_cmpR op_ne (pe_lenTexts rfl (by rfl) T.z_len (by rfl) T.z_set (pv 2)) (pe_callB call_lenK (by rfl) T.z_len (by decide +kernel) (pa_cons (pv 2) pa_nil)) (nomark _))))))
    (pss_one (ps_raise rfl (takes_of rfl rfl rfl rfl) (pmk_own PySem.F.excBase_ValueError T.x_NoProgram T.m_NoProgram T.kk_NoProgram (raises_own T.bb_NoProgram T.tt_NoProgram) (by exact rfl))))
    pss_nil)
   (pss_cons (ps_set (i := 3) sc_Reader_function.nd rfl (Or.inl rfl) (pe_meth (pv 0) T.cl_Reader T.me_Reader_block G_Reader_block (hr.mono (by decide)) T.b_Reader_block .nil (passes_call (takes_of rfl rfl rfl rfl) (fun _ _ _ _ h => h)) (pa_cons pe_int pa_nil)))
   (pss_cons (ps_if (pt_cmpR op_ne (pe_meth0 (pv 0) T.cl_Reader T.me_Reader_head G_Reader_head (hr.mono (by decide)) T.b_Reader_head .nil pass0) pe_str (nomark _))
    (pss_one (ps_raise rfl (takes_of rfl rfl rfl rfl) (pmk_own PySem.F.excBase_ValueError T.x_NoProgram T.m_NoProgram T.kk_NoProgram (raises_own T.bb_NoProgram T.tt_NoProgram) (by exact rfl))))
    pss_nil)
   (pss_cons (ps_set (i := 4) sc_Reader_function.nd rfl (Or.inl rfl) (pe_make T.k_Give G_Give_init (hr.mono (by decide)) rfl T.m_Give T.b_Give_init .nil pass0 (pa_cons (pe_fld (pv 0) rfl) (pa_cons (pe_call G_only (hr.mono (by decide)) rfl T.m_only T.F_only.kp T.b_only .nil (passes_call (takes_of rfl rfl rfl rfl) (fun _ _ _ _ h => h)) (pa_cons (pe_call G_exprs_of (hr.mono (by decide)) rfl T.m_exprs_of T.F_exprs_of.kp T.b_exprs_of .nil (passes_call (takes_of rfl rfl rfl rfl) (fun _ _ _ _ h => h)) (pa_cons (pe_slice sl_list (pe_split (pe_ix ix_list (pe_fld (pv 0) rfl) (pe_fld (pv 0) rfl) (fun _ _ => rfl)) pe_str) (po_some pe_int) po_none) pa_nil)) pa_nil)) pa_nil))))
   (pss_cons (ps_dput (hu_of hr) (pe_fld (pv 0) rfl) (pe_fld (pv 0) rfl) (pv 4) rfl)
   (pss_cons (ps_fldaug (pv 0) pe_int in_add)
   (pss_one (ps_ret (pe_make T.k_Function G_Function_init (hr.mono (by decide)) rfl T.m_Function T.b_Function_init .nil pass0 (pa_cons (pe_ix ix_list (pv 1) pe_int (fun _ _ => rfl)) (pa_cons (pv 2) (pa_cons (pv 3) (pa_cons (pv 4) pa_nil))))))))))))))))), ?_⟩
  obtain ⟨hat, hw⟩ := headAt_lt hh
  obtain ⟨dx, h1⟩ := hR.obj
  have hok := wordsAt_ok hR.sm.2 st.at_
  refine ⟨_, rfl, X.p, A.Reader, dx, _, _, rfl, h1, T.cl_Reader, T.n_Reader_texts, rfl, _, rfl, X.p, A.Reader, dx, _, _, rfl, h1, T.cl_Reader, T.n_Reader_at, rfl, X.a, _, _, _, rfl, rfl, (SqL.of hR.txts), at_wd hat, ⟨_, rfl⟩, _, _, rfl, rfl, (by decide +kernel), wd_size hR.sm.2 hat, fun l hl => ?_⟩
  have s1 := same_new (o := .lst ((wordsAt X.ts st.at_).map V.str)) hl
  have hR1 := hR.same s1
  have k1 := s1 _ _ h1
  refine ⟨_, rfl, X.p, A.Reader, dx, _, _, rfl, k1, T.cl_Reader, T.n_Reader_at, rfl, _, _, rfl, rfl, dx, _, k1, (by show 4 < 1000; decide), ?_⟩
  obtain ⟨mv2, hR2⟩ := hR1.step (notR_ec T) (notR_rc T) hat k1
  show tSeq _ _ _ _ (upd (upd H l (.lst ((wordsAt X.ts st.at_).map V.str))) X.p (.ins A.Reader dx (putF "at" (V.int (((st.at_ : Nat) : Int) + 1)) (rdF X st))))
  generalize hG : upd (upd H l (.lst ((wordsAt X.ts st.at_).map V.str))) X.p (.ins A.Reader dx (putF "at" (V.int (((st.at_ : Nat) : Int) + 1)) (rdF X st))) = H2 at mv2 hR2 ⊢
  have nlcl : l ≠ X.cl := fun e => by
    obtain ⟨os, z, _⟩ := hR.calls
    rw [← e, hl] at z; cases z
  have mv := (mv_same (X := X) s1).trans mv2
  have hS2 : SqL K H2 l ((wordsAt X.ts st.at_).map V.str) := hR1.seq mv2 nlcl (SqL.of upd_same)
  have hne := hok.2
  have hsm := hok.1
  unfold functionF at q1 q2
  generalize hW : wordsAt X.ts st.at_ = ws at *
  -- params
  refine ⟨_, rfl, 2, rfl, l, _, rfl, hS2, fun lp hlp => ?_⟩
  rw [show ((2 : Int) = ((2 : Nat) : Int)) from rfl, cut_drop]
  have s3 := same_new (o := .lst ((ws.drop 2).map V.str)) hlp
  have gp : upd H2 lp (.lst ((ws.drop 2).map V.str)) lp = some (.lst ((ws.drop 2).map V.str)) := upd_same
  generalize hG3 : upd H2 lp (.lst ((ws.drop 2).map V.str)) = H3 at s3 gp ⊢
  have hR3 := hR2.same s3
  have nlp : lp ≠ X.cl := fun e => by
    obtain ⟨os, z, _⟩ := hR2.calls
    rw [← e, hlp] at z; cases z
  have nav : lp ∉ X.av := fun e => by
    obtain ⟨_, _, xs3, z1⟩ := hR2.lists lp e
    rw [hlp] at z1; cases z1
  have mv3 := mv.trans (mv_same s3)
  have hS3 := s3.seq hS2
  -- check_names
  refine ⟨_, rfl, 1, rfl, l, _, rfl, hS3, fun l1 hl1 => ?_⟩
  rw [show ((1 : Int) = ((1 : Nat) : Int)) from rfl, cut_drop]
  have s4 := same_new (o := .lst ((ws.drop 1).map V.str)) hl1
  have hpos : 0 < ws.length := List.length_pos_iff.mpr hne
  refine ⟨_, rfl, l, _, rfl, .inl (s4.seq hS3), _, _, rfl, rfl, ?_⟩
  rw [List.length_map]
  refine ⟨l1, ws.drop 1, ws.length - 1, ?_, SqL.of upd_same, hsm.drop 1, fun ok H4 s5 => ?_, fun no H4 s5 => ?_⟩
  · show [V.ref l1, V.int (((ws.length : Nat) : Int) - 1)] = _
    rw [show ((ws.length - 1 : Nat) : Int) = (ws.length : Int) - 1 from by omega]
  rotate_left
  · refine q2 (if_neg fun h => ?_) H4 (mv3.trans (mv_same (s4.trans s5)))
    have : namesOk (ws.drop 1) (ws.length - 1) = true := by
      unfold namesOk
      rw [h.1, List.length_drop, decide_eq_true rfl]; rfl
    rw [no] at this; cases this
  have s45 := s4.trans s5
  have hR4 := hR3.same s45
  have mv4 := mv3.trans (mv_same s45)
  have hS4 := s45.seq hS3
  have gp4 := s45 _ _ gp
  have ha : (ws.drop 1).all isNameW = true := by rw [List.all_eq_true]; exact (names_len ok).2
  have hdl : (ws.drop 2).length ≤ 100000 := by rw [List.length_drop]; have := hsm.1; omega
  refine ⟨decide (¬ (2 ≤ ws.length ∧ (ws.drop 2).length ≤ 3 ∧ cntTo (ws.drop 2) (ws.drop 2).length = (ws.drop 2).length)), H4, fun Z hZ => ?_, ?_⟩
  · refine ⟨_, rfl, l, _, rfl, .inl hS4, _, _, rfl, rfl, _, rfl, ?_⟩
    rw [List.length_map]
    refine iteD2 (fun c1 => zTrue hZ fun h => by have := h.1; omega) (fun c1 => ?_)
    refine ⟨_, rfl, lp, _, rfl, .inl (SqL.of gp4), _, _, rfl, rfl, _, rfl, ?_⟩
    rw [List.length_map]
    refine iteD2 (fun c2 => zTrue hZ fun h => by have := h.2.1; omega) (fun c2 => ?_)
    refine ⟨_, rfl, lp, _, rfl, SqL.of gp4, by omega, _, rfl, lp, _, rfl, .inl (SqL.of gp4), rfl, _, rfl, ?_⟩
    rw [List.length_map]
    by_cases c3 : cntTo (ws.drop 2) (ws.drop 2).length = (ws.drop 2).length
    · rw [decide_eq_true (by rw [c3])]
      exact zFalse hZ fun h => h ⟨by omega, by omega, c3⟩
    · rw [decide_eq_false (fun e => c3 (by have := V.int.inj e; omega))]
      exact zTrue hZ fun h => c3 h.2.2
  refine iteD2 (fun c1 => ?_) (fun c1 => ?_)
  · exact q2 (if_neg fun h => c1 h.2) H4 mv4
  have c1 := Decidable.not_not.mp c1
  rw [if_pos ⟨ha, c1⟩] at q2
  simp only [if_pos (And.intro ha c1)] at q1
  -- body
  obtain ⟨dx4, o4⟩ := hR4.obj
  refine ⟨_, rfl, X.p, dx4, _, rfl, o4, rfl, X, _, rfl, hR4, by decide, fun st2 body H5 b1 mv5 hR5 => ?_, fun b1 H5 mv5 => ?_⟩
  rotate_left
  · rw [b1] at q2
    exact q2 rfl H5 (mv4.trans mv5)
  rw [b1] at q1 q2
  simp only at q1 q2
  have mv5' := mv4.trans mv5
  have gp5 := hR4.keepList mv5 nlp gp4
  have hS5 := hR4.seq mv5 nlcl hS4
  obtain ⟨dx5, o5⟩ := hR5.obj
  refine ⟨_, rfl, X.p, dx5, _, rfl, o5, rfl, X, st2, rfl, hR5, fun H6 s6 => ?_⟩
  have hR6 := hR5.same s6
  have mv6 := mv5'.trans (mv_same s6)
  have gp6 := s6 _ _ gp5
  have hS6 := s6.seq hS5
  refine ⟨by unfold headV; cases headAt X.ts st2.at_ <;> rfl, _, rfl, iteN2 (fun c2 => ?_) (fun c2 => ?_)⟩
  · refine q2 (if_neg fun h => c2 ?_) H6 mv6
    unfold headV; rw [h]; rfl
  have hg : headAt X.ts st2.at_ = some "give" := by
    unfold headV at c2
    cases e : headAt X.ts st2.at_ with
    | none => rw [e] at c2; cases c2
    | some w => rw [e] at c2; rw [V.str.inj c2]; rfl
  rw [if_pos hg] at q2
  simp only [if_pos hg] at q1
  obtain ⟨hat2, hw2⟩ := headAt_lt hg
  have hok2 := wordsAt_ok hR.sm.2 st2.at_
  obtain ⟨dx6, o6⟩ := hR6.obj
  refine ⟨_, rfl, X.p, A.Reader, dx6, _, _, rfl, o6, T.cl_Reader, T.n_Reader_at, rfl, _, rfl, X.p, A.Reader, dx6, _, _, rfl, o6, T.cl_Reader, T.n_Reader_texts, rfl, _, rfl, X.p, A.Reader, dx6, _, _, rfl, o6, T.cl_Reader, T.n_Reader_at, rfl, X.a, _, _, _, rfl, rfl, (SqL.of hR6.txts), at_wd hat2, ⟨_, rfl⟩, _, _, rfl, rfl, (by decide +kernel), wd_size hR.sm.2 hat2, fun l7 hl7 => ?_⟩
  have s7 := same_new (o := .lst ((wordsAt X.ts st2.at_).map V.str)) hl7
  refine ⟨1, rfl, l7, (wordsAt X.ts st2.at_).map V.str, rfl, SqL.of upd_same, fun l8 hl8 => ?_⟩
  rw [show ((1 : Int) = ((1 : Nat) : Int)) from rfl, cut_drop]
  have s8 := same_new (o := .lst (((wordsAt X.ts st2.at_).drop 1).map V.str)) hl8
  have s78 := s7.trans s8
  refine ⟨l8, (wordsAt X.ts st2.at_).drop 1, rfl, SqL.of upd_same, (hok2.1.drop 1).1, (hok2.1.drop 1).2, fun es pe l9 H9 os s9 hn9 h9 hae => ?_, fun pe H9 s9 => ?_⟩
  rotate_left
  · have pe' : exL ((wordsAt X.ts st2.at_).drop 1) = none := pe
    rw [pe'] at q2
    exact q2 rfl H9 (mv6.trans (mv_same (s78.trans s9)))
  have s79 := s78.trans s9
  have pe' : exL ((wordsAt X.ts st2.at_).drop 1) = some es := pe
  rw [pe'] at q1 q2
  refine ⟨l9, os, rfl, h9, fun v hv => ?_, fun hn => ?_⟩
  rotate_left
  · rw [(allE_one hae).2 hn] at q2
    exact q2 rfl H9 (mv6.trans (mv_same s79))
  obtain ⟨e, rfl, ho⟩ := (allE_one hae).1 v hv
  simp only [only1] at q1
  refine fun x dxx hx hdx _ => mk_row (xs := [_, _]) hx hdx rfl fun H10 s10 g10 => ?_
  have s710 := s79.trans s10
  have hR10 := hR6.same s710
  have mv10 := mv6.trans (mv_same s710)
  have gp10 := s710 _ _ gp6
  have hS10 := s710.seq hS6
  obtain ⟨dx10, o10⟩ := hR10.obj
  have row : RowO A.rc A.ec X.N H10 (st2.at_ : Int) (.give e) (.ref x) := ⟨x, dxx, v, rfl, g10, ho.same s10⟩
  have gr := blockF_gr b1
  have hn10 : (putN st2.num st2.at_ (.give e)).length ≤ st2.at_ := by
    have := putN_len st2.num st2.at_ (.give e)
    have hnn : st.num.length ≤ st.at_ := hR.nn
    have gr' : st2.num.length + (st.at_ + 1) ≤ st.num.length + st2.at_ := gr
    omega
  obtain ⟨kvs, y1, y2, mv11, hR11⟩ := hR10.put (notR_ec T) (notR_rc T) row hn10
  refine ⟨_, rfl, _, rfl, X.p, A.Reader, dx10, _, _, rfl, o10, T.cl_Reader, T.n_Reader_by_number, rfl, _, rfl, X.p, A.Reader, dx10, _, _, rfl, o10, T.cl_Reader, T.n_Reader_at, rfl, X.d, _, rfl, DPut.k (k := .inl (st2.at_ : Int)) (v := .ref x) y1 (Nat.lt_of_le_of_lt y2 (by decide)), ?_⟩
  show tSeq _ _ _ _ (upd H10 X.d (.dK (putK kvs (.inl (st2.at_ : Int)) (.ref x))))
  have gp11 := hR10.keepList mv11 nlp gp10
  have hS11 := hR10.seq mv11 nlcl hS10
  generalize hG11 : upd H10 X.d (.dK (putK kvs (.inl (st2.at_ : Int)) (.ref x))) = H11 at mv11 hR11 gp11 hS11 ⊢
  obtain ⟨dx11, o11⟩ := hR11.obj
  refine ⟨_, rfl, X.p, A.Reader, dx11, _, _, rfl, o11, T.cl_Reader, T.n_Reader_at, rfl, _, _, rfl, rfl, dx11, _, o11, (by show 4 < 1000; decide), ?_⟩
  obtain ⟨mv12, hR12⟩ := hR11.step (notR_ec T) (notR_rc T) hat2 o11
  show tSeq _ _ _ _ (upd H11 X.p (.ins A.Reader dx11 (putF "at" (V.int (((st2.at_ : Nat) : Int) + 1)) (rdF X ⟨st2.at_, putN st2.num st2.at_ (.give e), st2.calls⟩))))
  have gp12 := hR11.keepList mv12 nlp gp11
  have hS12 := hR11.seq mv12 nlcl hS11
  generalize hG12 : upd H11 X.p (.ins A.Reader dx11 (putF "at" (V.int (((st2.at_ : Nat) : Int) + 1)) (rdF X ⟨st2.at_, putN st2.num st2.at_ (.give e), st2.calls⟩))) = H12 at mv12 hR12 gp12 hS12 ⊢
  refine ⟨_, rfl, l, _, _, _, rfl, rfl, hS12, at_wd (i := 1) (by have := c1.1; omega), _, rfl, _, rfl, _, rfl, fun y dxy hy hdy _ => mk_row (xs := [_, _, _, _]) hy hdy rfl fun H13 s13 g13 => ?_⟩
  exact q1 _ _ _ H13 rfl (((mv10.trans mv11).trans mv12).trans (mv_same s13)) (hR12.same s13) ⟨y, dxy, lp, ws.drop 2, body, .ref x, rfl, g13, ⟨nlp, nav⟩, s13 _ _ gp12, rfl⟩

theorem FunO.keepI {F : Addr} {cs N : Addr → Prop} {H H' : Hp} (k : KeepI cs N H H') (hF : cs F) {f : Str × Nat} {v : V} (h : FunO F N H f v) : FunO F N H' f v := by
  obtain ⟨p, dx, l, ps, b, g, h1, h2, h3, h4, h5⟩ := h
  exact ⟨p, dx, l, ps, b, g, h1, k.1 _ _ _ _ hF h2, h3, k.2 _ _ h3 h4, h5⟩
theorem FunK.keepI {F : Addr} {cs N : Addr → Prop} {H H' : Hp} {f : Str × Nat} {kv : Key × V} (h : FunK F N H f kv) (k : KeepI cs N H H') (hF : cs F) : FunK F N H' f kv := ⟨h.1, h.2.keepI k hF⟩
theorem FunK.same {F : Addr} {N : Addr → Prop} {H H' : Hp} {f : Str × Nat} {kv : Key × V} (h : FunK F N H f kv) (s : Same H H') : FunK F N H' f kv := ⟨h.1, h.2.keepI (cs := fun _ => True) (keepI_same s) trivial⟩
theorem keepI_dict {N : Addr → Prop} {H : Hp} {d : Addr} {kvs kvs' : List (Key × V)} (e : H d = some (.dK kvs)) : KeepI (fun _ => True) N H (upd H d (.dK kvs')) :=
  ⟨fun q C dx fs _ hq => by rw [upd_ne (ne_of hq e (by intro z; cases z))]; exact hq, fun q xs _ hq => by rw [upd_ne (ne_of hq e (by intro z; cases z))]; exact hq⟩
theorem RdH.dictU {K : PySem.W.Frag} {c : RC} {ec : EC} {R : Addr} {X : Rd} {H : Hp} {st : RS} (h : RdH K c ec R X H st) {d : Addr} {kvs kvs' : List (Key × V)} (e : H d = some (.dK kvs)) (n : d ≠ X.d) : RdH K c ec R X (upd H d (.dK kvs')) st := by
  have ki : KeepI (fun _ => True) X.N H (upd H d (.dK kvs')) := keepI_dict e
  obtain ⟨dx, h1⟩ := h.obj
  obtain ⟨ks, k1, k2⟩ := h.dict
  obtain ⟨os, k3, k4⟩ := h.calls
  exact ⟨⟨dx, (upd_ne (ne_of h1 e (by intro z; cases z))).trans h1⟩, ⟨ks, (upd_ne (Ne.symm n)).trans k1, k2.mono fun x kv z => ⟨z.1, z.2.keepI ki (fun _ _ => trivial) fun _ _ => trivial⟩⟩,
    ⟨os, (upd_ne (ne_of k3 e (by intro z; cases z))).trans k3, k4.mono fun f v ⟨n, b, es, z1, z2⟩ => ⟨n, b, es, z1, z2.keepI ki (fun _ _ => trivial) fun _ _ => trivial⟩⟩, (upd_ne (ne_of h.txts e (by intro z; cases z))).trans h.txts, h.ne, h.sm, h.cod, h.at_,
    fun a ha => by
      obtain ⟨n1, n2, xs, z⟩ := h.lists a ha
      exact ⟨n1, n2, xs, (upd_ne (ne_of z e (by intro z; cases z))).trans z⟩, h.cn, h.nn⟩
theorem all2_any {α : Type} {R : α → Key × V → Prop} {p : α → Bool} {k : Key} (hp : ∀ a kv, R a kv → p a = decide (kv.1 = k)) : ∀ {as : List α} {kvs : List (Key × V)}, All2 R as kvs → (valV kvs k).isSome = as.any p
  | _, _, .nil => rfl
  | a :: as, kv :: kvs, .cons h t => by
    have e := hp a kv h
    by_cases c : kv.1 = k
    · rw [decide_eq_true c] at e
      rw [valV_pos c, List.any_cons, e]; rfl
    · rw [decide_eq_false c] at e
      rw [valV_neg c, List.any_cons, e, all2_any hp t]; rfl
theorem valV_some_of_any {kvs : List (Key × V)} {k : Key} (h : (kvs.any fun kv => decide (kv.1 = k)) = true) : (valV kvs k).isSome = true := by
  induction kvs with
  | nil => cases h
  | cons kv r ih =>
    by_cases c : kv.1 = k
    · rw [valV_pos c]; rfl
    · rw [valV_neg c]
      rw [List.any_cons, decide_eq_false c, Bool.false_or] at h
      exact ih h
theorem functionF_at {ts : List Str} {st st' : RS} {f : Str × Nat} (hs : st.at_ < ts.length) (h : functionF ts st = some (f, st')) : st.at_ < st'.at_ := by
  unfold functionF at h
  split at h
  · cases b : blockF ts 6 { st with at_ := st.at_ + 1 } with
    | none => rw [b] at h; cases h
    | some st2 =>
      rw [b] at h
      simp only at h
      split at h
      · cases o : only1 (exL ((wordsAt ts st2.at_).drop 1)) with
        | none => rw [o] at h; cases h
        | some e =>
          rw [o] at h
          cases h
          have t : st.at_ + 1 ≤ st2.at_ := (blockF_at (st := { st with at_ := st.at_ + 1 }) hs b).1
          show st.at_ < st2.at_ + 1
          omega
      · cases h
  · cases h

end
end K12
namespace K12
open PySem L2 TL
section
variable {P : Program} {w : World} {K : PySem.W.Frag} {mg : Str → Option Value} {base : Heap} {A : Ads}
theorem ok_check_calls (T : Txt K mg A) : FnOk P w K mg base (L2.CX P w) 1 A.check_calls A.check_calls_d ["calls", "functions"] (spCalls A.rc A.ec A.NoProgram A.Function) := by
  refine T.F_check_calls.okX sc_check_calls (fun vs H Q E h => ?_) (fun cdv A0 outer s H vs Q E hr h => ?_)
  · obtain ⟨a, d, os, kvs, M, cs, fs, rfl, ha, hd, hos, hfs, q1, q2⟩ := h
    rfl
  obtain ⟨a, d, os, kvs, M, cs, fs, rfl, ha, hd, hos, hfs, q1, q2⟩ := h
  refine ⟨_, (pss_one (ps_for (passes_of rfl) rfl (pi_list (pv 0)) (pg_name (i := 2) sc_check_calls.nd rfl (Or.inl rfl))
    (pss_one (ps_ifC (PW.pt (pw_or (pt_cmp (pc_dnotin (hu_of hr) (pe_fld (pv 2) rfl) (pv 1))) (pw_or1 (pt_cmpR op_ne (pe_callB call_lenK (by rfl) T.z_len (by decide +kernel) (pa_cons (pe_fld (pe_dget (hu_of hr) (pv 1) (pe_fld (pv 2) rfl) (fun _ _ => rfl)) rfl) pa_nil)) (pe_callB call_lenK (by rfl) T.z_len (by decide +kernel) (pa_cons (pe_fld (pv 2) rfl) pa_nil)) (nomark _)))))
    (pss_one (ps_raise rfl (takes_of rfl rfl rfl rfl) (pmk_own PySem.F.excBase_ValueError T.x_NoProgram T.m_NoProgram T.kk_NoProgram (raises_own T.bb_NoProgram T.tt_NoProgram) (by exact rfl))))
    pss_nil)))), ?_⟩
  refine ⟨_, rfl, a, rfl, ⟨_, SqL.of ha⟩, for_list (xs := os) (fun i σ H' => ∃ z : Option V, σ = [some (.ref a), some (.ref d), z] ∧ H' = H ∧ (cs.take i).all (callOk fs) = true) ⟨none, rfl, rfl, rfl⟩ (fun i σ H' _ ⟨_, _, h, _⟩ => by rw [h]; exact SqL.of ha) ?_ ?_⟩
  · rintro i x σ H' hx ⟨z, rfl, rfl, hall⟩
    obtain ⟨c, hc, n, b, es, hel, p, dx, lg, os2, rfl, g1, g2, g3, g4⟩ := hos.at hx
    have hlen := g4.length
    have hi : i < cs.length := by
      by_cases h : i < cs.length
      · exact h
      · rw [List.getElem?_eq_none (by omega)] at hc; cases hc
    have ht : (cs.take (i + 1)).all (callOk fs) = callOk fs c := by
      rw [List.take_succ, List.all_append, hall, hc]
      show (true && (callOk fs c && true)) = callOk fs c
      rw [Bool.and_true, Bool.true_and]
    refine ⟨!callOk fs c, H', fun Z hZ => ?_, ?_⟩
    · refine ⟨_, rfl, p, A.Call, dx, _, _, rfl, g1, T.cl_Call, T.n_Call_fun, rfl, _, rfl, d, _, rfl, DGet.k (k := .inr c.1) hd, _, rfl, ?_⟩
      have hp : ∀ (f : Str × Nat) (kv : Key × V), FunK A.Function M H' f kv → decide (f.1 = c.1) = decide (kv.1 = (.inr c.1 : Key)) := fun f kv h => by
        rw [h.1]
        by_cases q : f.1 = c.1
        · rw [decide_eq_true q, decide_eq_true (congrArg Sum.inr q : (.inr f.1 : Key) = .inr c.1)]
        · rw [decide_eq_false q, decide_eq_false (fun e : (.inr f.1 : Key) = .inr c.1 => q (Sum.inr.inj e))]
      unfold callOk at hZ
      rcases all2_find (p := fun f => decide (f.1 = c.1)) (k := .inr c.1) hp hfs with ⟨e1, e2⟩ | ⟨f, v, hf, e1, e3, e2, hr⟩
      · rw [e1] at hZ
        rw [e2]
        exact iteT hZ
      · rw [e1] at hZ
        rw [e2]
        refine iteF ?_
        obtain ⟨pf, dxf, lf, ps, bd, gv, hv, f1, f2, f3, f4⟩ := hr.2
        have hv' : v = .ref pf := hv
        subst hv'
        refine ⟨_, rfl, _, rfl, p, A.Call, dx, _, _, rfl, g1, T.cl_Call, T.n_Call_fun, rfl, d, _, rfl, (by rw [← e2]; exact DGet.k (k := .inr c.1) hd), pf, A.Function, dxf, _, _, rfl, f1, T.cl_Function, T.n_Function_params, rfl, lf, _, rfl, .inl (SqL.of f3), _, rfl, p, A.Call, dx, _, _, rfl, g1, T.cl_Call, T.n_Call_given, rfl, lg, _, rfl, .inl (SqL.of g3), rfl, _, rfl, ?_⟩
        rw [List.length_map]
        have hq : (!decide (V.int (ps.length : Nat) = V.int (os2.length : Nat))) = !decide (f.2 = c.2) := by
          congr 1
          rw [f4, ← hlen, hel]
          by_cases q : f.2 = c.2
          · rw [decide_eq_true q, q, decide_eq_true rfl]
          · rw [decide_eq_false q, decide_eq_false fun e => q (by have := V.int.inj e; omega)]
        show Z (!decide (V.int (ps.length : Nat) = V.int (os2.length : Nat))) H'
        rw [hq]
        exact hZ
    · cases hcc : callOk fs c with
      | true => exact iteF ⟨_, rfl, rfl, by rw [ht, hcc]⟩
      | false =>
        refine iteT (q2 ?_)
        cases hall2 : cs.all (callOk fs) with
        | false => rfl
        | true =>
          have := List.all_eq_true.mp hall2 c (List.mem_of_getElem? hc)
          rw [hcc] at this; cases this
  · rintro σ H' ⟨z, rfl, rfl, hall⟩
    rw [← hos.length, List.take_length] at hall
    exact q1 hall

end
end K12
namespace K12
open PySem L2 TL
section
variable {P : Program} {w : World} {K : PySem.W.Frag} {mg : Str → Option Value} {base : Heap} {A : Ads}
theorem ok_Program_init (T : Txt K mg A) : FnOk P w K mg base CX0 1 A.Program_init A.Program_init_d ["self", "texts", "main", "functions", "by_number"] (spRI A.Program ["texts", "main", "functions", "by_number"]) := by
  refine T.F_Program_init.ok sc_Program_init (fun vs H Q E h => ?_) (fun cdv A0 outer s H vs Q E hr h => ?_)
  · obtain ⟨p, dx, xs, rfl, hl, hp, q⟩ := h
    exact congrArg (· + 1) hl
  obtain ⟨p, dx, xs, rfl, hl, hp, q⟩ := h
  refine ⟨_, (pss_cons (ps_fld (pv 0) (pv 1) rfl)
   (pss_cons (ps_fld (pv 0) (pv 2) rfl)
   (pss_cons (ps_fld (pv 0) (pv 3) rfl)
   (pss_one (ps_fld (pv 0) (pv 4) rfl))))), ?_⟩
  obtain ⟨x0, x1, x2, x3, rfl⟩ : ∃ x0 x1 x2 x3, xs = [x0, x1, x2, x3] := by
    match xs, hl with
    | [x0, x1, x2, x3], _ => exact ⟨x0, x1, x2, x3, rfl⟩
  refine ⟨_, rfl, _, rfl, p, A.Program, dx, _, rfl, hp, T.cl_Program, T.n_Program_texts, (by show 0 < 1000; decide), ?_⟩
  refine ⟨_, rfl, _, rfl, p, A.Program, dx, _, rfl, upd_same, T.cl_Program, T.n_Program_main, (by show 1 < 1000; decide), ?_⟩
  refine ⟨_, rfl, _, rfl, p, A.Program, dx, _, rfl, upd_same, T.cl_Program, T.n_Program_functions, (by show 2 < 1000; decide), ?_⟩
  refine ⟨_, rfl, _, rfl, p, A.Program, dx, _, rfl, upd_same, T.cl_Program, T.n_Program_by_number, (by show 3 < 1000; decide), ?_⟩
  rw [upd_upd, upd_upd, upd_upd]
  exact q

end
end K12
namespace K12
open PySem L2 TL
section
variable {P : Program} {w : World} {K : PySem.W.Frag} {mg : Str → Option Value} {base : Heap} {A : Ads}
theorem ok_Program_text (T : Txt K mg A) : FnOk P w K mg base CX0 1 A.Program_text A.Program_text_d ["self"] (spPText K A.rc A.ec A.Program) := by
  refine T.F_Program_text.ok sc_Program_text (fun vs H Q E h => ?_) (fun cdv A0 outer s H vs Q E hr h => ?_)
  · obtain ⟨v, ts, num, rfl, hP, hl, ht, q⟩ := h
    rfl
  obtain ⟨v, ts, num, rfl, hP, hl, ht, q⟩ := h
  refine ⟨_, (pss_one (ps_ret (pe_join pe_str (pe_fld (pv 0) rfl)))), ?_⟩
  obtain ⟨p, dx, a, d, m, f, kvs, rfl, hp, ha, hd, hn⟩ := hP
  refine ⟨⟨_, rfl⟩, _, rfl, p, A.Program, dx, _, _, rfl, hp, T.cl_Program, T.n_Program_texts, rfl, _, a, ts, rfl, rfl, .inl ha, ?_, q⟩
  have h1 : (ts.map (·.length)).sum ≤ ts.length * 99999 := by
    clear ha hn q hl
    induction ts with
    | nil => exact Nat.zero_le _
    | cons x r ih =>
      have := ih fun t h => ht t (List.mem_cons_of_mem _ h)
      have := ht x List.mem_cons_self
      rw [List.map_cons, List.sum_cons, List.length_cons]
      omega
  have h2 : (Str.ofString "\n").length = 1 := by decide +kernel
  rw [h2]
  omega

/-! ### rows as the law writes them -/
def ExOk (e : Ex) : Prop := e.Wf ∧ e.depth ≤ 6 ∧ e.parts ≤ 15
def RT.pairs : RT → List (Str × List Str)
  | .skip => [("skip", ["skip"])]
  | .set b e => [("set", ["set"]), (b, [b]), (e.text, e.toks)]
  | .put a b => [("put", ["put"]), (a.text, a.toks), (b.text, b.toks)]
  | .ask b w e => [("ask", ["ask"]), (b, [b]), (w, [w]), (e.text, e.toks)]
  | .draw b w => [("draw", ["draw"]), (b, [b]), (w, [w])]
  | .tell e => [("tell", ["tell"]), (e.text, e.toks)]
  | .ifr e => [("if", ["if"]), (e.text, e.toks)]
  | .loop e => [("while", ["while"]), (e.text, e.toks)]
  | .call b f es => ("call", ["call"]) :: (b, [b]) :: (f, [f]) :: es.map fun e => (e.text, e.toks)
  | .give e => [("give", ["give"]), (e.text, e.toks)]
def RT.words (rt : RT) : List Str := rt.pairs.map Prod.fst
def RT.text (rt : RT) : Str := Txt.join (Str.ofString " ") rt.words
def RT.toks : RT → List Str
  | .skip => ["skip"]
  | .set b e => "set" :: b :: e.toks
  | .put a b => "put" :: (a.toks ++ b.toks)
  | .ask b w e => "ask" :: b :: w :: e.toks
  | .draw b w => ["draw", b, w]
  | .tell e => "tell" :: e.toks
  | .ifr e => "if" :: e.toks
  | .loop e => "while" :: e.toks
  | .call b f es => "call" :: b :: f :: es.flatMap Ex.toks
  | .give e => "give" :: e.toks
def RT.Ok : RT → Prop
  | .skip => True
  | .set b e => isNameW b = true ∧ ExOk e
  | .put a b => ExOk a ∧ ExOk b
  | .ask b w e => isNameW b = true ∧ isNameW w = true ∧ ExOk e
  | .draw b w => isNameW b = true ∧ isNameW w = true
  | .tell e => ExOk e
  | .ifr e => ExOk e
  | .loop e => ExOk e
  | .call b f es => isNameW b = true ∧ isNameW f = true ∧ (∀ e ∈ es, ExOk e) ∧ es.length ≤ 3
  | .give e => ExOk e
theorem joinL_app : ∀ (a b : List (List Nat)), a ≠ [] → b ≠ [] → joinL [32] a ++ ([32] ++ joinL [32] b) = joinL [32] (a ++ b) := by
  intro a
  induction a with
  | nil => intro b h; exact absurd rfl h
  | cons x a ih =>
    intro b _ hb
    cases a with
    | nil =>
      cases b with
      | nil => exact absurd rfl hb
      | cons y b => rfl
    | cons x2 a =>
      have := ih b (by simp) hb
      show (x ++ ([32] ++ joinL [32] (x2 :: a))) ++ _ = x ++ ([32] ++ joinL [32] ((x2 :: a) ++ b))
      rw [← this]
      simp only [List.append_assoc]
theorem tl_blank : tl (Str.ofString " ") = [32] := by decide +kernel
theorem tl_end : tl (Str.ofString "\n") = [10] := by decide +kernel
theorem join_toks : ∀ (ps : List (Str × List Str)), ps ≠ [] → (∀ p ∈ ps, p.2 ≠ [] ∧ tl p.1 = joinL [32] (p.2.map tl)) → joinL [32] ((ps.map Prod.fst).map tl) = joinL [32] ((ps.flatMap Prod.snd).map tl)
  | [], h, _ => absurd rfl h
  | [p], _, h => by
    have := (h p (List.mem_singleton.mpr rfl)).2
    show tl p.1 = joinL [32] ((p.2 ++ []).map tl)
    rw [List.append_nil]; exact this
  | p :: q :: r, _, h => by
    have h1 := h p List.mem_cons_self
    have h2 := join_toks (q :: r) (by simp) fun z hz => h z (List.mem_cons_of_mem _ hz)
    show tl p.1 ++ ([32] ++ joinL [32] (((q :: r).map Prod.fst).map tl)) = joinL [32] ((p.2 ++ (q :: r).flatMap Prod.snd).map tl)
    rw [h1.2, h2, List.map_append]
    refine joinL_app _ _ (fun e => h1.1 (List.map_eq_nil_iff.mp e)) fun e => ?_
    have hq := (h q (List.mem_cons_of_mem _ List.mem_cons_self)).1
    have e2 := List.map_eq_nil_iff.mp e
    rw [List.flatMap_cons, List.append_eq_nil_iff] at e2
    exact hq e2.1
theorem Ex.toks_ne (e : Ex) : e.toks ≠ [] := fun h => by
  have := e.toks_len
  rw [h] at this
  have := e.parts_pos
  simp at *; omega
theorem pair_one (s : Str) : ([s] : List Str) ≠ [] ∧ tl s = joinL [32] (([s] : List Str).map tl) := ⟨by simp, rfl⟩
theorem pair_ex (e : Ex) : e.toks ≠ [] ∧ tl e.text = joinL [32] (e.toks.map tl) := ⟨e.toks_ne, Ex.text_toks⟩
theorem RT.pairs_ok (rt : RT) : ∀ p ∈ rt.pairs, p.2 ≠ [] ∧ tl p.1 = joinL [32] (p.2.map tl) := by
  cases rt with
  | call b f es =>
    intro p hp
    rcases List.mem_cons.mp hp with rfl | hp
    · exact pair_one _
    rcases List.mem_cons.mp hp with rfl | hp
    · exact pair_one _
    rcases List.mem_cons.mp hp with rfl | hp
    · exact pair_one _
    · obtain ⟨e, _, rfl⟩ := List.mem_map.mp hp
      exact pair_ex e
  | _ =>
    intro p hp
    simp only [RT.pairs, List.mem_cons, List.not_mem_nil, or_false] at hp
    first
      | (rcases hp with rfl | rfl | rfl | rfl <;> first | exact pair_one _ | exact pair_ex _)
      | (rcases hp with rfl | rfl | rfl <;> first | exact pair_one _ | exact pair_ex _)
      | (rcases hp with rfl | rfl <;> first | exact pair_one _ | exact pair_ex _)
      | (subst hp; first | exact pair_one _ | exact pair_ex _)
theorem RT.flat (rt : RT) : rt.pairs.flatMap Prod.snd = rt.toks := by
  cases rt with
  | call b f es =>
    show Str.ofString "call" :: b :: f :: (es.map fun e => (e.text, e.toks)).flatMap Prod.snd = Str.ofString "call" :: b :: f :: es.flatMap Ex.toks
    rw [List.flatMap_map]
  | _ => simp [RT.pairs, RT.toks]
theorem RT.tl_text (rt : RT) : tl rt.text = joinL [32] (rt.toks.map tl) := by
  unfold RT.text RT.words
  rw [join_eq, tl_join, tl_blank, join_toks rt.pairs (by cases rt <;> simp [RT.pairs]) rt.pairs_ok, rt.flat]
/-- letters and figures, at most six -/
def TokOk (s : Str) : Prop := (tl s).length ≤ 6 ∧ ∀ c ∈ tl s, 48 ≤ c ∧ c ≤ 122
theorem tok_name {s : Str} (h : isNameW s = true) : TokOk s := by
  obtain ⟨h1, _, _, _, h4⟩ := nameW_parts h
  exact ⟨h1.2, fun c hc => by have := h4 c hc; omega⟩
theorem tok_ex {e : Ex} (h : e.Wf) : ∀ s ∈ e.toks, TokOk s := fun s hs => by
  have := Ex.toks_ok h s hs
  exact ⟨this.1, fun c hc => by have := this.2 c hc; omega⟩
theorem tok_word : ∀ s ∈ (["skip", "set", "put", "ask", "draw", "tell", "if", "while", "call", "give", "fun", "main", "else", "end"] : List Str), TokOk s := by
  unfold TokOk; decide +kernel
theorem RT.tok {rt : RT} (h : rt.Ok) : ∀ s ∈ rt.toks, TokOk s := by
  have w : ∀ {s : Str}, s ∈ (["skip", "set", "put", "ask", "draw", "tell", "if", "while", "call", "give", "fun", "main", "else", "end"] : List Str) → TokOk s := fun {s} hs => tok_word s hs
  cases rt with
  | skip => intro s hs; rw [List.mem_singleton.mp hs]; exact w (by decide +kernel)
  | set b e =>
    intro s hs
    rcases List.mem_cons.mp hs with rfl | hs
    · exact w (by decide +kernel)
    rcases List.mem_cons.mp hs with rfl | hs
    · exact tok_name h.1
    · exact tok_ex h.2.1 s hs
  | put a b =>
    intro s hs
    rcases List.mem_cons.mp hs with rfl | hs
    · exact w (by decide +kernel)
    rcases List.mem_append.mp hs with hs | hs
    · exact tok_ex h.1.1 s hs
    · exact tok_ex h.2.1 s hs
  | ask b c e =>
    intro s hs
    rcases List.mem_cons.mp hs with rfl | hs
    · exact w (by decide +kernel)
    rcases List.mem_cons.mp hs with rfl | hs
    · exact tok_name h.1
    rcases List.mem_cons.mp hs with rfl | hs
    · exact tok_name h.2.1
    · exact tok_ex h.2.2.1 s hs
  | draw b c =>
    intro s hs
    rcases List.mem_cons.mp hs with rfl | hs
    · exact w (by decide +kernel)
    rcases List.mem_cons.mp hs with rfl | hs
    · exact tok_name h.1
    · rw [List.mem_singleton.mp hs]; exact tok_name h.2
  | tell e =>
    intro s hs
    rcases List.mem_cons.mp hs with rfl | hs
    · exact w (by decide +kernel)
    · exact tok_ex h.1 s hs
  | ifr e =>
    intro s hs
    rcases List.mem_cons.mp hs with rfl | hs
    · exact w (by decide +kernel)
    · exact tok_ex h.1 s hs
  | loop e =>
    intro s hs
    rcases List.mem_cons.mp hs with rfl | hs
    · exact w (by decide +kernel)
    · exact tok_ex h.1 s hs
  | give e =>
    intro s hs
    rcases List.mem_cons.mp hs with rfl | hs
    · exact w (by decide +kernel)
    · exact tok_ex h.1 s hs
  | call b f es =>
    intro s hs
    rcases List.mem_cons.mp hs with rfl | hs
    · exact w (by decide +kernel)
    rcases List.mem_cons.mp hs with rfl | hs
    · exact tok_name h.1
    rcases List.mem_cons.mp hs with rfl | hs
    · exact tok_name h.2.1
    · obtain ⟨e, he, hs⟩ := List.mem_flatMap.mp hs
      exact tok_ex (h.2.2.1 e he).1 s hs
def LineOk (t : Str) : Prop := t.length ≤ 1000 ∧ ∀ c ∈ tl t, 32 ≤ c ∧ c ≤ 122
theorem joinL_le {ps : List (List Nat)} (h : ∀ p ∈ ps, p.length ≤ 6) : (joinL [32] ps).length ≤ 7 * ps.length := by
  induction ps with
  | nil => exact Nat.zero_le _
  | cons p r ih =>
    have h1 := h p List.mem_cons_self
    have h2 := ih fun q hq => h q (List.mem_cons_of_mem _ hq)
    cases r with
    | nil => show p.length ≤ 7 * 1; omega
    | cons q r =>
      show (p ++ ([32] ++ joinL [32] (q :: r))).length ≤ 7 * ((q :: r).length + 1)
      rw [List.length_append, List.length_append]
      show p.length + (1 + _) ≤ _
      omega
theorem joinL_mem2 {b : Nat} : ∀ {ps : List (List Nat)} {c : Nat}, c ∈ joinL [b] ps → c = b ∨ ∃ p ∈ ps, c ∈ p
  | [], _, h => by cases h
  | [x], c, h => .inr ⟨x, List.mem_singleton.mpr rfl, h⟩
  | x :: y :: r, c, h => by
    have h' : c ∈ x ++ ([b] ++ joinL [b] (y :: r)) := h
    rcases List.mem_append.mp h' with h | h
    · exact .inr ⟨x, List.mem_cons_self, h⟩
    rcases List.mem_append.mp h with h | h
    · exact .inl (List.mem_singleton.mp h)
    · rcases joinL_mem2 h with h | ⟨p, hp, hc⟩
      · exact .inl h
      · exact .inr ⟨p, List.mem_cons_of_mem _ hp, hc⟩
theorem line_of {t : Str} {ws : List Str} (e : tl t = joinL [32] (ws.map tl)) (hw : ∀ s ∈ ws, TokOk s) (hl : ws.length ≤ 100) : LineOk t := by
  constructor
  · rw [len_tl, e]
    have := joinL_le (ps := ws.map tl) fun p hp => by
      obtain ⟨s, hs, rfl⟩ := List.mem_map.mp hp
      exact (hw s hs).1
    rw [List.length_map] at this
    omega
  · intro c hc
    rw [e] at hc
    rcases joinL_mem2 hc with rfl | ⟨p, hp, hc⟩
    · decide
    · obtain ⟨s, hs, rfl⟩ := List.mem_map.mp hp
      have := (hw s hs).2 c hc
      omega
theorem split_of {t : Str} {ws : List Str} (e : tl t = joinL [32] (ws.map tl)) (hw : ∀ s ∈ ws, TokOk s) (hn : ws ≠ []) : Txt.split t (Str.ofString " ") = ws := by
  have ej : t = Txt.join (Str.ofString " ") ws := by
    refine ext_tl ?_
    rw [join_eq, tl_join, tl_blank, e]
  rw [ej]
  refine split_join (s := 32) (S := []) tl_blank (by decide +kernel) hn fun p hp hm => ?_
  have := (hw p hp).2 32 hm
  omega
theorem RT.toks_ne (rt : RT) : rt.toks ≠ [] := by cases rt <;> simp [RT.toks]
theorem RT.split {rt : RT} (h : rt.Ok) : Txt.split rt.text (Str.ofString " ") = rt.toks := split_of rt.tl_text (RT.tok h) rt.toks_ne
theorem flat_len {es : List Ex} (h : ∀ e ∈ es, ExOk e) : (es.flatMap Ex.toks).length ≤ 15 * es.length := by
  induction es with
  | nil => exact Nat.zero_le _
  | cons e r ih =>
    have h1 := (h e List.mem_cons_self).2.2
    have h2 := ih fun x hx => h x (List.mem_cons_of_mem _ hx)
    rw [List.flatMap_cons, List.length_append, e.toks_len, List.length_cons]
    omega
theorem RT.toks_len {rt : RT} (h : rt.Ok) : rt.toks.length ≤ 100 := by
  cases rt with
  | skip => show 1 ≤ 100; decide
  | set b e => have := h.2.2.2; have := e.toks_len; show e.toks.length + 1 + 1 ≤ 100; omega
  | put a b => have := h.1.2.2; have := h.2.2.2; have := a.toks_len; have := b.toks_len; show (a.toks ++ b.toks).length + 1 ≤ 100; rw [List.length_append]; omega
  | ask b w e => have := h.2.2.2.2; have := e.toks_len; show e.toks.length + 1 + 1 + 1 ≤ 100; omega
  | draw b w => show 3 ≤ 100; decide
  | tell e => have := h.2.2; have := e.toks_len; show e.toks.length + 1 ≤ 100; omega
  | ifr e => have := h.2.2; have := e.toks_len; show e.toks.length + 1 ≤ 100; omega
  | loop e => have := h.2.2; have := e.toks_len; show e.toks.length + 1 ≤ 100; omega
  | give e => have := h.2.2; have := e.toks_len; show e.toks.length + 1 ≤ 100; omega
  | call b f es => have := flat_len h.2.2.1; have := h.2.2.2; show (es.flatMap Ex.toks).length + 1 + 1 + 1 ≤ 100; omega
theorem RT.line {rt : RT} (h : rt.Ok) : LineOk rt.text := line_of rt.tl_text (RT.tok h) (RT.toks_len h)
theorem exL_flat : ∀ {es : List Ex}, (∀ e ∈ es, ExOk e) → exL (es.flatMap Ex.toks) = some es
  | [], _ => rfl
  | e :: r, h => by
    have h1 := h e List.mem_cons_self
    have h2 := exL_flat (es := r) fun x hx => h x (List.mem_cons_of_mem _ hx)
    unfold exL at h2 ⊢
    rw [List.flatMap_cons]
    have pt := parse_toks (d := 6) h1.1 h1.2.1 (r.flatMap Ex.toks)
    cases q : e.toks ++ r.flatMap Ex.toks with
    | nil => exact absurd (List.append_eq_nil_iff.mp q).1 e.toks_ne
    | cons x t =>
      rw [parseAll_step, ← q, pt]
      simp only
      rw [if_pos h1.2.2, h2]
theorem exL_one {e : Ex} (h : ExOk e) : exL e.toks = some [e] := by
  have := exL_flat (es := [e]) fun x hx => by rw [List.mem_singleton.mp hx]; exact h
  rw [List.flatMap_cons, List.flatMap_nil, List.append_nil] at this
  exact this
theorem exL_two {a b : Ex} (h1 : ExOk a) (h2 : ExOk b) : exL (a.toks ++ b.toks) = some [a, b] := by
  have := exL_flat (es := [a, b]) fun x hx => by
    simp only [List.mem_cons, List.not_mem_nil, or_false] at hx
    rcases hx with rfl | rfl
    · exact h1
    · exact h2
  rw [List.flatMap_cons, List.flatMap_cons, List.flatMap_nil, List.append_nil] at this
  exact this
/-- rows of one line but calls -/
def RT.simple : RT → Bool
  | .call _ _ _ => false
  | .ifr _ => false
  | .loop _ => false
  | .give _ => false
  | _ => true
theorem namesOk1 {b : Str} (h : isNameW b = true) : namesOk [b] 1 = true := by unfold namesOk; rw [List.all_cons, h]; rfl
theorem namesOk2 {b w : Str} (h : isNameW b = true) (h2 : isNameW w = true) : namesOk [b, w] 2 = true := by unfold namesOk; rw [List.all_cons, List.all_cons, h, h2]; rfl
theorem simpleF_toks {rt : RT} (h : rt.Ok) (s : rt.simple = true) : simpleF rt.toks = some rt := by
  cases rt with
  | skip =>
    show simpleF [Str.ofString "skip"] = some .skip
    unfold simpleF
    rw [if_neg (by decide +kernel), if_neg (by decide +kernel), if_neg (by decide +kernel), if_neg (by decide +kernel), if_neg (by decide +kernel), if_pos rfl]
  | set b e =>
    have e1 : hd0 (RT.set b e).toks = "set" := rfl
    have e2 : (((RT.set b e).toks.drop 1).take 1) = [b] := rfl
    have e3 : (RT.set b e).toks.drop 2 = e.toks := rfl
    unfold simpleF
    rw [if_pos e1, e2, if_pos (namesOk1 h.1), e3, exL_one h.2]; rfl
  | put a b =>
    have e1 : hd0 (RT.put a b).toks = "put" := rfl
    have e3 : (RT.put a b).toks.drop 1 = a.toks ++ b.toks := rfl
    unfold simpleF
    rw [e1, if_neg (by decide +kernel), if_pos rfl, e3, exL_two h.1 h.2]
  | ask b w e =>
    have e1 : hd0 (RT.ask b w e).toks = "ask" := rfl
    have e2 : (((RT.ask b w e).toks.drop 1).take 2) = [b, w] := rfl
    have e3 : (RT.ask b w e).toks.drop 3 = e.toks := rfl
    unfold simpleF
    rw [e1, if_neg (by decide +kernel), if_neg (by decide +kernel), if_pos rfl, e2, if_pos (namesOk2 h.1 h.2.1), e3, exL_one h.2.2]; rfl
  | draw b w =>
    have e1 : hd0 (RT.draw b w).toks = "draw" := rfl
    have e2 : ((RT.draw b w).toks.drop 1) = [b, w] := rfl
    unfold simpleF
    rw [e1, if_neg (by decide +kernel), if_neg (by decide +kernel), if_neg (by decide +kernel), if_pos rfl, e2, if_pos (namesOk2 h.1 h.2)]; rfl
  | tell e =>
    have e1 : hd0 (RT.tell e).toks = "tell" := rfl
    have e3 : (RT.tell e).toks.drop 1 = e.toks := rfl
    unfold simpleF
    rw [e1, if_neg (by decide +kernel), if_neg (by decide +kernel), if_neg (by decide +kernel), if_neg (by decide +kernel), if_pos rfl, e3, exL_one h]; rfl
  | _ => cases s
theorem callF_toks {b f : Str} {es : List Ex} (h : (RT.call b f es).Ok) : callF (RT.call b f es).toks = some (b, f, es) := by
  have e2 : (((RT.call b f es).toks.drop 1).take 2) = [b, f] := rfl
  have e3 : (RT.call b f es).toks.drop 3 = es.flatMap Ex.toks := rfl
  unfold callF
  rw [e2, if_pos (namesOk2 h.1 h.2.1), e3, exL_flat h.2.2.1]; rfl
theorem simple_hd {rt : RT} (s : rt.simple = true) : hd0 rt.toks ∈ ROWW ∧ ¬ (hd0 rt.toks = "if" ∨ hd0 rt.toks = "while") ∧ ¬ hd0 rt.toks = "call" := by
  cases rt with
  | skip => decide +kernel
  | set b e => show hd0 ("set" :: ([] : List Str)) ∈ ROWW ∧ _; exact ⟨by decide +kernel, by show ¬ (hd0 ("set" :: ([] : List Str)) = "if" ∨ hd0 ("set" :: ([] : List Str)) = "while"); decide +kernel, by show ¬ hd0 ("set" :: ([] : List Str)) = "call"; decide +kernel⟩
  | put a b => exact ⟨by show hd0 ("put" :: ([] : List Str)) ∈ ROWW; decide +kernel, by show ¬ (hd0 ("put" :: ([] : List Str)) = "if" ∨ hd0 ("put" :: ([] : List Str)) = "while"); decide +kernel, by show ¬ hd0 ("put" :: ([] : List Str)) = "call"; decide +kernel⟩
  | ask b w e => exact ⟨by show hd0 ("ask" :: ([] : List Str)) ∈ ROWW; decide +kernel, by show ¬ (hd0 ("ask" :: ([] : List Str)) = "if" ∨ hd0 ("ask" :: ([] : List Str)) = "while"); decide +kernel, by show ¬ hd0 ("ask" :: ([] : List Str)) = "call"; decide +kernel⟩
  | draw b w => exact ⟨by show hd0 ("draw" :: ([] : List Str)) ∈ ROWW; decide +kernel, by show ¬ (hd0 ("draw" :: ([] : List Str)) = "if" ∨ hd0 ("draw" :: ([] : List Str)) = "while"); decide +kernel, by show ¬ hd0 ("draw" :: ([] : List Str)) = "call"; decide +kernel⟩
  | tell e => exact ⟨by show hd0 ("tell" :: ([] : List Str)) ∈ ROWW; decide +kernel, by show ¬ (hd0 ("tell" :: ([] : List Str)) = "if" ∨ hd0 ("tell" :: ([] : List Str)) = "while"); decide +kernel, by show ¬ hd0 ("tell" :: ([] : List Str)) = "call"; decide +kernel⟩
  | _ => cases s
/-! ### where rows stand -/
theorem rowOf_put (num : List (Nat × RT)) (n : Nat) (r : RT) (m : Nat) : rowOf (putN num n r) (m : Int) = if m = n then some r else rowOf num (m : Int) := by
  have key : ∀ l : List (Nat × RT), rowOf (l.map fun x => if x.1 = n then (x.1, r) else x) (m : Int) = if m = n then (rowOf l (m : Int)).map (fun _ => r) else rowOf l (m : Int) := by
    intro l
    induction l with
    | nil => unfold rowOf; split <;> rfl
    | cons x t ih =>
      unfold rowOf at ih ⊢
      rw [List.map_cons, List.find?_cons, List.find?_cons]
      by_cases c : (x.1 : Int) = (m : Int)
      · have e1 : ((if x.1 = n then (x.1, r) else x).1 : Int) = (m : Int) := by split <;> exact c
        rw [decide_eq_true e1, decide_eq_true c]
        simp only
        by_cases c2 : m = n
        · have : x.1 = n := by omega
          rw [if_pos c2, if_pos this]; rfl
        · have : ¬ x.1 = n := by omega
          rw [if_neg c2, if_neg this]
      · have e1 : ¬ ((if x.1 = n then (x.1, r) else x).1 : Int) = (m : Int) := by split <;> exact c
        rw [decide_eq_false e1, decide_eq_false c]
        exact ih
  unfold putN
  by_cases c : (num.any fun x => decide (x.1 = n)) = true
  · rw [if_pos c, key]
    by_cases c2 : m = n
    · rw [if_pos c2, if_pos c2]
      obtain ⟨x, hx, hd⟩ := List.any_eq_true.mp c
      have hd := of_decide_eq_true hd
      cases q : rowOf num (m : Int) with
      | some _ => rfl
      | none =>
        unfold rowOf at q
        rw [Option.map_eq_none_iff, List.find?_eq_none] at q
        have := q x hx
        rw [decide_eq_true (by omega : (x.1 : Int) = (m : Int))] at this
        exact absurd rfl this
    · rw [if_neg c2, if_neg c2]
  · rw [if_neg c]
    unfold rowOf
    rw [List.find?_append]
    by_cases c2 : m = n
    · rw [if_pos c2]
      have : num.find? (fun x => decide ((x.1 : Int) = (m : Int))) = none := by
        rw [List.find?_eq_none]
        intro x hx hd
        have hd := of_decide_eq_true hd
        exact c (List.any_eq_true.mpr ⟨x, hx, decide_eq_true (by omega)⟩)
      rw [this, List.find?_cons, decide_eq_true (by rw [c2])]; rfl
    · rw [if_neg c2, List.find?_cons, decide_eq_false (fun e : ((n, r).1 : Int) = (m : Int) => c2 (by have e' : (n : Int) = m := e; omega))]
      show Option.map _ (Option.or _ none) = _
      rw [Option.or_none]
def NumIs (num : List (Nat × RT)) (B : List (Option RT)) : Prop := ∀ n : Nat, rowOf num (n : Int) = B.getD n none
theorem getD_app {B C : List (Option RT)} (n : Nat) : (B ++ C).getD n none = if n < B.length then B.getD n none else C.getD (n - B.length) none := by
  rw [List.getD_eq_getElem?_getD, List.getD_eq_getElem?_getD, List.getD_eq_getElem?_getD]
  by_cases h : n < B.length
  · rw [if_pos h, List.getElem?_append_left h]
  · rw [if_neg h, List.getElem?_append_right (by omega)]
theorem getD_out {B : List (Option RT)} {n : Nat} (h : B.length ≤ n) : B.getD n none = none := by
  rw [List.getD_eq_getElem?_getD, List.getElem?_eq_none h]; rfl
theorem NumIs.pad {num : List (Nat × RT)} {B : List (Option RT)} (h : NumIs num B) : NumIs num (B ++ [none]) := fun n => by
  rw [h n, getD_app]
  by_cases c : n < B.length
  · rw [if_pos c]
  · rw [if_neg c, getD_out (by omega)]
    cases n - B.length with
    | zero => rfl
    | succ k => rfl
theorem NumIs.put {num : List (Nat × RT)} {B R : List (Option RT)} {n : Nat} {rt : RT} (hn : B.length = n) (h : NumIs num ((B ++ [none]) ++ R)) : NumIs (putN num n rt) (B ++ (some rt :: R)) := fun m => by
  rw [rowOf_put, h m, getD_app, getD_app, getD_app, List.length_append, List.length_singleton]
  by_cases c : m = n
  · rw [if_pos c, if_neg (by omega), c, hn, Nat.sub_self]; rfl
  · rw [if_neg c]
    by_cases c2 : m < B.length
    · rw [if_pos (by omega), if_pos c2, if_pos c2]
    · rw [if_neg (by omega), if_neg c2]
      have : m - B.length = (m - (B.length + 1)) + 1 := by omega
      rw [this, List.getD_cons_succ]
theorem NumIs.put1 {num : List (Nat × RT)} {B : List (Option RT)} {n : Nat} {rt : RT} (hn : B.length = n) (h : NumIs num B) : NumIs (putN num n rt) (B ++ [some rt]) := by
  have := NumIs.put (R := []) (rt := rt) hn (by rw [List.append_nil]; exact h.pad)
  exact this
/-! ### bodies -/
inductive Body (hs : List (Str × Nat)) : Nat → List Str → List (Option RT) → Prop where
  | nil {d : Nat} : Body hs d [] []
  | app {d : Nat} {L1 L2 : List Str} {R1 R2 : List (Option RT)} : Body hs d L1 R1 → Body hs d L2 R2 → Body hs d (L1 ++ L2) (R1 ++ R2)
  | row {d : Nat} {rt : RT} : rt.Ok → rt.simple = true → Body hs d [rt.text] [some rt]
  | call {d : Nat} {b f : Str} {es : List Ex} : (RT.call b f es).Ok → (f, es.length) ∈ hs → Body hs d [(RT.call b f es).text] [some (.call b f es)]
  | loop {d : Nat} {e : Ex} {L : List Str} {R : List (Option RT)} : ExOk e → Body hs d L R → Body hs (d + 1) ((RT.loop e).text :: (L ++ [Str.ofString "end"])) (some (.loop e) :: (R ++ [none]))
  | ifr {d : Nat} {e : Ex} {L1 L2 : List Str} {R1 R2 : List (Option RT)} : ExOk e → Body hs d L1 R1 → Body hs d L2 R2 → Body hs (d + 1) ((RT.ifr e).text :: (L1 ++ (Str.ofString "else" :: (L2 ++ [Str.ofString "end"])))) (some (.ifr e) :: (R1 ++ (none :: (R2 ++ [none]))))
theorem Body.len {hs : List (Str × Nat)} : ∀ {d : Nat} {L : List Str} {R : List (Option RT)}, Body hs d L R → L.length = R.length := by
  intro d L R h
  induction h with
  | nil => rfl
  | app _ _ h1 h2 => rw [List.length_append, List.length_append, h1, h2]
  | row _ _ => rfl
  | call _ _ => rfl
  | loop _ _ h => simp only [List.length_cons, List.length_append, h, List.length_nil]
  | ifr _ _ _ h1 h2 => simp only [List.length_cons, List.length_append, h1, h2, List.length_nil]
theorem line_word : ∀ s ∈ (["else", "end", "main"] : List Str), LineOk s := by unfold LineOk; decide +kernel
theorem Body.lines {hs : List (Str × Nat)} : ∀ {d : Nat} {L : List Str} {R : List (Option RT)}, Body hs d L R → ∀ t ∈ L, LineOk t := by
  intro d L R h
  induction h with
  | nil => intro t ht; cases ht
  | app _ _ h1 h2 =>
    intro t ht
    rcases List.mem_append.mp ht with h | h
    · exact h1 t h
    · exact h2 t h
  | row h _ => intro t ht; rw [List.mem_singleton.mp ht]; exact RT.line h
  | call h _ => intro t ht; rw [List.mem_singleton.mp ht]; exact RT.line h
  | loop he _ h =>
    intro t ht
    rcases List.mem_cons.mp ht with rfl | ht
    · exact RT.line (rt := .loop _) he
    rcases List.mem_append.mp ht with ht | ht
    · exact h t ht
    · rw [List.mem_singleton.mp ht]; exact line_word _ (by decide +kernel)
  | ifr he _ _ h1 h2 =>
    intro t ht
    rcases List.mem_cons.mp ht with rfl | ht
    · exact RT.line (rt := .ifr _) he
    rcases List.mem_append.mp ht with ht | ht
    · exact h1 t ht
    rcases List.mem_cons.mp ht with rfl | ht
    · exact line_word _ (by decide +kernel)
    rcases List.mem_append.mp ht with ht | ht
    · exact h2 t ht
    · rw [List.mem_singleton.mp ht]; exact line_word _ (by decide +kernel)
/-! ### bodies, read -/
abbrev ONE (ts : List Str) (d : Nat) : RS → Option (RT × RS) := oneF ts (rowsF ts (blockF ts d) (decide (0 < d)))
theorem blkF_mono {ts : List Str} {one : RS → Option (RT × RS)} : ∀ {f : Nat} {st r : RS}, blkF ts one f st = some r → ∀ {g : Nat}, f ≤ g → blkF ts one g st = some r
  | 0, _, _, h, _, _ => by cases h
  | f + 1, st, r, h, g, hg => by
    obtain ⟨g, rfl⟩ : ∃ g', g = g' + 1 := ⟨g - 1, by omega⟩
    unfold blkF at h ⊢
    cases q : headAt ts st.at_ with
    | none => rw [q] at h; exact h
    | some w =>
      rw [q] at h
      simp only at h ⊢
      by_cases c : w ∈ ROWW
      · rw [if_pos c] at h ⊢
        cases q2 : one st with
        | none => rw [q2] at h; cases h
        | some z =>
          obtain ⟨rt, st2⟩ := z
          rw [q2] at h
          simp only at h ⊢
          exact blkF_mono h (by omega)
      · rw [if_neg c] at h ⊢; exact h
theorem drop_cons {ts : List Str} {i : Nat} {t : Str} {r : List Str} (h : ts.drop i = t :: r) : i < ts.length ∧ ts.getD i (Str.ofString "") = t ∧ ts.drop (i + 1) = r := by
  have hi : i < ts.length := by
    by_cases c : i < ts.length
    · exact c
    · rw [List.drop_eq_nil_of_le (by omega)] at h; cases h
  rw [List.drop_eq_getElem_cons hi] at h
  injection h with h1 h2
  refine ⟨hi, ?_, h2⟩
  rw [List.getD_eq_getElem?_getD, List.getElem?_eq_getElem hi, h1]; rfl
theorem drop_app {ts : List Str} {i : Nat} {L r : List Str} (h : ts.drop i = L ++ r) : ts.drop (i + L.length) = r := by
  rw [← List.drop_drop, h, List.drop_left]
theorem drop_len {ts : List Str} {i : Nat} {L : List Str} (h : ts.drop i = L) (hi : i ≤ ts.length) : i + L.length = ts.length := by
  have := congrArg List.length h
  rw [List.length_drop] at this
  omega
theorem words_here {ts : List Str} {i : Nat} {t : Str} {r ws : List Str} (h : ts.drop i = t :: r) (hs : Txt.split t (Str.ofString " ") = ws) : wordsAt ts i = ws ∧ headAt ts i = some (hd0 ws) := by
  obtain ⟨h1, h2, _⟩ := drop_cons h
  have e : wordsAt ts i = ws := by unfold wordsAt; rw [h2]; exact hs
  exact ⟨e, by unfold headAt; rw [if_pos h1, e]⟩
theorem blkF_stop {ts : List Str} {one : RS → Option (RT × RS)} {st : RS} {w : Str} (h : headAt ts st.at_ = some w) (hw : w ∉ ROWW) (f : Nat) : blkF ts one (f + 1) st = some st := by
  unfold blkF
  rw [h]
  simp only
  rw [if_neg hw]
theorem blkF_end {ts : List Str} {one : RS → Option (RT × RS)} {st : RS} (h : headAt ts st.at_ = none) (f : Nat) : blkF ts one (f + 1) st = some st := by
  unfold blkF
  rw [h]
theorem blkF_go {ts : List Str} {one : RS → Option (RT × RS)} {st st2 r : RS} {w : Str} {rt : RT} {f : Nat} (h : headAt ts st.at_ = some w) (hw : w ∈ ROWW) (ho : one st = some (rt, st2)) (hr : blkF ts one f ⟨st2.at_, putN st2.num st.at_ rt, st2.calls⟩ = some r) : blkF ts one (f + 1) st = some r := by
  unfold blkF
  rw [h]
  simp only
  rw [if_pos hw, ho]
  exact hr
theorem split_end : Txt.split (Str.ofString "end") (Str.ofString " ") = [Str.ofString "end"] := split_of (by rfl) (fun s hs => by rw [List.mem_singleton.mp hs]; exact tok_word _ (by decide +kernel)) (by simp)
theorem split_else : Txt.split (Str.ofString "else") (Str.ofString " ") = [Str.ofString "else"] := split_of (by rfl) (fun s hs => by rw [List.mem_singleton.mp hs]; exact tok_word _ (by decide +kernel)) (by simp)
theorem split_main : Txt.split (Str.ofString "main") (Str.ofString " ") = [Str.ofString "main"] := split_of (by rfl) (fun s hs => by rw [List.mem_singleton.mp hs]; exact tok_word _ (by decide +kernel)) (by simp)
theorem passF_here {ts : List Str} {st : RS} {t : Str} {r : List Str} (h : ts.drop st.at_ = t :: r) : passF ts t st = some ⟨st.at_ + 1, st.num, st.calls⟩ := by
  obtain ⟨h1, h2, _⟩ := drop_cons h
  unfold passF
  rw [if_pos ⟨h1, h2⟩]
/-- what a body leaves -/
structure Read (hs : List (Str × Nat)) (B : List (Option RT)) (n : Nat) (st : RS) : Prop where
  at_ : st.at_ = n
  num : NumIs st.num B
  calls : ∀ c ∈ st.calls, c ∈ hs
/-- a whole block -/
theorem block_of {ts : List Str} {d : Nat} {L : List Str} {st st' : RS} (hl : L.length ≤ ts.length)
    (hr : ∀ f r, blkF ts (ONE ts d) f st' = some r → blkF ts (ONE ts d) (f + L.length) st = some r) (hstop : blkF ts (ONE ts d) 1 st' = some st') : blockF ts (d + 1) st = some st' := by
  have := hr 1 st' hstop
  exact blkF_mono this (by omega)
theorem Body.read {hs : List (Str × Nat)} {ts : List Str} : ∀ {d : Nat} {L : List Str} {R : List (Option RT)}, Body hs d L R → ∀ {st : RS} {rest : List Str} {B : List (Option RT)}, ts.drop st.at_ = L ++ rest → Read hs B B.length st →
    ∃ st', Read hs (B ++ R) (B.length + L.length) st' ∧ ∀ f r, blkF ts (ONE ts d) f st' = some r → blkF ts (ONE ts d) (f + L.length) st = some r := by
  intro d L R h
  induction h with
  | nil => intro st rest B hd hR; exact ⟨st, by rw [List.append_nil]; exact hR, fun f r h => h⟩
  | @app d L1 L2 R1 R2 b1 b2 ih1 ih2 =>
    intro st rest B hd hR
    rw [List.append_assoc] at hd
    obtain ⟨st1, hR1, k1⟩ := ih1 hd hR
    have e1 : (B ++ R1).length = B.length + L1.length := by rw [List.length_append, b1.len]
    obtain ⟨st2, hR2, k2⟩ := ih2 (st := st1) (B := B ++ R1) (rest := rest) (by rw [hR1.at_, ← hR.at_]; exact drop_app hd) (by rw [e1]; exact hR1)
    refine ⟨st2, ?_, fun f r hf => ?_⟩
    · rw [← List.append_assoc, List.length_append, ← Nat.add_assoc, ← e1]; exact hR2
    · have := k1 _ _ (k2 f r hf)
      rw [List.length_append, ← Nat.add_assoc, Nat.add_right_comm]
      exact this
  | @row d rt ok sm =>
    intro st rest B hd hR
    obtain ⟨hw, hh⟩ := words_here hd (RT.split ok)
    obtain ⟨g1, g2, g3⟩ := simple_hd sm
    refine ⟨⟨st.at_ + 1, putN st.num st.at_ rt, st.calls⟩, ⟨by show st.at_ + 1 = _; rw [hR.at_]; rfl, hR.num.put1 hR.at_.symm, hR.calls⟩, fun f r hf => ?_⟩
    refine blkF_go (st2 := ⟨st.at_ + 1, st.num, st.calls⟩) hh g1 ?_ hf
    unfold ONE oneF
    rw [hw, if_neg g2, if_neg g3, simpleF_toks ok sm]; rfl
  | @call d b fn es ok hc =>
    intro st rest B hd hR
    obtain ⟨hw, hh⟩ := words_here hd (RT.split ok)
    have g0 : hd0 (RT.call b fn es).toks = "call" := rfl
    refine ⟨⟨st.at_ + 1, putN st.num st.at_ (.call b fn es), st.calls ++ [(fn, es.length)]⟩, ⟨by show st.at_ + 1 = _; rw [hR.at_]; rfl, hR.num.put1 hR.at_.symm, fun c hm => ?_⟩, fun f r hf => ?_⟩
    · rcases List.mem_append.mp hm with hm | hm
      · exact hR.calls c hm
      · rw [List.mem_singleton.mp hm]; exact hc
    refine blkF_go (st2 := ⟨st.at_ + 1, st.num, st.calls ++ [(fn, es.length)]⟩) hh (by rw [g0]; decide +kernel) ?_ hf
    unfold ONE oneF
    rw [hw, g0, if_neg (by decide +kernel), if_pos rfl, callF_toks ok]
  | @loop d e L R he b ih =>
    intro st rest B hd hR
    have ok : (RT.loop e).Ok := he
    obtain ⟨hw, hh⟩ := words_here hd (RT.split ok)
    obtain ⟨hlt, _, hd1⟩ := drop_cons hd
    replace hd1 := hd1.trans (List.append_assoc L [Str.ofString "end"] rest)
    have g0 : hd0 (RT.loop e).toks = "while" := rfl
    have eB : (B ++ [none]).length = st.at_ + 1 := by rw [List.length_append, hR.at_]; rfl
    obtain ⟨st1, hR1, k1⟩ := ih (st := ⟨st.at_ + 1, st.num, st.calls⟩) (B := B ++ [none]) (rest := [Str.ofString "end"] ++ rest) hd1 ⟨eB.symm, hR.num.pad, hR.calls⟩
    have a1 : st1.at_ = st.at_ + 1 + L.length := by rw [hR1.at_, eB]
    have hd2 : ts.drop st1.at_ = Str.ofString "end" :: rest := by rw [a1]; exact drop_app (i := st.at_ + 1) hd1
    obtain ⟨hl2, _, _⟩ := drop_cons hd2
    obtain ⟨_, hh2⟩ := words_here hd2 split_end
    have hb : blockF ts (d + 1) ⟨st.at_ + 1, st.num, st.calls⟩ = some st1 := block_of (by omega) k1 (blkF_stop hh2 (by decide +kernel) 0)
    have hp := passF_here hd2
    have lc : ((RT.loop e).text :: (L ++ [Str.ofString "end"])).length = L.length + 2 := by simp
    refine ⟨⟨st1.at_ + 1, putN st1.num st.at_ (.loop e), st1.calls⟩, ⟨?_, ?_, hR1.calls⟩, fun f r hf => ?_⟩
    · show st1.at_ + 1 = _
      rw [lc, a1, hR.at_]; omega
    · have := NumIs.put (n := st.at_) (rt := .loop e) (R := R ++ [none]) hR.at_.symm (by rw [← List.append_assoc]; exact hR1.num.pad)
      exact this
    · rw [lc]
      refine blkF_mono (blkF_go (st2 := ⟨st1.at_ + 1, st1.num, st1.calls⟩) hh (by rw [g0]; decide +kernel) ?_ hf) (by omega)
      unfold ONE oneF
      rw [hw, g0, if_pos (.inr rfl)]
      unfold rowsF
      have e3 : (RT.loop e).toks.drop 1 = e.toks := rfl
      rw [if_pos (decide_eq_true (Nat.succ_pos d)), e3, exL_one he]
      simp only [only1]
      rw [hb]
      simp only
      rw [g0, if_pos rfl]
      have hp' : passF ts "end" st1 = some ⟨st1.at_ + 1, st1.num, st1.calls⟩ := hp
      rw [hp']
  | @ifr d e L1 L2 R1 R2 he b1 b2 ih1 ih2 =>
    intro st rest B hd hR
    have ok : (RT.ifr e).Ok := he
    obtain ⟨hw, hh⟩ := words_here hd (RT.split ok)
    obtain ⟨hlt, _, hd1⟩ := drop_cons hd
    replace hd1 := hd1.trans (List.append_assoc L1 (Str.ofString "else" :: (L2 ++ [Str.ofString "end"])) rest)
    have g0 : hd0 (RT.ifr e).toks = "if" := rfl
    have eB : (B ++ [none]).length = st.at_ + 1 := by rw [List.length_append, hR.at_]; rfl
    obtain ⟨st1, hR1, k1⟩ := ih1 (st := ⟨st.at_ + 1, st.num, st.calls⟩) (B := B ++ [none]) (rest := (Str.ofString "else" :: (L2 ++ [Str.ofString "end"])) ++ rest) hd1 ⟨eB.symm, hR.num.pad, hR.calls⟩
    have a1 : st1.at_ = st.at_ + 1 + L1.length := by rw [hR1.at_, eB]
    have hd2 : ts.drop st1.at_ = Str.ofString "else" :: ((L2 ++ [Str.ofString "end"]) ++ rest) := by rw [a1]; exact drop_app (i := st.at_ + 1) hd1
    obtain ⟨hl2, _, hd3⟩ := drop_cons hd2
    obtain ⟨_, hh2⟩ := words_here hd2 split_else
    have hb : blockF ts (d + 1) ⟨st.at_ + 1, st.num, st.calls⟩ = some st1 := block_of (by omega) k1 (blkF_stop hh2 (by decide +kernel) 0)
    have hp := passF_here hd2
    have eB2 : (((B ++ [none]) ++ R1) ++ [none]).length = st1.at_ + 1 := by rw [List.length_append, List.length_append, ← b1.len, a1, eB]; rfl
    replace hd3 := hd3.trans (List.append_assoc L2 [Str.ofString "end"] rest)
    obtain ⟨st2, hR2, k2⟩ := ih2 (st := ⟨st1.at_ + 1, st1.num, st1.calls⟩) (B := ((B ++ [none]) ++ R1) ++ [none]) (rest := [Str.ofString "end"] ++ rest) hd3 ⟨eB2.symm, hR1.num.pad, hR1.calls⟩
    have a2 : st2.at_ = st1.at_ + 1 + L2.length := by rw [hR2.at_, eB2]
    have hd4 : ts.drop st2.at_ = Str.ofString "end" :: rest := by rw [a2]; exact drop_app (i := st1.at_ + 1) hd3
    obtain ⟨hl4, _, _⟩ := drop_cons hd4
    obtain ⟨_, hh4⟩ := words_here hd4 split_end
    have hb2 : blockF ts (d + 1) ⟨st1.at_ + 1, st1.num, st1.calls⟩ = some st2 := block_of (by omega) k2 (blkF_stop hh4 (by decide +kernel) 0)
    have hp2 := passF_here hd4
    have lc : ((RT.ifr e).text :: (L1 ++ (Str.ofString "else" :: (L2 ++ [Str.ofString "end"])))).length = L1.length + L2.length + 3 := by simp; omega
    refine ⟨⟨st2.at_ + 1, putN st2.num st.at_ (.ifr e), st2.calls⟩, ⟨?_, ?_, hR2.calls⟩, fun f r hf => ?_⟩
    · show st2.at_ + 1 = _
      rw [lc, a2, a1, hR.at_]; omega
    · have := NumIs.put (n := st.at_) (rt := .ifr e) (B := B) (R := R1 ++ (none :: (R2 ++ [none]))) hR.at_.symm (by
        have := hR2.num.pad
        simp only [List.append_assoc, List.cons_append, List.nil_append] at this ⊢
        exact this)
      exact this
    · rw [lc]
      refine blkF_mono (blkF_go (st2 := ⟨st2.at_ + 1, st2.num, st2.calls⟩) hh (by rw [g0]; decide +kernel) ?_ hf) (by omega)
      unfold ONE oneF
      rw [hw, g0, if_pos (.inl rfl)]
      unfold rowsF
      have e3 : (RT.ifr e).toks.drop 1 = e.toks := rfl
      rw [if_pos (decide_eq_true (Nat.succ_pos d)), e3, exL_one he]
      simp only [only1]
      rw [hb]
      simp only
      rw [g0, if_neg (by decide +kernel)]
      have hp' : passF ts "else" st1 = some ⟨st1.at_ + 1, st1.num, st1.calls⟩ := hp
      rw [hp']
      simp only
      rw [hb2]
      simp only
      have hp2' : passF ts "end" st2 = some ⟨st2.at_ + 1, st2.num, st2.calls⟩ := hp2
      rw [hp2']

/-! ### functions, whole programs -/
structure FnB where
  nm : Str
  ps : List Str
  L : List Str
  R : List (Option RT)
  e : Ex
def headText (nm : Str) (ps : List Str) : Str := Txt.join (Str.ofString " ") (Str.ofString "fun" :: nm :: ps)
def FnB.lines (b : FnB) : List Str := headText b.nm b.ps :: (b.L ++ [(RT.give b.e).text])
def FnB.rows (b : FnB) : List (Option RT) := none :: (b.R ++ [some (.give b.e)])
def FnB.ar (b : FnB) : Str × Nat := (b.nm, b.ps.length)
def HeadOk (nm : Str) (ps : List Str) : Prop := isNameW nm = true ∧ (∀ p ∈ ps, isNameW p = true) ∧ ps.length ≤ 3 ∧ cntTo ps ps.length = ps.length
structure FnB.Ok (hs : List (Str × Nat)) (b : FnB) : Prop where
  head : HeadOk b.nm b.ps
  ex : ExOk b.e
  body : Body hs 5 b.L b.R
theorem head_tl (nm : Str) (ps : List Str) : tl (headText nm ps) = joinL [32] ((Str.ofString "fun" :: nm :: ps).map tl) := by
  unfold headText
  rw [join_eq, tl_join, tl_blank]
theorem head_tok {nm : Str} {ps : List Str} (h : HeadOk nm ps) : ∀ s ∈ (Str.ofString "fun" :: nm :: ps), TokOk s := fun s hs => by
  rcases List.mem_cons.mp hs with rfl | hs
  · exact tok_word _ (by decide +kernel)
  rcases List.mem_cons.mp hs with rfl | hs
  · exact tok_name h.1
  · exact tok_name (h.2.1 s hs)
theorem head_split {nm : Str} {ps : List Str} (h : HeadOk nm ps) : Txt.split (headText nm ps) (Str.ofString " ") = Str.ofString "fun" :: nm :: ps := split_of (head_tl nm ps) (head_tok h) (by simp)
theorem head_line {nm : Str} {ps : List Str} (h : HeadOk nm ps) : LineOk (headText nm ps) := line_of (head_tl nm ps) (head_tok h) (by have := h.2.2.1; simp; omega)
theorem FnB.Ok.len {hs : List (Str × Nat)} {b : FnB} (h : b.Ok hs) : b.lines.length = b.rows.length := by
  have := h.body.len
  unfold FnB.lines FnB.rows
  simp only [List.length_cons, List.length_append, List.length_nil, this]
theorem FnB.Ok.lineOk {hs : List (Str × Nat)} {b : FnB} (h : b.Ok hs) : ∀ t ∈ b.lines, LineOk t := fun t ht => by
  rcases List.mem_cons.mp ht with rfl | ht
  · exact head_line h.head
  rcases List.mem_append.mp ht with ht | ht
  · exact h.body.lines t ht
  · rw [List.mem_singleton.mp ht]; exact RT.line (rt := .give b.e) h.ex
theorem fn_read {hs : List (Str × Nat)} {ts : List Str} {b : FnB} (ok : b.Ok hs) {st : RS} {rest : List Str} {B : List (Option RT)} (hd : ts.drop st.at_ = b.lines ++ rest) (hR : Read hs B B.length st) :
    ∃ st', Read hs (B ++ b.rows) (B.length + b.lines.length) st' ∧ functionF ts st = some (b.ar, st') ∧ headAt ts st.at_ = some (Str.ofString "fun") := by
  have hd0' : ts.drop st.at_ = headText b.nm b.ps :: ((b.L ++ [(RT.give b.e).text]) ++ rest) := hd
  obtain ⟨hw, hh⟩ := words_here hd0' (head_split ok.head)
  obtain ⟨hlt, _, hd1⟩ := drop_cons hd0'
  replace hd1 := hd1.trans (List.append_assoc b.L [(RT.give b.e).text] rest)
  have eB : (B ++ [none]).length = st.at_ + 1 := by rw [List.length_append, hR.at_]; rfl
  obtain ⟨st1, hR1, k1⟩ := ok.body.read (st := ⟨st.at_ + 1, st.num, st.calls⟩) (B := B ++ [none]) hd1 ⟨eB.symm, hR.num.pad, hR.calls⟩
  have a1 : st1.at_ = st.at_ + 1 + b.L.length := by rw [hR1.at_, eB]
  have hd2 : ts.drop st1.at_ = (RT.give b.e).text :: rest := by rw [a1]; exact drop_app (i := st.at_ + 1) hd1
  obtain ⟨hl2, _, _⟩ := drop_cons hd2
  have okg : (RT.give b.e).Ok := ok.ex
  obtain ⟨hw2, hh2⟩ := words_here hd2 (RT.split okg)
  have hb : blockF ts 6 ⟨st.at_ + 1, st.num, st.calls⟩ = some st1 := block_of (by omega) k1 (blkF_stop hh2 (by show hd0 (RT.give b.e).toks ∉ ROWW; show hd0 (Str.ofString "give" :: ([] : List Str)) ∉ ROWW; decide +kernel) 0)
  refine ⟨⟨st1.at_ + 1, putN st1.num st1.at_ (.give b.e), st1.calls⟩, ⟨?_, ?_, hR1.calls⟩, ?_, hh⟩
  · show st1.at_ + 1 = _
    unfold FnB.lines
    rw [a1, hR.at_]; simp only [List.length_cons, List.length_append, List.length_nil]; omega
  · have := hR1.num.put1 (rt := .give b.e) (n := st1.at_) (by rw [List.length_append, ← ok.body.len, a1, eB])
    unfold FnB.rows
    simp only [List.append_assoc, List.cons_append, List.nil_append] at this ⊢
    exact this
  · unfold functionF
    obtain ⟨h1, h2, h3, h4⟩ := ok.head
    have hall : ((Str.ofString "fun" :: b.nm :: b.ps).drop 1).all isNameW = true := by
      rw [List.all_eq_true]
      intro x hx
      rcases List.mem_cons.mp hx with rfl | hx
      · exact h1
      · exact h2 x hx
    rw [hw, if_pos ⟨hall, by simp, h3, h4⟩, hb]
    simp only
    have hh2' : headAt ts st1.at_ = some "give" := hh2
    rw [if_pos hh2', hw2]
    have e3 : (RT.give b.e).toks.drop 1 = b.e.toks := rfl
    rw [e3, exL_one ok.ex]; rfl
theorem funs_read {hs : List (Str × Nat)} {ts : List Str} : ∀ (bs : List FnB), (∀ b ∈ bs, b.Ok hs) → ∀ {fs : List (Str × Nat)} {st : RS} {rest : List Str} {B : List (Option RT)}, ts.drop st.at_ = bs.flatMap FnB.lines ++ rest → Read hs B B.length st →
    fs.length + bs.length ≤ 4 → ((fs ++ bs.map FnB.ar).map Prod.fst).Nodup → ∃ st', Read hs (B ++ bs.flatMap FnB.rows) (B.length + (bs.flatMap FnB.lines).length) st' ∧ ∀ f r, funsF ts f (fs ++ bs.map FnB.ar) st' = some r → funsF ts (f + bs.length) fs st = some r
  | [], _, fs, st, rest, B, hd, hR, _, _ => ⟨st, by rw [List.flatMap_nil, List.append_nil]; exact hR, fun f r h => by rw [List.map_nil, List.append_nil] at h; exact h⟩
  | b :: bs, ok, fs, st, rest, B, hd, hR, hl, hn => by
    have ok1 := ok b List.mem_cons_self
    rw [List.flatMap_cons, List.append_assoc] at hd
    obtain ⟨st1, hR1, e1, hh⟩ := fn_read ok1 hd hR
    have el : (B ++ b.rows).length = B.length + b.lines.length := by rw [List.length_append, ok1.len]
    have hn' : (((fs ++ [b.ar]) ++ bs.map FnB.ar).map Prod.fst).Nodup := by rw [List.append_assoc]; exact hn
    obtain ⟨st2, hR2, k2⟩ := funs_read bs (fun x hx => ok x (List.mem_cons_of_mem _ hx)) (fs := fs ++ [b.ar]) (st := st1) (rest := rest) (B := B ++ b.rows) (by rw [hR1.at_, ← hR.at_]; exact drop_app hd) (by rw [el]; exact hR1) (by rw [List.length_append, List.length_singleton]; rw [List.length_cons] at hl; omega) hn'
    refine ⟨st2, ?_, fun f r h => ?_⟩
    · rw [List.flatMap_cons, List.flatMap_cons, ← List.append_assoc, List.length_append, ← Nat.add_assoc, ← el]; exact hR2
    · have hk := k2 f r (by rw [List.append_assoc]; exact h)
      show funsF ts (f + bs.length + 1) fs st = some r
      unfold funsF
      have hh' : headAt ts st.at_ = some "fun" := hh
      rw [if_pos hh', e1]
      simp only
      rw [if_neg ?_]
      · exact hk
      · rintro (hc | hc)
        · obtain ⟨g, hg, hd⟩ := List.any_eq_true.mp hc
          have hd := of_decide_eq_true hd
          rw [List.map_append, List.nodup_append] at hn
          exact hn.2.2 g.1 (List.mem_map.mpr ⟨g, hg, rfl⟩) b.ar.1 (by rw [List.map_cons, List.map_cons]; exact List.mem_cons_self) hd
        · rw [List.length_cons] at hl; omega
theorem nodup_fst : ∀ {hs : List (Str × Nat)}, (hs.map Prod.fst).Nodup → ∀ {g c : Str × Nat}, g ∈ hs → c ∈ hs → g.1 = c.1 → g = c
  | [], _, _, _, h, _, _ => by cases h
  | x :: r, hn, g, c, hg, hc, e => by
    rw [List.map_cons, List.nodup_cons] at hn
    rcases List.mem_cons.mp hg with hg | hg
    · rcases List.mem_cons.mp hc with hc | hc
      · rw [hg, hc]
      · exact absurd (List.mem_map.mpr ⟨c, hc, by rw [← e, hg]⟩ : x.1 ∈ r.map Prod.fst) hn.1
    · rcases List.mem_cons.mp hc with hc | hc
      · exact absurd (List.mem_map.mpr ⟨g, hg, by rw [e, hc]⟩ : x.1 ∈ r.map Prod.fst) hn.1
      · exact nodup_fst hn.2 hg hc e
theorem callOk_mem {hs : List (Str × Nat)} (hn : (hs.map Prod.fst).Nodup) {c : Str × Nat} (hc : c ∈ hs) : callOk hs c = true := by
  unfold callOk
  cases q : hs.find? fun f => decide (f.1 = c.1) with
  | none =>
    rw [List.find?_eq_none] at q
    have := q c hc
    rw [decide_eq_true rfl] at this
    exact absurd rfl this
  | some g =>
    have g1 := List.mem_of_find?_eq_some q
    have g2 : g.1 = c.1 := of_decide_eq_true (by have := List.find?_some q; exact this)
    have : g = c := nodup_fst hn g1 hc g2
    rw [this]
    exact decide_eq_true rfl
theorem flat_ge : ∀ bs : List FnB, bs.length ≤ (bs.flatMap FnB.lines).length
  | [] => Nat.zero_le _
  | b :: r => by
    have := flat_ge r
    rw [List.flatMap_cons, List.length_append, List.length_cons]
    have : 1 ≤ b.lines.length := by unfold FnB.lines; rw [List.length_cons]; omega
    omega
theorem flat_same {hs : List (Str × Nat)} : ∀ bs : List FnB, (∀ b ∈ bs, b.Ok hs) → (bs.flatMap FnB.lines).length = (bs.flatMap FnB.rows).length
  | [], _ => rfl
  | b :: r, ok => by
    rw [List.flatMap_cons, List.flatMap_cons, List.length_append, List.length_append, (ok b List.mem_cons_self).len, flat_same r fun x hx => ok x (List.mem_cons_of_mem _ hx)]
/-- the lines of a program, its rows -/
structure ProgOk (ts : List Str) (R : List (Option RT)) : Prop where
  ex : ∃ (bs : List FnB) (L : List Str) (M : List (Option RT)), (∀ b ∈ bs, b.Ok (bs.map FnB.ar)) ∧ bs.length ≤ 4 ∧ ((bs.map FnB.ar).map Prod.fst).Nodup ∧ Body (bs.map FnB.ar) 5 L M ∧ ts = bs.flatMap FnB.lines ++ Str.ofString "main" :: L ∧ R = bs.flatMap FnB.rows ++ none :: M
  len : ts.length ≤ 60
theorem ProgOk.read {ts : List Str} {R : List (Option RT)} (h : ProgOk ts R) : ∃ num, readF ts = some num ∧ NumIs num R := by
  obtain ⟨bs, L, M, ok, h4, hn, hb, hts, hR⟩ := h.ex
  obtain ⟨st1, r1, k1⟩ := funs_read (ts := ts) bs ok (fs := []) (st := ⟨0, [], []⟩) (rest := Str.ofString "main" :: L) (B := []) (by rw [List.drop_zero]; exact hts) ⟨rfl, fun n => by rfl, fun c hc => by cases hc⟩ (by show 0 + bs.length ≤ 4; omega) (by rw [List.nil_append]; exact hn)
  have a1 : st1.at_ = (bs.flatMap FnB.lines).length := by rw [r1.at_]; exact Nat.zero_add _
  have hd : ts.drop st1.at_ = Str.ofString "main" :: L := by rw [a1, hts, List.drop_left]
  obtain ⟨_, hh⟩ := words_here hd split_main
  obtain ⟨hlt, _, hd2⟩ := drop_cons hd
  have hf : ∃ f, ts.length + 1 = (f + 1) + bs.length := by
    have hx := flat_ge bs
    exact ⟨ts.length - bs.length, by omega⟩
  obtain ⟨f, hf⟩ := hf
  have hfun : funsF ts (f + 1) ([] ++ bs.map FnB.ar) st1 = some (bs.map FnB.ar, st1) := by
    unfold funsF
    rw [if_neg]
    · rfl
    · rw [hh]
      show ¬ some (hd0 [Str.ofString "main"]) = some (Str.ofString "fun")
      intro e
      exact absurd (Option.some.inj e) (by decide +kernel)
  have hp := passF_here hd
  have eB : (([] ++ bs.flatMap FnB.rows) ++ [none]).length = st1.at_ + 1 := by
    rw [List.nil_append, List.length_append, a1]
    rw [flat_same bs ok]; rfl
  obtain ⟨st2, r2, k2⟩ := hb.read (ts := ts) (st := ⟨st1.at_ + 1, st1.num, st1.calls⟩) (rest := []) (B := ([] ++ bs.flatMap FnB.rows) ++ [none]) (by rw [List.append_nil]; exact hd2) ⟨eB.symm, r1.num.pad, r1.calls⟩
  have a2 : st2.at_ = ts.length := by
    rw [r2.at_, eB]
    exact drop_len hd2 hlt
  have hblk : blockF ts 6 ⟨st1.at_ + 1, st1.num, st1.calls⟩ = some st2 := block_of (by rw [hts, List.length_append, List.length_cons]; omega) k2 (blkF_end (by unfold headAt; rw [if_neg (by omega)]) 0)
  refine ⟨st2.num, ?_, ?_⟩
  · unfold readF
    rw [if_pos h.len, hf, k1 (f + 1) _ hfun]
    simp only
    have hp' : passF ts "main" st1 = some ⟨st1.at_ + 1, st1.num, st1.calls⟩ := hp
    rw [hp']
    simp only
    rw [hblk]
    simp only
    rw [if_pos ⟨a2, List.all_eq_true.mpr fun c hc => callOk_mem hn (r2.calls c hc)⟩]
  · have := r2.num
    rw [hR]
    simp only [List.append_assoc, List.cons_append, List.nil_append] at this ⊢
    exact this
theorem ProgOk.lines {ts : List Str} {R : List (Option RT)} (h : ProgOk ts R) : ∀ t ∈ ts, LineOk t := by
  obtain ⟨bs, L, M, ok, h4, hn, hb, hts, hR⟩ := h.ex
  intro t ht
  rw [hts] at ht
  rcases List.mem_append.mp ht with ht | ht
  · obtain ⟨b, hb, ht⟩ := List.mem_flatMap.mp ht
    exact (ok b hb).lineOk t ht
  rcases List.mem_cons.mp ht with rfl | ht
  · exact line_word _ (by decide +kernel)
  · exact hb.lines t ht
theorem ProgOk.ne {ts : List Str} {R : List (Option RT)} (h : ProgOk ts R) : ts ≠ [] := by
  obtain ⟨bs, L, M, ok, h4, hn, hb, hts, hR⟩ := h.ex
  rw [hts]; simp
theorem split_lines {ts : List Str} (h : ∀ t ∈ ts, LineOk t) (hn : ts ≠ []) : Txt.split (Txt.join (Str.ofString "\n") ts) (Str.ofString "\n") = ts :=
  split_join (s := 10) (S := []) tl_end (by decide +kernel) hn fun p hp hm => by have := (h p hp).2 10 hm; omega
theorem LineOk.cod {t : Str} (h : LineOk t) : PyData.strOk t = true := strOk_of fun c hc => (h.2 c hc).2
theorem text_ok {ts : List Str} (h : ∀ t ∈ ts, LineOk t) (hl : ts.length ≤ 100) (hn : ts ≠ []) : TextOk (Txt.join (Str.ofString "\n") ts) := by
  have e := split_lines h hn
  refine ⟨?_, ?_, ?_⟩
  · have hj : ∀ (ps : List (List Nat)), (∀ p ∈ ps, p.length ≤ 1000) → (joinL [10] ps).length ≤ 1001 * ps.length := by
      intro ps
      induction ps with
      | nil => intro _; exact Nat.zero_le _
      | cons p r ih =>
        intro h
        have h1 := h p List.mem_cons_self
        have h2 := ih fun q hq => h q (List.mem_cons_of_mem _ hq)
        cases r with
        | nil => show p.length ≤ 1001 * 1; omega
        | cons q r =>
          show (p ++ ([10] ++ joinL [10] (q :: r))).length ≤ 1001 * ((q :: r).length + 1)
          rw [List.length_append, List.length_append]
          show p.length + (1 + _) ≤ _
          omega
    rw [len_tl, join_eq, tl_join, tl_end]
    have := hj (ts.map tl) fun p hp => by
      obtain ⟨t, ht, rfl⟩ := List.mem_map.mp hp
      have := (h t ht).1
      rw [len_tl] at this; exact this
    rw [List.length_map] at this
    omega
  · have e' : Txt.split (Txt.join (Str.ofString "\n") ts) "\n" = ts := e
    rw [e']
    exact fun t ht => Nat.le_trans (h t ht).1 (by decide)
  · refine strOk_of fun c hc => ?_
    rw [join_eq, tl_join, tl_end] at hc
    rcases joinL_mem2 hc with rfl | ⟨p, hp, hc⟩
    · decide
    · obtain ⟨t, ht, rfl⟩ := List.mem_map.mp hp
      exact ((h t ht).2 c hc).2

/-! ### the law's world -/
theorem freshNe {H : Hp} {p q : Addr} {o : HO} (h : H p = some o) (n : H q = none) : q ≠ p := fun e => by rw [e, h] at n; cases n
def KeepT (H H' : Hp) : Prop := ∀ t xs, H t = some (.tup xs) → H' t = some (.tup xs)
theorem KeepT.trans {H H1 H2 : Hp} (a : KeepT H H1) (b : KeepT H1 H2) : KeepT H H2 := fun t xs h => b t xs (a t xs h)
theorem keepT_same {H H' : Hp} (s : Same H H') : KeepT H H' := fun t xs h => s _ _ h
theorem keepT_x {p : Addr} {H H' : Hp} (k : KeepX p H H') (W : WellAt H p) : KeepT H H' := fun t xs h => k.tup W h
theorem keepT_upd {H : Hp} {a : Addr} {o o' : HO} (e : H a = some o) (n : ∀ xs, o ≠ .tup xs) : KeepT H (upd H a o') := fun t xs h => by
  rw [upd_ne (ne_of h e (fun z => n xs z.symm))]; exact h
theorem ToldE.keepT {K : PySem.W.Frag} {H H' : Hp} (k : KeepT H H') : ∀ {e : Ex} {v : V}, ToldE K H e v → ToldE K H' e v
  | .num n, v, ⟨t, h1, h2⟩ => ⟨t, h1, k _ _ h2⟩
  | .box n, v, ⟨t, h1, h2⟩ => ⟨t, h1, k _ _ h2⟩
  | .cell e, v, ⟨t, i, h1, h2, h3⟩ => ⟨t, i, h1, k _ _ h2, ToldE.keepT k h3⟩
  | .two w l r, v, ⟨t, a, b, h1, h2, h3, h4⟩ => ⟨t, a, b, h1, k _ _ h2, ToldE.keepT k h3, ToldE.keepT k h4⟩
theorem RTold.keepT {K : PySem.W.Frag} {H H' : Hp} (k : KeepT H H') : ∀ {rt : RT} {v : V}, RTold K H rt v → RTold K H' rt v
  | .skip, v, ⟨t, h1, h2⟩ => ⟨t, h1, k _ _ h2⟩
  | .set _ _, v, ⟨t, x, h1, h2, h3⟩ => ⟨t, x, h1, k _ _ h2, h3.keepT k⟩
  | .put _ _, v, ⟨t, x, y, h1, h2, h3, h4⟩ => ⟨t, x, y, h1, k _ _ h2, h3.keepT k, h4.keepT k⟩
  | .ask _ _ _, v, ⟨t, x, h1, h2, h3⟩ => ⟨t, x, h1, k _ _ h2, h3.keepT k⟩
  | .draw _ _, v, ⟨t, h1, h2⟩ => ⟨t, h1, k _ _ h2⟩
  | .tell _, v, ⟨t, x, h1, h2, h3⟩ => ⟨t, x, h1, k _ _ h2, h3.keepT k⟩
  | .ifr _, v, ⟨t, x, h1, h2, h3⟩ => ⟨t, x, h1, k _ _ h2, h3.keepT k⟩
  | .loop _, v, ⟨t, x, h1, h2, h3⟩ => ⟨t, x, h1, k _ _ h2, h3.keepT k⟩
  | .call _ _ _, v, ⟨t, xs, h1, h2, h3⟩ => ⟨t, xs, h1, k _ _ h2, h3.mono fun _ _ h => h.keepT k⟩
  | .give _, v, ⟨t, x, h1, h2, h3⟩ => ⟨t, x, h1, k _ _ h2, h3.keepT k⟩
def RT.parts : RT → List (Str ⊕ Ex)
  | .skip => [.inl "skip"]
  | .set b e => [.inl "set", .inl b, .inr e]
  | .put a b => [.inl "put", .inr a, .inr b]
  | .ask b w e => [.inl "ask", .inl b, .inl w, .inr e]
  | .draw b w => [.inl "draw", .inl b, .inl w]
  | .tell e => [.inl "tell", .inr e]
  | .ifr e => [.inl "if", .inr e]
  | .loop e => [.inl "while", .inr e]
  | .call b f es => .inl "call" :: .inl b :: .inl f :: es.map .inr
  | .give e => [.inl "give", .inr e]
def partText : Str ⊕ Ex → Str
  | .inl s => s
  | .inr e => e.text
theorem RT.words_parts (rt : RT) : rt.words = rt.parts.map partText := by
  cases rt with
  | call b f es =>
    show Str.ofString "call" :: b :: f :: (es.map fun e => (e.text, e.toks)).map Prod.fst = Str.ofString "call" :: b :: f :: (es.map Sum.inr).map partText
    rw [List.map_map, List.map_map]; rfl
  | _ => rfl
def PartV (K : PySem.W.Frag) (H : Hp) : Str ⊕ Ex → V → Prop
  | .inl s, x => x = .str s
  | .inr e, x => ToldE K H e x
theorem parts_told {K : PySem.W.Frag} {H : Hp} : ∀ {es : List Ex} {xs : List V}, All2 (ToldE K H) es xs → All2 (PartV K H) (es.map Sum.inr) xs
  | _, _, .nil => .nil
  | _, _, .cons h t => .cons h (parts_told t)
theorem RTold.parts {K : PySem.W.Frag} {H : Hp} : ∀ {rt : RT} {r : V}, RTold K H rt r → ∃ t xs, r = .ref t ∧ H t = some (.tup xs) ∧ All2 (PartV K H) rt.parts xs
  | .skip, r, ⟨t, h1, h2⟩ => ⟨t, _, h1, h2, .cons rfl .nil⟩
  | .set _ _, r, ⟨t, x, h1, h2, h3⟩ => ⟨t, _, h1, h2, .cons rfl (.cons rfl (.cons h3 .nil))⟩
  | .put _ _, r, ⟨t, x, y, h1, h2, h3, h4⟩ => ⟨t, _, h1, h2, .cons rfl (.cons h3 (.cons h4 .nil))⟩
  | .ask _ _ _, r, ⟨t, x, h1, h2, h3⟩ => ⟨t, _, h1, h2, .cons rfl (.cons rfl (.cons rfl (.cons h3 .nil)))⟩
  | .draw _ _, r, ⟨t, h1, h2⟩ => ⟨t, _, h1, h2, .cons rfl (.cons rfl (.cons rfl .nil))⟩
  | .tell _, r, ⟨t, x, h1, h2, h3⟩ => ⟨t, _, h1, h2, .cons rfl (.cons h3 .nil)⟩
  | .ifr _, r, ⟨t, x, h1, h2, h3⟩ => ⟨t, _, h1, h2, .cons rfl (.cons h3 .nil)⟩
  | .loop _, r, ⟨t, x, h1, h2, h3⟩ => ⟨t, _, h1, h2, .cons rfl (.cons h3 .nil)⟩
  | .call _ _ _, r, ⟨t, xs, h1, h2, h3⟩ => ⟨t, _, h1, h2, .cons rfl (.cons rfl (.cons rfl (parts_told h3)))⟩
  | .give _, r, ⟨t, x, h1, h2, h3⟩ => ⟨t, _, h1, h2, .cons rfl (.cons h3 .nil)⟩
theorem RT.parts_ok {rt : RT} (h : rt.Ok) : (∀ p ∈ rt.parts, match p with | .inl s => (tl s).length ≤ 6 | .inr e => ExOk e) ∧ rt.parts.length ≤ 6 := by
  have nm : ∀ {s : Str}, isNameW s = true → (tl s).length ≤ 6 := fun h => (tok_name h).1
  cases rt with
  | call b f es =>
    refine ⟨fun p hp => ?_, ?_⟩
    · rcases List.mem_cons.mp hp with rfl | hp
      · exact (tok_word "call" (by decide +kernel)).1
      rcases List.mem_cons.mp hp with rfl | hp
      · exact nm h.1
      rcases List.mem_cons.mp hp with rfl | hp
      · exact nm h.2.1
      · obtain ⟨e, he, rfl⟩ := List.mem_map.mp hp
        exact h.2.2.1 e he
    · have := h.2.2.2
      show (es.map Sum.inr).length + 1 + 1 + 1 ≤ 6
      rw [List.length_map]; omega
  | skip =>
    refine ⟨fun p hp => ?_, by simp [RT.parts]⟩
    rw [List.mem_singleton.mp hp]
    exact (tok_word "skip" (by decide +kernel)).1
  | set b e =>
    refine ⟨fun p hp => ?_, by simp [RT.parts]⟩
    simp only [RT.parts, List.mem_cons, List.not_mem_nil, or_false] at hp
    rcases hp with rfl | rfl | rfl
    · exact (tok_word "set" (by decide +kernel)).1
    · exact nm h.1
    · exact h.2
  | put a b =>
    refine ⟨fun p hp => ?_, by simp [RT.parts]⟩
    simp only [RT.parts, List.mem_cons, List.not_mem_nil, or_false] at hp
    rcases hp with rfl | rfl | rfl
    · exact (tok_word "put" (by decide +kernel)).1
    · exact h.1
    · exact h.2
  | ask b w e =>
    refine ⟨fun p hp => ?_, by simp [RT.parts]⟩
    simp only [RT.parts, List.mem_cons, List.not_mem_nil, or_false] at hp
    rcases hp with rfl | rfl | rfl | rfl
    · exact (tok_word "ask" (by decide +kernel)).1
    · exact nm h.1
    · exact nm h.2.1
    · exact h.2.2
  | draw b w =>
    refine ⟨fun p hp => ?_, by simp [RT.parts]⟩
    simp only [RT.parts, List.mem_cons, List.not_mem_nil, or_false] at hp
    rcases hp with rfl | rfl | rfl
    · exact (tok_word "draw" (by decide +kernel)).1
    · exact nm h.1
    · exact nm h.2
  | tell e =>
    refine ⟨fun p hp => ?_, by simp [RT.parts]⟩
    simp only [RT.parts, List.mem_cons, List.not_mem_nil, or_false] at hp
    rcases hp with rfl | rfl
    · exact (tok_word "tell" (by decide +kernel)).1
    · exact h
  | ifr e =>
    refine ⟨fun p hp => ?_, by simp [RT.parts]⟩
    simp only [RT.parts, List.mem_cons, List.not_mem_nil, or_false] at hp
    rcases hp with rfl | rfl
    · exact (tok_word "if" (by decide +kernel)).1
    · exact h
  | loop e =>
    refine ⟨fun p hp => ?_, by simp [RT.parts]⟩
    simp only [RT.parts, List.mem_cons, List.not_mem_nil, or_false] at hp
    rcases hp with rfl | rfl
    · exact (tok_word "while" (by decide +kernel)).1
    · exact h
  | give e =>
    refine ⟨fun p hp => ?_, by simp [RT.parts]⟩
    simp only [RT.parts, List.mem_cons, List.not_mem_nil, or_false] at hp
    rcases hp with rfl | rfl
    · exact (tok_word "give" (by decide +kernel)).1
    · exact h
theorem part_len {p : Str ⊕ Ex} (h : match p with | .inl s => (tl s).length ≤ 6 | .inr e => ExOk e) : (partText p).length ≤ 110 := by
  cases p with
  | inl s => show s.length ≤ 110; rw [len_tl]; exact Nat.le_trans h (by decide)
  | inr e =>
    have := Ex.text_len (e := e) h.1
    have := h.2.2
    show e.text.length ≤ 110
    omega
structure WA where
  w : Addr
  ll : Addr
  lr : Addr
  lh : Addr
structure WS where
  ls : List Str
  R : List (Option RT)
  left : Int
def wF (X : WA) (n : Int) : List (Key × V) := [(.inr "lines", .ref X.ll), (.inr "rows", .ref X.lr), (.inr "heads", .ref X.lh), (.inr "left", .int n)]
def HeadH (N : Addr → Prop) (H : Hp) (f : Str × List Str) (v : V) : Prop := ∃ t l, v = .ref t ∧ H t = some (.tup [.str f.1, .ref l]) ∧ N l ∧ H l = some (.lst (f.2.map V.str))
def RowsD (K : PySem.W.Frag) (H : Hp) (kvs : List (Key × V)) (R : List (Option RT)) : Prop := kvs.length ≤ R.length ∧ (∀ n : Int, n < 0 → valV kvs (.inl n) = none) ∧
  (∀ n : Nat, (R.getD n none = none ∧ valV kvs (.inl (n : Int)) = none) ∨ ∃ rt v, R.getD n none = some rt ∧ valV kvs (.inl (n : Int)) = some v ∧ RTold K H rt v) ∧
  ∃ ks : List Nat, kvs.map Prod.fst = ks.map (fun k : Nat => (Sum.inl (k : Int) : Key)) ∧ ks.Nodup ∧ ∀ k ∈ ks, k < R.length
structure WH (K : PySem.W.Frag) (X : WA) (hs : List (Str × List Str)) (H : Hp) (s : WS) : Prop where
  dict : H X.w = some (.dK (wF X s.left))
  lines : H X.ll = some (.lst (s.ls.map V.str))
  rows : ∃ kvs, H X.lr = some (.dK kvs) ∧ RowsD K H kvs s.R
  heads : ∃ hv, H X.lh = some (.lst hv) ∧ All2 (HeadH (fun l => l ≠ X.ll) H) hs hv
  ne : X.ll ≠ X.lh
  ne2 : X.w ≠ X.lr
  len : s.ls.length = s.R.length
theorem keyNe {a b : Str} (h : a ≠ b) {v : V} : ¬ ((Sum.inr a : Key), v).1 = (Sum.inr b : Key) := fun e => h (Sum.inr.inj e)
theorem wF_lines (X : WA) (n : Int) : valV (wF X n) (.inr "lines") = some (.ref X.ll) := valV_pos rfl
theorem wF_rows (X : WA) (n : Int) : valV (wF X n) (.inr "rows") = some (.ref X.lr) := by
  unfold wF; rw [valV_neg (keyNe (by decide +kernel)), valV_pos rfl]
theorem wF_heads (X : WA) (n : Int) : valV (wF X n) (.inr "heads") = some (.ref X.lh) := by
  unfold wF; rw [valV_neg (keyNe (by decide +kernel)), valV_neg (keyNe (by decide +kernel)), valV_pos rfl]
theorem wF_left (X : WA) (n : Int) : valV (wF X n) (.inr "left") = some (.int n) := by
  unfold wF; rw [valV_neg (keyNe (by decide +kernel)), valV_neg (keyNe (by decide +kernel)), valV_neg (keyNe (by decide +kernel)), valV_pos rfl]
theorem wF_put (X : WA) (n m : Int) : putK (wF X n) (.inr "left") (.int m) = wF X m := by
  have e : ((wF X n).any fun kv => decide (kv.1 = (.inr "left" : Key))) = true := by
    exact List.any_eq_true.mpr ⟨((.inr "left" : Key), V.int n), by unfold wF; simp, decide_eq_true rfl⟩
  unfold putK
  rw [if_pos e]
  unfold wF
  rw [List.map_cons, List.map_cons, List.map_cons, List.map_cons, if_neg (keyNe (by decide +kernel)), if_neg (keyNe (by decide +kernel)), if_neg (keyNe (by decide +kernel)), if_pos rfl]; rfl
theorem mergeK_new : ∀ (kvs acc : List (Key × V)), (∀ kv ∈ kvs, ∀ a ∈ acc, a.1 ≠ kv.1) → (kvs.map Prod.fst).Nodup → mergeK acc kvs = acc ++ kvs
  | [], acc, _, _ => by rw [List.append_nil]; rfl
  | kv :: r, acc, h, hn => by
    rw [List.map_cons, List.nodup_cons] at hn
    have e : putK acc kv.1 kv.2 = acc ++ [kv] := by
      unfold putK
      rw [if_neg]
      intro c
      obtain ⟨a, ha, hd⟩ := List.any_eq_true.mp c
      exact h kv List.mem_cons_self a ha (of_decide_eq_true hd)
    show mergeK (putK acc kv.1 kv.2) r = _
    rw [e, mergeK_new r (acc ++ [kv]) ?_ hn.2, List.append_assoc]; rfl
    intro x hx a ha
    rcases List.mem_append.mp ha with ha | ha
    · exact h x (List.mem_cons_of_mem _ hx) a ha
    · rw [List.mem_singleton.mp ha]
      exact fun e => hn.1 (List.mem_map.mpr ⟨x, hx, e.symm⟩)
theorem wF_merge (X : WA) (n : Int) : mergeK [] (wF X n) = wF X n := by
  rw [mergeK_new (wF X n) [] (fun _ _ a ha => by cases ha) (by show (([.inr "lines", .inr "rows", .inr "heads", .inr "left"] : List Key)).Nodup; decide +kernel), List.nil_append]
section
variable {K : PySem.W.Frag} {X : WA} {hs : List (Str × List Str)} {H H' : Hp} {s : WS} {p : Addr}
theorem WH.gLines (h : WH K X hs H s) : DGet H X.w (.str "lines") (some (.ref X.ll)) := by rw [← wF_lines X s.left]; exact DGet.k (k := .inr "lines") h.dict
theorem WH.gRows (h : WH K X hs H s) : DGet H X.w (.str "rows") (some (.ref X.lr)) := by rw [← wF_rows X s.left]; exact DGet.k (k := .inr "rows") h.dict
theorem WH.gHeads (h : WH K X hs H s) : DGet H X.w (.str "heads") (some (.ref X.lh)) := by rw [← wF_heads X s.left]; exact DGet.k (k := .inr "heads") h.dict
theorem WH.gLeft (h : WH K X hs H s) : DGet H X.w (.str "left") (some (.int s.left)) := by rw [← wF_left X s.left]; exact DGet.k (k := .inr "left") h.dict
theorem wG_lines {n : Int} (h : H X.w = some (.dK (wF X n))) : DGet H X.w (.str "lines") (some (.ref X.ll)) := by rw [← wF_lines X n]; exact DGet.k (k := .inr "lines") h
theorem HeadH.mv {N : Addr → Prop} {f : Str × List Str} {v : V} (kt : KeepT H H') (kl : ∀ l (ws : List Str), N l → H l = some (.lst (ws.map V.str)) → H' l = some (.lst (ws.map V.str))) (h : HeadH N H f v) : HeadH N H' f v := by
  obtain ⟨t, l, h1, h2, h3, h4⟩ := h
  exact ⟨t, l, h1, kt _ _ h2, h3, kl _ _ h3 h4⟩
theorem RowsD.mv {kvs : List (Key × V)} {R : List (Option RT)} (kt : KeepT H H') (h : RowsD K H kvs R) : RowsD K H' kvs R := ⟨h.1, h.2.1, (fun n => by
  rcases h.2.2.1 n with c | ⟨rt, v, c1, c2, c3⟩
  · exact .inl c
  · exact .inr ⟨rt, v, c1, c2, c3.keepT kt⟩), h.2.2.2⟩
theorem well_strs {a : Addr} {ws : List Str} (W : WellAt H p) (h : H a = some (.lst (ws.map V.str))) : a ≠ p := fun e => by
  obtain ⟨x, y, z, u, w⟩ := W
  rw [e, w] at h
  cases ws with
  | nil => cases h
  | cons a r => simp at h
theorem well_heads {N : Addr → Prop} {a : Addr} {hv : List V} (W : WellAt H p) (h : H a = some (.lst hv)) (hh : All2 (HeadH N H) hs hv) : a ≠ p := fun e => by
  obtain ⟨x, y, z, u, w⟩ := W
  rw [e, w] at h
  cases h
  cases hh with
  | cons h1 _ => obtain ⟨t, l, h1, _⟩ := h1; cases h1
theorem WH.keepX (h : WH K X hs H s) (k : KeepX p H H') (W : WellAt H p) : WH K X hs H' s := by
  obtain ⟨kvs, r1, r2⟩ := h.rows
  obtain ⟨hv, q1, q2⟩ := h.heads
  have kt := keepT_x k W
  exact ⟨k _ _ (W.ne h.dict (by intro _ z; cases z)) h.dict, k _ _ (well_strs W h.lines) h.lines, ⟨kvs, k _ _ (W.ne r1 (by intro _ z; cases z)) r1, r2.mv kt⟩, ⟨hv, k _ _ (well_heads W q1 q2) q1, q2.mono fun f v z => z.mv kt fun l ws _ e => k _ _ (well_strs W e) e⟩, h.ne, h.ne2, h.len⟩
theorem WH.same (h : WH K X hs H s) (k : Same H H') : WH K X hs H' s := by
  obtain ⟨kvs, r1, r2⟩ := h.rows
  obtain ⟨hv, q1, q2⟩ := h.heads
  have kt := keepT_same k
  exact ⟨k _ _ h.dict, k _ _ h.lines, ⟨kvs, k _ _ r1, r2.mv kt⟩, ⟨hv, k _ _ q1, q2.mono fun f v z => z.mv kt fun l ws _ e => k _ _ e⟩, h.ne, h.ne2, h.len⟩
/-- what moves: the well, the world -/
def WMv (X : WA) (p : Addr) (H H' : Hp) : Prop := KeepL [p, X.w, X.ll, X.lr] H H'
theorem WMv.trans {H1 H2 : Hp} (a : WMv X p H H1) (b : WMv X p H1 H2) : WMv X p H H2 := fun q o n h => b q o n (a q o n h)
theorem wmv_x (k : KeepX p H H') : WMv X p H H' := fun q o n h => k q o (fun e => n (by rw [e]; exact List.mem_cons_self)) h
theorem wmv_same (k : Same H H') : WMv X p H H' := fun q o n h => k q o h
theorem wmv_upd {a : Addr} {o : HO} (ha : a ∈ [X.w, X.ll, X.lr]) : WMv X p H (upd H a o) := fun q u n h => by
  rw [upd_ne (fun e => n (by rw [e]; exact List.mem_cons_of_mem _ ha))]; exact h
theorem well_world (h : WH K X hs H s) (W : WellAt H p) : p ≠ X.w ∧ p ≠ X.ll ∧ p ≠ X.lr := by
  obtain ⟨kvs, r1, _⟩ := h.rows
  exact ⟨fun e => W.ne h.dict (by intro _ z; cases z) e.symm, fun e => well_strs W h.lines e.symm, fun e => W.ne r1 (by intro _ z; cases z) e.symm⟩
theorem WellAt.updN {a : Addr} {o : HO} (W : WellAt H p) (n : p ≠ a) : WellAt (upd H a o) p := by
  obtain ⟨x, y, z, u, w⟩ := W
  exact ⟨x, y, z, u, by rw [upd_ne n]; exact w⟩
theorem WH.cast {s' : WS} (h : WH K X hs H s) (e : s = s') : WH K X hs H s' := e ▸ h
theorem wmv_ll (k : KeepL [X.ll, X.lr] H H') : WMv X p H H' := fun q o n h => k q o (fun hm => n (List.mem_cons_of_mem _ (List.mem_cons_of_mem _ hm))) h
theorem keepL_well (k : KeepL [X.ll, X.lr] H H') (h : WH K X hs H s) (W : WellAt H p) : WellAt H' p := by
  obtain ⟨_, n1, n2⟩ := well_world h W
  obtain ⟨x, y, z, u, w⟩ := W
  refine ⟨x, y, z, u, k _ _ (fun hm => ?_) w⟩
  simp only [List.mem_cons, List.not_mem_nil, or_false] at hm
  exact hm.elim n1 n2
/-- left is told anew -/
theorem WH.left (h : WH K X hs H s) (m : Int) : WH K X hs (upd H X.w (.dK (wF X m))) ⟨s.ls, s.R, m⟩ := by
  obtain ⟨kvs, r1, r2⟩ := h.rows
  obtain ⟨hv, q1, q2⟩ := h.heads
  have kt : KeepT H (upd H X.w (.dK (wF X m))) := keepT_upd h.dict (by intro _ z; cases z)
  exact ⟨upd_same, by rw [upd_ne (ne_of h.lines h.dict (by intro z; cases z))]; exact h.lines, ⟨kvs, by rw [upd_ne (Ne.symm h.ne2)]; exact r1, r2.mv kt⟩, ⟨hv, by rw [upd_ne (ne_of q1 h.dict (by intro z; cases z))]; exact q1, q2.mono fun f v z => z.mv kt fun l ws _ e => by rw [upd_ne (ne_of e h.dict (by intro z; cases z))]; exact e⟩, h.ne, h.ne2, h.len⟩
/-- one line more, with no row -/
theorem WH.line (h : WH K X hs H s) (t : Str) : WH K X hs (upd H X.ll (.lst (s.ls.map V.str ++ [.str t]))) ⟨s.ls ++ [t], s.R ++ [none], s.left⟩ := by
  obtain ⟨kvs, r1, r2⟩ := h.rows
  obtain ⟨hv, q1, q2⟩ := h.heads
  have kt : KeepT H (upd H X.ll (.lst (s.ls.map V.str ++ [.str t]))) := keepT_upd h.lines (by intro _ z; cases z)
  refine ⟨by rw [upd_ne (ne_of h.dict h.lines (by intro z; cases z))]; exact h.dict, by rw [upd_same, List.map_append]; rfl, ⟨kvs, by rw [upd_ne (ne_of r1 h.lines (by intro z; cases z))]; exact r1, ?_⟩, ⟨hv, by rw [upd_ne (Ne.symm h.ne)]; exact q1, q2.mono fun f v z => z.mv kt fun l ws n e => by rw [upd_ne n]; exact e⟩, h.ne, h.ne2, by rw [List.length_append, List.length_append, h.len]; rfl⟩
  have r3 := r2.mv kt
  refine ⟨by rw [List.length_append]; have := r3.1; omega, r3.2.1, fun n => ?_, ?_⟩
  rotate_left
  · obtain ⟨ks, k1, k2, k3⟩ := r3.2.2.2
    exact ⟨ks, k1, k2, fun k hk => by rw [List.length_append]; have := k3 k hk; omega⟩
  have e : (s.R ++ [none]).getD n none = s.R.getD n none := by
    rw [getD_app]
    by_cases c : n < s.R.length
    · rw [if_pos c]
    · rw [if_neg c, getD_out (B := s.R) (by omega)]
      cases n - s.R.length with
      | zero => rfl
      | succ k => rfl
  rw [e]
  exact r3.2.2.1 n
/-- one row more: its dict entry, then its line -/
theorem RowsD.put {kvs : List (Key × V)} {R : List (Option RT)} {rt : RT} {v : V} (h : RowsD K H kvs R) (ht : RTold K H rt v) : RowsD K H (putK kvs (.inl ((R.length : Nat) : Int)) v) (R ++ [some rt]) := by
  refine ⟨?_, fun n hn => ?_, fun n => ?_, ?_⟩
  · rw [List.length_append, List.length_singleton]
    have := h.1
    unfold putK
    split
    · rw [List.length_map]; omega
    · rw [List.length_append, List.length_singleton]; omega
  · rw [valV_put, if_neg (fun e => by have := Sum.inl.inj e; omega)]
    exact h.2.1 n hn
  · rw [valV_put, getD_app]
    by_cases c : n = R.length
    · subst c
      rw [if_pos rfl, if_neg (Nat.lt_irrefl _), Nat.sub_self]
      exact .inr ⟨rt, v, rfl, rfl, ht⟩
    · rw [if_neg (show ¬ (Sum.inl ((n : Nat) : Int) : Key) = Sum.inl ((R.length : Nat) : Int) from fun e => c (by have := Sum.inl.inj e; omega))]
      by_cases c2 : n < R.length
      · rw [if_pos c2]; exact h.2.2.1 n
      · rw [if_neg c2]
        have h3 := h.2.2.1 n
        rw [getD_out (B := R) (by omega)] at h3
        rcases h3 with ⟨_, h3⟩ | ⟨_, _, h3, _⟩
        · refine .inl ⟨?_, h3⟩
          have : n - R.length = (n - R.length - 1) + 1 := by omega
          rw [this]; rfl
        · cases h3
  · obtain ⟨ks, k1, k2, k3⟩ := h.2.2.2
    have nk : R.length ∉ ks := fun hm => by have := k3 _ hm; omega
    have e : putK kvs (.inl ((R.length : Nat) : Int)) v = kvs ++ [(.inl ((R.length : Nat) : Int), v)] := by
      unfold putK
      rw [if_neg]
      intro c
      obtain ⟨a, ha, hd⟩ := List.any_eq_true.mp c
      have hm : (Sum.inl ((R.length : Nat) : Int) : Key) ∈ kvs.map Prod.fst := List.mem_map.mpr ⟨a, ha, of_decide_eq_true hd⟩
      rw [k1] at hm
      obtain ⟨k, hk, e⟩ := List.mem_map.mp hm
      have e := Sum.inl.inj e
      exact nk (by have : k = R.length := by omega
                   rw [← this]; exact hk)
    refine ⟨ks ++ [R.length], by rw [e, List.map_append, List.map_append, k1]; rfl, ?_, fun k hk => ?_⟩
    · rw [List.nodup_append]
      refine ⟨k2, List.nodup_cons.mpr ⟨by simp, List.nodup_nil⟩, fun a ha b hb e => ?_⟩
      rw [List.mem_singleton.mp hb] at e
      exact nk (e ▸ ha)
    · rw [List.length_append, List.length_singleton]
      rcases List.mem_append.mp hk with hk | hk
      · have := k3 k hk; omega
      · rw [List.mem_singleton.mp hk]; omega
end
theorem some_at {way : Int} (h0 : 0 ≤ way) (h1 : way < 4) : ∃ d m : Int, atI [V.int 1, V.int 2, V.int 3, V.int 6] way = some (.int d) ∧ atI [V.int 1, V.int 3, V.int 5, V.int 15] way = some (.int m) ∧ 1 ≤ d ∧ d ≤ 6 ∧ 1 ≤ m ∧ m ≤ 15 := by
  have : way = 0 ∨ way = 1 ∨ way = 2 ∨ way = 3 := by omega
  rcases this with rfl | rfl | rfl | rfl
  · exact ⟨1, 1, rfl, rfl, by decide, by decide, by decide, by decide⟩
  · exact ⟨2, 3, rfl, rfl, by decide, by decide, by decide, by decide⟩
  · exact ⟨3, 5, rfl, rfl, by decide, by decide, by decide, by decide⟩
  · exact ⟨6, 15, rfl, rfl, by decide, by decide, by decide, by decide⟩
theorem sum_le_len : ∀ ws : List Str, (∀ w ∈ ws, w.length ≤ 110) → (ws.map (·.length)).sum ≤ 110 * ws.length
  | [], _ => Nat.zero_le _
  | x :: r, h => by
    have := sum_le_len r fun w hw => h w (List.mem_cons_of_mem _ hw)
    have := h x List.mem_cons_self
    rw [List.map_cons, List.sum_cons, List.length_cons]
    omega
def PARN : List Str := ["a", "b", "cells"]
theorem names_at {i : Nat} (h : i < 4) : ∃ nm : Str, (["f", "go", "funs", "zzzzzz"] : List Str)[i]? = some nm ∧ atI [V.str "f", V.str "go", V.str "funs", V.str "zzzzzz"] (0 + (i : Int)) = some (.str nm) := by
  have : i = 0 ∨ i = 1 ∨ i = 2 ∨ i = 3 := by omega
  rcases this with rfl | rfl | rfl | rfl
  · exact ⟨_, rfl, rfl⟩
  · exact ⟨_, rfl, rfl⟩
  · exact ⟨_, rfl, rfl⟩
  · exact ⟨_, rfl, rfl⟩
theorem nm4_ok : ∀ s ∈ (["f", "go", "funs", "zzzzzz"] : List Str), isNameW s = true := by decide +kernel
theorem rot_ok : ∀ t, t < 3 → ∀ m, m < 4 → (∀ p ∈ (PARN.drop t ++ PARN.take t).take m, isNameW p = true) ∧ ((PARN.drop t ++ PARN.take t).take m).length ≤ 3 ∧ cntTo ((PARN.drop t ++ PARN.take t).take m) ((PARN.drop t ++ PARN.take t).take m).length = ((PARN.drop t ++ PARN.take t).take m).length := by decide +kernel
theorem fresh_well {H : Hp} {p q : Addr} (W : WellAt H p) (h : H q = none) : q ≠ p := W.fresh h
def headD (h : Str × List Str) : PyData := .tuple [.str h.1, strsD h.2]
theorem heads_dp {K : PySem.W.Frag} {H : Hp} {N : Addr → Prop} : ∀ {hs : List (Str × List Str)} {hv : List V}, All2 (HeadH N H) hs hv → DpAll K H hv (hs.map headD)
  | _, _, .nil => .nil
  | _, _, .cons h r => by
    obtain ⟨t, l, rfl, h1, _, h2⟩ := h
    exact .cons (.tup (SqT.of h1) (.cons (.str _) (.cons (.lst (SqL.of h2) (dp_strs _)) .nil))) (heads_dp r)
theorem heads_eqv : ∀ hs : List (Str × List Str), PyData.eqv (.list (hs.map headD)) (.list []) = decide (hs = [])
  | [] => rfl
  | _ :: _ => rfl
theorem heads_shaped {hs : List (Str × List Str)} (h : ∀ x ∈ hs, HeadOk x.1 x.2) : SeqAt.shaped (.list (hs.map headD)) = true := by
  have nm : ∀ {s : Str}, isNameW s = true → PyData.strOk s = true := fun h => strOk_of fun c hc => ((tok_name h).2 c hc).2
  have h1 : PyData.canLayAll0 (hs.map headD) = true := by
    induction hs with
    | nil => rfl
    | cons x r ih =>
      have hx := h x List.mem_cons_self
      have e := strs_shaped (ws := x.2) fun s hs => nm (hx.2.1 s hs)
      have e2 : (strsD x.2).canLay0 = true := (Bool.and_eq_true _ _ ▸ e : _ ∧ _).1
      show ((PyData.strOk x.1 && ((strsD x.2).canLay0 && true)) && PyData.canLayAll0 (r.map headD)) = true
      rw [nm hx.1, e2, ih fun y hy => h y (List.mem_cons_of_mem _ hy)]; rfl
  have h2 : PyData.depthAll (hs.map headD) ≤ 2 := by
    clear h h1
    induction hs with
    | nil => exact Nat.zero_le _
    | cons x r ih =>
      have d : ∀ ws : List Str, PyData.depthAll (ws.map PyData.str) = 0 := by
        intro ws
        induction ws with
        | nil => rfl
        | cons s r ih => show max 0 (PyData.depthAll (r.map PyData.str)) = 0; rw [ih]; rfl
      show max (max 0 (max (PyData.depthAll (x.2.map PyData.str) + 1) 0) + 1) (PyData.depthAll (r.map headD)) ≤ 2
      rw [d]
      omega
  show (PyData.canLayAll0 _ && decide (PyData.depthAll _ + 1 ≤ 64)) = true
  rw [h1, decide_eq_true (by omega)]; rfl
/-- [some_expr(well) for one in xs] -/
theorem lc_exprs {K : PySem.W.Frag} {J : It} {n : Nat} {G : Hp → Prop} {Y : Nat → Hp → V → Hp → Prop} (w : Walk J n G Y) {p : Addr} {j : Nat} {te : TE} {σ : St} {H1 : Hp} {D : Addr} {Qd : Hp → Prop} (W : WellAt H1 p) (hD : H1 D = none) (hn : n < 16777216) (hj : j < σ.length)
    (hG : ∀ H, KeepX p H1 H → G H) (hY : ∀ i H x H', Y i H x H' → H' = H)
    (step : ∀ i x H (Z : VK), i < n → KeepX p H1 H → WellAt H p → Y i H x H → (∀ H' e y, KeepX p H H' → WellAt H' p → ExOk e → ToldE K H' e y → Z y H') → te ((σ.set j none).set j (some x)) H Z)
    (hd : ∀ H es ys, KeepX p H1 H → WellAt H p → All2 (ToldE K H) es ys → (∀ e ∈ es, ExOk e) → es.length = n → H D = some (.lst ys) → Qd H) : LcGoal J D te j σ H1 Qd := by
  have npD : D ≠ p := W.fresh hD
  refine lc_it w (fun i H => ∃ es ys, H D = some (.lst ys) ∧ KeepX p H1 H ∧ WellAt H p ∧ All2 (ToldE K H) es ys ∧ (∀ e ∈ es, ExOk e) ∧ es.length = i) ⟨[], [], upd_same, keepX_of (same_new hD), W.same (same_new hD), .nil, (fun _ h => by cases h), rfl⟩ (fun i H _ h => by obtain ⟨_, _, _, k, _⟩ := h; exact hG H k) ?_ fun H ⟨es, ys, h1, h2, h3, h4, h5, h6⟩ => hd H es ys h2 h3 h4 h5 h6 h1
  rintro i v H H2 hi ⟨es, ys, h1, h2, h3, h4, h5, h6⟩ y
  have e := hY _ _ _ _ y
  subst e
  have hw2 : wipe ((wipe σ [j]).set j (some v)) [j] = wipe σ [j] := by
    show ((σ.set j none).set j (some v)).set j none = σ.set j none
    simp
  refine ⟨hw2, ?_⟩
  refine step i v _ _ hi h2 h3 y fun H3 e z k3 W3 ex told => ⟨ys, k3 _ _ npD h1, ?_, ?_⟩
  · have := h4.length
    exact Nat.lt_of_lt_of_le (show ys.length < 16777216 by omega) (by decide)
  · have g3 := k3 _ _ npD h1
    have kt : KeepT H3 (upd H3 D (.lst (ys ++ [z]))) := keepT_upd g3 (by intro _ z; cases z)
    have h4' := (h4.mono fun a b h => (h.keep k3 h3).keepT kt).snoc (told.keepT kt)
    refine ⟨es ++ [e], ys ++ [z], upd_same, fun b o nb hb => ?_, W3.updN npD.symm, h4', fun x hx => ?_, by rw [List.length_append, h6]; rfl⟩
    · rw [upd_ne (ne_of_none hb hD)]
      exact k3 _ _ nb (h2 b o nb hb)
    · rcases List.mem_append.mp hx with h | h
      · exact h5 x h
      · rw [List.mem_singleton.mp h]; exact ex
/-! ### rows as data -/
theorem name_str {s : Str} (h : isNameW s = true) : PyData.strOk s = true := strOk_of fun c hc => ((tok_name h).2 c hc).2
theorem word_str {s : Str} (h : s ∈ (["skip", "set", "put", "ask", "draw", "tell", "if", "while", "call", "give", "fun", "main", "else", "end"] : List Str)) : PyData.strOk s = true := strOk_of fun c hc => ((tok_word s h).2 c hc).2
theorem told_lays : ∀ {es : List Ex}, (∀ e ∈ es, ExOk e) → PyData.canLayAll0 (es.map Ex.told) = true ∧ PyData.depthAll (es.map Ex.told) ≤ 6
  | [], _ => ⟨rfl, Nat.zero_le _⟩
  | e :: r, h => by
    have h1 := h e List.mem_cons_self
    have h2 := told_lays (es := r) fun x hx => h x (List.mem_cons_of_mem _ hx)
    have h3 := Ex.told_depth e
    have h4 := h1.2.1
    refine ⟨?_, ?_⟩
    · show (e.told.canLay0 && PyData.canLayAll0 (r.map Ex.told)) = true
      rw [Ex.lay h1.1, h2.1]; rfl
    · show max e.told.depth (PyData.depthAll (r.map Ex.told)) ≤ 6
      omega
theorem RT.lay {rt : RT} (h : rt.Ok) : rt.data.canLay0 = true ∧ rt.data.depth ≤ 7 := by
  have dl : ∀ {e : Ex}, ExOk e → e.told.depth ≤ 6 := fun {e} h => Nat.le_trans (Ex.told_depth e) h.2.1
  cases rt with
  | skip => exact ⟨by show (PyData.strOk _ && true) = true; rw [word_str (by decide +kernel)]; rfl, by show max 0 0 + 1 ≤ 7; omega⟩
  | set b e =>
    have := dl h.2
    exact ⟨by show (PyData.strOk _ && (PyData.strOk b && (e.told.canLay0 && true))) = true; rw [word_str (by decide +kernel), name_str h.1, Ex.lay h.2.1]; rfl, by show max 0 (max 0 (max e.told.depth 0)) + 1 ≤ 7; omega⟩
  | put a b =>
    have := dl h.1
    have := dl h.2
    exact ⟨by show (PyData.strOk _ && (a.told.canLay0 && (b.told.canLay0 && true))) = true; rw [word_str (by decide +kernel), Ex.lay h.1.1, Ex.lay h.2.1]; rfl, by show max 0 (max a.told.depth (max b.told.depth 0)) + 1 ≤ 7; omega⟩
  | ask b w e =>
    have := dl h.2.2
    exact ⟨by show (PyData.strOk _ && (PyData.strOk b && (PyData.strOk w && (e.told.canLay0 && true)))) = true; rw [word_str (by decide +kernel), name_str h.1, name_str h.2.1, Ex.lay h.2.2.1]; rfl, by show max 0 (max 0 (max 0 (max e.told.depth 0))) + 1 ≤ 7; omega⟩
  | draw b w => exact ⟨by show (PyData.strOk _ && (PyData.strOk b && (PyData.strOk w && true))) = true; rw [word_str (by decide +kernel), name_str h.1, name_str h.2]; rfl, by show max 0 (max 0 (max 0 0)) + 1 ≤ 7; omega⟩
  | tell e =>
    have := dl h
    exact ⟨by show (PyData.strOk _ && (e.told.canLay0 && true)) = true; rw [word_str (by decide +kernel), Ex.lay h.1]; rfl, by show max 0 (max e.told.depth 0) + 1 ≤ 7; omega⟩
  | ifr e =>
    have := dl h
    exact ⟨by show (PyData.strOk _ && (e.told.canLay0 && true)) = true; rw [word_str (by decide +kernel), Ex.lay h.1]; rfl, by show max 0 (max e.told.depth 0) + 1 ≤ 7; omega⟩
  | loop e =>
    have := dl h
    exact ⟨by show (PyData.strOk _ && (e.told.canLay0 && true)) = true; rw [word_str (by decide +kernel), Ex.lay h.1]; rfl, by show max 0 (max e.told.depth 0) + 1 ≤ 7; omega⟩
  | give e =>
    have := dl h
    exact ⟨by show (PyData.strOk _ && (e.told.canLay0 && true)) = true; rw [word_str (by decide +kernel), Ex.lay h.1]; rfl, by show max 0 (max e.told.depth 0) + 1 ≤ 7; omega⟩
  | call b f es =>
    have t := told_lays h.2.2.1
    exact ⟨by show (PyData.strOk _ && (PyData.strOk b && (PyData.strOk f && PyData.canLayAll0 (es.map Ex.told)))) = true; rw [word_str (by decide +kernel), name_str h.1, name_str h.2.1, t.1]; rfl, by show max 0 (max 0 (max 0 (PyData.depthAll (es.map Ex.told)))) + 1 ≤ 7; omega⟩
theorem RT.shaped {rt : RT} (h : rt.Ok) : SeqAt.shaped rt.data = true := by
  have t := RT.lay h
  show (rt.data.canLay0 && decide (rt.data.depth ≤ 64)) = true
  rw [t.1, decide_eq_true (by omega)]; rfl
theorem RT.eqv {rt : RT} (h : rt.Ok) : PyData.eqv rt.data rt.data = true := SeqAt.eqv_refl _ (RT.lay h).1
theorem Body.oks {hs : List (Str × Nat)} : ∀ {d : Nat} {L : List Str} {R : List (Option RT)}, Body hs d L R → ∀ rt, some rt ∈ R → rt.Ok := by
  intro d L R h
  induction h with
  | nil => intro t ht; cases ht
  | app _ _ h1 h2 =>
    intro t ht
    rcases List.mem_append.mp ht with h | h
    · exact h1 t h
    · exact h2 t h
  | row h _ => intro t ht; rw [Option.some.inj (List.mem_singleton.mp ht)]; exact h
  | call h _ => intro t ht; rw [Option.some.inj (List.mem_singleton.mp ht)]; exact h
  | loop he _ h =>
    intro t ht
    rcases List.mem_cons.mp ht with e | ht
    · rw [Option.some.inj e]; exact he
    rcases List.mem_append.mp ht with ht | ht
    · exact h t ht
    · cases List.mem_singleton.mp ht
  | ifr he _ _ h1 h2 =>
    intro t ht
    rcases List.mem_cons.mp ht with e | ht
    · rw [Option.some.inj e]; exact he
    rcases List.mem_append.mp ht with ht | ht
    · exact h1 t ht
    rcases List.mem_cons.mp ht with e | ht
    · cases e
    rcases List.mem_append.mp ht with ht | ht
    · exact h2 t ht
    · cases List.mem_singleton.mp ht
theorem ProgOk.oks {ts : List Str} {R : List (Option RT)} (h : ProgOk ts R) : ∀ rt, some rt ∈ R → rt.Ok := by
  obtain ⟨bs, L, M, ok, h4, hn, hb, hts, hR⟩ := h.ex
  intro t ht
  rw [hR] at ht
  rcases List.mem_append.mp ht with ht | ht
  · obtain ⟨b, hb, ht⟩ := List.mem_flatMap.mp ht
    rcases List.mem_cons.mp ht with e | ht
    · cases e
    rcases List.mem_append.mp ht with ht | ht
    · exact (ok b hb).body.oks t ht
    · rw [Option.some.inj (List.mem_singleton.mp ht)]; exact (ok b hb).ex
  rcases List.mem_cons.mp ht with e | ht
  · cases e
  · exact hb.oks t ht
theorem ProgOk.at_ok {ts : List Str} {R : List (Option RT)} (h : ProgOk ts R) {num : List (Nat × RT)} (hN : NumIs num R) {n : Int} {rt : RT} (e : rowOf num n = some rt) : rt.Ok ∧ ∃ m : Nat, n = (m : Int) ∧ R.getD m none = some rt := by
  have e' := e
  unfold rowOf at e'
  cases q : num.find? fun x => decide ((x.1 : Int) = n) with
  | none => rw [q] at e'; cases e'
  | some x =>
    have hx : (x.1 : Int) = n := of_decide_eq_true (by have := List.find?_some q; exact this)
    subst hx
    have hg := (hN x.1).symm.trans e
    refine ⟨h.oks rt ?_, x.1, rfl, hg⟩
    rw [List.getD_eq_getElem?_getD] at hg
    cases c : R[x.1]? with
    | none => rw [c] at hg; cases hg
    | some y => rw [c] at hg; rw [← (show y = some rt from hg)]; exact List.mem_of_getElem? c
theorem RT.exs_ok {rt : RT} (h : rt.Ok) : (∀ e ∈ rt.exs, e.depth ≤ 7) ∧ rt.exs.length ≤ 1000 := by
  have one : ∀ {e : Ex}, ExOk e → (∀ x ∈ [e], x.depth ≤ 7) ∧ ([e] : List Ex).length ≤ 1000 := fun {e} h => ⟨fun x hx => by rw [List.mem_singleton.mp hx]; have := h.2.1; omega, by show 1 ≤ 1000; decide⟩
  cases rt with
  | skip => exact ⟨(fun _ h => by cases h), by show 0 ≤ 1000; decide⟩
  | draw _ _ => exact ⟨(fun _ h => by cases h), by show 0 ≤ 1000; decide⟩
  | set b e => exact one h.2
  | ask b w e => exact one h.2.2
  | tell e => exact one h
  | ifr e => exact one h
  | loop e => exact one h
  | give e => exact one h
  | put a b =>
    refine ⟨fun x hx => ?_, by show 2 ≤ 1000; decide⟩
    rcases List.mem_cons.mp hx with rfl | hx
    · have := h.1.2.1; omega
    · rw [List.mem_singleton.mp hx]; have := h.2.2.1; omega
  | call b f es =>
    exact ⟨fun x hx => by have := (h.2.2.1 x hx).2.1; omega, by have := h.2.2.2; show es.length ≤ 1000; omega⟩
/-- what the rows tell at n -/
theorem RowsD.at {K : PySem.W.Frag} {H : Hp} {kvs : List (Key × V)} {R : List (Option RT)} {num : List (Nat × RT)} (h : RowsD K H kvs R) (hN : NumIs num R) (n : Int) : (rowOf num n = none ∧ valV kvs (.inl n) = none) ∨ ∃ rt v, rowOf num n = some rt ∧ valV kvs (.inl n) = some v ∧ RTold K H rt v := by
  by_cases c : n < 0
  · refine .inl ⟨?_, h.2.1 n c⟩
    unfold rowOf
    rw [List.find?_eq_none.mpr fun x _ => by
      rw [decide_eq_false (by omega)]; decide]
    rfl
  · obtain ⟨m, rfl⟩ : ∃ m : Nat, n = (m : Int) := ⟨n.toNat, by omega⟩
    rw [hN m]
    exact h.2.2.1 m
def arsOf (hs : List (Str × List Str)) : List (Str × Nat) := hs.map fun h => (h.1, h.2.length)
def HeadsOk (hs : List (Str × List Str)) : Prop := hs.length ≤ 4 ∧ (hs.map Prod.fst).Nodup ∧ ∀ h ∈ hs, HeadOk h.1 h.2
section
variable (K : PySem.W.Frag)
def spLSome : Sp := fun vs H Q _ => ∃ p : Addr, vs = [.ref p] ∧ WellAt H p ∧ ∀ e v H', ExOk e → ToldE K H' e v → KeepX p H H' → WellAt H' p → Q v H'
def spLHeads : Sp := fun vs H Q _ => ∃ p : Addr, vs = [.ref p] ∧ WellAt H p ∧ ∀ hs l hv H', HeadsOk hs → H l = none → H' l = some (.lst hv) → All2 (HeadH (fun _ => True) H') hs hv → KeepX p H H' → WellAt H' p → Q (.ref l) H'
def spLSimple : Sp := fun vs H Q _ => ∃ (X : WA) (hs : List (Str × List Str)) (s : WS) (p : Addr) (way : Int), vs = [.ref X.w, .ref p, .int way] ∧ WH K X hs H s ∧ WellAt H p ∧ HeadsOk hs ∧ 0 ≤ way ∧ way ≤ 6 ∧
  ∀ rt v H', rt.Ok → (rt.simple = true ∨ (way = 6 ∧ ∃ b f es, rt = .call b f es ∧ (f, es.length) ∈ arsOf hs)) → RTold K H' rt v → KeepX p H H' → WellAt H' p → Q v H'
def spLLine : Sp := fun vs H Q _ => ∃ (rt : RT) (v : V), vs = [v] ∧ RTold K H rt v ∧ rt.Ok ∧ ∀ H', Same H H' → Q (.str rt.text) H'
def spLPut : Sp := fun vs H Q _ => ∃ (X : WA) (hs : List (Str × List Str)) (s : WS) (rt : RT) (v : V), vs = [.ref X.w, v] ∧ WH K X hs H s ∧ s.ls.length ≤ 1000 ∧ RTold K H rt v ∧ rt.Ok ∧
  ∀ H', WH K X hs H' ⟨s.ls ++ [rt.text], s.R ++ [some rt], s.left⟩ → KeepL [X.ll, X.lr] H H' → Q .non H'
def spLRow (n : Nat) : Sp := fun vs H Q _ => ∃ (X : WA) (hs : List (Str × List Str)) (s : WS) (p : Addr), vs = [.ref X.w, .ref p, .int (5 - (n : Int))] ∧ WH K X hs H s ∧ WellAt H p ∧ HeadsOk hs ∧ 0 < s.left ∧ (s.ls.length : Int) + s.left ≤ 100 ∧
  ∀ L R (m : Int) H', Body (arsOf hs) n L R → 0 ≤ m → m + (L.length : Int) = s.left → WH K X hs H' ⟨s.ls ++ L, s.R ++ R, m⟩ → WMv X p H H' → WellAt H' p → Q .non H'
def spLBlock (n : Nat) : Sp := fun vs H Q _ => ∃ (X : WA) (hs : List (Str × List Str)) (s : WS) (p : Addr), vs = [.ref X.w, .ref p, .int (6 - (n : Int))] ∧ WH K X hs H s ∧ WellAt H p ∧ HeadsOk hs ∧ 1 ≤ n ∧ 0 ≤ s.left ∧ (s.ls.length : Int) + s.left ≤ 100 ∧
  ∀ L R (m : Int) H', Body (arsOf hs) (n - 1) L R → 0 ≤ m → m + (L.length : Int) = s.left → WH K X hs H' ⟨s.ls ++ L, s.R ++ R, m⟩ → WMv X p H H' → WellAt H' p → Q .non H'
def spLWorld : Sp := fun vs H Q _ => ∃ (a : Addr) (ns : List Int) (k : Int), vs = [.ref a, .int k] ∧ SqL K H a (ns.map V.int) ∧ 0 ≤ k ∧ ∀ X hs s H', WH K X hs H' s → ProgOk s.ls s.R → Same H H' → Q (.ref X.w) H'
end

theorem cutV_take (xs : List V) (k : Nat) : cutV xs none (some (k : Int)) = xs.take k := by
  unfold cutV
  rw [HT.sIx_nat, HT.sIx_none, Nat.sub_zero, List.drop_zero]
  by_cases h : k ≤ xs.length
  · rw [Nat.min_eq_left h]
  · rw [Nat.min_eq_right (by omega), List.take_of_length_le (Nat.le_refl _), List.take_of_length_le (by omega)]
theorem cutV_drop (xs : List V) (k : Nat) : cutV xs (some (k : Int)) none = xs.drop k := by
  unfold cutV
  rw [HT.sIx_nat, HT.sIx_none]
  by_cases h : k ≤ xs.length
  · rw [Nat.min_eq_left h, List.take_of_length_le (by rw [List.length_drop]; exact Nat.le_refl _)]
  · rw [Nat.min_eq_right (by omega), List.drop_eq_nil_of_le (Nat.le_refl _), List.drop_eq_nil_of_le (by omega), List.take_nil]
/-- [e for x in xs if t], t never true -/
theorem lc_none {J : It} {n : Nat} {G : Hp → Prop} {Y : Nat → Hp → V → Hp → Prop} (w : Walk J n G Y) {j : Nat} {tt : TT} {te : TE} {σ : St} {H1 : Hp} {D : Addr} {Qd : Hp → Prop} (hD : H1 D = none)
    (hG : ∀ H, Same H1 H → G H) (hY : ∀ i H x H', Y i H x H' → H' = H)
    (step : ∀ i x H (Z : Bool → Hp → Prop), i < n → Same H1 H → Y i H x H → (∀ H', Same H H' → Z false H') → tt ((σ.set j none).set j (some x)) H Z)
    (hd : ∀ H, Same H1 H → H D = some (.lst []) → Qd H) :
    ∃ W : Nat → Nat → Hp → Prop, (∃ m, W 0 m (upd H1 D (.lst []))) ∧ ∀ i m H, W i m H →
      (J.stop i H ∧ Qd H) ∨ (J.go i H ∧ ∃ Nx : Hp → Prop, (∀ H', Nx H' → ∃ m', m' < m ∧ W (i + 1) m' H') ∧ ∀ x H', J.yld i H x H' → gName j x (wipe σ [j]) H' fun σ2 H2 => wipe σ2 [j] = wipe σ [j] ∧ tt σ2 H2 fun b H3 =>
        if b = true then te σ2 H3 fun y H4 => ∃ acc, H4 D = some (.lst acc) ∧ acc.length < sizeLine ∧ Nx (upd H4 D (.lst (acc ++ [y]))) else Nx H3) := by
  refine lc_it w (fun _ H => H D = some (.lst []) ∧ Same H1 H) ⟨upd_same, same_new hD⟩ (fun i H _ h => hG H h.2) ?_ fun H h => hd H h.2 h.1
  rintro i x H H2 hi ⟨h1, h2⟩ y
  have e := hY _ _ _ _ y
  subst e
  have hw : wipe ((wipe σ [j]).set j (some x)) [j] = wipe σ [j] := by
    show ((σ.set j none).set j (some x)).set j none = σ.set j none
    simp
  refine ⟨hw, ?_⟩
  refine step i x _ _ hi h2 y fun H3 s3 => ?_
  exact iteF ⟨s3 _ _ h1, h2.trans s3⟩

/-! ### the law's own reader -/
def WsOk (ws : List Str) : Prop := ws.length ≤ 140 ∧ ∀ w ∈ ws, WordOk w
theorem WsOk.drop {ws : List Str} (h : WsOk ws) (k : Nat) : WsOk (ws.drop k) := ⟨by rw [List.length_drop]; have := h.1; omega, fun w hw => h.2 w (List.mem_of_mem_drop hw)⟩
theorem WordOk.b {w : Str} (h : WordOk w) : w.length ≤ 1000 ∧ Ascii w := ⟨by rw [len_tl]; have := h.1; omega, h.2⟩
theorem exL_nil : exL [] = some [] := rfl
theorem exL_step {ws : List Str} (h : ws ≠ []) : exL ws = match parseE 6 ws with
    | none => none
    | some (e, r) => if e.parts ≤ 15 then (exL r).map (e :: ·) else none := by
  cases ws with
  | nil => exact absurd rfl h
  | cons x t =>
    unfold exL
    rw [parseAll_step]
    cases parseE 6 (x :: t) with
    | none => rfl
    | some p =>
      obtain ⟨e, r⟩ := p
      simp only
      split
      · cases parseAll r.length r <;> rfl
      · rfl
theorem big_none {n : Nat} {ws : List Str} (hn : 6 ≤ n) (h : parseE n ws = none) : parseE 6 ws = none := by
  cases q : parseE 6 ws with
  | none => rfl
  | some p =>
    obtain ⟨e, r⟩ := p
    obtain ⟨w1, w2, w3⟩ := parse_wf q
    have := parse_toks w1 (Nat.le_trans w2 hn) r
    rw [← w3, h] at this
    cases this
theorem big_some {n : Nat} {ws r : List Str} {e : Ex} (h : parseE n ws = some (e, r)) (hd : e.depth ≤ 6) : parseE 6 ws = some (e, r) := by
  obtain ⟨w1, w2, w3⟩ := parse_wf h
  have := parse_toks w1 hd r
  rw [← w3] at this
  exact this
theorem big_deep {n : Nat} {ws r : List Str} {e : Ex} (hn : 6 ≤ n) (h : parseE n ws = some (e, r)) (hd : 6 < e.depth) : parseE 6 ws = none := by
  cases q : parseE 6 ws with
  | none => rfl
  | some p =>
    obtain ⟨e', r'⟩ := p
    obtain ⟨w1, w2, w3⟩ := parse_wf q
    have := parse_toks w1 (Nat.le_trans w2 hn) r'
    rw [← w3, h] at this
    cases this
    omega
section
variable (K : PySem.W.Frag)
def spLMany : Sp := fun vs H Q _ => ∃ (a : Addr) (ws : List Str), vs = [.ref a] ∧ SqL K H a (ws.map V.str) ∧ WsOk ws ∧ (∀ es, exL ws = some es → ∀ H', Same H H' → Q (.int (es.length : Nat)) H') ∧ (exL ws = none → ∀ H', Same H H' → Q .non H')
end

def SIMPLEW : List Str := ["skip", "set", "put", "ask", "draw", "tell"]
def KV3 : List (Key × V) := [(.inr "set", .int 1), (.inr "ask", .int 2), (.inr "draw", .int 2)]
def KV2 : List (Key × V) := [(.inr "put", .int 2), (.inr "draw", .int 0)]
def namesN (w : Str) : Nat := if w = "set" then 1 else if w = "ask" then 2 else if w = "draw" then 2 else 0
def expN (w : Str) : Nat := if w = "put" then 2 else if w = "draw" then 0 else 1
theorem kv3_merge : mergeK [] KV3 = KV3 := by kernel_rfl
theorem kv2_merge : mergeK [] KV2 = KV2 := by kernel_rfl
theorem kv3_get (w : Str) : (valV KV3 (.inr w)).getD (.int 0) = .int (namesN w : Nat) := by
  unfold namesN KV3
  by_cases h1 : w = "set"
  · rw [if_pos h1, valV_pos (by rw [h1])]; rfl
  rw [if_neg h1, valV_neg (fun e => h1 (Sum.inr.inj e).symm)]
  by_cases h2 : w = "ask"
  · rw [if_pos h2, valV_pos (by rw [h2])]; rfl
  rw [if_neg h2, valV_neg (fun e => h2 (Sum.inr.inj e).symm)]
  by_cases h3 : w = "draw"
  · rw [if_pos h3, valV_pos (by rw [h3])]; rfl
  rw [if_neg h3, valV_neg (fun e => h3 (Sum.inr.inj e).symm)]; rfl
theorem kv2_get (w : Str) : (valV KV2 (.inr w)).getD (.int 1) = .int (expN w : Nat) := by
  unfold expN KV2
  by_cases h1 : w = "put"
  · rw [if_pos h1, valV_pos (by rw [h1])]; rfl
  rw [if_neg h1, valV_neg (fun e => h1 (Sum.inr.inj e).symm)]
  by_cases h3 : w = "draw"
  · rw [if_pos h3, valV_pos (by rw [h3])]; rfl
  rw [if_neg h3, valV_neg (fun e => h3 (Sum.inr.inj e).symm)]; rfl
/-- [x for x in xs if t], over texts -/
theorem lc_filter {xs : List Str} (p : Str → Bool) {J : It} {G : Hp → Prop} (w : Walk J (xs.map V.str).length G (YAt (xs.map V.str))) {j : Nat} {tt : TT} {te : TE} {σ : St} {H1 : Hp} {D : Addr} {Qd : Hp → Prop} (hD : H1 D = none) (hn : xs.length < 16777216)
    (hG : ∀ H, Same H1 H → G H)
    (step : ∀ s ∈ xs, ∀ H (Z : Bool → Hp → Prop), Same H1 H → (∀ H', Same H H' → Z (p s) H') → tt ((σ.set j none).set j (some (.str s))) H Z)
    (elt : ∀ s ∈ xs, ∀ H (Z : VK), Z (.str s) H → te ((σ.set j none).set j (some (.str s))) H Z)
    (hd : ∀ H, Same H1 H → H D = some (.lst ((xs.filter p).map V.str)) → Qd H) :
    ∃ W : Nat → Nat → Hp → Prop, (∃ m, W 0 m (upd H1 D (.lst []))) ∧ ∀ i m H, W i m H →
      (J.stop i H ∧ Qd H) ∨ (J.go i H ∧ ∃ Nx : Hp → Prop, (∀ H', Nx H' → ∃ m', m' < m ∧ W (i + 1) m' H') ∧ ∀ x H', J.yld i H x H' → gName j x (wipe σ [j]) H' fun σ2 H2 => wipe σ2 [j] = wipe σ [j] ∧ tt σ2 H2 fun b H3 =>
        if b = true then te σ2 H3 fun y H4 => ∃ acc, H4 D = some (.lst acc) ∧ acc.length < sizeLine ∧ Nx (upd H4 D (.lst (acc ++ [y]))) else Nx H3) := by
  refine lc_it w (fun i H => H D = some (.lst (((xs.take i).filter p).map V.str)) ∧ Same H1 H) ⟨by rw [List.take_zero]; exact upd_same, same_new hD⟩ (fun i H _ h => hG H h.2) ?_ fun H h => hd H h.2 (by have := h.1; rw [List.length_map, List.take_length] at this; exact this)
  rintro i x H H2 hi ⟨h1, h2⟩ ⟨e, hx⟩
  subst e
  have hw : wipe ((wipe σ [j]).set j (some x)) [j] = wipe σ [j] := by
    show ((σ.set j none).set j (some x)).set j none = σ.set j none
    simp
  refine ⟨hw, ?_⟩
  rw [List.getElem?_map] at hx
  obtain ⟨s, hs, rfl⟩ := Option.map_eq_some_iff.mp hx
  have hm := List.mem_of_getElem? hs
  have et : (xs.take (i + 1)).filter p = (xs.take i).filter p ++ (if p s = true then [s] else []) := by
    rw [List.take_add_one, hs, List.filter_append]
    show _ ++ ([s].filter p) = _
    rw [List.filter_cons, List.filter_nil]
  refine step s hm _ _ h2 fun H3 s3 => ?_
  cases hp : p s with
  | false =>
    rw [hp, if_neg Bool.false_ne_true, List.append_nil] at et
    exact iteF ⟨by rw [et]; exact s3 _ _ h1, h2.trans s3⟩
  | true =>
    rw [hp, if_pos rfl] at et
    refine iteT (elt s hm _ _ ⟨_, s3 _ _ h1, ?_, ?_, fun b o hb => ?_⟩)
    · rw [List.length_map]
      have q1 := List.length_filter_le p (xs.take i)
      have q2 := List.length_take_le i xs
      have q3 : (xs.take i).length ≤ xs.length := by rw [List.length_take]; omega
      exact Nat.lt_of_lt_of_le (show _ < 16777216 by omega) (by decide)
    · rw [upd_same, et, List.map_append]; rfl
    · rw [upd_ne (ne_of_none hb hD)]; exact s3 _ _ (h2 b o hb)
theorem filt_all {xs : List Str} {p : Str → Bool} : decide (xs.filter (fun s => !p s) = []) = xs.all p := by
  rw [Bool.eq_iff_iff, decide_eq_true_eq, List.filter_eq_nil_iff, List.all_eq_true]
  constructor
  · intro h c hc
    have := h c hc
    simp at this
    exact this
  · intro h c hc
    rw [h c hc]; simp
/-- what the law asks of a simple row's words -/
def simpB (ws : List Str) : Bool := ((ws.drop 1).take (namesN (hd0 ws))).all isNameW && (decide (1 + namesN (hd0 ws) ≤ ws.length) && (match exL (ws.drop (1 + namesN (hd0 ws))) with | some es => decide (es.length = expN (hd0 ws)) | none => false))
theorem only_some {o : Option (List Ex)} : (only1 o).isSome = (match o with | some es => decide (es.length = 1) | none => false) := by
  match o with
  | none => rfl
  | some [] => rfl
  | some [e] => rfl
  | some (e :: f :: r) => rfl
theorem namesOk_eq {ws : List Str} {k : Nat} (hl : 1 ≤ ws.length) : namesOk ((ws.drop 1).take k) k = (((ws.drop 1).take k).all isNameW && decide (1 + k ≤ ws.length)) := by
  unfold namesOk
  rw [Bool.and_comm]
  congr 1
  rw [List.length_take, List.length_drop]
  exact decide_eq_decide.mpr (by omega)
theorem map_some {α β : Type} {o : Option α} {f : α → β} : (o.map f).isSome = o.isSome := by cases o <;> rfl
theorem simpB_eq {ws : List Str} (hne : ws ≠ []) (h : hd0 ws ∈ SIMPLEW) (hs : hd0 ws ≠ "skip") : (simpleF ws).isSome = simpB ws := by
  have hl : 1 ≤ ws.length := List.length_pos_iff.mpr hne
  unfold simpB
  simp only [SIMPLEW, List.mem_cons, List.not_mem_nil, or_false] at h
  rcases h with h | h | h | h | h | h
  · exact absurd h hs
  · have e1 : namesN (hd0 ws) = 1 := by rw [h]; decide +kernel
    have e2 : expN (hd0 ws) = 1 := by rw [h]; decide +kernel
    rw [e1, e2]
    unfold simpleF
    rw [if_pos h, namesOk_eq hl]
    by_cases c : (((ws.drop 1).take 1).all isNameW && decide (1 + 1 ≤ ws.length)) = true
    · rw [if_pos c, map_some, only_some, ← Bool.and_assoc, c]; rfl
    · rw [if_neg c, ← Bool.and_assoc, Bool.eq_false_iff.mpr c]; rfl
  · have e1 : namesN (hd0 ws) = 0 := by rw [h]; decide +kernel
    have e2 : expN (hd0 ws) = 2 := by rw [h]; decide +kernel
    rw [e1, e2]
    unfold simpleF
    rw [h, if_neg (by decide +kernel), if_pos rfl, List.take_zero]
    show _ = (true && (decide (1 ≤ ws.length) && _))
    rw [decide_eq_true hl, Bool.true_and, Bool.true_and]
    match exL (ws.drop 1) with
    | none => rfl
    | some [] => rfl
    | some [_] => rfl
    | some [_, _] => rfl
    | some (_ :: _ :: _ :: _) => rfl
  · have e1 : namesN (hd0 ws) = 2 := by rw [h]; decide +kernel
    have e2 : expN (hd0 ws) = 1 := by rw [h]; decide +kernel
    rw [e1, e2]
    unfold simpleF
    rw [h, if_neg (by decide +kernel), if_neg (by decide +kernel), if_pos rfl, namesOk_eq hl]
    by_cases c : (((ws.drop 1).take 2).all isNameW && decide (1 + 2 ≤ ws.length)) = true
    · rw [if_pos c, map_some, only_some, ← Bool.and_assoc, c]; rfl
    · rw [if_neg c, ← Bool.and_assoc, Bool.eq_false_iff.mpr c]; rfl
  · have e1 : namesN (hd0 ws) = 2 := by rw [h]; decide +kernel
    have e2 : expN (hd0 ws) = 0 := by rw [h]; decide +kernel
    rw [e1, e2]
    unfold simpleF
    rw [h, if_neg (by decide +kernel), if_neg (by decide +kernel), if_neg (by decide +kernel), if_pos rfl]
    unfold namesOk
    by_cases c : (ws.drop 1).length = 2
    · rw [decide_eq_true c, Bool.true_and]
      have c' := c
      rw [List.length_drop] at c'
      have ed : ws.drop (1 + 2) = [] := List.drop_eq_nil_of_le (by omega)
      rw [ed, exL_nil, List.take_of_length_le (by omega), decide_eq_true (show 1 + 2 ≤ ws.length by omega)]
      show _ = ((ws.drop 1).all isNameW && (true && true))
      cases (ws.drop 1).all isNameW <;> rfl
    · rw [decide_eq_false c, Bool.false_and, if_neg Bool.false_ne_true]
      rw [List.length_drop] at c
      by_cases c2 : 1 + 2 ≤ ws.length
      · have hne2 : ws.drop (1 + 2) ≠ [] := fun e => by have := congrArg List.length e; rw [List.length_drop] at this; simp at this; omega
        have : (match exL (ws.drop (1 + 2)) with | some es => decide (es.length = 0) | none => false) = false := by
          cases q : exL (ws.drop (1 + 2)) with
          | none => rfl
          | some es =>
            cases es with
            | cons _ _ => rfl
            | nil =>
              rw [exL_step hne2] at q
              cases q2 : parseE 6 (ws.drop (1 + 2)) with
              | none => rw [q2] at q; cases q
              | some pr =>
                obtain ⟨e, r⟩ := pr
                rw [q2] at q
                simp only at q
                split at q
                · cases q3 : exL r with
                  | none => rw [q3] at q; cases q
                  | some es => rw [q3] at q; cases q
                · cases q
        rw [this, Bool.and_false, Bool.and_false]; rfl
      · rw [decide_eq_false c2, Bool.false_and, Bool.and_false]; rfl
  · have e1 : namesN (hd0 ws) = 0 := by rw [h]; decide +kernel
    have e2 : expN (hd0 ws) = 1 := by rw [h]; decide +kernel
    rw [e1, e2]
    unfold simpleF
    rw [h, if_neg (by decide +kernel), if_neg (by decide +kernel), if_neg (by decide +kernel), if_neg (by decide +kernel), if_pos rfl, List.take_zero, map_some, only_some]
    show _ = (true && (decide (1 ≤ ws.length) && _))
    rw [decide_eq_true hl, Bool.true_and, Bool.true_and]
theorem simp_skip {ws : List Str} (hs : hd0 ws = "skip") : (simpleF ws).isSome = decide (ws.length = 1) := by
  unfold simpleF
  rw [hs, if_neg (by decide +kernel), if_neg (by decide +kernel), if_neg (by decide +kernel), if_neg (by decide +kernel), if_neg (by decide +kernel)]
  match ws, hs with
  | [], h => rfl
  | [x], h =>
    have h : x = Str.ofString "skip" := h
    rw [if_pos (by rw [h])]; rfl
  | x :: y :: r, h => rw [if_neg (by intro e; simp at e)]; rfl
section
variable (K : PySem.W.Frag)
def spLSimp : Sp := fun vs H Q _ => ∃ (a : Addr) (ws : List Str), vs = [.ref a] ∧ SqL K H a (ws.map V.str) ∧ WsOk ws ∧ ws ≠ [] ∧ hd0 ws ∈ SIMPLEW ∧ ∀ H', Same H H' → Q (.bl (simpleF ws).isSome) H'
end
theorem WsOk.codes {ws : List Str} (h : WsOk ws) : Codes ws := fun s hs => strOk_ascii (h.2 s hs).2
theorem at_hd0 {ws : List Str} (h : ws ≠ []) : atI (ws.map V.str) 0 = some (V.str (hd0 ws)) := by
  cases ws with
  | nil => exact absurd rfl h
  | cons x r => exact atI_nat (j := 0) rfl

theorem strOk_word {w : Str} (h : WordOk w) : PyData.strOk w = true := strOk_ascii h.2
/-- the calls, as the law keeps them -/
def CallsV (H : Hp) (cs : List (Str × Nat)) (os : List V) : Prop := All2 (fun c v => ∃ t, v = V.ref t ∧ PyData.strOk c.1 = true ∧ H t = some (.tup [.str c.1, .int (c.2 : Nat)])) cs os
theorem CallsV.keep {H H' : Hp} {cl : Addr} {xs : List V} (k : KeepL [cl] H H') (e : H cl = some (.lst xs)) {cs : List (Str × Nat)} {os : List V} (h : CallsV H cs os) : CallsV H' cs os := h.mono fun c v ⟨t, h1, h0, h2⟩ => ⟨t, h1, h0, k _ _ (fun hm => by
  rw [List.mem_singleton.mp hm, e] at h2; cases h2) h2⟩
theorem CallsV.same {H H' : Hp} (k : Same H H') {cs : List (Str × Nat)} {os : List V} (h : CallsV H cs os) : CallsV H' cs os := h.mono fun c v ⟨t, h1, h0, h2⟩ => ⟨t, h1, h0, k _ _ h2⟩
theorem keepL_same {av : List Addr} {H H' : Hp} (s : Same H H') : KeepL av H H' := fun q o _ h => s q o h
theorem keepL_trans {av : List Addr} {H H1 H2 : Hp} (a : KeepL av H H1) (b : KeepL av H1 H2) : KeepL av H H2 := fun q o n h => b q o n (a q o n h)
theorem keepL_upd {H : Hp} {cl : Addr} {o : HO} : KeepL [cl] H (upd H cl o) := fun q u n h => by
  rw [upd_ne (fun e => n (by rw [e]; exact List.mem_cons_self))]; exact h
section
variable (K : PySem.W.Frag)
def spLCall : Sp := fun vs H Q _ => ∃ (a cl : Addr) (ws : List Str) (cs : List (Str × Nat)) (os : List V), vs = [.ref a, .ref cl] ∧ H a = some (.lst (ws.map V.str)) ∧ a ≠ cl ∧ WsOk ws ∧ ws ≠ [] ∧ H cl = some (.lst os) ∧ CallsV H cs os ∧ os.length ≤ 1000 ∧
  (∀ b f es, callF ws = some (b, f, es) → ∀ H' os', KeepL [cl] H H' → H' cl = some (.lst os') → CallsV H' (cs ++ [(f, es.length)]) os' → os'.length = os.length + 1 → Q (.bl true) H') ∧ (callF ws = none → ∀ H' os', KeepL [cl] H H' → H' cl = some (.lst os') → Q (.bl false) H')
end
theorem wd_at {ws : List Str} {i : Nat} (h : i < ws.length) : atI (ws.map V.str) (i : Int) = some (V.str (wd ws i)) := atI_nat (by
  rw [List.getElem?_map, List.getElem?_eq_getElem h]
  unfold wd
  rw [List.getD_eq_getElem?_getD, List.getElem?_eq_getElem h]; rfl)
theorem wd_mem {ws : List Str} {i : Nat} (h : i < ws.length) : wd ws i ∈ ws := by
  unfold wd
  rw [List.getD_eq_getElem?_getD, List.getElem?_eq_getElem h]
  exact List.getElem_mem h
theorem names2 {ws : List Str} (h : 3 ≤ ws.length) : namesOk ((ws.drop 1).take 2) 2 = (isNameW (wd ws 1) && isNameW (wd ws 2)) := by
  match ws, h with
  | x :: y :: z :: r, _ =>
    unfold namesOk
    show (decide (([y, z] : List Str).length = 2) && ([y, z] : List Str).all isNameW) = (isNameW y && isNameW z)
    simp
theorem atI_last {xs : List V} {x : V} : atI (xs ++ [x]) (-1) = some x := by
  unfold atI ixN
  rw [if_neg (by decide), if_pos (by rw [List.length_append, List.length_singleton]; omega)]
  have : (-1 + ((xs ++ [x]).length : Int)).toNat = xs.length := by rw [List.length_append, List.length_singleton]; omega
  show (some _).bind _ = _
  rw [this]
  show (xs ++ [x])[xs.length]? = _
  rw [List.getElem?_append_right (Nat.le_refl _), Nat.sub_self]; rfl

/-! ### blocks -/
def LnW (t : Str) : Prop := t.length ≤ 99999 ∧ Ascii t ∧ WsOk (Txt.split t (Str.ofString " "))
def TsOk (ts : List Str) : Prop := ts.length ≤ 100 ∧ ∀ t ∈ ts, LnW t
def endsF (ts : List Str) (blk : RS → Option RS) (rt : RT) : List Str → RS → Option (RT × RS)
  | [], st => some (rt, st)
  | x :: r, st => match blk st with
    | none => none
    | some st2 => match passF ts x st2 with
      | none => none
      | some st3 => endsF ts blk rt r st3
def endsOf (w : Str) : List Str := if w = "while" then [Str.ofString "end"] else [Str.ofString "else", Str.ofString "end"]
def rowOfW (w : Str) (e : Ex) : RT := if w = "while" then .loop e else .ifr e
theorem rowsF_ends {ts : List Str} {blk : RS → Option RS} {ws : List Str} {st : RS} : rowsF ts blk true ws st = match only1 (exL (ws.drop 1)) with
    | none => none
    | some e => endsF ts blk (rowOfW (hd0 ws) e) (endsOf (hd0 ws)) st := by
  unfold rowsF
  rw [if_pos rfl]
  cases only1 (exL (ws.drop 1)) with
  | none => rfl
  | some e =>
    simp only
    unfold endsOf rowOfW
    by_cases c : hd0 ws = "while"
    · rw [if_pos c, if_pos c]
      unfold endsF
      cases blk st with
      | none => rfl
      | some st2 =>
        simp only
        rw [if_pos c]
        cases passF ts "end" st2 <;> rfl
    · rw [if_neg c, if_neg c]
      unfold endsF
      cases blk st with
      | none => rfl
      | some st2 =>
        simp only
        rw [if_neg c]
        have e1 : passF ts "else" st2 = passF ts (Str.ofString "else") st2 := rfl
        cases q : passF ts "else" st2 with
        | none => rfl
        | some st3 =>
          simp only
          unfold endsF
          cases blk st3 with
          | none => rfl
          | some st4 =>
            simp only
            cases passF ts "end" st4 <;> rfl
theorem pass_slice {ts : List Str} {x : Str} {st : RS} : decide ((ts.drop st.at_).take 1 = [x]) = (passF ts x st).isSome := by
  unfold passF
  by_cases c : st.at_ < ts.length
  · rw [List.drop_eq_getElem_cons c]
    have e : ts.getD st.at_ (Str.ofString "") = ts[st.at_] := by rw [List.getD_eq_getElem?_getD, List.getElem?_eq_getElem c]; rfl
    show decide ([ts[st.at_]] = [x]) = _
    by_cases c2 : ts[st.at_] = x
    · rw [if_pos ⟨c, by rw [e]; exact c2⟩, decide_eq_true (by rw [c2])]; rfl
    · rw [if_neg (fun h => c2 (by rw [← e]; exact h.2)), decide_eq_false (fun h => c2 (List.cons.inj h).1)]; rfl
  · rw [if_neg (fun h => c h.1), List.drop_eq_nil_of_le (by omega), decide_eq_false (by simp)]; rfl
def IFW : List Str := ["if", "while"]
theorem simplew_all : ∀ w ∈ SIMPLEW, w ≠ "if" ∧ w ≠ "while" ∧ w ≠ "call" ∧ w ∈ ROWW := by decide +kernel
theorem roww_all : ∀ w ∈ ROWW, w ∈ SIMPLEW ∨ w = "call" ∨ w ∈ IFW := by decide +kernel
theorem ifw_all : ∀ w ∈ IFW, (w = "if" ∨ w = "while") ∧ w ∈ ROWW := by decide +kernel
theorem one_simple {ts ws : List Str} {rows : List Str → RS → Option (RT × RS)} {st : RS} (hw : wordsAt ts st.at_ = ws) (h : hd0 ws ∈ SIMPLEW) : oneF ts rows st = (simpleF ws).map fun rt => (rt, ⟨st.at_ + 1, st.num, st.calls⟩) := by
  obtain ⟨h1, h2, h3, _⟩ := simplew_all _ h
  unfold oneF
  rw [hw, if_neg (fun e => e.elim h1 h2), if_neg h3]
theorem one_call {ts ws : List Str} {rows : List Str → RS → Option (RT × RS)} {st : RS} (hw : wordsAt ts st.at_ = ws) (h : hd0 ws = "call") : oneF ts rows st = match callF ws with
    | none => none
    | some (b, f, es) => some (.call b f es, ⟨st.at_ + 1, st.num, st.calls ++ [(f, es.length)]⟩) := by
  unfold oneF
  rw [hw, h, if_neg (by decide +kernel), if_pos rfl]
  all_goals (rcases callF ws with _ | p <;> rfl)
theorem one_if {ts ws : List Str} {rows : List Str → RS → Option (RT × RS)} {st : RS} (hw : wordsAt ts st.at_ = ws) (h : hd0 ws ∈ IFW) : oneF ts rows st = rows ws ⟨st.at_ + 1, st.num, st.calls⟩ := by
  unfold oneF
  rw [hw, if_pos (ifw_all _ h).1]
theorem only_of_len {o : Option (List Ex)} {es : List Ex} (h : o = some es) (hl : es.length = 1) : ∃ e, only1 o = some e := by
  subst h
  match es, hl with
  | [e], _ => exact ⟨e, rfl⟩
theorem only_none {o : Option (List Ex)} {es : List Ex} (h : o = some es) (hl : es.length ≠ 1) : only1 o = none := by
  subst h
  match es, hl with
  | [], _ => rfl
  | [e], h => exact absurd rfl h
  | _ :: _ :: _, _ => rfl
section
variable (K : PySem.W.Frag)
def spLBehind (n : Nat) : Sp := fun vs H Q _ => ∃ (a cl : Addr) (ts : List Str) (st : RS) (os : List V), vs = [.ref a, .int (st.at_ : Nat), .int (6 - (n : Int)), .ref cl] ∧ H a = some (.lst (ts.map V.str)) ∧ a ≠ cl ∧ TsOk ts ∧ st.at_ ≤ ts.length ∧ H cl = some (.lst os) ∧ CallsV H st.calls os ∧ os.length ≤ st.at_ ∧ 1 ≤ n ∧
  (∀ st', blockF ts n st = some st' → ∀ H' os', KeepL [cl] H H' → H' cl = some (.lst os') → CallsV H' st'.calls os' → os'.length ≤ st'.at_ → st'.at_ ≤ ts.length → Q (.int (st'.at_ : Nat)) H') ∧ (blockF ts n st = none → ∀ H' os', KeepL [cl] H H' → H' cl = some (.lst os') → Q .non H')
end
theorem callsV_str {H : Hp} {cs : List (Str × Nat)} {x : Str} {r : List V} (h : CallsV H cs (V.str x :: r)) : False := by
  cases h with
  | cons h _ => obtain ⟨t, h, _⟩ := h; cases h
theorem lines_codes {ts : List Str} (h : TsOk ts) : Codes ts := fun t ht => strOk_ascii (h.2 t ht).2.1

/-! ### functions -/
def hv (f : Str × Nat) : Key × V := (.inr f.1, .int (f.2 : Nat))
theorem hv_get {fs : List (Str × Nat)} {w : Str} : (valV (fs.map hv) (.inr w)).isSome = fs.any fun g => decide (g.1 = w) := by
  induction fs with
  | nil => rfl
  | cons f r ih =>
    rw [List.map_cons, List.any_cons]
    by_cases h : f.1 = w
    · rw [decide_eq_true h, valV_pos (show (hv f).1 = .inr w by rw [← h]; rfl)]; rfl
    · rw [decide_eq_false h, valV_neg (show ¬ (hv f).1 = .inr w from fun e => h (Sum.inr.inj e)), ih]; rfl
theorem hv_put {fs : List (Str × Nat)} {f : Str × Nat} (h : ∀ g ∈ fs, g.1 ≠ f.1) : putK (fs.map hv) (.inr f.1) (.int (f.2 : Nat)) = (fs ++ [f]).map hv := by
  unfold putK
  rw [if_neg, List.map_append]
  · rfl
  · intro c
    obtain ⟨x, hx, hd⟩ := List.any_eq_true.mp c
    obtain ⟨g, hg, rfl⟩ := List.mem_map.mp hx
    exact h g hg (Sum.inr.inj (of_decide_eq_true hd))
section
variable (K : PySem.W.Frag)
def spLFun : Sp := fun vs H Q _ => ∃ (a hd cl : Addr) (ts : List Str) (st : RS) (os : List V) (fs : List (Str × Nat)), vs = [.ref a, .int (st.at_ : Nat), .ref hd, .ref cl] ∧ H a = some (.lst (ts.map V.str)) ∧ a ≠ cl ∧ TsOk ts ∧ st.at_ < ts.length ∧ H cl = some (.lst os) ∧ CallsV H st.calls os ∧ os.length ≤ st.at_ ∧ H hd = some (.dK (fs.map hv)) ∧ fs.length ≤ 100 ∧
  (∀ f st', functionF ts st = some (f, st') → (∀ g ∈ fs, g.1 ≠ f.1) → ∀ H' os', KeepL [cl, hd] H H' → H' cl = some (.lst os') → CallsV H' st'.calls os' → os'.length ≤ st'.at_ → st'.at_ ≤ ts.length → H' hd = some (.dK ((fs ++ [f]).map hv)) → Q (.int (st'.at_ : Nat)) H') ∧
  ((∀ f st', functionF ts st = some (f, st') → ∃ g ∈ fs, g.1 = f.1) → ∀ H', KeepL [cl, hd] H H' → Q .non H')
end
theorem keepL_two {c h : Addr} {H H' : Hp} (k : KeepL [c] H H') : KeepL [c, h] H H' := fun q o n e => k q o (fun hm => n (by rw [List.mem_singleton.mp hm]; exact List.mem_cons_self)) e

/-! ### whole programs -/
def callD (c : Str × Nat) : PyData := .tuple [.str c.1, .int (c.2 : Nat)]
theorem calls_dp {K : PySem.W.Frag} {H : Hp} : ∀ {cs : List (Str × Nat)} {os : List V}, CallsV H cs os → DpAll K H os (cs.map callD)
  | _, _, .nil => .nil
  | _, _, .cons h r => by
    obtain ⟨t, rfl, _, h2⟩ := h
    exact .cons (.tup (SqT.of h2) (.cons (.str _) (.cons (.int _) .nil))) (calls_dp r)
theorem calls_lay {H : Hp} : ∀ {cs : List (Str × Nat)} {os : List V}, CallsV H cs os → PyData.canLayAll0 (cs.map callD) = true
  | _, _, .nil => rfl
  | c :: cs, _, .cons h r => by
    obtain ⟨t, _, h0, _⟩ := h
    show ((PyData.strOk c.1 && (true && true)) && PyData.canLayAll0 (cs.map callD)) = true
    rw [h0, calls_lay r]; rfl
theorem calls_deep : ∀ cs : List (Str × Nat), PyData.depthAll (cs.map callD) ≤ 1
  | [] => Nat.zero_le _
  | c :: r => by
    have := calls_deep r
    show max (max 0 (max 0 0) + 1) (PyData.depthAll (r.map callD)) ≤ 1
    omega
theorem calls_shaped {H : Hp} {cs : List (Str × Nat)} {os : List V} (h : CallsV H cs os) : SeqAt.shaped (.list (cs.map callD)) = true := by
  have h1 := calls_lay h
  have h2 := calls_deep cs
  show (PyData.canLayAll0 _ && decide (PyData.depthAll _ + 1 ≤ 64)) = true
  rw [h1, decide_eq_true (by omega)]; rfl
theorem calls_eqv : ∀ cs : List (Str × Nat), PyData.eqv (.list (cs.map callD)) (.list []) = decide (cs = [])
  | [] => rfl
  | _ :: _ => rfl
theorem hv_getD {fs : List (Str × Nat)} {w : Str} : (valV (fs.map hv) (.inr w)).getD (.int (-1)) = .int (match fs.find? fun g => decide (g.1 = w) with | some g => ((g.2 : Nat) : Int) | none => -1) := by
  induction fs with
  | nil => rfl
  | cons f r ih =>
    rw [List.map_cons, List.find?_cons]
    by_cases h : f.1 = w
    · rw [decide_eq_true h, valV_pos (show (hv f).1 = .inr w by rw [← h]; rfl)]; rfl
    · rw [decide_eq_false h, valV_neg (show ¬ (hv f).1 = .inr w from fun e => h (Sum.inr.inj e)), ih]
theorem callOk_dec {fs : List (Str × Nat)} {c : Str × Nat} : decide (V.int (match fs.find? fun g => decide (g.1 = c.1) with | some g => ((g.2 : Nat) : Int) | none => -1) = V.int ((c.2 : Nat) : Int)) = callOk fs c := by
  unfold callOk
  cases fs.find? fun g => decide (g.1 = c.1) with
  | none => exact decide_eq_false (fun e => by have := V.int.inj e; simp only at this; omega)
  | some g => exact decide_eq_decide.mpr ⟨fun e => by have := V.int.inj e; simp only at this; omega, fun e => by simp only; rw [e]⟩
theorem lc_calls {cs : List (Str × Nat)} {os : List V} (p : Str × Nat → Bool) {J : It} {G : Hp → Prop} (w : Walk J os.length G (YAt os)) {j : Nat} {tt : TT} {te : TE} {σ : St} {H1 : Hp} {D : Addr} {Qd : Hp → Prop} (hcs : CallsV H1 cs os) (hD : H1 D = none) (hn : os.length < 16777216)
    (hG : ∀ H, Same H1 H → G H)
    (step : ∀ c ∈ cs, ∀ t H (Z : Bool → Hp → Prop), Same H1 H → H t = some (.tup [.str c.1, .int (c.2 : Nat)]) → (∀ H', Same H H' → Z (p c) H') → tt ((σ.set j none).set j (some (.ref t))) H Z)
    (elt : ∀ t H (Z : VK), Z (.ref t) H → te ((σ.set j none).set j (some (.ref t))) H Z)
    (hd : ∀ H os', Same H1 H → H D = some (.lst os') → CallsV H (cs.filter p) os' → Qd H) :
    ∃ W : Nat → Nat → Hp → Prop, (∃ m, W 0 m (upd H1 D (.lst []))) ∧ ∀ i m H, W i m H →
      (J.stop i H ∧ Qd H) ∨ (J.go i H ∧ ∃ Nx : Hp → Prop, (∀ H', Nx H' → ∃ m', m' < m ∧ W (i + 1) m' H') ∧ ∀ x H', J.yld i H x H' → gName j x (wipe σ [j]) H' fun σ2 H2 => wipe σ2 [j] = wipe σ [j] ∧ tt σ2 H2 fun b H3 =>
        if b = true then te σ2 H3 fun y H4 => ∃ acc, H4 D = some (.lst acc) ∧ acc.length < sizeLine ∧ Nx (upd H4 D (.lst (acc ++ [y]))) else Nx H3) := by
  have hl := hcs.length
  refine lc_it w (fun i H => ∃ acc, H D = some (.lst acc) ∧ Same H1 H ∧ CallsV H ((cs.take i).filter p) acc ∧ acc.length ≤ i) ⟨[], upd_same, same_new hD, by rw [List.take_zero]; exact .nil, Nat.zero_le _⟩ (fun i H _ h => hG H h.choose_spec.2.1) ?_ fun H ⟨acc, h1, h2, h3, _⟩ => hd H acc h2 h1 (by rw [← hl, List.take_length] at h3; exact h3)
  rintro i x H H2 hi ⟨acc, h1, h2, h3, h4⟩ ⟨e, hx⟩
  subst e
  have hw : wipe ((wipe σ [j]).set j (some x)) [j] = wipe σ [j] := by
    show ((σ.set j none).set j (some x)).set j none = σ.set j none
    simp
  refine ⟨hw, ?_⟩
  obtain ⟨c, hc, t, rfl, h0, ht⟩ := hcs.at hx
  have hm := List.mem_of_getElem? hc
  have et : (cs.take (i + 1)).filter p = (cs.take i).filter p ++ (if p c = true then [c] else []) := by
    rw [List.take_add_one, hc, List.filter_append]
    show _ ++ ([c].filter p) = _
    rw [List.filter_cons, List.filter_nil]
  have ht2 := h2 _ _ ht
  refine step c hm t _ _ h2 ht2 fun H3 s3 => ?_
  cases hp : p c with
  | false =>
    rw [hp, if_neg Bool.false_ne_true, List.append_nil] at et
    exact iteF ⟨acc, s3 _ _ h1, h2.trans s3, by rw [et]; exact h3.same s3, by omega⟩
  | true =>
    rw [hp, if_pos rfl] at et
    have tD : t ≠ D := ne_of_none ht hD
    refine iteT (elt t _ _ ⟨acc, s3 _ _ h1, Nat.lt_of_lt_of_le (show acc.length < 16777216 by omega) (by decide), acc ++ [.ref t], upd_same, fun b o hb => by rw [upd_ne (ne_of_none hb hD)]; exact s3 _ _ (h2 b o hb), ?_, by rw [List.length_append, List.length_singleton]; omega⟩)
    rw [et]
    have up : ∀ {c : Str × Nat} {v : V}, (∃ t, v = V.ref t ∧ PyData.strOk c.1 = true ∧ H3 t = some (.tup [.str c.1, .int (c.2 : Nat)])) → ∃ t, v = V.ref t ∧ PyData.strOk c.1 = true ∧ upd H3 D (.lst (acc ++ [.ref t])) t = some (.tup [.str c.1, .int (c.2 : Nat)]) := fun {c v} ⟨t, a, b, d⟩ => ⟨t, a, b, by
      rw [upd_ne (fun e => by rw [e, s3 _ _ h1] at d; cases d)]; exact d⟩
    refine All2.snoc ⟨t, rfl, h0, by rw [upd_ne tD]; exact s3 _ _ ht2⟩ ((h3.same s3).mono fun c v ⟨t', a, b, d⟩ => ⟨t', a, b, by
      rw [upd_ne (fun e => by rw [e, s3 _ _ h1] at d; cases d)]; exact d⟩)
theorem filt_allC {cs : List (Str × Nat)} {p : Str × Nat → Bool} : decide (cs.filter (fun s => !p s) = []) = cs.all p := by
  rw [Bool.eq_iff_iff, decide_eq_true_eq, List.filter_eq_nil_iff, List.all_eq_true]
  constructor
  · intro h c hc
    have := h c hc
    simp at this
    exact this
  · intro h c hc
    rw [h c hc]; simp
theorem joinL_bound {B : Nat} : ∀ {ps : List (List Nat)}, (∀ p ∈ ps, p.length ≤ B) → (joinL [10] ps).length ≤ (B + 1) * ps.length
  | [], _ => Nat.zero_le _
  | [p], h => by
    have := h p List.mem_cons_self
    show p.length ≤ (B + 1) * 1
    omega
  | p :: q :: r, h => by
    have h1 := h p List.mem_cons_self
    have h2 := joinL_bound (ps := q :: r) fun x hx => h x (List.mem_cons_of_mem _ hx)
    show (p ++ ([10] ++ joinL [10] (q :: r))).length ≤ _
    rw [List.length_append, List.length_append, List.length_cons (a := p), Nat.mul_succ]
    show p.length + (1 + _) ≤ _
    omega
theorem lines_join {ls : List Str} (h : TsOk ls) (hn : ls ≠ []) (h10 : ∀ t ∈ ls, 10 ∉ tl t) : Txt.split (Txt.join (Str.ofString "\n") ls) (Str.ofString "\n") = ls ∧ (Txt.join (Str.ofString "\n") ls).length ≤ 10000000 := by
  refine ⟨split_join (s := 10) (S := []) tl_end (by decide +kernel) hn fun p hp hm => h10 p hp hm, ?_⟩
  rw [len_tl, join_eq, tl_join, tl_end]
  have := joinL_bound (B := 99999) (ps := ls.map tl) fun p hp => by
    obtain ⟨t, ht, rfl⟩ := List.mem_map.mp hp
    rw [← len_tl]; exact (h.2 t ht).1
  rw [List.length_map] at this
  have := h.1
  omega
section
variable (K : PySem.W.Frag)
def spLProg : Sp := fun vs H Q _ => ∃ (ls : List Str), vs = [.str (Txt.join (Str.ofString "\n") ls)] ∧ ls ≠ [] ∧ TsOk ls ∧ (∀ t ∈ ls, 10 ∉ tl t) ∧ ∀ H', Same H H' → Q (.bl (readF ls).isSome) H'
end

end
end K12
namespace K12
open PySem L2 TL
section
variable {P : Program} {w : World} {K : PySem.W.Frag} {mg : Str → Option Value} {base : Heap} {A : Ads}
theorem ok_read_program (T : Txt K mg A) : FnOk P w K mg base (L2.CX P w) 32 A.read_program A.read_program_d ["text"] (spRead K A.rc A.ec A.NoProgram A.Program) := by
  have G_Reader_init := ok_Reader_init (P := P) (w := w) (base := base) T
  have G_Reader_head := ok_Reader_head (P := P) (w := w) (base := base) T
  have G_Reader_function := ok_Reader_function (P := P) (w := w) (base := base) T
  have G_Reader_pass_line := ok_Reader_pass_line (P := P) (w := w) (base := base) T
  have G_Reader_block := ok_Reader_block (P := P) (w := w) (base := base) T 6
  have G_check_calls := ok_check_calls (P := P) (w := w) (base := base) T
  have G_Program_init := ok_Program_init (P := P) (w := w) (base := base) T
  refine T.F_read_program.okX sc_read_program (fun vs H Q E h => ?_) (fun cdv A0 outer s H vs Q E hr h => ?_)
  · obtain ⟨x0, rfl, h⟩ := h
    rfl
  obtain ⟨x0, rfl, h⟩ := h
  refine ⟨_, (pss_cons (ps_if (pt_not (pt_val (pe_callB call_isi (by rfl) T.z_isinstance (by decide +kernel) (pa_cons (pv 0) (pa_cons (pe_bltn (v := .ty "str") (by rfl) T.z_str (by decide +kernel) rfl) pa_nil)))))
    (pss_one (ps_raise rfl (takes_of rfl rfl rfl rfl) (pmk_own PySem.F.excBase_ValueError T.x_NoProgram T.m_NoProgram T.kk_NoProgram (raises_own T.bb_NoProgram T.tt_NoProgram) (by exact rfl))))
    pss_nil)
   (pss_cons (ps_set (i := 1) sc_read_program.nd rfl (Or.inl rfl) (pe_split (pv 0) pe_str))
   (pss_cons (ps_if (pt_cmpR op_gt (pe_callB call_lenK (by rfl) T.z_len (by decide +kernel) (pa_cons (pv 1) pa_nil)) (pe_glob (v := .int 60) (by rfl) T.c_MOST_LINES.choose_spec ⟨_, rfl⟩) (nomark _))
    (pss_one (ps_raise rfl (takes_of rfl rfl rfl rfl) (pmk_own PySem.F.excBase_ValueError T.x_NoProgram T.m_NoProgram T.kk_NoProgram (raises_own T.bb_NoProgram T.tt_NoProgram) (by exact rfl))))
    pss_nil)
   (pss_cons (ps_set (i := 2) sc_read_program.nd rfl (Or.inl rfl) (pe_make T.k_Reader G_Reader_init (hr.mono (by decide)) rfl T.m_Reader T.b_Reader_init .nil pass0 (pa_cons (pv 1) pa_nil)))
   (pss_cons (ps_set (i := 3) sc_read_program.nd rfl (Or.inl rfl) pe_dnewK)
   (pss_cons (ps_while (passes_of rfl) (pt_cmpR op_eq (pe_meth0 (pv 2) T.cl_Reader T.me_Reader_head G_Reader_head (hr.mono (by decide)) T.b_Reader_head .nil pass0) pe_str (nomark _))
    (pss_cons (ps_set (i := 4) sc_read_program.nd rfl (Or.inl rfl) (pe_meth0 (pv 2) T.cl_Reader T.me_Reader_function G_Reader_function (hr.mono (by decide)) T.b_Reader_function .nil (passes_call (takes_of rfl rfl rfl rfl) (fun _ _ _ _ h => h))))
   (pss_cons (ps_ifC (PW.pt (pw_or (pt_cmp (pc_din (hu_of hr) (pe_fld (pv 4) rfl) (pv 3))) (pw_or1 (pt_cmpR op_eq (pe_callB call_lenD (by rfl) T.z_len (by decide +kernel) (pa_cons (pv 3) pa_nil)) (pe_glob (v := .int 4) (by rfl) T.c_MOST_FUNCTIONS.choose_spec ⟨_, rfl⟩) (nomark _)))))
    (pss_one (ps_raise rfl (takes_of rfl rfl rfl rfl) (pmk_own PySem.F.excBase_ValueError T.x_NoProgram T.m_NoProgram T.kk_NoProgram (raises_own T.bb_NoProgram T.tt_NoProgram) (by exact rfl))))
    pss_nil)
   (pss_one (ps_dput (hu_of hr) (pv 3) (pe_fld (pv 4) rfl) (pv 4) rfl)))))
   (pss_cons (ps_expr (pe_meth (pv 2) T.cl_Reader T.me_Reader_pass_line G_Reader_pass_line (hr.mono (by decide)) T.b_Reader_pass_line .nil (passes_call (takes_of rfl rfl rfl rfl) (fun _ _ _ _ h => h)) (pa_cons pe_str pa_nil)))
   (pss_cons (ps_set (i := 5) sc_read_program.nd rfl (Or.inl rfl) (pe_meth (pv 2) T.cl_Reader T.me_Reader_block G_Reader_block (hr.mono (by decide)) T.b_Reader_block .nil (passes_call (takes_of rfl rfl rfl rfl) (fun _ _ _ _ h => h)) (pa_cons pe_int pa_nil)))
   (pss_cons (ps_if (pt_cmpR op_notN (pe_meth0 (pv 2) T.cl_Reader T.me_Reader_head G_Reader_head (hr.mono (by decide)) T.b_Reader_head .nil pass0) pe_non (nomark _))
    (pss_one (ps_raise rfl (takes_of rfl rfl rfl rfl) (pmk_own PySem.F.excBase_ValueError T.x_NoProgram T.m_NoProgram T.kk_NoProgram (raises_own T.bb_NoProgram T.tt_NoProgram) (by exact rfl))))
    pss_nil)
   (pss_cons (ps_expr (pe_call G_check_calls (hr.mono (by decide)) rfl T.m_check_calls T.F_check_calls.kp T.b_check_calls .nil (passes_call (takes_of rfl rfl rfl rfl) (fun _ _ _ _ h => h)) (pa_cons (pe_fld (pv 2) rfl) (pa_cons (pv 3) pa_nil))))
   (pss_one (ps_ret (pe_make T.k_Program G_Program_init (hr.mono (by decide)) rfl T.m_Program T.b_Program_init .nil pass0 (pa_cons (pv 1) (pa_cons (pv 5) (pa_cons (pv 3) (pa_cons (pe_fld (pv 2) rfl) pa_nil))))))))))))))))), ?_⟩
  rcases h with ⟨s, rfl, ⟨hls, hlt, hco⟩, q1, q2⟩ | ⟨t, ht, hk, q⟩
  rotate_left
  · exact ⟨_, rfl, _, _, _, _, false, rfl, .ty _, ht, hk, _, rfl, iteT q⟩
  refine ⟨_, rfl, _, _, _, _, true, rfl, .ty _, .base (.str _), kit_ty (by decide +kernel), _, rfl, iteF ?_⟩
  refine ⟨_, rfl, ⟨_, rfl⟩, s, _, rfl, rfl, (by decide +kernel), sizeL2 (by omega), fun la hla => ?_⟩
  have s1 := same_new (o := .lst ((Txt.split s "\n").map V.str)) hla
  have ga : upd H la (.lst ((Txt.split s "\n").map V.str)) la = some (.lst ((Txt.split s "\n").map V.str)) := upd_same
  have hcod := split_cod hco "\n"
  have htl := hlt
  generalize hT : Txt.split s "\n" = ts at *
  generalize hG1 : upd H la (.lst (ts.map V.str)) = H1 at s1 ga ⊢
  unfold readF at q1 q2
  refine ⟨_, rfl, la, _, rfl, .inl (SqL.of ga), _, _, rfl, rfl, _, rfl, ?_⟩
  rw [List.length_map]
  refine iteD2 (fun c1 => ?_) (fun c1 => ?_)
  · exact q2 (if_neg (by omega)) H1 s1
  have c1' : ts.length ≤ 60 := by omega
  rw [if_pos c1'] at q2
  simp only [if_pos c1'] at q1
  refine ⟨_, rfl, fun x dx hx hdx ndx => ?_⟩
  have gHM : ∀ q o, H1 q = some o → upd (upd H1 dx (.own x)) x (.ins A.Reader dx []) q = some o := fun q o h => by
    rw [upd_ne (ne_of_none h hx), upd_ne (ne_of_none h hdx)]; exact h
  refine ⟨x, dx, la, ts, rfl, upd_same, gHM _ _ ga, c1', htl, hcod, fun d cl H2 nd ncl k2 hR2 => ⟨rfl, ?_⟩⟩
  have s2 : Same H1 H2 := fun q o h => k2 q o (fun hm => ne_of_none h hx (List.mem_singleton.mp hm)) (gHM q o h)
  have s12 := s1.trans s2
  have nHM : ∀ q, upd (upd H1 dx (.own x)) x (.ins A.Reader dx []) q = none → H q = none := fun q h => by
    cases e : H q with
    | none => rfl
    | some o => have := gHM q o (s1 _ _ e); rw [h] at this; cases this
  have hxn : H x = none := none_before s1 hx
  have hdn := nHM d nd
  have hcn := nHM cl ncl
  have toS : ∀ {Ha Hb : Hp}, Same H Ha → Mv ⟨x, d, cl, la, ts, []⟩ Ha Hb → Same H Hb := fun sa mv q o h => mv q o (fun hm => by
    simp only [List.mem_cons, List.not_mem_nil, or_false] at hm
    rcases hm with rfl | rfl | rfl
    · rw [hxn] at h; cases h
    · rw [hdn] at h; cases h
    · rw [hcn] at h; cases h) (sa q o h)
  show ∀ df, _ → _
  intro df hdf
  have s3 := same_new (o := .dK []) hdf
  have gd : upd H2 df (.dK []) df = some (.dK []) := upd_same
  have hR3 := hR2.same s3
  have ndf : df ≠ d := fun e => by
    obtain ⟨kvs, z, _⟩ := hR2.dict
    have z' : H2 d = some (.dK kvs) := z
    rw [← e, hdf] at z'; cases z'
  have s13 := s12.trans s3
  generalize hG3 : upd H2 df (.dK []) = H3 at s3 gd hR3 s13 ⊢
  have keepD : ∀ {Ha Hb : Hp} {st : RS} {kvs : List (Key × V)}, RdH K A.rc A.ec A.Reader ⟨x, d, cl, la, ts, []⟩ Ha st → Mv ⟨x, d, cl, la, ts, []⟩ Ha Hb → Ha df = some (.dK kvs) → Hb df = some (.dK kvs) := fun hR mv e => mv _ _ (fun hm => by
    obtain ⟨dx', z1⟩ := hR.obj
    obtain ⟨os', z2, _⟩ := hR.calls
    have z1' : _ = _ := z1
    have z2' : _ = _ := z2
    simp only [List.mem_cons, List.not_mem_nil, or_false] at hm
    rcases hm with rfl | rfl | rfl
    · rw [e] at z1'; cases z1'
    · exact ndf rfl
    · rw [e] at z2'; cases z2') e
  generalize hX : (⟨x, d, cl, la, ts, []⟩ : Rd) = X at *
  have ep : X.p = x := by rw [← hX]
  have ed : X.d = d := by rw [← hX]
  have ec : X.cl = cl := by rw [← hX]
  have et : X.ts = ts := by rw [← hX]
  have ea : X.a = la := by rw [← hX]
  generalize hF0 : funsF ts (ts.length + 1) [] ⟨0, [], []⟩ = F0 at q1 q2
  refine while_m (fun m σ H' => ∃ (st' : RS) (f : Nat) (fs : List (Str × Nat)) (kvs : List (Key × V)) (z : Option V), σ = [some (.str s), some (.ref la), some (.ref x), some (.ref df), z, none] ∧ m = ts.length - st'.at_ ∧ Same H H' ∧ RdH K A.rc A.ec A.Reader X H' st' ∧ H' df = some (.dK kvs) ∧ All2 (FunK A.Function X.N H') fs kvs ∧ fs.length ≤ 4 ∧ ts.length + 1 ≤ f + st'.at_ ∧ funsF ts f fs st' = F0) (ts.length - 0)
    ⟨⟨0, [], []⟩, ts.length + 1, [], [], none, rfl, rfl, s13, hR3, gd, .nil, by decide, Nat.le_add_right _ _, hF0⟩ ?_
  rintro m σ H4 ⟨st1, f, fs, kvs, z, rfl, rfl, s4, hR4, gd4, hfs, hf4, hf, hb⟩
  have hat4 : st1.at_ ≤ ts.length := et ▸ hR4.at_
  obtain ⟨f, rfl⟩ : ∃ f', f = f' + 1 := ⟨f - 1, by omega⟩
  obtain ⟨dx4, o4⟩ := hR4.obj
  rw [ep] at o4
  refine ⟨_, rfl, x, dx4, _, rfl, o4, rfl, X, st1, by rw [ep] <;> rfl, hR4, fun H5 s5 => ?_⟩
  have hR5 := hR4.same s5
  have s45 := s4.trans s5
  have gd5 := s5 _ _ gd4
  have hfs5 := hfs.mono fun a b h => h.same s5
  have hb' := hb
  unfold funsF at hb'
  rw [et]
  refine ⟨by unfold headV; cases headAt ts st1.at_ <;> rfl, _, rfl, iteD2 (fun c2 => ?_) (fun c2 => ?_)⟩
  · -- one function more
    have hh : headAt ts st1.at_ = some "fun" := by
      unfold headV at c2
      cases e : headAt ts st1.at_ with
      | none => rw [e] at c2; cases c2
      | some w => rw [e] at c2; rw [V.str.inj c2]; rfl
    rw [if_pos hh] at hb'
    obtain ⟨hlt, _⟩ := headAt_lt hh
    refine ⟨fun σ' H' => ∃ (st' : RS) (f : Nat) (fs : List (Str × Nat)) (kvs : List (Key × V)) (z : Option V), st1.at_ < st'.at_ ∧ st'.at_ ≤ ts.length ∧ σ' = [some (.str s), some (.ref la), some (.ref x), some (.ref df), z, none] ∧ Same H H' ∧ RdH K A.rc A.ec A.Reader X H' st' ∧ H' df = some (.dK kvs) ∧ All2 (FunK A.Function X.N H') fs kvs ∧ fs.length ≤ 4 ∧ ts.length + 1 ≤ f + st'.at_ ∧ funsF ts f fs st' = F0,
      fun σ' H' ⟨st', f, fs, kvs, z, g1, g2, hσ, k⟩ => ⟨ts.length - st'.at_, by omega, st', f, fs, kvs, z, hσ, rfl, k⟩, ?_⟩
    obtain ⟨dx5, o5⟩ := hR5.obj
    rw [ep] at o5
    refine ⟨_, rfl, x, dx5, _, rfl, o5, rfl, X, st1, by rw [ep] <;> rfl, hR5, by rw [et]; exact hh, fun fn st2 v H6 e6 mv6 hR6 hfn => ?_, fun e6 H6 mv6 => ?_⟩
    rotate_left
    · rw [et] at e6
      rw [e6] at hb'
      rw [← hb'] at q2
      exact q2 rfl H6 (toS s45 mv6)
    rw [et] at e6
    rw [e6] at hb'
    simp only at hb'
    have hat6 : st2.at_ ≤ ts.length := et ▸ hR6.at_
    have hlt6 : st1.at_ < st2.at_ := functionF_at hlt e6
    have s6 := toS s45 mv6
    have gd6 := keepD hR5 mv6 gd5
    have hfs6 := hfs5.mono fun a b h => h.keepI (hR5.keepI mv6) T.nr_Function
    obtain ⟨pf, dxf, lf, ps, bd, gv, rfl, f1, f2, f3, f4⟩ := id hfn
    have hp : ∀ (g : Str × Nat) (kv : Key × V), FunK A.Function X.N H6 g kv → decide (g.1 = fn.1) = decide (kv.1 = (.inr fn.1 : Key)) := fun g kv h => by
      rw [h.1]
      by_cases q : g.1 = fn.1
      · rw [decide_eq_true q, decide_eq_true (congrArg Sum.inr q : (.inr g.1 : Key) = .inr fn.1)]
      · rw [decide_eq_false q, decide_eq_false (fun e : (.inr g.1 : Key) = .inr fn.1 => q (Sum.inr.inj e))]
    have hany : (valV kvs (.inr fn.1)).isSome = fs.any fun g => decide (g.1 = fn.1) := all2_any hp hfs6
    refine ⟨decide ((fs.any fun g => decide (g.1 = fn.1)) = true ∨ fs.length = 4), H6, fun Z hZ => ?_, ?_⟩
    · refine ⟨_, rfl, pf, A.Function, dxf, _, _, rfl, f1, T.cl_Function, T.n_Function_name, rfl, _, rfl, df, _, rfl, DGet.k (k := .inr fn.1) gd6, _, rfl, ?_⟩
      rw [hany]
      cases hq : fs.any fun g => decide (g.1 = fn.1) with
      | true => exact iteT (zTrue hZ (.inl hq))
      | false =>
        refine iteF ⟨_, rfl, df, kvs, rfl, gd6, rfl, _, rfl, ?_⟩
        rw [← hfs6.length]
        by_cases c4 : fs.length = 4
        · rw [decide_eq_true (by rw [c4]; rfl)]
          exact zTrue hZ (.inr c4)
        · rw [decide_eq_false (fun e => c4 (by have := V.int.inj e; omega))]
          exact zFalse hZ fun h => h.elim (fun e => by rw [hq] at e; cases e) c4
    refine iteD2 (fun c3 => ?_) (fun c3 => ?_)
    · rw [if_pos c3] at hb'
      rw [← hb'] at q2
      exact q2 rfl H6 s6
    rw [if_neg c3] at hb'
    refine ⟨_, rfl, _, rfl, _, rfl, pf, A.Function, dxf, _, _, rfl, f1, T.cl_Function, T.n_Function_name, rfl, df, _, rfl, DPut.k (k := .inr fn.1) (v := .ref pf) gd6 (by rw [← hfs6.length]; exact Nat.lt_of_le_of_lt hf4 (by decide)), ?_⟩
    have hnk : ¬ (kvs.any fun kv => decide (kv.1 = (.inr fn.1 : Key))) = true := fun e => c3 (.inl (by rw [← hany, valV_some_of_any e]))
    unfold putK
    rw [if_neg hnk]
    have ki : KeepI (fun _ => True) X.N H6 (upd H6 df (.dK (kvs ++ [(.inr fn.1, .ref pf)]))) := keepI_dict gd6
    have hfs7 := (hfs6.mono fun a b h => h.keepI ki trivial).snoc (a := fn) (b := ((.inr fn.1 : Key), V.ref pf)) ⟨rfl, (show FunO A.Function X.N H6 fn (.ref pf) from hfn).keepI ki trivial⟩
    refine ⟨st2, f, fs ++ [fn], kvs ++ [(.inr fn.1, .ref pf)], _, hlt6, hat6, rfl, fun q o h => ?_, hR6.dictU gd6 (by rw [ed]; exact ndf), upd_same, hfs7, ?_, by omega, hb'⟩
    · have := s6 q o h
      by_cases c : q = df
      · rw [c] at h
        have := s13 _ _ h
        rw [gd] at this
        cases this
        have h0 := none_before s12 hdf
        rw [h0] at h; cases h
      · rw [upd_ne c]; exact this
    · rw [List.length_append, List.length_singleton]
      have : ¬ fs.length = 4 := fun e => c3 (.inr e)
      omega
  have hh : ¬ headAt ts st1.at_ = some "fun" := fun h => c2 (by unfold headV; rw [h]; rfl)
  rw [if_neg hh] at hb'
  rw [← hb'] at q1 q2
  simp only at q1 q2
  obtain ⟨dx5, o5⟩ := hR5.obj
  rw [ep] at o5
  refine ⟨_, rfl, x, dx5, _, rfl, o5, rfl, X, st1, _, by rw [ep] <;> rfl, hR5, fun st2 H6 p1 mv6 hR6 => ?_, fun p1 H6 mv6 => ?_⟩
  rotate_left
  · rw [et] at p1
    rw [p1] at q2
    exact q2 rfl H6 (toS s45 mv6)
  rw [et] at p1
  rw [p1] at q1 q2
  simp only at q1 q2
  have s6 := toS s45 mv6
  have gd6 := keepD hR5 mv6 gd5
  have hfs6 := hfs5.mono fun a b h => h.keepI (hR5.keepI mv6) T.nr_Function
  obtain ⟨dx6, o6⟩ := hR6.obj
  rw [ep] at o6
  refine ⟨_, rfl, x, dx6, _, rfl, o6, rfl, X, st2, by rw [ep] <;> rfl, hR6, by decide, fun st3 body H7 b1 mv7 hR7 => ?_, fun b1 H7 mv7 => ?_⟩
  rotate_left
  · rw [et] at b1
    rw [b1] at q2
    exact q2 rfl H7 (toS s6 mv7)
  rw [et] at b1
  rw [b1] at q1 q2
  simp only at q1 q2
  have s7 := toS s6 mv7
  have gd7 := keepD hR6 mv7 gd6
  have hfs7 := hfs6.mono fun a b h => h.keepI (hR6.keepI mv7) T.nr_Function
  obtain ⟨dx7, o7⟩ := hR7.obj
  rw [ep] at o7
  refine ⟨_, rfl, x, dx7, _, rfl, o7, rfl, X, st3, by rw [ep] <;> rfl, hR7, fun H8 s8 => ?_⟩
  have hR8 := hR7.same s8
  have s78 := s7.trans s8
  have gd8 := s8 _ _ gd7
  have hfs8 := hfs7.mono fun a b h => h.same s8
  have hat8 : st3.at_ ≤ ts.length := et ▸ hR8.at_
  rw [et]
  refine ⟨rfl, _, rfl, iteN2 (fun c3 => ?_) (fun c3 => ?_)⟩
  · refine q2 (if_neg fun h => c3 ?_) H8 s78
    unfold headV headAt
    rw [if_neg (by omega)]
  have hend : st3.at_ = ts.length := by
    unfold headV headAt at c3
    by_cases c : st3.at_ < ts.length
    · rw [if_pos c] at c3; cases c3
    · omega
  obtain ⟨dx8, o8⟩ := hR8.obj
  obtain ⟨os, y1, y2⟩ := hR8.calls
  obtain ⟨nk, z1, z2⟩ := hR8.dict
  rw [ep] at o8
  have hEC := ec
  rw [ec] at y1
  refine ⟨_, rfl, x, A.Reader, dx8, _, _, rfl, o8, T.cl_Reader, T.n_Reader_calls, rfl, _, rfl, X.cl, df, os, kvs, X.N, st3.calls, fs, rfl, by rw [hEC]; exact y1, gd8, y2, hfs8, fun ok => ?_, fun no => ?_⟩
  rotate_left
  · exact q2 (if_neg fun h => by rw [no] at h; cases h.2) H8 s78
  refine ⟨_, rfl, _, rfl, _, rfl, _, rfl, x, A.Reader, dx8, _, _, rfl, o8, T.cl_Reader, T.n_Reader_by_number, rfl, fun y dy hy hdy _ => mk_row (xs := [_, _, _, _]) hy hdy rfl fun H9 s9 g9 => ?_⟩
  refine q1 st3.num _ H9 (if_pos ⟨hend, ok⟩) (s78.trans s9) ⟨y, dy, la, X.d, _, _, nk, rfl, g9, SqL.of ?_, s9 _ _ z1, z2.mono fun a kv h => ⟨h.1, (h.2.weak fun _ _ _ => trivial).same s9⟩⟩
  have := hR8.txts
  rw [ea, et] at this
  exact s9 _ _ this

end
end K12
namespace K12
open PySem L2 TL
section
variable {P : Program} {w : World} {K : PySem.W.Frag} {mg : Str → Option Value} {base : Heap} {A : Ads}
theorem ok_l_cell (T : Txt K mg A) : FnOk P w K mg base CX0 1 A.l_cell A.l_cell_d ["_law_script", "_law_k"] (spCell K) := by
  refine T.F_l_cell.ok sc_l_cell (fun vs H Q E h => ?_) (fun cdv A0 outer s H vs Q E hr h => ?_)
  · obtain ⟨a, ns, k, rfl, hS, hk, q⟩ := h
    rfl
  obtain ⟨a, ns, k, rfl, hS, hk, q⟩ := h
  refine ⟨_, (pss_cons (ps_if (pt_cmpR op_lt (pv 1) (pe_callB call_lenK (by rfl) T.z_len (by decide +kernel) (pa_cons (pv 0) pa_nil)) (nomark _))
    (pss_one (ps_ret (pe_ix ix_list (pv 0) (pv 1) (fun _ _ => rfl))))
    pss_nil)
   (pss_one (ps_ret pe_int))), ?_⟩
  refine ⟨_, rfl, _, rfl, a, _, rfl, .inl hS, _, _, rfl, rfl, _, rfl, ?_⟩
  refine iteD2 (fun c => ?_) (fun c => ?_)
  · obtain ⟨v, hv⟩ := at_int (ns := ns) hk (by rw [List.length_map] at c; exact c)
    exact ⟨_, rfl, _, rfl, a, _, _, _, rfl, rfl, hS, hv, q v⟩
  · exact q 0

end
end K12
namespace K12
open PySem L2 TL
section
variable {P : Program} {w : World} {K : PySem.W.Frag} {mg : Str → Option Value} {base : Heap} {A : Ads}
theorem ok_l_mixed (T : Txt K mg A) : FnOk P w K mg base CX0 1 A.l_mixed A.l_mixed_d ["_law_cell_here", "_law_k"] spI2 := by
  refine T.F_l_mixed.ok sc_l_mixed (fun vs H Q E h => ?_) (fun cdv A0 outer s H vs Q E hr h => ?_)
  · obtain ⟨a, b, rfl, q⟩ := h
    rfl
  obtain ⟨a, b, rfl, q⟩ := h
  refine ⟨_, (pss_cons (ps_set (i := 2) sc_l_mixed.nd rfl (Or.inl rfl) (pe_op op_mod (pe_op op_mul (pe_op op_add (pe_op op_add (pv 0) (pe_op op_mul pe_int (pv 1))) pe_int) pe_int) pe_int))
   (pss_one (ps_ret (pe_op op_mod (pe_op op_mul (pv 2) (pe_op op_add (pe_op op_fdiv (pv 2) pe_int) pe_int)) pe_int)))), ?_⟩
  walk_at "rd"
  exact q _

end
end K12
namespace K12
open PySem L2 TL
section
variable {P : Program} {w : World} {K : PySem.W.Frag} {mg : Str → Option Value} {base : Heap} {A : Ads}
theorem ok_l_twice (T : Txt K mg A) : FnOk P w K mg base CX0 2 A.l_twice A.l_twice_d ["_law_cell_here", "_law_k"] spI2 := by
  have G_l_mixed := ok_l_mixed (P := P) (w := w) (base := base) T
  refine T.F_l_twice.ok sc_l_twice (fun vs H Q E h => ?_) (fun cdv A0 outer s H vs Q E hr h => ?_)
  · obtain ⟨a, b, rfl, q⟩ := h
    rfl
  obtain ⟨a, b, rfl, q⟩ := h
  refine ⟨_, (pss_cons (ps_set (i := 2) sc_l_twice.nd rfl (Or.inl rfl) (pe_op op_mod (pe_op op_mul (pe_op op_add (pe_op op_add (pe_call G_l_mixed (hr.mono (by decide)) rfl T.m_l_mixed T.F_l_mixed.kp T.b_l_mixed .nil pass0 (pa_cons (pv 0) (pa_cons (pv 1) pa_nil))) (pe_op op_mul pe_int (pv 1))) pe_int) pe_int) pe_int))
   (pss_one (ps_ret (pe_op op_mod (pe_op op_mul (pv 2) (pe_op op_add (pe_op op_fdiv (pv 2) pe_int) pe_int)) pe_int)))), ?_⟩
  walk_at "rd"
  refine ⟨_, _, rfl, fun n => ?_⟩
  walk_at "rd"
  exact q _

end
end K12
namespace K12
open PySem L2 TL
section
variable {P : Program} {w : World} {K : PySem.W.Frag} {mg : Str → Option Value} {base : Heap} {A : Ads}
theorem ok_l_well (T : Txt K mg A) : FnOk P w K mg base CX0 2 A.l_well A.l_well_d ["_law_script", "_law_k"] (spWell K) := by
  have G_l_cell := ok_l_cell (P := P) (w := w) (base := base) T
  refine T.F_l_well.ok sc_l_well (fun vs H Q E h => ?_) (fun cdv A0 outer s H vs Q E hr h => ?_)
  · obtain ⟨a, ns, k, rfl, hS, hk, q⟩ := h
    rfl
  obtain ⟨a, ns, k, rfl, hS, hk, q⟩ := h
  refine ⟨_, (pss_one (ps_ret (pe_lst (pa_cons (pe_op op_mod (pe_call G_l_cell (hr.mono (by decide)) rfl T.m_l_cell T.F_l_cell.kp T.b_l_cell .nil pass0 (pa_cons (pv 0) (pa_cons pe_int pa_nil))) pe_int) (pa_cons (pe_call G_l_cell (hr.mono (by decide)) rfl T.m_l_cell T.F_l_cell.kp T.b_l_cell .nil pass0 (pa_cons (pv 0) (pa_cons (pv 1) pa_nil))) (pa_cons pe_int (pa_cons (pe_op op_add (pe_call G_l_cell (hr.mono (by decide)) rfl T.m_l_cell T.F_l_cell.kp T.b_l_cell .nil pass0 (pa_cons (pv 0) (pa_cons (pv 1) pa_nil))) (pv 1)) pa_nil))))))), ?_⟩
  refine ⟨_, rfl, a, ns, 0, rfl, hS, Int.le_refl 0, fun n1 => ?_⟩
  walk_at "rd"
  refine ⟨a, ns, k, rfl, hS, hk, fun n2 => ?_⟩
  walk_at "rd"
  refine ⟨a, ns, k, rfl, hS, hk, fun n3 => ?_⟩
  walk_at "rd"
  exact ⟨by show 4 ≤ sizeLine; decide, fun p hp => q p _ hp (same_new hp) ⟨_, _, _, _, upd_same⟩⟩

end
end K12
namespace K12
open PySem L2 TL
section
variable {P : Program} {w : World} {K : PySem.W.Frag} {mg : Str → Option Value} {base : Heap} {A : Ads}
theorem ok_l_draw (T : Txt K mg A) : FnOk P w K mg base CX0 3 A.l_draw A.l_draw_d ["_law_well_here", "_law_most"] spDraw := by
  have G_l_twice := ok_l_twice (P := P) (w := w) (base := base) T
  refine T.F_l_draw.ok sc_l_draw (fun vs H Q E h => ?_) (fun cdv A0 outer s H vs Q E hr h => ?_)
  · obtain ⟨p, m, rfl, ⟨a, b, c, d, h⟩, hm0, hm1, q⟩ := h
    rfl
  obtain ⟨p, m, rfl, ⟨a, b, c, d, h⟩, hm0, hm1, q⟩ := h
  refine ⟨_, (pss_cons (ps_if (PW.pt (pw_and (pt_cmpR op_eq (pe_ix ix_list (pv 0) pe_int (fun _ _ => rfl)) pe_int (nomark _)) (pw_and1 (pt_cmpR op_notIn_seq (pe_ix ix_list (pv 0) pe_int (fun _ _ => rfl)) (pe_tup (pa_cons pe_int (pa_cons (pe_un un_neg pe_int) pa_nil))) (by rfl)))))
    (pss_cons (ps_set (i := 2) sc_l_draw.nd rfl (Or.inl rfl) (pe_op op_modN (pe_ix ix_list (pv 0) pe_int (fun _ _ => rfl)) (pv 1)))
   (pss_cons (ps_asg (pe_op op_fdivN (pe_ix ix_list (pv 0) pe_int (fun _ _ => rfl)) (pv 1)) (pg_sub (pv 0) pe_int set_list))
   (pss_one (ps_ret (pv 2)))))
    pss_nil)
   (pss_cons (ps_asg (pe_op op_add (pe_ix ix_list (pv 0) pe_int (fun _ _ => rfl)) pe_int) (pg_sub (pv 0) pe_int set_list))
   (pss_one (ps_ret (pe_op op_modN (pe_call G_l_twice (hr.mono (by decide)) rfl T.m_l_twice T.F_l_twice.kp T.b_l_twice .nil pass0 (pa_cons (pe_ix ix_list (pv 0) pe_int (fun _ _ => rfl)) (pa_cons (pe_ix ix_list (pv 0) pe_int (fun _ _ => rfl)) pa_nil))) (pv 1)))))), ?_⟩
  have hm : m ≠ 0 := by omega
  refine ⟨_, rfl, p, _, _, _, rfl, rfl, SqL.of h, rfl, rfl, _, rfl, ?_⟩
  refine iteD2 (fun c1 => ?_) (fun c1 => ?_)
  · refine ⟨_, rfl, p, _, _, _, rfl, rfl, SqL.of h, rfl, _, rfl, by show 2 ≤ sizeLine; decide, fun t ht => ?_⟩
    have npt : p ≠ t := ne_of_none h ht
    have h1 : ∀ o, upd H t o p = some (.lst [.int a, .int b, .int c, .int d]) := fun o => by rw [upd_ne npt]; exact h
    refine ⟨t, _, rfl, .inr (SqT.of upd_same), rfl, rfl, _, rfl, ?_⟩
    refine iteB2 (fun c2 => ?_) (fun c2 => ?_)
    · refine ⟨_, rfl, p, _, _, _, rfl, rfl, SqL.of (h1 _), rfl, _, rfl, _, _, rfl, rfl, hm, ?_⟩
      refine ⟨_, rfl, p, _, _, _, rfl, rfl, SqL.of (h1 _), rfl, _, rfl, _, _, rfl, rfl, ⟨hm, by omega⟩, ?_⟩
      refine ⟨_, rfl, p, _, _, 1, rfl, rfl, h1 _, rfl, _, rfl, ?_⟩
      exact q _ _ (Int.fmod_nonneg_of_pos _ hm0) (Int.fmod_lt_of_pos _ hm0) ((keepX_of (same_new ht)).trans keepX_upd) ⟨_, _, _, _, upd_same⟩
    · refine ⟨_, rfl, p, _, _, _, rfl, rfl, SqL.of (h1 _), rfl, _, _, rfl, rfl, _, rfl, p, _, _, 2, rfl, rfl, h1 _, rfl, ?_⟩
      refine ⟨_, rfl, p, _, _, _, rfl, rfl, SqL.of upd_same, rfl, _, rfl, p, _, _, _, rfl, rfl, SqL.of upd_same, rfl, _, _, rfl, fun n => ?_⟩
      refine ⟨_, rfl, _, _, rfl, rfl, hm, ?_⟩
      exact q _ _ (Int.fmod_nonneg_of_pos _ hm0) (Int.fmod_lt_of_pos _ hm0) ((keepX_of (same_new ht)).trans keepX_upd) ⟨_, _, _, _, upd_same⟩
  · refine ⟨_, rfl, p, _, _, _, rfl, rfl, SqL.of h, rfl, _, _, rfl, rfl, _, rfl, p, _, _, 2, rfl, rfl, h, rfl, ?_⟩
    refine ⟨_, rfl, p, _, _, _, rfl, rfl, SqL.of upd_same, rfl, _, rfl, p, _, _, _, rfl, rfl, SqL.of upd_same, rfl, _, _, rfl, fun n => ?_⟩
    refine ⟨_, rfl, _, _, rfl, rfl, hm, ?_⟩
    exact q _ _ (Int.fmod_nonneg_of_pos _ hm0) (Int.fmod_lt_of_pos _ hm0) keepX_upd ⟨_, _, _, _, upd_same⟩

end
end K12
namespace K12
open PySem L2 TL
section
variable {P : Program} {w : World} {K : PySem.W.Frag} {mg : Str → Option Value} {base : Heap} {A : Ads}
theorem ok_l_value (T : Txt K mg A) : FnOk P w K mg base CX0 4 A.l_value A.l_value_d ["_law_well_here"] spValue := by
  have G_l_draw := ok_l_draw (P := P) (w := w) (base := base) T
  refine T.F_l_value.ok sc_l_value (fun vs H Q E h => ?_) (fun cdv A0 outer s H vs Q E hr h => ?_)
  · obtain ⟨p, rfl, W, q⟩ := h
    rfl
  obtain ⟨p, rfl, W, q⟩ := h
  refine ⟨_, (pss_cons (ps_set (i := 1) sc_l_value.nd rfl (Or.inl rfl) (pe_call G_l_draw (hr.mono (by decide)) rfl T.m_l_draw T.F_l_draw.kp T.b_l_draw .nil pass0 (pa_cons (pv 0) (pa_cons pe_int pa_nil))))
   (pss_cons (ps_if (pt_cmpR op_eq (pv 1) pe_int (nomark _))
    (pss_one (ps_ret (pe_call G_l_draw (hr.mono (by decide)) rfl T.m_l_draw T.F_l_draw.kp T.b_l_draw .nil pass0 (pa_cons (pv 0) (pa_cons (pe_op op_pow pe_int pe_int) pa_nil)))))
    pss_nil)
   (pss_cons (ps_if (pt_cmpR op_eq (pv 1) pe_int (nomark _))
    (pss_one (ps_ret (pe_op op_sub pe_int (pe_call G_l_draw (hr.mono (by decide)) rfl T.m_l_draw T.F_l_draw.kp T.b_l_draw .nil pass0 (pa_cons (pv 0) (pa_cons pe_int pa_nil))))))
    pss_nil)
   (pss_one (ps_ret (pe_call G_l_draw (hr.mono (by decide)) rfl T.m_l_draw T.F_l_draw.kp T.b_l_draw .nil pass0 (pa_cons (pv 0) (pa_cons pe_int pa_nil)))))))), ?_⟩
  refine ⟨_, rfl, p, 4, rfl, W, by decide, by decide, fun n H1 hn0 hn1 k1 W1 => ?_⟩
  refine ⟨_, rfl, rfl, _, rfl, ?_⟩
  refine iteD2 (fun c1 => ?_) (fun c1 => ?_)
  · refine ⟨_, rfl, _, _, rfl, rfl, ⟨by decide, by decide, by decide⟩, p, _, rfl, W1, by decide, by decide, fun m H2 hm0 hm1 k2 W2 => ?_⟩
    have e6 : (10 : Int) ^ ((6 : Int).toNat) = 1000000 := by decide
    rw [e6] at hm1
    exact q m H2 hm0 hm1 (k1.trans k2) W2
  refine ⟨_, rfl, rfl, _, rfl, ?_⟩
  refine iteD2 (fun c2 => ?_) (fun c2 => ?_)
  · refine ⟨_, rfl, p, 3, rfl, W1, by decide, by decide, fun m H2 hm0 hm1 k2 W2 => ?_⟩
    exact ⟨_, _, rfl, rfl, q _ H2 (by omega) (by omega) (k1.trans k2) W2⟩
  · refine ⟨_, rfl, p, 4, rfl, W1, by decide, by decide, fun m H2 hm0 hm1 k2 W2 => ?_⟩
    exact q m H2 hm0 (by omega) (k1.trans k2) W2

end
end K12
namespace K12
open PySem L2 TL
section
variable {P : Program} {w : World} {K : PySem.W.Frag} {mg : Str → Option Value} {base : Heap} {A : Ads}
theorem ok_l_name (T : Txt K mg A) : FnOk P w K mg base CX0 4 A.l_name A.l_name_d ["_law_well_here"] spName := by
  have G_l_draw := ok_l_draw (P := P) (w := w) (base := base) T
  refine T.F_l_name.ok sc_l_name (fun vs H Q E h => ?_) (fun cdv A0 outer s H vs Q E hr h => ?_)
  · obtain ⟨p, rfl, W, q⟩ := h
    rfl
  obtain ⟨p, rfl, W, q⟩ := h
  refine ⟨_, (pss_cons (ps_if (pt_cmpR op_eq (pe_call G_l_draw (hr.mono (by decide)) rfl T.m_l_draw T.F_l_draw.kp T.b_l_draw .nil pass0 (pa_cons (pv 0) (pa_cons pe_int pa_nil))) pe_int (nomark _))
    (pss_cons (ps_set (i := 1) sc_l_name.nd rfl (Or.inl rfl) (pe_lst (pa_cons pe_str (pa_cons pe_str (pa_cons pe_str (pa_cons pe_str (pa_cons pe_str (pa_cons pe_str (pa_cons pe_str (pa_cons pe_str (pa_cons pe_str (pa_cons pe_str (pa_cons pe_str (pa_cons pe_str pa_nil))))))))))))))
   (pss_one (ps_ret (pe_ix ix_list (pv 1) (pe_call G_l_draw (hr.mono (by decide)) rfl T.m_l_draw T.F_l_draw.kp T.b_l_draw .nil pass0 (pa_cons (pv 0) (pa_cons pe_int pa_nil))) (fun _ _ => rfl)))))
    pss_nil)
   (pss_cons (ps_set (i := 2) sc_l_name.nd rfl (Or.inl rfl) pe_str)
   (pss_cons (ps_for PassesOwn.never rfl (pi_range1 (by rfl) T.z_range (pa_cons (pe_op op_add pe_int (pe_call G_l_draw (hr.mono (by decide)) rfl T.m_l_draw T.F_l_draw.kp T.b_l_draw .nil pass0 (pa_cons (pv 0) (pa_cons pe_int pa_nil)))) pa_nil)) (pg_name (i := 3) sc_l_name.nd rfl (Or.inl rfl))
    (pss_one (ps_set (i := 2) sc_l_name.nd rfl (Or.inl rfl) (pe_op op_add_str (pv 2) (pe_ix ix_str pe_str (pe_call G_l_draw (hr.mono (by decide)) rfl T.m_l_draw T.F_l_draw.kp T.b_l_draw .nil pass0 (pa_cons (pv 0) (pa_cons pe_int pa_nil))) (fun _ _ => rfl))))))
   (pss_cons (ps_if (pt_cmpR op_in_seq (pv 2) (pe_lst (pa_cons pe_str (pa_cons pe_str (pa_cons pe_str (pa_cons pe_str (pa_cons pe_str (pa_cons pe_str (pa_cons pe_str (pa_cons pe_str (pa_cons pe_str (pa_cons pe_str (pa_cons pe_str (pa_cons pe_str (pa_cons pe_str pa_nil)))))))))))))) (by rfl))
    (pss_one (ps_ret (pe_op op_add_str (pv 2) pe_str)))
    pss_nil)
   (pss_cons (ps_if (pt_cmpR op_in_seq (pv 2) (pe_lst (pa_cons pe_str (pa_cons pe_str (pa_cons pe_str (pa_cons pe_str (pa_cons pe_str (pa_cons pe_str (pa_cons pe_str (pa_cons pe_str (pa_cons pe_str pa_nil)))))))))) (by rfl))
    (pss_one (ps_ret (pe_op op_add_str pe_str (pv 2))))
    pss_nil)
   (pss_one (ps_ret (pv 2)))))))), ?_⟩
  refine ⟨_, rfl, p, 2, rfl, W, by decide, by decide, fun n H1 hn0 hn1 k1 W1 => ?_⟩
  refine ⟨rfl, _, rfl, ?_⟩
  refine iteD2 (fun c1 => ?_) (fun c1 => ?_)
  · refine ⟨by show 12 ≤ sizeLine; decide, fun l hl => ?_⟩
    refine ⟨_, rfl, _, rfl, p, 12, rfl, W1.same (same_new hl), by decide, by decide, fun m H2 hm0 hm1 k2 W2 => ?_⟩
    have npl : l ≠ p := fun e => by obtain ⟨_, _, _, _, w⟩ := W1; rw [← e, hl] at w; cases w
    have hl2 := k2 _ _ npl upd_same
    obtain ⟨s, hs, es⟩ := at_strs (ss := SOMEN) hm0 hm1
    refine ⟨l, SOMEN.map V.str, _, _, rfl, rfl, SqL.of hl2, es, ?_⟩
    exact q s H2 (someN_ok s hs) (k1.trans ((keepX_of (same_new hl)).trans k2)) W2
  · refine ⟨_, rfl, p, 6, rfl, W1, by decide, by decide, fun m H2 hm0 hm1 k2 W2 => ?_⟩
    refine ⟨_, _, rfl, rfl, ?_⟩
    refine ⟨1 + m, rfl, by omega, by omega, for_range (n := (1 + m).toNat) (fun i σ H' => ∃ (s : Str) (v1 v2 : Option V), σ = [some (.ref p), v1, some (.str s), v2] ∧ (tl s).length = i ∧ (∀ c ∈ tl s, 97 ≤ c ∧ c ≤ 122) ∧ KeepX p H H' ∧ WellAt H' p)
      ⟨"", none, none, rfl, rfl, (fun c hc => by have : tl (Str.ofString "") = [] := by decide +kernel
                                                 rw [this] at hc; cases hc), k1.trans k2, W2⟩ ?_ ?_⟩
    · rintro i σ H3 hi ⟨s, v1, v2, rfl, hl, hc, k3, W3⟩
      refine ⟨_, rfl, _, rfl, p, 26, rfl, W3, by decide, by decide, fun z H4 hz0 hz1 k4 W4 => ?_⟩
      obtain ⟨c, hat, hc1, hc2⟩ := letter_at hz0 hz1
      have et : tl (s ++ (⟨#[c]⟩ : Str)) = tl s ++ [c] := by rw [tl_append]
      refine ⟨_, _, c, rfl, rfl, by decide +kernel, hat, ?_⟩
      refine ⟨_, _, rfl, rfl, ?_, s ++ (⟨#[c]⟩ : Str), _, _, rfl, by rw [et, List.length_append, hl]; rfl, fun x hx => ?_, k3.trans k4, W4⟩
      · have : s.length = (tl s).length := len_tl s
        show s.length + 1 ≤ 16777216
        omega
      · rw [et] at hx
        rcases List.mem_append.mp hx with h | h
        · exact hc x h
        · rw [List.mem_singleton.mp h]; exact ⟨hc1, hc2⟩
    · rintro σ H3 ⟨s, v1, v2, rfl, hl, hc, k3, W3⟩
      have hl1 : 1 ≤ (tl s).length := by omega
      have hl6 : (tl s).length ≤ 6 := by omega
      have hls : s.length = (tl s).length := len_tl s
      refine ⟨_, rfl, by show 13 ≤ sizeLine; decide, fun l1 hl1' => ?_⟩
      refine ⟨l1, BAD1.map V.str, rfl, .inl (SqL.of upd_same), rfl, rfl, _, rfl, ?_⟩
      rw [if_neg Bool.false_ne_true, inV_str]
      have k4 := k3.trans (keepX_of (same_new (o := .lst (BAD1.map V.str)) hl1'))
      refine iteD2 (fun c2 => ?_) (fun c2 => ?_)
      · refine ⟨_, rfl, _, _, rfl, rfl, by show s.length + 1 ≤ 16777216; omega, ?_⟩
        exact q _ _ (bad1_ok s c2).1 k4 (W3.same (same_new hl1'))
      refine ⟨_, rfl, by show 9 ≤ sizeLine; decide, fun l2 hl2 => ?_⟩
      refine ⟨l2, BAD2.map V.str, rfl, .inl (SqL.of upd_same), rfl, rfl, _, rfl, ?_⟩
      rw [if_neg Bool.false_ne_true, inV_str]
      have k5 := k4.trans (keepX_of (same_new (o := .lst (BAD2.map V.str)) hl2))
      have W5 := (W3.same (same_new (o := .lst (BAD1.map V.str)) hl1')).same (same_new (o := .lst (BAD2.map V.str)) hl2)
      refine iteD2 (fun c3 => ?_) (fun c3 => ?_)
      · refine ⟨_, rfl, _, _, rfl, rfl, by show 1 + s.length ≤ 16777216; omega, ?_⟩
        exact q _ _ (bad2_ok s c3).1 k5 W5
      · exact ⟨_, rfl, q _ _ (name_of hl1 hl6 hc c2 c3) k5 W5⟩

end
end K12
namespace K12
open PySem L2 TL
section
variable {P : Program} {w : World} {K : PySem.W.Frag} {mg : Str → Option Value} {base : Heap} {A : Ads}
theorem ok_l_parts (T : Txt K mg A) : ∀ n : Nat, FnOk P w K mg base CX0 (n + 2) A.l_parts A.l_parts_d ["_law_told"] (spLParts K n)
| 0 => fn_none fun vs H Q E h => by
    obtain ⟨e, _, _, _, _, hd, _⟩ := h; have := e.depth_pos; omega
| n + 1 => by
  have G_l_parts := ok_l_parts T n
  refine T.F_l_parts.ok sc_l_parts (fun vs H Q E h => ?_) (fun cdv A0 outer s H vs Q E hr h => ?_)
  · obtain ⟨e, v, rfl, ht, hw, hd, q⟩ := h
    rfl
  obtain ⟨e, v, rfl, ht, hw, hd, q⟩ := h
  refine ⟨_, (pss_cons (ps_if (pt_cmpR op_in_seq (pe_ix ix_tup (pv 0) pe_int (fun _ _ => rfl)) (pe_tup (pa_cons pe_str (pa_cons pe_str pa_nil))) (by rfl))
    (pss_one (ps_ret pe_int))
    pss_nil)
   (pss_one (ps_ret (pe_op op_add pe_int (pe_callB (cr_sum rfl) (by rfl) T.z_sum (by decide +kernel) (pa_cons (pe_lc (own := [("_law_one", 1)]) (g := gName 1) (tt := tYes) rfl sc_l_parts.nd (pi_tup (pe_slice sl_tup (pv 0) (po_some pe_int) po_none)) (blkOk_by (own := [("_law_one", 1)]) (N := N_l_parts) (sc := defScope s_l_parts) (by decide +kernel)) (fun _ _ _ _ _ => pg_name (i := 1) sc_l_parts.nd rfl (Or.inl rfl)) (fun _ _ _ _ _ => pts_nil) (fun _ _ _ _ _ => (pe_call G_l_parts (hr.mono (by omega)) rfl T.m_l_parts T.F_l_parts.kp T.b_l_parts .nil pass0 (pa_cons (pv 1) pa_nil)))) pa_nil)))))), ?_⟩
  cases e with
  | num z =>
    obtain ⟨t, rfl, h1⟩ := ht
    refine ⟨_, rfl, t, _, _, _, rfl, rfl, SqT.of h1, rfl, by show 2 ≤ sizeLine; decide, fun u hu => ?_⟩
    refine ⟨u, [.str "number", .str "box"], rfl, .inr (SqT.of upd_same), rfl, rfl, _, rfl, ?_⟩
    rw [if_neg Bool.false_ne_true, in_num]
    exact iteT (q _ (same_new hu))
  | box z =>
    obtain ⟨t, rfl, h1⟩ := ht
    refine ⟨_, rfl, t, _, _, _, rfl, rfl, SqT.of h1, rfl, by show 2 ≤ sizeLine; decide, fun u hu => ?_⟩
    refine ⟨u, [.str "number", .str "box"], rfl, .inr (SqT.of upd_same), rfl, rfl, _, rfl, ?_⟩
    rw [if_neg Bool.false_ne_true, in_box]
    exact iteT (q _ (same_new hu))
  | cell e =>
    obtain ⟨t, i, rfl, h1, h2⟩ := ht
    have hd' : e.depth ≤ n := Nat.le_of_succ_le_succ hd
    refine ⟨_, rfl, t, _, _, _, rfl, rfl, SqT.of h1, rfl, by show 2 ≤ sizeLine; decide, fun u hu => ?_⟩
    refine ⟨u, [.str "number", .str "box"], rfl, .inr (SqT.of upd_same), rfl, rfl, _, rfl, ?_⟩
    rw [if_neg Bool.false_ne_true, in_cell]
    refine iteF ?_
    have s1 := same_new (o := .tup [.str "number", .str "box"]) hu
    refine ⟨_, rfl, 1, rfl, t, [.str "cell", i], rfl, SqT.of (s1 _ _ h1), (by show ¬(HT.sIx 2 0 (some 1) = 0 ∧ HT.sIx 2 2 none = 2); decide), fun p hp => ?_⟩
    have s2 := s1.trans (same_new (o := .tup [i]) hp)
    refine ⟨p, rfl, ⟨_, SqT.of upd_same⟩, fun D hD => lc_map (walk_tup (xs := [i])) (fun _ => .int e.parts) hD (by show 1 < 16777216; decide) (by show 1 < 2; decide) (fun H' s' => SqT.of (s' _ _ upd_same)) (fun _ _ _ _ y => y.1) ?_ ?_⟩
    · rintro k x H' Z hk s' ⟨_, hx⟩ z
      obtain rfl : k = 0 := by have : k < 1 := hk; omega
      cases hx
      exact ⟨_, rfl, e, i, rfl, h2.same (s2.trans s'), hw, hd', z⟩
    · intro H' s' hD'
      refine ⟨D, [(e.parts : Int)], rfl, SqL.of hD', ?_⟩
      refine ⟨_, _, rfl, rfl, ?_⟩
      have e1 : (1 : Int) + ([(e.parts : Int)].sum) = ((Ex.cell e).parts : Int) := by show (1 : Int) + ((e.parts : Int) + 0) = ((1 + e.parts : Nat) : Int); omega
      show Q (.int ((1 : Int) + ([(e.parts : Int)].sum))) H'
      rw [e1]
      exact q H' (s2.trans s')
  | two wd l r =>
    obtain ⟨t, a, b, rfl, h1, h2, h3⟩ := ht
    have hd' : max l.depth r.depth ≤ n := Nat.le_of_succ_le_succ hd
    obtain ⟨hw0, hw1, hw2⟩ : wd ∈ PAIRW ∧ l.Wf ∧ r.Wf := hw
    refine ⟨_, rfl, t, _, _, _, rfl, rfl, SqT.of h1, rfl, by show 2 ≤ sizeLine; decide, fun u hu => ?_⟩
    refine ⟨u, [.str "number", .str "box"], rfl, .inr (SqT.of upd_same), rfl, rfl, _, rfl, ?_⟩
    rw [if_neg Bool.false_ne_true, in_pair hw0]
    refine iteF ?_
    have s1 := same_new (o := .tup [.str "number", .str "box"]) hu
    refine ⟨_, rfl, 1, rfl, t, [.str wd, a, b], rfl, SqT.of (s1 _ _ h1), (by show ¬(HT.sIx 3 0 (some 1) = 0 ∧ HT.sIx 3 3 none = 3); decide), fun p hp => ?_⟩
    have s2 := s1.trans (same_new (o := .tup [a, b]) hp)
    refine ⟨p, rfl, ⟨_, SqT.of upd_same⟩, fun D hD => lc_map (walk_tup (xs := [a, b])) (fun k => if k = 0 then .int l.parts else .int r.parts) hD (by show 2 < 16777216; decide) (by show 1 < 2; decide) (fun H' s' => SqT.of (s' _ _ upd_same)) (fun _ _ _ _ y => y.1) ?_ ?_⟩
    · rintro k x H' Z hk s' ⟨_, hx⟩ z
      have : k = 0 ∨ k = 1 := by have : k < 2 := hk; omega
      rcases this with rfl | rfl
      · cases hx
        exact ⟨_, rfl, l, a, rfl, h2.same (s2.trans s'), hw1, by omega, z⟩
      · cases hx
        exact ⟨_, rfl, r, b, rfl, h3.same (s2.trans s'), hw2, by omega, z⟩
    · intro H' s' hD'
      refine ⟨D, [(l.parts : Int), (r.parts : Int)], rfl, SqL.of hD', ?_⟩
      refine ⟨_, _, rfl, rfl, ?_⟩
      have e1 : (1 : Int) + ([(l.parts : Int), (r.parts : Int)].sum) = ((Ex.two wd l r).parts : Int) := by show (1 : Int) + ((l.parts : Int) + ((r.parts : Int) + 0)) = ((1 + l.parts + r.parts : Nat) : Int); omega
      show Q (.int ((1 : Int) + ([(l.parts : Int), (r.parts : Int)].sum))) H'
      rw [e1]
      exact q H' (s2.trans s')

end
end K12
namespace K12
open PySem L2 TL
section
variable {P : Program} {w : World} {K : PySem.W.Frag} {mg : Str → Option Value} {base : Heap} {A : Ads}
theorem ok_l_expr (T : Txt K mg A) : ∀ n : Nat, FnOk P w K mg base CX0 (n + 9) A.l_expr A.l_expr_d ["_law_well_here", "_law_deep", "_law_most"] (spLExpr K n)
| 0 => fn_none fun vs H Q E h => by
    obtain ⟨_, _, _, _, _, h1, h2, _⟩ := h; omega
| n + 1 => by
  have G_l_expr := ok_l_expr T n
  have G_l_draw := ok_l_draw (P := P) (w := w) (base := base) T
  have G_l_parts := ok_l_parts (P := P) (w := w) (base := base) T 7
  have G_l_value := ok_l_value (P := P) (w := w) (base := base) T
  have G_l_name := ok_l_name (P := P) (w := w) (base := base) T
  refine T.F_l_expr.ok sc_l_expr (fun vs H Q E h => ?_) (fun cdv A0 outer s H vs Q E hr h => ?_)
  · obtain ⟨p, d, m, rfl, W, hd1, hdn, hn8, hm1, q⟩ := h
    rfl
  obtain ⟨p, d, m, rfl, W, hd1, hdn, hn8, hm1, q⟩ := h
  refine ⟨_, (pss_cons (ps_set (i := 3) sc_l_expr.nd rfl (Or.inl rfl) (pe_call G_l_draw (hr.mono (by omega)) rfl T.m_l_draw T.F_l_draw.kp T.b_l_draw .nil pass0 (pa_cons (pv 0) (pa_cons pe_int pa_nil))))
   (pss_cons (ps_ifC (PW.pt (pw_and (pt_cmpR op_eq (pv 3) pe_int (nomark _)) (pw_and (pt_cmpR op_gt (pv 1) pe_int (nomark _)) (pw_and1 (pt_cmpR op_gt (pv 2) pe_int (nomark _))))))
    (pss_one (ps_ret (pe_tup (pa_cons pe_str (pa_cons (pe_call G_l_expr (hr.mono (by omega)) rfl T.m_l_expr T.F_l_expr.kp T.b_l_expr .nil pass0 (pa_cons (pv 0) (pa_cons (pe_op op_sub (pv 1) pe_int) (pa_cons (pe_op op_sub (pv 2) pe_int) pa_nil)))) pa_nil)))))
    pss_nil)
   (pss_cons (ps_ifC (PW.pt (pw_and (pt_cmpR op_gt (pv 3) pe_int (nomark _)) (pw_and (pt_cmpR op_gt (pv 1) pe_int (nomark _)) (pw_and1 (pt_cmpR op_gt (pv 2) pe_int (nomark _))))))
    (pss_cons (ps_set (i := 4) sc_l_expr.nd rfl (Or.inl rfl) (pe_ix ix_list (pe_lst (pa_cons pe_str (pa_cons pe_str (pa_cons pe_str (pa_cons pe_str (pa_cons pe_str (pa_cons pe_str (pa_cons pe_str pa_nil)))))))) (pe_call G_l_draw (hr.mono (by omega)) rfl T.m_l_draw T.F_l_draw.kp T.b_l_draw .nil pass0 (pa_cons (pv 0) (pa_cons pe_int pa_nil))) (fun _ _ => rfl)))
   (pss_cons (ps_set (i := 5) sc_l_expr.nd rfl (Or.inl rfl) (pe_call G_l_expr (hr.mono (by omega)) rfl T.m_l_expr T.F_l_expr.kp T.b_l_expr .nil pass0 (pa_cons (pv 0) (pa_cons (pe_op op_sub (pv 1) pe_int) (pa_cons (pe_op op_sub (pv 2) pe_int) pa_nil)))))
   (pss_one (ps_ret (pe_tup (pa_cons (pv 4) (pa_cons (pv 5) (pa_cons (pe_call G_l_expr (hr.mono (by omega)) rfl T.m_l_expr T.F_l_expr.kp T.b_l_expr .nil pass0 (pa_cons (pv 0) (pa_cons (pe_op op_sub (pv 1) pe_int) (pa_cons (pe_op op_sub (pe_op op_sub (pv 2) pe_int) (pe_call G_l_parts (hr.mono (by omega)) rfl T.m_l_parts T.F_l_parts.kp T.b_l_parts .nil pass0 (pa_cons (pv 5) pa_nil))) pa_nil)))) pa_nil))))))))
    pss_nil)
   (pss_cons (ps_if (pt_cmpR op_eq (pe_call G_l_draw (hr.mono (by omega)) rfl T.m_l_draw T.F_l_draw.kp T.b_l_draw .nil pass0 (pa_cons (pv 0) (pa_cons pe_int pa_nil))) pe_int (nomark _))
    (pss_one (ps_ret (pe_tup (pa_cons pe_str (pa_cons (pe_call G_l_value (hr.mono (by omega)) rfl T.m_l_value T.F_l_value.kp T.b_l_value .nil pass0 (pa_cons (pv 0) pa_nil)) pa_nil)))))
    pss_nil)
   (pss_one (ps_ret (pe_tup (pa_cons pe_str (pa_cons (pe_call G_l_name (hr.mono (by omega)) rfl T.m_l_name T.F_l_name.kp T.b_l_name .nil pass0 (pa_cons (pv 0) pa_nil)) pa_nil))))))))), ?_⟩
  refine ⟨_, rfl, p, 4, rfl, W, by decide, by decide, fun way H1 hw0 hw1 k1 W1 => ?_⟩
  refine ⟨decide (way = 1 ∧ 1 < d ∧ 1 < m), H1, fun Z hZ => ?_, ?_⟩
  · refine ⟨_, rfl, rfl, _, rfl, iteD2 (fun c1 => ?_) (fun c1 => zFalse hZ fun h => c1 (congrArg V.int h.1))⟩
    refine ⟨_, rfl, _, _, rfl, rfl, _, rfl, iteD2 (fun c2 => ?_) (fun c2 => zFalse hZ fun h => c2 h.2.1)⟩
    refine ⟨_, rfl, _, _, rfl, rfl, _, rfl, ?_⟩
    by_cases c3 : 1 < m
    · rw [decide_eq_true c3]; exact zTrue hZ ⟨V.int.inj c1, c2, c3⟩
    · rw [decide_eq_false c3]; exact zFalse hZ fun h => c3 h.2.2
  refine iteD2 (fun c => ?_) (fun c => ?_)
  · obtain ⟨c1, c2, c3⟩ := c
    refine ⟨_, rfl, _, rfl, _, _, rfl, rfl, _, rfl, _, _, rfl, rfl, p, d - 1, m - 1, rfl, W1, by omega, by omega, by omega, by omega, fun e v H2 a1 a2 a3 a4 k2 W2 => ?_⟩
    refine ⟨by show 2 ≤ sizeLine; decide, fun t ht => ?_⟩
    have s := same_new (o := .tup [.str "cell", v]) ht
    exact q (.cell e) _ _ a1 (by show ((e.depth + 1 : Nat) : Int) ≤ d; omega) (by show ((1 + e.parts : Nat) : Int) ≤ m; omega) ⟨t, v, rfl, upd_same, a4.same s⟩ (k1.trans (k2.trans (keepX_of s))) (W2.same s)
  refine ⟨decide (1 < way ∧ 1 < d ∧ 2 < m), H1, fun Z hZ => ?_, ?_⟩
  · refine ⟨_, rfl, _, _, rfl, rfl, _, rfl, iteD2 (fun c1 => ?_) (fun c1 => zFalse hZ fun h => c1 h.1)⟩
    refine ⟨_, rfl, _, _, rfl, rfl, _, rfl, iteD2 (fun c2 => ?_) (fun c2 => zFalse hZ fun h => c2 h.2.1)⟩
    refine ⟨_, rfl, _, _, rfl, rfl, _, rfl, ?_⟩
    by_cases c3 : 2 < m
    · rw [decide_eq_true c3]; exact zTrue hZ ⟨c1, c2, c3⟩
    · rw [decide_eq_false c3]; exact zFalse hZ fun h => c3 h.2.2
  refine iteD2 (fun c => ?_) (fun c => ?_)
  · obtain ⟨c1, c2, c3⟩ := c
    refine ⟨by show 7 ≤ sizeLine; decide, fun l hl => ?_⟩
    have s0 := same_new (o := .lst (PAIRW.map V.str)) hl
    refine ⟨_, rfl, p, 7, rfl, W1.same s0, by decide, by decide, fun z H2 hz0 hz1 k2 W2 => ?_⟩
    have npl : l ≠ p := fun e => by obtain ⟨_, _, _, _, w⟩ := W1; rw [← e, hl] at w; cases w
    have hl2 := k2 _ _ npl (upd_same (H := H1) (o := .lst (PAIRW.map V.str)))
    obtain ⟨wd, hs, es⟩ := at_strs (ss := PAIRW) hz0 hz1
    refine ⟨l, PAIRW.map V.str, _, _, rfl, rfl, SqL.of hl2, es, ?_⟩
    have k12 := k1.trans ((keepX_of s0).trans k2)
    refine ⟨_, rfl, _, rfl, _, _, rfl, rfl, _, rfl, _, _, rfl, rfl, p, d - 1, m - 2, rfl, W2, by omega, by omega, by omega, by omega, fun e v H3 a1 a2 a3 a4 k3 W3 => ?_⟩
    refine ⟨_, rfl, _, rfl, _, rfl, _, rfl, _, _, rfl, rfl, _, rfl, _, _, rfl, rfl, _, rfl, e, v, rfl, a4, a1, by omega, fun H4 s4 => ?_⟩
    refine ⟨_, _, rfl, rfl, ?_⟩
    refine ⟨p, d - 1, m - 1 - e.parts, rfl, W3.same s4, by omega, by omega, by omega, by omega, fun e2 v2 H5 b1 b2 b3 b4 k5 W5 => ?_⟩
    refine ⟨by show 3 ≤ sizeLine; decide, fun t ht => ?_⟩
    have s := same_new (o := .tup [.str wd, v, v2]) ht
    exact q (.two wd e e2) _ _ ⟨hs, a1, b1⟩ (by show ((max e.depth e2.depth + 1 : Nat) : Int) ≤ d; omega) (by show ((1 + e.parts + e2.parts : Nat) : Int) ≤ m; omega)
      ⟨t, v, v2, rfl, upd_same, ((a4.same s4).keep k5 (W3.same s4)).same s, b4.same s⟩ (k12.trans (k3.trans ((keepX_of s4).trans (k5.trans (keepX_of s))))) (W5.same s)
  refine ⟨_, rfl, p, 2, rfl, W1, by decide, by decide, fun z H2 hz0 hz1 k2 W2 => ?_⟩
  refine ⟨rfl, _, rfl, ?_⟩
  refine iteD2 (fun c1 => ?_) (fun c1 => ?_)
  · refine ⟨_, rfl, p, rfl, W2, fun x H3 hx0 hx1 k3 W3 => ?_⟩
    refine ⟨by show 2 ≤ sizeLine; decide, fun t ht => ?_⟩
    have s := same_new (o := .tup [.str "number", .int x]) ht
    exact q (.num x) _ _ ⟨hx0, hx1⟩ (by show ((1 : Nat) : Int) ≤ d; omega) (by show ((1 : Nat) : Int) ≤ m; omega) ⟨t, rfl, upd_same⟩ (k1.trans (k2.trans (k3.trans (keepX_of s)))) (W3.same s)
  · refine ⟨_, rfl, p, rfl, W2, fun x H3 hx k3 W3 => ?_⟩
    refine ⟨by show 2 ≤ sizeLine; decide, fun t ht => ?_⟩
    have s := same_new (o := .tup [.str "box", .str x]) ht
    exact q (.box x) _ _ hx (by show ((1 : Nat) : Int) ≤ d; omega) (by show ((1 : Nat) : Int) ≤ m; omega) ⟨t, rfl, upd_same⟩ (k1.trans (k2.trans (k3.trans (keepX_of s)))) (W3.same s)

end
end K12
namespace K12
open PySem L2 TL
section
variable {P : Program} {w : World} {K : PySem.W.Frag} {mg : Str → Option Value} {base : Heap} {A : Ads}
theorem ok_l_words_of (T : Txt K mg A) : ∀ n : Nat, FnOk P w K mg base CX0 (n + 2) A.l_words_of A.l_words_of_d ["_law_told"] (spLWords K n)
| 0 => fn_none fun vs H Q E h => by
    obtain ⟨e, _, _, _, _, _, hd, _⟩ := h; have := e.depth_pos; omega
| n + 1 => by
  have G_l_words_of := ok_l_words_of T n
  refine T.F_l_words_of.ok sc_l_words_of (fun vs H Q E h => ?_) (fun cdv A0 outer s H vs Q E hr h => ?_)
  · obtain ⟨e, v, rfl, ht, hw, hpp, hd, q⟩ := h
    rfl
  obtain ⟨e, v, rfl, ht, hw, hpp, hd, q⟩ := h
  refine ⟨_, (pss_cons (ps_if (pt_cmpR op_in_seq (pe_ix ix_tup (pv 0) pe_int (fun _ _ => rfl)) (pe_tup (pa_cons pe_str (pa_cons pe_str pa_nil))) (by rfl))
    (pss_one (ps_ret (pe_callTy call_str_any (by rfl) T.z_str (by decide +kernel) (pa_cons (pe_ix ix_tup (pv 0) pe_int (fun _ _ => rfl)) pa_nil))))
    pss_nil)
   (pss_one (ps_ret (pe_join pe_str (pe_op op_cat (pe_lst (pa_cons (pe_ix ix_tup (pv 0) pe_int (fun _ _ => rfl)) pa_nil)) (pe_lc (own := [("_law_one", 1)]) (g := gName 1) (tt := tYes) rfl sc_l_words_of.nd (pi_tup (pe_slice sl_tup (pv 0) (po_some pe_int) po_none)) (blkOk_by (own := [("_law_one", 1)]) (N := N_l_words_of) (sc := defScope s_l_words_of) (by decide +kernel)) (fun _ _ _ _ _ => pg_name (i := 1) sc_l_words_of.nd rfl (Or.inl rfl)) (fun _ _ _ _ _ => pts_nil) (fun _ _ _ _ _ => (pe_call G_l_words_of (hr.mono (by omega)) rfl T.m_l_words_of T.F_l_words_of.kp T.b_l_words_of .nil pass0 (pa_cons (pv 1) pa_nil))))))))), ?_⟩
  cases e with
  | num z =>
    obtain ⟨t, rfl, h1⟩ := ht
    refine ⟨_, rfl, t, _, _, _, rfl, rfl, SqT.of h1, rfl, by show 2 ≤ sizeLine; decide, fun u hu => ?_⟩
    refine ⟨u, [.str "number", .str "box"], rfl, .inr (SqT.of upd_same), rfl, rfl, _, rfl, ?_⟩
    rw [if_neg Bool.false_ne_true, in_num]
    have hl : z.natAbs < 2 ^ 20 := by have := hw.1; have := hw.2; omega
    refine iteT ⟨_, rfl, t, _, _, _, rfl, rfl, SqT.of ((same_new hu) _ _ h1), rfl, .inl ⟨z, rfl, log_small hl, ?_⟩⟩
    exact q _ (same_new hu)
  | box z =>
    obtain ⟨t, rfl, h1⟩ := ht
    refine ⟨_, rfl, t, _, _, _, rfl, rfl, SqT.of h1, rfl, by show 2 ≤ sizeLine; decide, fun u hu => ?_⟩
    refine ⟨u, [.str "number", .str "box"], rfl, .inr (SqT.of upd_same), rfl, rfl, _, rfl, ?_⟩
    rw [if_neg Bool.false_ne_true, in_box]
    refine iteT ⟨_, rfl, t, _, _, _, rfl, rfl, SqT.of ((same_new hu) _ _ h1), rfl, .inr ⟨z, rfl, ?_⟩⟩
    exact q _ (same_new hu)
  | cell e =>
    obtain ⟨t, i, rfl, h1, h2⟩ := ht
    have hd' : e.depth ≤ n := Nat.le_of_succ_le_succ hd
    have hp' : 1 + e.parts ≤ 1000 := hpp
    refine ⟨_, rfl, t, _, _, _, rfl, rfl, SqT.of h1, rfl, by show 2 ≤ sizeLine; decide, fun u hu => ?_⟩
    refine ⟨u, [.str "number", .str "box"], rfl, .inr (SqT.of upd_same), rfl, rfl, _, rfl, ?_⟩
    rw [if_neg Bool.false_ne_true, in_cell]
    refine iteF ?_
    have s1 := same_new (o := .tup [.str "number", .str "box"]) hu
    refine ⟨⟨_, rfl⟩, _, rfl, t, _, _, _, rfl, rfl, SqT.of (s1 _ _ h1), rfl, by show 1 ≤ sizeLine; decide, fun l1 hl1 => ?_⟩
    have s3 := s1.trans (same_new (o := .lst [.str "cell"]) hl1)
    refine ⟨_, rfl, 1, rfl, t, [.str "cell", i], rfl, SqT.of (s3 _ _ h1), (by show ¬(HT.sIx 2 0 (some 1) = 0 ∧ HT.sIx 2 2 none = 2); decide), fun p hp => ?_⟩
    have s2 := s3.trans (same_new (o := .tup [i]) hp)
    refine ⟨p, rfl, ⟨_, SqT.of upd_same⟩, fun D hD => lc_map (walk_tup (xs := [i])) (fun _ => .str e.text) hD (by show 1 < 16777216; decide) (by show 1 < 2; decide) (fun H' s' => SqT.of (s' _ _ upd_same)) (fun _ _ _ _ y => y.1) ?_ ?_⟩
    · rintro k x H' Z hk s' ⟨_, hx⟩ z
      obtain rfl : k = 0 := by have : k < 1 := hk; omega
      cases hx
      exact ⟨_, rfl, e, i, rfl, h2.same (s2.trans s'), hw, by omega, hd', z⟩
    · intro H' s' hD'
      have g1 := s' _ _ ((same_new (o := .tup [i]) hp) _ _ upd_same)
      refine ⟨l1, D, [.str "cell"], [.str e.text], rfl, rfl, g1, hD', by show 2 ≤ sizeLine; decide, fun l2 hl2 => ?_⟩
      have q1 := Ex.text_len (e := e) hw
      refine ⟨_, l2, [Str.ofString "cell", e.text], rfl, rfl, .inl (SqL.of upd_same), ?_, ?_⟩
      · show 4 + (e.text.length + 0) + 2 * 1 ≤ 16777216
        omega
      · rw [text_cell]
        exact q _ (s2.trans (s'.trans (same_new hl2)))
  | two wd l r =>
    obtain ⟨t, a, b, rfl, h1, h2, h3⟩ := ht
    have hd' : max l.depth r.depth ≤ n := Nat.le_of_succ_le_succ hd
    have hp' : 1 + l.parts + r.parts ≤ 1000 := hpp
    obtain ⟨hw0, hw1, hw2⟩ : wd ∈ PAIRW ∧ l.Wf ∧ r.Wf := hw
    refine ⟨_, rfl, t, _, _, _, rfl, rfl, SqT.of h1, rfl, by show 2 ≤ sizeLine; decide, fun u hu => ?_⟩
    refine ⟨u, [.str "number", .str "box"], rfl, .inr (SqT.of upd_same), rfl, rfl, _, rfl, ?_⟩
    rw [if_neg Bool.false_ne_true, in_pair hw0]
    refine iteF ?_
    have s1 := same_new (o := .tup [.str "number", .str "box"]) hu
    refine ⟨⟨_, rfl⟩, _, rfl, t, _, _, _, rfl, rfl, SqT.of (s1 _ _ h1), rfl, by show 1 ≤ sizeLine; decide, fun l1 hl1 => ?_⟩
    have s3 := s1.trans (same_new (o := .lst [.str wd]) hl1)
    refine ⟨_, rfl, 1, rfl, t, [.str wd, a, b], rfl, SqT.of (s3 _ _ h1), (by show ¬(HT.sIx 3 0 (some 1) = 0 ∧ HT.sIx 3 3 none = 3); decide), fun p hp => ?_⟩
    have s2 := s3.trans (same_new (o := .tup [a, b]) hp)
    refine ⟨p, rfl, ⟨_, SqT.of upd_same⟩, fun D hD => lc_map (walk_tup (xs := [a, b])) (fun k => if k = 0 then .str l.text else .str r.text) hD (by show 2 < 16777216; decide) (by show 1 < 2; decide) (fun H' s' => SqT.of (s' _ _ upd_same)) (fun _ _ _ _ y => y.1) ?_ ?_⟩
    · rintro k x H' Z hk s' ⟨_, hx⟩ z
      have : k = 0 ∨ k = 1 := by have : k < 2 := hk; omega
      rcases this with rfl | rfl
      · cases hx
        exact ⟨_, rfl, l, a, rfl, h2.same (s2.trans s'), hw1, by omega, by omega, z⟩
      · cases hx
        exact ⟨_, rfl, r, b, rfl, h3.same (s2.trans s'), hw2, by omega, by omega, z⟩
    · intro H' s' hD'
      have g1 := s' _ _ ((same_new (o := .tup [a, b]) hp) _ _ upd_same)
      refine ⟨l1, D, [.str wd], [.str l.text, .str r.text], rfl, rfl, g1, hD', by show 3 ≤ sizeLine; decide, fun l2 hl2 => ?_⟩
      have q1 := Ex.text_len hw1
      have q2 := Ex.text_len hw2
      have q3 := (pair_not_val wd hw0).2.2.2
      refine ⟨_, l2, [wd, l.text, r.text], rfl, rfl, .inl (SqL.of upd_same), ?_, ?_⟩
      · have : wd.length = (tl wd).length := len_tl wd
        show wd.length + (l.text.length + (r.text.length + 0)) + 3 * 1 ≤ 16777216
        omega
      · exact q _ (s2.trans (s'.trans (same_new hl2)))

end
end K12
namespace K12
open PySem L2 TL
section
variable {P : Program} {w : World} {K : PySem.W.Frag} {mg : Str → Option Value} {base : Heap} {A : Ads}
theorem ok_l_some_expr (T : Txt K mg A) : FnOk P w K mg base CX0 18 A.l_some_expr A.l_some_expr_d ["_law_well_here"] (spLSome K) := by
  have G_l_draw := ok_l_draw (P := P) (w := w) (base := base) T
  have G_l_expr := ok_l_expr (P := P) (w := w) (base := base) T 8
  refine T.F_l_some_expr.ok sc_l_some_expr (fun vs H Q E h => ?_) (fun cdv A0 outer s H vs Q E hr h => ?_)
  · obtain ⟨p, rfl, W, q⟩ := h
    rfl
  obtain ⟨p, rfl, W, q⟩ := h
  refine ⟨_, (pss_cons (ps_set (i := 1) sc_l_some_expr.nd rfl (Or.inl rfl) (pe_call G_l_draw (hr.mono (by decide)) rfl T.m_l_draw T.F_l_draw.kp T.b_l_draw .nil pass0 (pa_cons (pv 0) (pa_cons pe_int pa_nil))))
   (pss_one (ps_ret (pe_call G_l_expr (hr.mono (by decide)) rfl T.m_l_expr T.F_l_expr.kp T.b_l_expr .nil pass0 (pa_cons (pv 0) (pa_cons (pe_ix ix_list (pe_lst (pa_cons pe_int (pa_cons pe_int (pa_cons pe_int (pa_cons pe_int pa_nil))))) (pv 1) (fun _ _ => rfl)) (pa_cons (pe_ix ix_list (pe_lst (pa_cons pe_int (pa_cons pe_int (pa_cons pe_int (pa_cons pe_int pa_nil))))) (pv 1) (fun _ _ => rfl)) pa_nil))))))), ?_⟩
  refine ⟨_, rfl, p, 4, rfl, W, by decide, by decide, fun way H1 hw0 hw1 k1 W1 => ?_⟩
  obtain ⟨d, m, e1, e2, h1, h2, h3, h4⟩ := some_at hw0 hw1
  refine ⟨_, rfl, by show 4 ≤ sizeLine; decide, fun l hl => ?_⟩
  have s1 := same_new (o := .lst [V.int 1, V.int 2, V.int 3, V.int 6]) hl
  refine ⟨_, rfl, l, _, _, _, rfl, rfl, SqL.of upd_same, e1, by show 4 ≤ sizeLine; decide, fun l2 hl2 => ?_⟩
  have s2 := same_new (o := .lst [V.int 1, V.int 3, V.int 5, V.int 15]) hl2
  refine ⟨_, rfl, l2, _, _, _, rfl, rfl, SqL.of upd_same, e2, p, d, m, rfl, (W1.same s1).same s2, h1, by omega, by decide, h3, fun e v H2 a1 a2 a3 a4 k2 W2 => ?_⟩
  exact q e v H2 ⟨a1, by omega, by omega⟩ a4 (k1.trans ((keepX_of (s1.trans s2)).trans k2)) W2

end
end K12
namespace K12
open PySem L2 TL
section
variable {P : Program} {w : World} {K : PySem.W.Frag} {mg : Str → Option Value} {base : Heap} {A : Ads}
theorem ok_l_heads (T : Txt K mg A) : FnOk P w K mg base CX0 4 A.l_heads A.l_heads_d ["_law_well_here"] (spLHeads) := by
  have G_l_draw := ok_l_draw (P := P) (w := w) (base := base) T
  refine T.F_l_heads.ok sc_l_heads (fun vs H Q E h => ?_) (fun cdv A0 outer s H vs Q E hr h => ?_)
  · obtain ⟨p, rfl, W, q⟩ := h
    rfl
  obtain ⟨p, rfl, W, q⟩ := h
  refine ⟨_, (pss_cons (ps_set (i := 1) sc_l_heads.nd rfl (Or.inl rfl) (pe_lst pa_nil))
   (pss_cons (ps_for PassesOwn.never rfl (pi_range1 (by rfl) T.z_range (pa_cons (pe_call G_l_draw (hr.mono (by decide)) rfl T.m_l_draw T.F_l_draw.kp T.b_l_draw .nil pass0 (pa_cons (pv 0) (pa_cons pe_int pa_nil))) pa_nil)) (pg_name (i := 2) sc_l_heads.nd rfl (Or.inl rfl))
    (pss_cons (ps_set (i := 3) sc_l_heads.nd rfl (Or.inl rfl) (pe_ix ix_list (pe_lst (pa_cons pe_str (pa_cons pe_str (pa_cons pe_str (pa_cons pe_str pa_nil))))) (pv 2) (fun _ _ => rfl)))
   (pss_cons (ps_cut (ps_if (PW.pt (pw_and (pt_cmpR op_eq (pv 2) pe_int (nomark _)) (pw_and1 (pt_cmpR op_eq (pe_call G_l_draw (hr.mono (by decide)) rfl T.m_l_draw T.F_l_draw.kp T.b_l_draw .nil pass0 (pa_cons (pv 0) (pa_cons pe_int pa_nil))) pe_int (nomark _)))))
    (pss_one (ps_set (i := 3) sc_l_heads.nd rfl (Or.inl rfl) pe_str))
    pss_nil))
   (pss_cons (ps_set (i := 4) sc_l_heads.nd rfl (Or.inl rfl) (pe_lst (pa_cons pe_str (pa_cons pe_str (pa_cons pe_str pa_nil)))))
   (pss_cons (ps_set (i := 5) sc_l_heads.nd rfl (Or.inl rfl) (pe_call G_l_draw (hr.mono (by decide)) rfl T.m_l_draw T.F_l_draw.kp T.b_l_draw .nil pass0 (pa_cons (pv 0) (pa_cons pe_int pa_nil))))
   (pss_one (ps_expr (pe_bm PySem.F.plainAttrs_list PySem.F.slot_list_append PySem.F.type_list_append mt_append (pv 1) (pa_cons (pe_tup (pa_cons (pv 3) (pa_cons (pe_slice sl_list (pe_op op_cat (pe_slice sl_list (pv 4) (po_some (pv 5)) po_none) (pe_slice sl_list (pv 4) po_none (po_some (pv 5)))) po_none (po_some (pe_call G_l_draw (hr.mono (by decide)) rfl T.m_l_draw T.F_l_draw.kp T.b_l_draw .nil pass0 (pa_cons (pv 0) (pa_cons pe_int pa_nil))))) pa_nil))) pa_nil)))))))))
   (pss_one (ps_ret (pv 1))))), ?_⟩
  refine ⟨by show 0 ≤ sizeLine; decide, fun l hl => ?_⟩
  have s0 := same_new (o := .lst ([] : List V)) hl
  have npl := W.fresh hl
  refine ⟨_, rfl, p, 5, rfl, W.same s0, by decide, by decide, fun m H1 h0 h1 k1 W1 => ?_⟩
  have g1 := k1 _ _ npl (upd_same (H := H) (a := l) (o := .lst ([] : List V)))
  refine ⟨m, rfl, by omega, by omega, for_range (lo := 0) (n := m.toNat) (fun i σ H' => ∃ (hs : List (Str × List Str)) (hv : List V) (v2 v3 v4 v5 : Option V), σ = [some (.ref p), some (.ref l), v2, v3, v4, v5] ∧ KeepX p H H' ∧ WellAt H' p ∧ H' l = some (.lst hv) ∧ All2 (HeadH (fun a => a ≠ l) H') hs hv ∧ hs.length = i ∧ (∃ n0 : Str, (n0 = "f" ∨ n0 = "a") ∧ hs.map Prod.fst = ([n0, "go", "funs", "zzzzzz"] : List Str).take i) ∧ ∀ h ∈ hs, HeadOk h.1 h.2)
    ⟨[], [], none, none, none, none, rfl, (keepX_of s0).trans k1, W1, g1, .nil, rfl, ⟨"f", .inl rfl, rfl⟩, fun h hh => by cases hh⟩ ?_ ?_⟩
  · rintro i σ H2 hi ⟨hs, hv, v2, v3, v4, v5, rfl, k2, W2, g2, ha, hlen, ⟨n0, hn0, hnm⟩, hok⟩
    have hi3 : i < 4 := by omega
    refine ⟨by show 4 ≤ sizeLine; decide, fun la hla => ?_⟩
    have s3 := same_new (o := .lst [V.str "f", V.str "go", V.str "funs", V.str "zzzzzz"]) hla
    have ga : upd H2 la (.lst [V.str "f", V.str "go", V.str "funs", V.str "zzzzzz"]) la = some (.lst [V.str "f", V.str "go", V.str "funs", V.str "zzzzzz"]) := upd_same
    generalize hG3 : upd H2 la (.lst [V.str "f", V.str "go", V.str "funs", V.str "zzzzzz"]) = H3 at s3 ga ⊢
    obtain ⟨nm, hnm0, enm⟩ := names_at hi3
    have W3 := W2.same s3
    refine ⟨_, rfl, la, _, _, _, rfl, rfl, SqL.of ga, enm, ?_⟩
    refine ⟨fun σ' H' => ∃ nm' : Str, σ' = [some (.ref p), some (.ref l), some (.int (0 + (i : Int))), some (.str nm'), v4, v5] ∧ (nm' = nm ∨ (i = 0 ∧ nm' = "a")) ∧ KeepX p H3 H' ∧ WellAt H' p, ?_, ?_⟩
    · refine ⟨_, rfl, rfl, _, rfl, iteD2 (fun c1 => ?_) (fun c1 => ?_)⟩
      · refine ⟨_, rfl, p, 2, rfl, W3, by decide, by decide, fun z H4 z0 z1 k4 W4 => ?_⟩
        refine ⟨rfl, _, rfl, iteD2 (fun c2 => ?_) (fun c2 => ?_)⟩
        · exact ⟨"a", rfl, .inr ⟨by have := V.int.inj c1; omega, rfl⟩, k4, W4⟩
        · exact ⟨nm, rfl, .inl rfl, k4, W4⟩
      · exact ⟨nm, rfl, .inl rfl, KeepX.refl p H3, W3⟩
    rintro σ' H4 ⟨nm', rfl, hnm', k4, W4⟩
    have kk4 := (k2.trans (keepX_of s3)).trans k4
    have k24 := (keepX_of (p := p) s3).trans k4
    refine ⟨by show 3 ≤ sizeLine; decide, fun lp hlp => ?_⟩
    have s5 := same_new (o := .lst (PARN.map V.str)) hlp
    have gp : upd H4 lp (.lst (PARN.map V.str)) lp = some (.lst (PARN.map V.str)) := upd_same
    show tSeq _ _ _ _ (upd H4 lp (.lst (PARN.map V.str)))
    generalize hG5 : upd H4 lp (.lst (PARN.map V.str)) = H5 at s5 gp ⊢
    have W5 := W4.same s5
    have nlpp : lp ≠ p := W4.fresh hlp
    refine ⟨_, rfl, p, 3, rfl, W5, by decide, by decide, fun tu H6 t0 t1 k6 W6 => ?_⟩
    have gp6 := k6 _ _ nlpp gp
    have k26 := (k24.trans (keepX_of s5)).trans k6
    have g6 := k26 _ _ npl g2
    have ha6 : All2 (HeadH (fun a => a ≠ l) H6) hs hv := ha.mono fun f v z => z.mv (keepT_x k26 W2) fun a ws n e => k26 _ _ (well_strs W2 e) e
    refine ⟨_, rfl, .inl ⟨rfl, _, SqL.of g6⟩, _, rfl, ?_⟩
    obtain ⟨tn, rfl⟩ : ∃ tn : Nat, tu = (tn : Int) := ⟨tu.toNat, by omega⟩
    refine ⟨_, rfl, _, rfl, _, rfl, lp, _, rfl, SqL.of gp6, fun l1 hl1 => ?_⟩
    rw [cut_drop]
    have s7 := same_new (o := .lst ((PARN.drop tn).map V.str)) hl1
    have ga1 : upd H6 l1 (.lst ((PARN.drop tn).map V.str)) l1 = some (.lst ((PARN.drop tn).map V.str)) := upd_same
    generalize hG7 : upd H6 l1 (.lst ((PARN.drop tn).map V.str)) = H7 at s7 ga1 ⊢
    refine ⟨_, rfl, _, rfl, _, rfl, lp, _, rfl, SqL.of (s7 _ _ gp6), fun l2 hl2 => ?_⟩
    rw [cut_take]
    have s8 := same_new (o := .lst ((PARN.take tn).map V.str)) hl2
    have ga2 : upd H7 l2 (.lst ((PARN.take tn).map V.str)) l2 = some (.lst ((PARN.take tn).map V.str)) := upd_same
    generalize hG8 : upd H7 l2 (.lst ((PARN.take tn).map V.str)) = H8 at s8 ga2 ⊢
    refine ⟨l1, l2, _, _, rfl, rfl, s8 _ _ ga1, ga2, ?_, fun l3 hl3 => ?_⟩
    · rw [List.length_map, List.length_map, List.length_drop, List.length_take]
      exact sizeL2 (by show 3 - tn + min tn 3 ≤ _; omega)
    rw [← List.map_append]
    have s9 := same_new (o := .lst ((PARN.drop tn ++ PARN.take tn).map V.str)) hl3
    have ga3 : upd H8 l3 (.lst ((PARN.drop tn ++ PARN.take tn).map V.str)) l3 = some (.lst ((PARN.drop tn ++ PARN.take tn).map V.str)) := upd_same
    generalize hG9 : upd H8 l3 (.lst ((PARN.drop tn ++ PARN.take tn).map V.str)) = H9 at s9 ga3 ⊢
    have s69 := (s7.trans s8).trans s9
    have W9 := W6.same s69
    have n3 : l3 ≠ p := fresh_well (W6.same (s7.trans s8)) hl3
    refine ⟨_, rfl, p, 4, rfl, W9, by decide, by decide, fun mm H10 m0 m1 k10 W10 => ?_⟩
    obtain ⟨mn, rfl⟩ : ∃ mn : Nat, mm = (mn : Int) := ⟨mm.toNat, by omega⟩
    refine ⟨_, rfl, l3, _, rfl, SqL.of (k10 _ _ n3 ga3), fun l4 hl4 => ?_⟩
    rw [cut_take]
    have s11 := same_new (o := .lst (((PARN.drop tn ++ PARN.take tn).take mn).map V.str)) hl4
    have ga4 : upd H10 l4 (.lst (((PARN.drop tn ++ PARN.take tn).take mn).map V.str)) l4 = some (.lst (((PARN.drop tn ++ PARN.take tn).take mn).map V.str)) := upd_same
    have k610 := (keepX_of (p := p) s69).trans k10
    have g10 := k610 _ _ npl g6
    have n4 : l4 ≠ l := fun e => by rw [e, g10] at hl4; cases hl4
    generalize hG11 : upd H10 l4 (.lst (((PARN.drop tn ++ PARN.take tn).take mn).map V.str)) = H11 at s11 ga4 ⊢
    refine ⟨by show 2 ≤ sizeLine; decide, fun t ht => ?_⟩
    have s12 := same_new (o := .tup [V.str nm', .ref l4]) ht
    have gt : upd H11 t (.tup [V.str nm', .ref l4]) t = some (.tup [V.str nm', .ref l4]) := upd_same
    generalize hG12 : upd H11 t (.tup [V.str nm', .ref l4]) = H12 at s12 gt ⊢
    have s1012 := s11.trans s12
    have g12 := s1012 _ _ g10
    have hlv : hv.length = i := by rw [← ha.length]; exact hlen
    refine ⟨l, _, _, rfl, rfl, g12, Nat.lt_of_le_of_lt (show hv.length ≤ 4 by omega) (by decide), ?_⟩
    have k612 := k610.trans (keepX_of s1012)
    have ktU : KeepT H12 (upd H12 l (.lst (hv ++ [.ref t]))) := keepT_upd g12 (by intro _ z; cases z)
    have ha12 : All2 (HeadH (fun a => a ≠ l) (upd H12 l (.lst (hv ++ [.ref t])))) hs hv := by
      exact ha6.mono fun f v z => (z.mv (keepT_x k612 W6) fun a ws n e => k612 _ _ (well_strs W6 e) e).mv ktU fun a ws n e => by rw [upd_ne n]; exact e
    refine ⟨hs ++ [(nm', (PARN.drop tn ++ PARN.take tn).take mn)], hv ++ [.ref t], _, _, _, _, rfl, ?_, ?_, upd_same, ha12.snoc ⟨t, l4, rfl, by rw [upd_ne (ne_of gt g12 (by intro z; cases z))]; exact gt, n4, by rw [upd_ne n4]; exact s12 _ _ ga4⟩, ?_, ?_, ?_⟩
    · intro q o nq hq
      rw [upd_ne (ne_of_none hq hl)]
      exact k612 _ _ nq (k6 _ _ nq (s5 _ _ (kk4 _ _ nq hq)))
    · exact (W10.same s1012).updN (fun e => npl e.symm)
    · rw [List.length_append, hlen]; rfl
    · by_cases ci : i = 0
      · subst ci
        have hn1 : nm = "f" := (Option.some.inj hnm0).symm
        have : hs = [] := List.eq_nil_of_length_eq_zero hlen
        subst this
        refine ⟨nm', ?_, rfl⟩
        rcases hnm' with rfl | ⟨_, rfl⟩
        · exact .inl hn1
        · exact .inr rfl
      · refine ⟨n0, hn0, ?_⟩
        have e1 : nm' = nm := by
          rcases hnm' with h | ⟨h, _⟩
          · exact h
          · exact absurd h ci
        rw [List.map_append, hnm, e1]
        have : i = 1 ∨ i = 2 ∨ i = 3 := by omega
        rcases this with rfl | rfl | rfl <;> (rw [← Option.some.inj hnm0]; rfl)
    · intro h hh
      rcases List.mem_append.mp hh with hh | hh
      · exact hok h hh
      · rw [List.mem_singleton.mp hh]
        have hnmok : isNameW nm' = true := by
          rcases hnm' with h | ⟨_, h⟩
          · rw [h]
            exact nm4_ok nm (List.mem_of_getElem? hnm0)
          · rw [h]; decide +kernel
        have hr := rot_ok tn (by omega) mn (by omega)
        exact ⟨hnmok, hr.1, hr.2.1, hr.2.2⟩
  · rintro σ H2 ⟨hs, hv, v2, v3, v4, v5, rfl, k2, W2, g2, ha, hlen, ⟨n0, hn0, hnm⟩, hok⟩
    refine ⟨_, rfl, q hs l hv H2 ⟨by omega, ?_, hok⟩ hl g2 (ha.mono fun f v z => ?_) k2 W2⟩
    · rw [hnm]
      have hm : m.toNat ≤ 4 := by omega
      generalize m.toNat = k at hm
      have : k = 0 ∨ k = 1 ∨ k = 2 ∨ k = 3 ∨ k = 4 := by omega
      rcases hn0 with rfl | rfl <;> rcases this with rfl | rfl | rfl | rfl | rfl <;> decide +kernel
    · obtain ⟨t, a, z1, z2, _, z3⟩ := z
      exact ⟨t, a, z1, z2, trivial, z3⟩

end
end K12
namespace K12
open PySem L2 TL
section
variable {P : Program} {w : World} {K : PySem.W.Frag} {mg : Str → Option Value} {base : Heap} {A : Ads}
theorem ok_l_simple (T : Txt K mg A) : FnOk P w K mg base CX0 19 A.l_simple A.l_simple_d ["_law_world_here", "_law_well_here", "_law_way"] (spLSimple K) := by
  have G_l_name := ok_l_name (P := P) (w := w) (base := base) T
  have G_l_some_expr := ok_l_some_expr (P := P) (w := w) (base := base) T
  have G_l_draw := ok_l_draw (P := P) (w := w) (base := base) T
  refine T.F_l_simple.ok sc_l_simple (fun vs H Q E h => ?_) (fun cdv A0 outer s H vs Q E hr h => ?_)
  · obtain ⟨X, hs, s, p, way, rfl, hW, W, hH, hw0, hw1, q⟩ := h
    rfl
  obtain ⟨X, hs, s, p, way, rfl, hW, W, hH, hw0, hw1, q⟩ := h
  refine ⟨_, (pss_cons (ps_if (pt_cmpR op_eq (pv 2) pe_int (nomark _))
    (pss_one (ps_ret (pe_tup (pa_cons pe_str pa_nil))))
    pss_nil)
   (pss_cons (ps_if (pt_cmpR op_eq (pv 2) pe_int (nomark _))
    (pss_one (ps_ret (pe_tup (pa_cons pe_str (pa_cons (pe_call G_l_name (hr.mono (by decide)) rfl T.m_l_name T.F_l_name.kp T.b_l_name .nil pass0 (pa_cons (pv 1) pa_nil)) (pa_cons (pe_call G_l_some_expr (hr.mono (by decide)) rfl T.m_l_some_expr T.F_l_some_expr.kp T.b_l_some_expr .nil pass0 (pa_cons (pv 1) pa_nil)) pa_nil))))))
    pss_nil)
   (pss_cons (ps_if (pt_cmpR op_eq (pv 2) pe_int (nomark _))
    (pss_one (ps_ret (pe_tup (pa_cons pe_str (pa_cons (pe_call G_l_some_expr (hr.mono (by decide)) rfl T.m_l_some_expr T.F_l_some_expr.kp T.b_l_some_expr .nil pass0 (pa_cons (pv 1) pa_nil)) (pa_cons (pe_call G_l_some_expr (hr.mono (by decide)) rfl T.m_l_some_expr T.F_l_some_expr.kp T.b_l_some_expr .nil pass0 (pa_cons (pv 1) pa_nil)) pa_nil))))))
    pss_nil)
   (pss_cons (ps_if (pt_cmpR op_eq (pv 2) pe_int (nomark _))
    (pss_one (ps_ret (pe_tup (pa_cons pe_str (pa_cons (pe_call G_l_name (hr.mono (by decide)) rfl T.m_l_name T.F_l_name.kp T.b_l_name .nil pass0 (pa_cons (pv 1) pa_nil)) (pa_cons (pe_call G_l_name (hr.mono (by decide)) rfl T.m_l_name T.F_l_name.kp T.b_l_name .nil pass0 (pa_cons (pv 1) pa_nil)) (pa_cons (pe_call G_l_some_expr (hr.mono (by decide)) rfl T.m_l_some_expr T.F_l_some_expr.kp T.b_l_some_expr .nil pass0 (pa_cons (pv 1) pa_nil)) pa_nil)))))))
    pss_nil)
   (pss_cons (ps_if (pt_cmpR op_eq (pv 2) pe_int (nomark _))
    (pss_one (ps_ret (pe_tup (pa_cons pe_str (pa_cons (pe_call G_l_name (hr.mono (by decide)) rfl T.m_l_name T.F_l_name.kp T.b_l_name .nil pass0 (pa_cons (pv 1) pa_nil)) (pa_cons (pe_call G_l_name (hr.mono (by decide)) rfl T.m_l_name T.F_l_name.kp T.b_l_name .nil pass0 (pa_cons (pv 1) pa_nil)) pa_nil))))))
    pss_nil)
   (pss_cons (ps_if (PW.pt (pw_or (pt_cmpR op_eq (pv 2) pe_int (nomark _)) (pw_or1 (pt_cmpR (op_eqD hr.units) (pe_dget (hu_of hr) (pv 0) pe_str (fun _ _ => rfl)) (pe_lst pa_nil) (nomark _)))))
    (pss_one (ps_ret (pe_tup (pa_cons pe_str (pa_cons (pe_call G_l_some_expr (hr.mono (by decide)) rfl T.m_l_some_expr T.F_l_some_expr.kp T.b_l_some_expr .nil pass0 (pa_cons (pv 1) pa_nil)) pa_nil)))))
    pss_nil)
   (pss_cons (ps_asg (pe_ix ix_list (pe_dget (hu_of hr) (pv 0) pe_str (fun _ _ => rfl)) (pe_call G_l_draw (hr.mono (by decide)) rfl T.m_l_draw T.F_l_draw.kp T.b_l_draw .nil pass0 (pa_cons (pv 1) (pa_cons (pe_callB call_lenK (by rfl) T.z_len (by decide +kernel) (pa_cons (pe_dget (hu_of hr) (pv 0) pe_str (fun _ _ => rfl)) pa_nil)) pa_nil))) (fun _ _ => rfl)) (pg_tup (by rfl) (pgs_cons (pg_name (i := 3) sc_l_simple.nd rfl (Or.inl rfl)) (pgs_cons (pg_name (i := 4) sc_l_simple.nd rfl (Or.inl rfl)) pgs_nil))))
   (pss_one (ps_ret (pe_op op_catT (pe_tup (pa_cons pe_str (pa_cons (pe_call G_l_name (hr.mono (by decide)) rfl T.m_l_name T.F_l_name.kp T.b_l_name .nil pass0 (pa_cons (pv 1) pa_nil)) (pa_cons (pv 3) pa_nil)))) (pe_callTy call_tuple_ofK (by rfl) T.z_tuple (by decide +kernel) (pa_cons (pe_lc (own := [("_law_one", 5)]) (g := gName 5) (tt := tYes) rfl sc_l_simple.nd (pi_list (pv 4)) (blkOk_by (own := [("_law_one", 5)]) (N := N_l_simple) (sc := defScope s_l_simple) (by decide +kernel)) (fun _ _ _ _ _ => pg_name (i := 5) sc_l_simple.nd rfl (Or.inl rfl)) (fun _ _ _ _ _ => pts_nil) (fun _ _ _ _ _ => (pe_call G_l_some_expr (hr.mono (by decide)) rfl T.m_l_some_expr T.F_l_some_expr.kp T.b_l_some_expr .nil pass0 (pa_cons (pv 1) pa_nil)))) pa_nil)))))))))))), ?_⟩
  refine ⟨_, rfl, rfl, _, rfl, iteD2 (fun c0 => ?_) (fun c0 => ?_)⟩
  · refine ⟨by show 1 ≤ sizeLine; decide, fun t ht => ?_⟩
    have s1 := same_new (o := .tup [V.str "skip"]) ht
    exact q .skip _ _ trivial (.inl rfl) ⟨t, rfl, upd_same⟩ (keepX_of s1) (W.same s1)
  refine ⟨_, rfl, rfl, _, rfl, iteD2 (fun c1 => ?_) (fun c1 => ?_)⟩
  · refine ⟨_, rfl, p, rfl, W, fun b H1 hb k1 W1 => ?_⟩
    refine ⟨_, rfl, p, rfl, W1, fun e v H2 ex told k2 W2 => ?_⟩
    refine ⟨by show 3 ≤ sizeLine; decide, fun t ht => ?_⟩
    have s1 := same_new (o := .tup [V.str "set", V.str b, v]) ht
    exact q (.set b e) _ _ ⟨hb, ex⟩ (.inl rfl) ⟨t, v, rfl, upd_same, told.same s1⟩ ((k1.trans k2).trans (keepX_of s1)) (W2.same s1)
  refine ⟨_, rfl, rfl, _, rfl, iteD2 (fun c2 => ?_) (fun c2 => ?_)⟩
  · refine ⟨_, rfl, p, rfl, W, fun e1 v1 H1 ex1 told1 k1 W1 => ?_⟩
    refine ⟨_, rfl, p, rfl, W1, fun e v H2 ex told k2 W2 => ?_⟩
    refine ⟨by show 3 ≤ sizeLine; decide, fun t ht => ?_⟩
    have s1 := same_new (o := .tup [V.str "put", v1, v]) ht
    exact q (.put e1 e) _ _ ⟨ex1, ex⟩ (.inl rfl) ⟨t, v1, v, rfl, upd_same, (told1.keep k2 W1).same s1, told.same s1⟩ ((k1.trans k2).trans (keepX_of s1)) (W2.same s1)
  refine ⟨_, rfl, rfl, _, rfl, iteD2 (fun c3 => ?_) (fun c3 => ?_)⟩
  · refine ⟨_, rfl, p, rfl, W, fun b H1 hb k1 W1 => ?_⟩
    refine ⟨_, rfl, p, rfl, W1, fun b2 H2 hb2 k2 W2 => ?_⟩
    refine ⟨_, rfl, p, rfl, W2, fun e v H3 ex told k3 W3 => ?_⟩
    refine ⟨by show 4 ≤ sizeLine; decide, fun t ht => ?_⟩
    have s1 := same_new (o := .tup [V.str "ask", V.str b, V.str b2, v]) ht
    exact q (.ask b b2 e) _ _ ⟨hb, hb2, ex⟩ (.inl rfl) ⟨t, v, rfl, upd_same, told.same s1⟩ (((k1.trans k2).trans k3).trans (keepX_of s1)) (W3.same s1)
  refine ⟨_, rfl, rfl, _, rfl, iteD2 (fun c4 => ?_) (fun c4 => ?_)⟩
  · refine ⟨_, rfl, p, rfl, W, fun b H1 hb k1 W1 => ?_⟩
    refine ⟨_, rfl, p, rfl, W1, fun b2 H2 hb2 k2 W2 => ?_⟩
    refine ⟨by show 3 ≤ sizeLine; decide, fun t ht => ?_⟩
    have s1 := same_new (o := .tup [V.str "draw", V.str b, V.str b2]) ht
    exact q (.draw b b2) _ _ ⟨hb, hb2⟩ (.inl rfl) ⟨t, rfl, upd_same⟩ ((k1.trans k2).trans (keepX_of s1)) (W2.same s1)
  obtain ⟨hv, q1, q2⟩ := hW.heads
  have tell : ∀ {H' : Hp}, KeepX p H H' → WellAt H' p → ∀ e v H2, ExOk e → ToldE K H2 e v → KeepX p H' H2 → WellAt H2 p → ∀ t, H2 t = none → Q (.ref t) (upd H2 t (.tup [V.str "tell", v])) := fun k0 W0 e v H2 ex told k2 W2 t ht => by
    have s1 := same_new (o := .tup [V.str "tell", v]) ht
    exact q (.tell e) _ _ ex (.inl rfl) ⟨t, v, rfl, upd_same, told.same s1⟩ ((k0.trans k2).trans (keepX_of s1)) (W2.same s1)
  refine ⟨_, rfl, rfl, _, rfl, iteD2 (fun c5 => ?_) (fun c5 => ?_)⟩
  · refine ⟨_, rfl, p, rfl, W, fun e v H2 ex told k2 W2 => ?_⟩
    exact ⟨by show 2 ≤ sizeLine; decide, fun t ht => tell (KeepX.refl p H) W e v H2 ex told k2 W2 t ht⟩
  refine ⟨_, rfl, X.w, _, rfl, hW.gHeads, by show 0 ≤ sizeLine; decide, fun l hl => ?_⟩
  have s1 := same_new (o := .lst ([] : List V)) hl
  have W1 := W.same s1
  have hW1 := hW.same s1
  refine ⟨_, _, .lst (SqL.of (s1 _ _ q1)) (heads_dp (q2.mono fun f v z => z.mv (keepT_same s1) fun a ws _ e => s1 _ _ e)), .lst (SqL.of upd_same) .nil, heads_shaped hH.2.2, by decide, _, rfl, ?_⟩
  rw [heads_eqv]
  refine iteD2 (fun c6 => ?_) (fun c6 => ?_)
  · refine ⟨_, rfl, p, rfl, W1, fun e v H2 ex told k2 W2 => ?_⟩
    exact ⟨by show 2 ≤ sizeLine; decide, fun t ht => tell (keepX_of s1) W1 e v H2 ex told k2 W2 t ht⟩
  have hpos : 0 < hs.length := List.length_pos_iff.mpr c6
  obtain ⟨hv1, q3, q4⟩ := hW1.heads
  refine ⟨_, rfl, X.w, _, rfl, hW1.gHeads, _, rfl, _, rfl, X.w, _, rfl, hW1.gHeads, X.lh, _, rfl, .inl (SqL.of q3), p, _, rfl, W1, ?_, ?_, fun z H2 z0 z1 k2 W2 => ?_⟩
  · rw [← q4.length]; omega
  · rw [← q4.length]; have := hH.1; omega
  have hW2 := hW1.keepX k2 W1
  have q5 := k2 _ _ (well_heads W1 q3 q4) q3
  have q6 : All2 (HeadH (fun a => a ≠ X.ll) H2) hs hv1 := q4.mono fun f v z => z.mv (keepT_x k2 W1) fun a ws n e => k2 _ _ (well_strs W1 e) e
  obtain ⟨zn, rfl⟩ : ∃ zn : Nat, z = (zn : Int) := ⟨z.toNat, by omega⟩
  have hzn : zn < hv1.length := by omega
  have ev : hv1[zn]? = some hv1[zn] := List.getElem?_eq_getElem hzn
  obtain ⟨⟨nm, ps⟩, hf, t, lps, e1, e2, _, e3⟩ := q6.at ev
  have hmem := List.mem_of_getElem? hf
  refine ⟨X.lh, hv1, _, _, rfl, rfl, SqL.of q5, atI_nat ev, ?_⟩
  rw [e1]
  refine ⟨t, _, rfl, SqT.of e2, rfl, _, _, rfl, _, _, rfl, rfl, ?_⟩
  refine ⟨_, rfl, p, rfl, W2, fun b H3 hb k3 W3 => ?_⟩
  refine ⟨_, rfl, by show 3 ≤ sizeLine; decide, fun t0 ht0 => ?_⟩
  have s4 := same_new (o := .tup [V.str "call", V.str b, V.str nm]) ht0
  have g4 : upd H3 t0 (.tup [V.str "call", V.str b, V.str nm]) t0 = some (.tup [V.str "call", V.str b, V.str nm]) := upd_same
  have W4 := W3.same s4
  have hps := (hH.2.2 _ hmem)
  have e3' := (k3.trans (keepX_of s4)) _ _ (well_strs W2 e3) e3
  have e3w := well_strs W4 e3'
  generalize hG4 : upd H3 t0 (.tup [V.str "call", V.str b, V.str nm]) = H4 at s4 g4 W4 e3' e3w ⊢
  have hpl : ps.length ≤ 3 := hps.2.2.1
  refine ⟨_, rfl, lps, rfl, ⟨_, SqL.of e3'⟩, fun D hD => lc_exprs (K := K) (walk_list (xs := ps.map V.str)) W4 hD (by rw [List.length_map]; exact Nat.lt_of_le_of_lt hpl (by decide)) (by show 5 < 6; decide) (fun H' k => SqL.of (k _ _ e3w e3')) (fun _ _ _ _ y => y.1) ?_ ?_⟩
  · intro i x H' Z _ k' W' _ z
    exact ⟨_, rfl, p, rfl, W', fun e v H'' ex told k'' W'' => z H'' e v k'' W'' ex told⟩
  · intro H5 es ys k5 W5 ha hex hel hD5
    have hylen := ha.length
    have hes : es.length = ps.length := by rw [hel, List.length_map]
    refine ⟨D, _, rfl, .inl ⟨SqL.of hD5, fun t2 ht2 => ?_⟩⟩
    have s6 := same_new (o := .tup ys) ht2
    have kk := (((keepX_of (p := p) s1).trans k2).trans k3).trans (((keepX_of s4).trans k5).trans (keepX_of s6))
    have g5 := s6 _ _ (k5.tup W4 g4)
    have ok : (RT.call b nm es).Ok := ⟨hb, hps.1, hex, by omega⟩
    have hway6 : way = 6 := by
      have h0 : way ≠ 0 := fun e => c0 (congrArg V.int e)
      have h1 : way ≠ 1 := fun e => c1 (congrArg V.int e)
      have h2 : way ≠ 2 := fun e => c2 (congrArg V.int e)
      have h3 : way ≠ 3 := fun e => c3 (congrArg V.int e)
      have h4 : way ≠ 4 := fun e => c4 (congrArg V.int e)
      have h5 : way ≠ 5 := fun e => c5 (congrArg V.int e)
      omega
    have hm : (nm, es.length) ∈ arsOf hs := List.mem_map.mpr ⟨(nm, ps), hmem, by rw [hes]⟩
    refine ⟨t0, t2, _, _, rfl, rfl, SqT.of g5, SqT.of upd_same, by simp, sizeL2 (by show 3 + ys.length ≤ _; omega), fun hy => ?_, fun hy t3 ht3 => ?_⟩
    · subst hy
      exact q (.call b nm es) _ _ ok (.inr ⟨hway6, b, nm, es, rfl, hm⟩) ⟨t0, [], rfl, g5, ha.mono fun e v h => h.same s6⟩ kk (W5.same s6)
    · have s7 := same_new (o := .tup ([V.str "call", V.str b, V.str nm] ++ ys)) ht3
      exact q (.call b nm es) _ _ ok (.inr ⟨hway6, b, nm, es, rfl, hm⟩) ⟨t3, ys, rfl, upd_same, ha.mono fun e v h => h.same (s6.trans s7)⟩ (kk.trans (keepX_of s7)) ((W5.same s6).same s7)

end
end K12
namespace K12
open PySem L2 TL
section
variable {P : Program} {w : World} {K : PySem.W.Frag} {mg : Str → Option Value} {base : Heap} {A : Ads}
theorem ok_l_line (T : Txt K mg A) : FnOk P w K mg base CX0 10 A.l_line A.l_line_d ["_law_told"] (spLLine K) := by
  have G_l_words_of := ok_l_words_of (P := P) (w := w) (base := base) T 7
  refine T.F_l_line.ok sc_l_line (fun vs H Q E h => ?_) (fun cdv A0 outer s H vs Q E hr h => ?_)
  · obtain ⟨rt, v, rfl, ht, ok, q⟩ := h
    rfl
  obtain ⟨rt, v, rfl, ht, ok, q⟩ := h
  refine ⟨_, (pss_cons (ps_set (i := 1) sc_l_line.nd rfl (Or.inl rfl) (pe_lst pa_nil))
   (pss_cons (ps_for PassesOwn.never rfl (pi_tup (pv 0)) (pg_name (i := 2) sc_l_line.nd rfl (Or.inl rfl))
    (pss_one (ps_if (pt_val (pe_callB call_isi (by rfl) T.z_isinstance (by decide +kernel) (pa_cons (pv 2) (pa_cons (pe_bltn (v := .ty "tuple") (by rfl) T.z_tuple (by decide +kernel) rfl) pa_nil))))
    (pss_one (ps_expr (pe_bm PySem.F.plainAttrs_list PySem.F.slot_list_append PySem.F.type_list_append mt_append (pv 1) (pa_cons (pe_call G_l_words_of (hr.mono (by decide)) rfl T.m_l_words_of T.F_l_words_of.kp T.b_l_words_of .nil pass0 (pa_cons (pv 2) pa_nil)) pa_nil))))
    (pss_one (ps_expr (pe_bm PySem.F.plainAttrs_list PySem.F.slot_list_append PySem.F.type_list_append mt_append (pv 1) (pa_cons (pv 2) pa_nil)))))))
   (pss_one (ps_ret (pe_join pe_str (pv 1)))))), ?_⟩
  obtain ⟨t, xs, rfl, h1, h2⟩ := ht.parts
  obtain ⟨ok1, ok2⟩ := RT.parts_ok ok
  refine ⟨by show 0 ≤ sizeLine; decide, fun l hl => ?_⟩
  have s0 := same_new (o := .lst ([] : List V)) hl
  refine ⟨_, rfl, t, rfl, ⟨_, SqT.of (s0 _ _ h1)⟩, for_tup (xs := xs) (fun i σ H' => ∃ z : Option V, σ = [some (.ref t), some (.ref l), z] ∧ Same H H' ∧ H' l = some (.lst (((rt.parts.take i).map partText).map V.str))) ⟨none, rfl, s0, upd_same⟩ (fun i σ H' _ ⟨_, _, s, _⟩ => SqT.of (s _ _ h1)) ?_ ?_⟩
  · rintro i x σ H1 hx ⟨z, rfl, s1, g1⟩
    obtain ⟨pt, hp, hv⟩ := h2.at hx
    have hmem := List.mem_of_getElem? hp
    have hk := ok1 pt hmem
    have hi : i < rt.parts.length := by
      by_cases c : i < rt.parts.length
      · exact c
      · rw [List.getElem?_eq_none (by omega)] at hp; cases hp
    have et : ((rt.parts.take (i + 1)).map partText).map V.str = ((rt.parts.take i).map partText).map V.str ++ [V.str (partText pt)] := by
      rw [List.take_succ, hp]
      simp
    have hlen : (((rt.parts.take i).map partText).map V.str).length < sizeLine := by
      rw [List.length_map, List.length_map, List.length_take]
      exact Nat.lt_of_le_of_lt (show min i rt.parts.length ≤ 6 by omega) (by decide)
    cases pt with
    | inl s =>
      have hv' : x = .str s := hv
      subst hv'
      refine ⟨_, rfl, _, _, _, _, false, rfl, .ty _, .base (.str _), kit_ty (by decide +kernel), _, rfl, iteF ?_⟩
      refine ⟨_, rfl, .inl ⟨rfl, _, SqL.of g1⟩, _, rfl, l, _, _, rfl, rfl, g1, hlen, _, rfl, fun q o hq => ?_, by rw [upd_same, et]; rfl⟩
      rw [upd_ne (ne_of_none hq hl)]; exact s1 _ _ hq
    | inr e =>
      have hv1 := ToldE.same s1 hv
      obtain ⟨te, ys, rfl, ht2⟩ := ToldE.ref hv1
      refine ⟨_, rfl, _, _, _, _, true, rfl, .ty _, .base (.tup ht2), kit_ty (by decide +kernel), _, rfl, iteT ?_⟩
      have hk' : ExOk e := hk
      refine ⟨_, rfl, .inl ⟨rfl, _, SqL.of g1⟩, _, rfl, e, _, rfl, hv1, hk'.1, by have := hk'.2.2; omega, by have := hk'.2.1; omega, fun H2 s2 => ?_⟩
      have g2 := s2 _ _ g1
      refine ⟨l, _, _, rfl, rfl, g2, hlen, _, rfl, fun q o hq => ?_, by rw [upd_same, et]; rfl⟩
      rw [upd_ne (ne_of_none hq hl)]; exact (s1.trans s2) _ _ hq
  · rintro σ H1 ⟨z, rfl, s1, g1⟩
    rw [← h2.length, List.take_length, ← RT.words_parts] at g1
    refine ⟨⟨_, rfl⟩, _, rfl, _, l, rt.words, rfl, rfl, .inl (SqL.of g1), ?_, q H1 s1⟩
    have hb : ∀ w ∈ rt.words, w.length ≤ 110 := fun w hw => by
      rw [RT.words_parts] at hw
      obtain ⟨p, hp, rfl⟩ := List.mem_map.mp hw
      exact part_len (ok1 p hp)
    have hsum := sum_le_len rt.words hb
    have hl6 : rt.words.length ≤ 6 := by rw [RT.words_parts, List.length_map]; exact ok2
    have b1 : (Str.ofString " ").length = 1 := by decide +kernel
    rw [b1]
    omega

end
end K12
namespace K12
open PySem L2 TL
section
variable {P : Program} {w : World} {K : PySem.W.Frag} {mg : Str → Option Value} {base : Heap} {A : Ads}
theorem ok_l_put_line (T : Txt K mg A) : FnOk P w K mg base CX0 11 A.l_put_line A.l_put_line_d ["_law_world_here", "_law_told"] (spLPut K) := by
  have G_l_line := ok_l_line (P := P) (w := w) (base := base) T
  refine T.F_l_put_line.ok sc_l_put_line (fun vs H Q E h => ?_) (fun cdv A0 outer s H vs Q E hr h => ?_)
  · obtain ⟨X, hs, s, rt, v, rfl, hW, hl, ht, ok, q⟩ := h
    rfl
  obtain ⟨X, hs, s, rt, v, rfl, hW, hl, ht, ok, q⟩ := h
  refine ⟨_, (pss_cons (ps_dput (hu_of hr) (pe_dget (hu_of hr) (pv 0) pe_str (fun _ _ => rfl)) (pe_callB call_lenK (by rfl) T.z_len (by decide +kernel) (pa_cons (pe_dget (hu_of hr) (pv 0) pe_str (fun _ _ => rfl)) pa_nil)) (pv 1) rfl)
   (pss_one (ps_expr (pe_bm PySem.F.plainAttrs_list PySem.F.slot_list_append PySem.F.type_list_append mt_append (pe_dget (hu_of hr) (pv 0) pe_str (fun _ _ => rfl)) (pa_cons (pe_call G_l_line (hr.mono (by decide)) rfl T.m_l_line T.F_l_line.kp T.b_l_line .nil pass0 (pa_cons (pv 1) pa_nil)) pa_nil))))), ?_⟩
  obtain ⟨kvs, r1, r2⟩ := hW.rows
  obtain ⟨hv, q1, q2⟩ := hW.heads
  have hk := r2.1
  have hlen := hW.len
  refine ⟨_, rfl, _, rfl, X.w, _, rfl, hW.gRows, _, rfl, X.w, _, rfl, hW.gLines, X.ll, _, rfl, .inl (SqL.of hW.lines), ?_⟩
  rw [List.length_map]
  refine ⟨X.lr, _, rfl, DPut.k (k := .inl ((s.ls.length : Nat) : Int)) (v := v) r1 (Nat.lt_of_le_of_lt (show kvs.length ≤ 1000 by omega) (by decide)), ?_⟩
  have n1 : X.ll ≠ X.lr := ne_of hW.lines r1 (by intro z; cases z)
  have g1 : upd H X.lr (.dK (putK kvs (.inl ((s.ls.length : Nat) : Int)) v)) X.w = some (.dK (wF X s.left)) := by rw [upd_ne hW.ne2]; exact hW.dict
  have g2 : upd H X.lr (.dK (putK kvs (.inl ((s.ls.length : Nat) : Int)) v)) X.ll = some (.lst (s.ls.map V.str)) := by rw [upd_ne n1]; exact hW.lines
  have kt : KeepT H (upd H X.lr (.dK (putK kvs (.inl ((s.ls.length : Nat) : Int)) v))) := keepT_upd r1 (by intro _ z; cases z)
  refine ⟨_, rfl, X.w, _, rfl, wG_lines g1, .inl ⟨rfl, _, SqL.of g2⟩, _, rfl, rt, v, rfl, ht.keepT kt, ok, fun H2 s2 => ?_⟩
  have g3 := s2 _ _ g2
  refine ⟨X.ll, _, _, rfl, rfl, g3, (by rw [List.length_map]; exact Nat.lt_of_le_of_lt hl (by decide)), ?_⟩
  have kt3 : KeepT H (upd H2 X.ll (.lst (s.ls.map V.str ++ [V.str rt.text]))) := (kt.trans (keepT_same s2)).trans (keepT_upd g3 (by intro _ z; cases z))
  refine q _ ⟨?_, ?_, ⟨putK kvs (.inl ((s.ls.length : Nat) : Int)) v, ?_, ?_⟩, ⟨hv, ?_, q2.mono fun f x z => z.mv kt3 fun a ws n e => ?_⟩, hW.ne, hW.ne2, by rw [List.length_append, List.length_append, hlen]; rfl⟩ fun a o n h => ?_
  · rw [upd_ne (ne_of hW.dict hW.lines (by intro z; cases z))]; exact s2 _ _ g1
  · rw [upd_same, List.map_append]; rfl
  · rw [upd_ne (Ne.symm n1)]; exact s2 _ _ upd_same
  · have := (r2.mv kt3).put (ht.keepT kt3)
    rw [← hlen] at this
    exact this
  · rw [upd_ne (Ne.symm hW.ne)]; exact s2 _ _ (by rw [upd_ne (ne_of q1 r1 (by intro z; cases z))]; exact q1)
  · simp only [List.mem_cons, List.not_mem_nil, or_false, not_or] at n
    rw [upd_ne n.1]; exact s2 _ _ (by rw [upd_ne n.2]; exact h)
  · rw [upd_ne n]; exact s2 _ _ (by rw [upd_ne (ne_of e r1 (by intro z; cases z))]; exact e)

end
end K12
namespace K12
open PySem L2 TL
section
variable {P : Program} {w : World} {K : PySem.W.Frag} {mg : Str → Option Value} {base : Heap} {A : Ads}
theorem ok_l_row (T : Txt K mg A) {n : Nat} (G_l_block : FnOk P w K mg base CX0 (2 * n + 24) A.l_block A.l_block_d ["_law_world_here", "_law_well_here", "_law_within"] (spLBlock K n)) : FnOk P w K mg base CX0 (2 * n + 25) A.l_row A.l_row_d ["_law_world_here", "_law_well_here", "_law_within"] (spLRow K n) := by
  have G_l_draw := ok_l_draw (P := P) (w := w) (base := base) T
  have G_l_put_line := ok_l_put_line (P := P) (w := w) (base := base) T
  have G_l_simple := ok_l_simple (P := P) (w := w) (base := base) T
  have G_l_some_expr := ok_l_some_expr (P := P) (w := w) (base := base) T
  refine T.F_l_row.ok sc_l_row (fun vs H Q E h => ?_) (fun cdv A0 outer s H vs Q E hr h => ?_)
  · obtain ⟨X, hs, s, p, rfl, hW, W, hH, hl, hll, q⟩ := h
    rfl
  obtain ⟨X, hs, s, p, rfl, hW, W, hH, hl, hll, q⟩ := h
  refine ⟨_, (pss_cons (ps_set (i := 3) sc_l_row.nd rfl (Or.inl rfl) (pe_call G_l_draw (hr.mono (by omega)) rfl T.m_l_draw T.F_l_draw.kp T.b_l_draw .nil pass0 (pa_cons (pv 1) (pa_cons pe_int pa_nil))))
   (pss_cons (ps_ifC (PW.pt (pw_or (pt_cmpR op_lt (pv 3) pe_int (nomark _)) (pw_or (pt_cmpR op_gt (pv 2) pe_int (nomark _)) (pw_or1 (pt_cmpR op_lt (pe_dget (hu_of hr) (pv 0) pe_str (fun _ _ => rfl)) pe_int (nomark _))))))
    (pss_cons (ps_dput (hu_of hr) (pv 0) pe_str (pe_op op_sub (pe_dget (hu_of hr) (pv 0) pe_str (fun _ _ => rfl)) pe_int) rfl)
   (pss_cons (ps_expr (pe_call G_l_put_line (hr.mono (by omega)) rfl T.m_l_put_line T.F_l_put_line.kp T.b_l_put_line .nil pass0 (pa_cons (pv 0) (pa_cons (pe_call G_l_simple (hr.mono (by omega)) rfl T.m_l_simple T.F_l_simple.kp T.b_l_simple .nil pass0 (pa_cons (pv 0) (pa_cons (pv 1) (pa_cons (pe_op op_mod (pv 3) pe_int) pa_nil)))) pa_nil))))
   (pss_one ps_retN)))
    pss_nil)
   (pss_cons (ps_dput (hu_of hr) (pv 0) pe_str (pe_op op_sub (pe_dget (hu_of hr) (pv 0) pe_str (fun _ _ => rfl)) (pe_ix ix_list (pe_lst (pa_cons pe_int (pa_cons pe_int pa_nil))) (pe_op op_sub (pv 3) pe_int) (fun _ _ => rfl))) rfl)
   (pss_cons (ps_expr (pe_call G_l_put_line (hr.mono (by omega)) rfl T.m_l_put_line T.F_l_put_line.kp T.b_l_put_line .nil pass0 (pa_cons (pv 0) (pa_cons (pe_tup (pa_cons (pe_ix ix_list (pe_lst (pa_cons pe_str (pa_cons pe_str pa_nil))) (pe_op op_sub (pv 3) pe_int) (fun _ _ => rfl)) (pa_cons (pe_call G_l_some_expr (hr.mono (by omega)) rfl T.m_l_some_expr T.F_l_some_expr.kp T.b_l_some_expr .nil pass0 (pa_cons (pv 1) pa_nil)) pa_nil))) pa_nil))))
   (pss_cons (ps_expr (pe_call G_l_block (hr.mono (by omega)) rfl T.m_l_block T.F_l_block.kp T.b_l_block .nil pass0 (pa_cons (pv 0) (pa_cons (pv 1) (pa_cons (pe_op op_add (pv 2) pe_int) pa_nil)))))
   (pss_cons (ps_if (pt_cmpR op_eq (pv 3) pe_int (nomark _))
    (pss_cons (ps_expr (pe_bm PySem.F.plainAttrs_list PySem.F.slot_list_append PySem.F.type_list_append mt_append (pe_dget (hu_of hr) (pv 0) pe_str (fun _ _ => rfl)) (pa_cons pe_str pa_nil)))
   (pss_one (ps_expr (pe_call G_l_block (hr.mono (by omega)) rfl T.m_l_block T.F_l_block.kp T.b_l_block .nil pass0 (pa_cons (pv 0) (pa_cons (pv 1) (pa_cons (pe_op op_add (pv 2) pe_int) pa_nil)))))))
    pss_nil)
   (pss_one (ps_expr (pe_bm PySem.F.plainAttrs_list PySem.F.slot_list_append PySem.F.type_list_append mt_append (pe_dget (hu_of hr) (pv 0) pe_str (fun _ _ => rfl)) (pa_cons pe_str pa_nil)))))))))), ?_⟩
  refine ⟨_, rfl, p, 9, rfl, W, by decide, by decide, fun way H1 w0 w1 k1 W1 => ?_⟩
  have hW1 := hW.keepX k1 W
  refine ⟨decide (way < 7 ∨ n = 0 ∨ s.left < 3), H1, fun Z hZ => ?_, ?_⟩
  · refine ⟨_, rfl, _, _, rfl, rfl, _, rfl, iteD2 (fun c1 => zTrue hZ (.inl c1)) (fun c1 => ?_)⟩
    refine ⟨_, rfl, _, _, rfl, rfl, _, rfl, iteD2 (fun c2 => zTrue hZ (.inr (.inl (by omega)))) (fun c2 => ?_)⟩
    refine ⟨_, rfl, X.w, _, rfl, hW1.gLeft, _, _, rfl, rfl, _, rfl, ?_⟩
    by_cases c3 : s.left < 3
    · rw [decide_eq_true c3]; exact zTrue hZ (.inr (.inr c3))
    · rw [decide_eq_false c3]
      exact zFalse hZ fun h => h.elim c1 fun h => h.elim (fun h => c2 (by omega)) c3
  refine iteD2 (fun c => ?_) (fun c => ?_)
  · refine ⟨_, rfl, X.w, _, rfl, hW1.gLeft, _, _, rfl, rfl, _, rfl, X.w, _, rfl, DPut.k (k := .inr "left") (v := .int (s.left - 1)) hW1.dict (by show 4 < sizeLine; decide), ?_⟩
    rw [wF_put]
    have hW2 := hW1.left (s.left - 1)
    have W2 : WellAt (upd H1 X.w (.dK (wF X (s.left - 1)))) p := W1.updN (well_world hW1 W1).1
    have mv2 : WMv X p H (upd H1 X.w (.dK (wF X (s.left - 1)))) := (wmv_x k1).trans (wmv_upd (by simp))
    generalize hG : upd H1 X.w (.dK (wF X (s.left - 1))) = H2 at hW2 W2 mv2 ⊢
    refine ⟨_, rfl, _, rfl, _, rfl, _, rfl, _, _, rfl, rfl, (by show (0 : Int) < 7; decide), X, hs, _, p, _, rfl, hW2, W2, hH, by omega, by omega, fun rt v H3 ok sm told k3 W3 => ?_⟩
    have hW3 := hW2.keepX k3 W2
    refine ⟨X, hs, _, rt, v, rfl, hW3, by show s.ls.length ≤ 1000; omega, told, ok, fun H4 hW4 k4 => ?_⟩
    have W4 := keepL_well k4 hW3 W3
    have mv4 := (mv2.trans (wmv_x k3)).trans (wmv_ll k4)
    refine q [rt.text] [some rt] (s.left - 1) H4 ?_ (by omega) (by show s.left - 1 + ((1 : Nat) : Int) = s.left; omega) hW4 mv4 W4
    rcases sm with sm | ⟨_, b, f, es, rfl, hm⟩
    · exact .row ok sm
    · exact .call ok hm
  simp only [not_or] at c
  obtain ⟨c1, c2, c3⟩ := c
  obtain ⟨n, rfl⟩ : ∃ n', n = n' + 1 := ⟨n - 1, by omega⟩
  have hway : way = 7 ∨ way = 8 := by omega
  rcases hway with rfl | rfl

  · -- if
    refine ⟨_, rfl, X.w, _, rfl, hW1.gLeft, by show 2 ≤ sizeLine; decide, fun l hl' => ?_⟩
    have s2 := same_new (o := .lst [V.int 3, V.int 2]) hl'
    refine ⟨_, rfl, _, _, rfl, rfl, l, _, _, _, rfl, rfl, SqL.of upd_same, rfl, _, _, rfl, rfl, _, rfl, X.w, _, rfl, DPut.k (k := .inr "left") (v := .int (s.left - 3)) (s2 _ _ hW1.dict) (by show 4 < sizeLine; decide), ?_⟩
    rw [wF_put]
    have hW2 := (hW1.same s2).left (s.left - 3)
    have W2 : WellAt (upd (upd H1 l (.lst [V.int 3, V.int 2])) X.w (.dK (wF X (s.left - 3)))) p := (W1.same s2).updN (well_world hW1 W1).1
    have mv2 : WMv X p H (upd (upd H1 l (.lst [V.int 3, V.int 2])) X.w (.dK (wF X (s.left - 3)))) := ((wmv_x k1).trans (wmv_same s2)).trans (wmv_upd (by simp))
    generalize hG : upd (upd H1 l (.lst [V.int 3, V.int 2])) X.w (.dK (wF X (s.left - 3))) = H2 at hW2 W2 mv2 ⊢
    refine ⟨_, rfl, by show 2 ≤ sizeLine; decide, fun l3 hl3 => ?_⟩
    have s3 := same_new (o := .lst [V.str "if", V.str "while"]) hl3
    refine ⟨_, rfl, _, _, rfl, rfl, l3, _, _, _, rfl, rfl, SqL.of upd_same, rfl, _, rfl, p, rfl, W2.same s3, fun e v H3 ex told k3 W3 => ?_⟩
    refine ⟨by show 2 ≤ sizeLine; decide, fun t ht => ?_⟩
    have s4 := same_new (o := .tup [V.str "if", v]) ht
    have hW4 := ((hW2.same s3).keepX k3 (W2.same s3)).same s4
    have W4 := W3.same s4
    have mv4 := ((mv2.trans (wmv_same s3)).trans (wmv_x k3)).trans (wmv_same s4)
    refine ⟨X, hs, _, .ifr e, .ref t, rfl, hW4, by show s.ls.length ≤ 1000; omega, ⟨t, v, rfl, upd_same, told.same s4⟩, ex, fun H5 hW5 k5 => ?_⟩
    have W5 := keepL_well k5 hW4 W4
    have mv5 := mv4.trans (wmv_ll k5)
    have le1 : (((s.ls ++ [(RT.ifr e).text]).length : Nat) : Int) + (s.left - 3) ≤ 100 := by rw [List.length_append, List.length_singleton]; omega
    refine ⟨_, rfl, _, rfl, _, rfl, _, _, rfl, rfl, X, hs, _, p, ?_, hW5, W5, hH, by omega, by show 0 ≤ s.left - 3; omega, le1, fun L1 R1 m1 H6 b1 g0 g1 hW6 mv6 W6 => ?_⟩
    · show [V.ref X.w, V.ref p, V.int (5 - (((n + 1 : Nat)) : Int) + 1)] = [V.ref X.w, V.ref p, V.int (6 - (((n + 1 : Nat)) : Int))]
      rw [show (5 : Int) - ((n + 1 : Nat) : Int) + 1 = 6 - ((n + 1 : Nat) : Int) from by omega]
    have g1 : m1 + (L1.length : Int) = s.left - 3 := g1
    have mv6' := mv5.trans mv6

    refine ⟨_, rfl, rfl, _, rfl, iteDT rfl ?_⟩
    refine ⟨_, rfl, X.w, _, rfl, hW6.gLines, .inl ⟨rfl, _, SqL.of hW6.lines⟩, X.ll, _, _, rfl, rfl, hW6.lines, ?_, ?_⟩
    · rw [List.length_map]
      exact Nat.lt_of_le_of_lt (show ((s.ls ++ [(RT.ifr e).text]) ++ L1).length ≤ 1000 by rw [List.length_append]; omega) (by decide)
    have hW7 := hW6.line "else"
    have W7 := W6.updN (o := .lst ((((s.ls ++ [(RT.ifr e).text]) ++ L1).map V.str) ++ [V.str "else"])) (well_world hW6 W6).2.1
    have mv7 := mv6'.trans (wmv_upd (o := .lst ((((s.ls ++ [(RT.ifr e).text]) ++ L1).map V.str) ++ [V.str "else"])) (a := X.ll) (by simp))
    have le2 : (((((s.ls ++ [(RT.ifr e).text]) ++ L1) ++ [Str.ofString "else"]).length : Nat) : Int) + m1 ≤ 100 := by rw [List.length_append, List.length_append, List.length_append, List.length_singleton, List.length_singleton]; omega
    refine ⟨_, rfl, _, rfl, _, rfl, _, _, rfl, rfl, X, hs, _, p, ?_, hW7, W7, hH, by omega, g0, le2, fun L2 R2 m2 H8 b2 y0 y1 hW8 mv8 W8 => ?_⟩
    · show [V.ref X.w, V.ref p, V.int (5 - (((n + 1 : Nat)) : Int) + 1)] = [V.ref X.w, V.ref p, V.int (6 - (((n + 1 : Nat)) : Int))]
      rw [show (5 : Int) - ((n + 1 : Nat) : Int) + 1 = 6 - ((n + 1 : Nat) : Int) from by omega]
    have y1 : m2 + (L2.length : Int) = m1 := y1
    refine ⟨_, rfl, X.w, _, rfl, hW8.gLines, .inl ⟨rfl, _, SqL.of hW8.lines⟩, X.ll, _, _, rfl, rfl, hW8.lines, ?_, ?_⟩
    · rw [List.length_map]
      exact Nat.lt_of_le_of_lt (show ((((s.ls ++ [(RT.ifr e).text]) ++ L1) ++ [Str.ofString "else"]) ++ L2).length ≤ 1000 by simp only [List.length_append, List.length_singleton]; omega) (by decide)
    have hW9 := hW8.line "end"
    have W9 := W8.updN (o := .lst (((((s.ls ++ [(RT.ifr e).text]) ++ L1) ++ [Str.ofString "else"]) ++ L2).map V.str ++ [V.str "end"])) (well_world hW8 W8).2.1
    refine q ((RT.ifr e).text :: (L1 ++ (Str.ofString "else" :: (L2 ++ [Str.ofString "end"])))) (some (.ifr e) :: (R1 ++ (none :: (R2 ++ [none])))) m2 _ (.ifr ex b1 b2) y0 ?_ (hW9.cast (by simp)) ((mv7.trans mv8).trans (wmv_upd (by simp))) W9
    simp only [List.length_cons, List.length_append, List.length_nil]
    omega

  · -- while
    refine ⟨_, rfl, X.w, _, rfl, hW1.gLeft, by show 2 ≤ sizeLine; decide, fun l hl' => ?_⟩
    have s2 := same_new (o := .lst [V.int 3, V.int 2]) hl'
    refine ⟨_, rfl, _, _, rfl, rfl, l, _, _, _, rfl, rfl, SqL.of upd_same, rfl, _, _, rfl, rfl, _, rfl, X.w, _, rfl, DPut.k (k := .inr "left") (v := .int (s.left - 2)) (s2 _ _ hW1.dict) (by show 4 < sizeLine; decide), ?_⟩
    rw [wF_put]
    have hW2 := (hW1.same s2).left (s.left - 2)
    have W2 : WellAt (upd (upd H1 l (.lst [V.int 3, V.int 2])) X.w (.dK (wF X (s.left - 2)))) p := (W1.same s2).updN (well_world hW1 W1).1
    have mv2 : WMv X p H (upd (upd H1 l (.lst [V.int 3, V.int 2])) X.w (.dK (wF X (s.left - 2)))) := ((wmv_x k1).trans (wmv_same s2)).trans (wmv_upd (by simp))
    generalize hG : upd (upd H1 l (.lst [V.int 3, V.int 2])) X.w (.dK (wF X (s.left - 2))) = H2 at hW2 W2 mv2 ⊢
    refine ⟨_, rfl, by show 2 ≤ sizeLine; decide, fun l3 hl3 => ?_⟩
    have s3 := same_new (o := .lst [V.str "if", V.str "while"]) hl3
    refine ⟨_, rfl, _, _, rfl, rfl, l3, _, _, _, rfl, rfl, SqL.of upd_same, rfl, _, rfl, p, rfl, W2.same s3, fun e v H3 ex told k3 W3 => ?_⟩
    refine ⟨by show 2 ≤ sizeLine; decide, fun t ht => ?_⟩
    have s4 := same_new (o := .tup [V.str "while", v]) ht
    have hW4 := ((hW2.same s3).keepX k3 (W2.same s3)).same s4
    have W4 := W3.same s4
    have mv4 := ((mv2.trans (wmv_same s3)).trans (wmv_x k3)).trans (wmv_same s4)
    refine ⟨X, hs, _, .loop e, .ref t, rfl, hW4, by show s.ls.length ≤ 1000; omega, ⟨t, v, rfl, upd_same, told.same s4⟩, ex, fun H5 hW5 k5 => ?_⟩
    have W5 := keepL_well k5 hW4 W4
    have mv5 := mv4.trans (wmv_ll k5)
    have le1 : (((s.ls ++ [(RT.loop e).text]).length : Nat) : Int) + (s.left - 2) ≤ 100 := by rw [List.length_append, List.length_singleton]; omega
    refine ⟨_, rfl, _, rfl, _, rfl, _, _, rfl, rfl, X, hs, _, p, ?_, hW5, W5, hH, by omega, by show 0 ≤ s.left - 2; omega, le1, fun L1 R1 m1 H6 b1 g0 g1 hW6 mv6 W6 => ?_⟩
    · show [V.ref X.w, V.ref p, V.int (5 - (((n + 1 : Nat)) : Int) + 1)] = [V.ref X.w, V.ref p, V.int (6 - (((n + 1 : Nat)) : Int))]
      rw [show (5 : Int) - ((n + 1 : Nat) : Int) + 1 = 6 - ((n + 1 : Nat) : Int) from by omega]
    have g1 : m1 + (L1.length : Int) = s.left - 2 := g1
    have mv6' := mv5.trans mv6

    refine ⟨_, rfl, rfl, _, rfl, iteDF (by decide) ?_⟩
    refine ⟨_, rfl, X.w, _, rfl, hW6.gLines, .inl ⟨rfl, _, SqL.of hW6.lines⟩, X.ll, _, _, rfl, rfl, hW6.lines, ?_, ?_⟩
    · rw [List.length_map]
      exact Nat.lt_of_le_of_lt (show ((s.ls ++ [(RT.loop e).text]) ++ L1).length ≤ 1000 by rw [List.length_append]; omega) (by decide)
    have hW7 := hW6.line "end"
    have W7 := W6.updN (o := .lst ((((s.ls ++ [(RT.loop e).text]) ++ L1).map V.str) ++ [V.str "end"])) (well_world hW6 W6).2.1
    refine q ((RT.loop e).text :: (L1 ++ [Str.ofString "end"])) (some (.loop e) :: (R1 ++ [none])) m1 _ (.loop ex b1) g0 ?_ (hW7.cast (by simp)) (mv6'.trans (wmv_upd (by simp))) W7
    simp only [List.length_cons, List.length_append, List.length_nil]
    omega

end
end K12
namespace K12
open PySem L2 TL
section
variable {P : Program} {w : World} {K : PySem.W.Frag} {mg : Str → Option Value} {base : Heap} {A : Ads}
theorem ok_l_block (T : Txt K mg A) : ∀ n : Nat, FnOk P w K mg base CX0 (2 * n + 24) A.l_block A.l_block_d ["_law_world_here", "_law_well_here", "_law_within"] (spLBlock K n)
| 0 => fn_none fun vs H Q E h => by
    obtain ⟨X, _, _, _, _, _, _, _, h1, _⟩ := h; omega
| n + 1 => by
  have G_l_block := ok_l_block T n
  have G_l_draw := ok_l_draw (P := P) (w := w) (base := base) T
  have G_l_row := ok_l_row (P := P) (w := w) (base := base) T G_l_block
  refine T.F_l_block.ok sc_l_block (fun vs H Q E h => ?_) (fun cdv A0 outer s H vs Q E hr h => ?_)
  · obtain ⟨X, hs, s, p, rfl, hW, W, hH, hn, hl, hll, q⟩ := h
    rfl
  obtain ⟨X, hs, s, p, rfl, hW, W, hH, hn, hl, hll, q⟩ := h
  refine ⟨_, (pss_one (ps_for PassesOwn.never rfl (pi_range1 (by rfl) T.z_range (pa_cons (pe_call G_l_draw (hr.mono (by omega)) rfl T.m_l_draw T.F_l_draw.kp T.b_l_draw .nil pass0 (pa_cons (pv 1) (pa_cons pe_int pa_nil))) pa_nil)) (pg_name (i := 3) sc_l_block.nd rfl (Or.inl rfl))
    (pss_one (ps_if (pt_cmpR op_gt (pe_dget (hu_of hr) (pv 0) pe_str (fun _ _ => rfl)) pe_int (nomark _))
    (pss_one (ps_expr (pe_call G_l_row (hr.mono (by omega)) rfl T.m_l_row T.F_l_row.kp T.b_l_row .nil pass0 (pa_cons (pv 0) (pa_cons (pv 1) (pa_cons (pv 2) pa_nil))))))
    pss_nil)))), ?_⟩
  refine ⟨_, rfl, p, 4, rfl, W, by decide, by decide, fun m H1 h0 h1 k1 W1 => ?_⟩
  refine ⟨m, rfl, by omega, by omega, for_range (lo := 0) (n := m.toNat) (fun i σ H' => ∃ (L : List Str) (R : List (Option RT)) (lf : Int) (z : Option V), σ = [some (.ref X.w), some (.ref p), some (.int (6 - ((n + 1 : Nat) : Int))), z] ∧ Body (arsOf hs) n L R ∧ 0 ≤ lf ∧ lf + (L.length : Int) = s.left ∧ WH K X hs H' ⟨s.ls ++ L, s.R ++ R, lf⟩ ∧ WMv X p H H' ∧ WellAt H' p)
    ⟨[], [], s.left, none, rfl, .nil, hl, by simp, (hW.keepX k1 W).cast (by simp), wmv_x k1, W1⟩ ?_ ?_⟩
  · rintro i σ H2 hi ⟨L, R, lf, z, rfl, b, hf0, hf1, hW2, mv2, W2⟩
    refine ⟨_, rfl, X.w, _, rfl, hW2.gLeft, _, _, rfl, rfl, _, rfl, iteD2 (fun c => ?_) (fun c => ?_)⟩
    · refine ⟨_, rfl, _, rfl, _, rfl, X, hs, _, p, ?_, hW2, W2, hH, c, ?_, fun L2 R2 m2 H3 b2 g0 g1 hW3 mv3 W3 => ?_⟩
      · show [V.ref X.w, V.ref p, V.int (6 - ((n + 1 : Nat) : Int))] = [V.ref X.w, V.ref p, V.int (5 - (n : Int))]
        rw [show (6 : Int) - ((n + 1 : Nat) : Int) = 5 - (n : Int) from by omega]
      · show (((s.ls ++ L).length : Nat) : Int) + lf ≤ 100
        rw [List.length_append]; omega
      · exact ⟨L ++ L2, R ++ R2, m2, _, rfl, .app b b2, g0, by rw [List.length_append]; have : m2 + (L2.length : Int) = lf := g1; omega, hW3.cast (by simp), mv2.trans mv3, W3⟩
    · exact ⟨L, R, lf, _, rfl, b, hf0, hf1, hW2, mv2, W2⟩
  · rintro σ H2 ⟨L, R, lf, z, rfl, b, hf0, hf1, hW2, mv2, W2⟩
    exact q L R lf H2 b hf0 hf1 hW2 mv2 W2

end
end K12
namespace K12
open PySem L2 TL
section
variable {P : Program} {w : World} {K : PySem.W.Frag} {mg : Str → Option Value} {base : Heap} {A : Ads}
theorem ok_l_world (T : Txt K mg A) : FnOk P w K mg base CX0 37 A.l_world A.l_world_d ["_law_script", "_law_k"] (spLWorld K) := by
  have G_l_well := ok_l_well (P := P) (w := w) (base := base) T
  have G_l_heads := ok_l_heads (P := P) (w := w) (base := base) T
  have G_l_block := ok_l_block (P := P) (w := w) (base := base) T 6
  have G_l_put_line := ok_l_put_line (P := P) (w := w) (base := base) T
  have G_l_some_expr := ok_l_some_expr (P := P) (w := w) (base := base) T
  have G_l_draw := ok_l_draw (P := P) (w := w) (base := base) T
  refine T.F_l_world.ok sc_l_world (fun vs H Q E h => ?_) (fun cdv A0 outer s H vs Q E hr h => ?_)
  · obtain ⟨a, ns, k, rfl, hS, hk, q⟩ := h
    rfl
  obtain ⟨a, ns, k, rfl, hS, hk, q⟩ := h
  refine ⟨_, (pss_cons (ps_set (i := 2) sc_l_world.nd rfl (Or.inl rfl) (pe_call G_l_well (hr.mono (by decide)) rfl T.m_l_well T.F_l_well.kp T.b_l_well .nil pass0 (pa_cons (pv 0) (pa_cons (pv 1) pa_nil))))
   (pss_cons (ps_set (i := 3) sc_l_world.nd rfl (Or.inl rfl) (pe_call G_l_heads (hr.mono (by decide)) rfl T.m_l_heads T.F_l_heads.kp T.b_l_heads .nil pass0 (pa_cons (pv 2) pa_nil)))
   (pss_cons (ps_set (i := 4) sc_l_world.nd rfl (Or.inl rfl) (pe_disp (pps_cons pe_str (pe_lst pa_nil) (pps_cons pe_str pe_dnewK (pps_cons pe_str (pv 3) (pps_cons pe_str (pe_op op_sub pe_int (pe_op op_mul pe_int (pe_callB call_lenK (by rfl) T.z_len (by decide +kernel) (pa_cons (pv 3) pa_nil)))) pps_nil)))) (by rfl) (by rfl) (fun z => by cases z) (by decide)))
   (pss_cons (ps_for PassesOwn.never rfl (pi_list (pv 3)) (pg_tup (by rfl) (pgs_cons (pg_name (i := 5) sc_l_world.nd rfl (Or.inl rfl)) (pgs_cons (pg_name (i := 6) sc_l_world.nd rfl (Or.inl rfl)) pgs_nil)))
    (pss_cons (ps_expr (pe_bm PySem.F.plainAttrs_list PySem.F.slot_list_append PySem.F.type_list_append mt_append (pe_dget (hu_of hr) (pv 4) pe_str (fun _ _ => rfl)) (pa_cons (pe_join pe_str (pe_op op_cat (pe_lst (pa_cons pe_str (pa_cons (pv 5) pa_nil))) (pv 6))) pa_nil)))
   (pss_cons (ps_expr (pe_call G_l_block (hr.mono (by decide)) rfl T.m_l_block T.F_l_block.kp T.b_l_block .nil pass0 (pa_cons (pv 4) (pa_cons (pe_call G_l_well (hr.mono (by decide)) rfl T.m_l_well T.F_l_well.kp T.b_l_well .nil pass0 (pa_cons (pv 0) (pa_cons (pe_op op_add (pe_op op_add (pv 1) pe_int) (pe_op op_mod (pe_callB call_lenK (by rfl) T.z_len (by decide +kernel) (pa_cons (pe_dget (hu_of hr) (pv 4) pe_str (fun _ _ => rfl)) pa_nil)) pe_int)) pa_nil))) (pa_cons pe_int pa_nil)))))
   (pss_one (ps_expr (pe_call G_l_put_line (hr.mono (by decide)) rfl T.m_l_put_line T.F_l_put_line.kp T.b_l_put_line .nil pass0 (pa_cons (pv 4) (pa_cons (pe_tup (pa_cons pe_str (pa_cons (pe_call G_l_some_expr (hr.mono (by decide)) rfl T.m_l_some_expr T.F_l_some_expr.kp T.b_l_some_expr .nil pass0 (pa_cons (pv 2) pa_nil)) pa_nil))) pa_nil))))))))
   (pss_cons (ps_expr (pe_bm PySem.F.plainAttrs_list PySem.F.slot_list_append PySem.F.type_list_append mt_append (pe_dget (hu_of hr) (pv 4) pe_str (fun _ _ => rfl)) (pa_cons pe_str pa_nil)))
   (pss_cons (ps_for PassesOwn.never rfl (pi_range1 (by rfl) T.z_range (pa_cons (pe_call G_l_draw (hr.mono (by decide)) rfl T.m_l_draw T.F_l_draw.kp T.b_l_draw .nil pass0 (pa_cons (pv 2) (pa_cons pe_int pa_nil))) pa_nil)) (pg_name (i := 7) sc_l_world.nd rfl (Or.inl rfl))
    (pss_one (ps_expr (pe_call G_l_block (hr.mono (by decide)) rfl T.m_l_block T.F_l_block.kp T.b_l_block .nil pass0 (pa_cons (pv 4) (pa_cons (pe_call G_l_well (hr.mono (by decide)) rfl T.m_l_well T.F_l_well.kp T.b_l_well .nil pass0 (pa_cons (pv 0) (pa_cons (pe_op op_add (pe_op op_add (pv 1) pe_int) (pv 7)) pa_nil))) (pa_cons pe_int pa_nil)))))))
   (pss_one (ps_ret (pv 4))))))))), ?_⟩
  refine ⟨_, rfl, _, rfl, a, ns, k, rfl, hS, hk, fun p H1 hp s1 W1 => ?_⟩
  refine ⟨_, rfl, p, rfl, W1, fun hs lh hv H2 hH hlh g2 ha2 k2 W2 => ?_⟩
  have npl : lh ≠ p := W1.fresh hlh
  have s12 : Same H H2 := fun q o h => k2 q o (fun e => by rw [e, hp] at h; cases h) (s1 q o h)
  show ∀ w, _ → _
  intro w hw
  have sa := same_new (o := .dK []) hw
  have gwa : upd H2 w (.dK []) w = some (.dK []) := upd_same
  generalize hGa : upd H2 w (.dK []) = Ha at sa gwa ⊢
  refine ⟨by show 0 ≤ sizeLine; decide, fun ll hll => ?_⟩
  have sb := same_new (o := .lst ([] : List V)) hll
  have glb : upd Ha ll (.lst []) ll = some (.lst []) := upd_same
  generalize hGb : upd Ha ll (.lst []) = Hb at sb glb ⊢
  show ∀ lr, _ → _
  intro lr hlr
  have sc := same_new (o := .dK []) hlr
  have grc : upd Hb lr (.dK []) lr = some (.dK []) := upd_same
  generalize hGc : upd Hb lr (.dK []) = Hc at sc grc ⊢
  have sac := (sa.trans sb).trans sc
  have gwc := (sb.trans sc) _ _ gwa
  have glc := sc _ _ glb
  have ghc := sac _ _ g2
  refine ⟨_, rfl, _, rfl, lh, hv, rfl, .inl (SqL.of ghc), _, _, rfl, rfl, Or.inl ⟨by decide, by decide⟩, _, _, rfl, rfl, gwc, wF ⟨w, ll, lr, lh⟩ (59 - 2 * (hv.length : Int)), rfl, by show 4 ≤ 15; decide, ?_⟩
  rw [wF_merge, ← ha2.length]
  have nwl : w ≠ ll := (freshNe gwa hll).symm
  have nwr : w ≠ lr := (freshNe (sb _ _ gwa) hlr).symm
  have nlr : ll ≠ lr := (freshNe glb hlr).symm
  have nlh : ll ≠ lh := freshNe (sa _ _ g2) hll
  have nrh : lr ≠ lh := freshNe ((sa.trans sb) _ _ g2) hlr
  have nwh : w ≠ lh := fun e => by rw [← e, hw] at g2; cases g2
  have kw : KeepX w Hc (upd Hc w (.dK (wF ⟨w, ll, lr, lh⟩ (59 - 2 * (hs.length : Int))))) := keepX_upd
  have hWH : WH K ⟨w, ll, lr, lh⟩ hs (upd Hc w (.dK (wF ⟨w, ll, lr, lh⟩ (59 - 2 * (hs.length : Int))))) ⟨[], [], 59 - 2 * (hs.length : Int)⟩ := by
    refine ⟨upd_same, kw _ _ (Ne.symm nwl) glc, ⟨[], kw _ _ (Ne.symm nwr) grc, Nat.le_refl _, (fun _ _ => rfl), (fun n => .inl ⟨rfl, rfl⟩), [], rfl, List.nodup_nil, (fun _ h => by cases h)⟩, ⟨hv, kw _ _ (Ne.symm nwh) ghc, ha2.mono fun f v z => ?_⟩, nlh, nwr, rfl⟩
    obtain ⟨t, l, z1, z2, _, z3⟩ := z
    refine ⟨t, l, z1, kw _ _ (ne_of (sac _ _ z2) gwc (by intro z; cases z)) (sac _ _ z2), (freshNe (sa _ _ z3) hll).symm, kw _ _ (ne_of (sac _ _ z3) gwc (by intro z; cases z)) (sac _ _ z3)⟩
  have hwn : H w = none := none_before s12 hw
  have hln : H ll = none := none_before (s12.trans sa) hll
  have hrn : H lr = none := none_before ((s12.trans sa).trans sb) hlr
  have sW : Same H (upd Hc w (.dK (wF ⟨w, ll, lr, lh⟩ (59 - 2 * (hs.length : Int))))) := fun q o h => kw _ _ (fun e => by rw [e, hwn] at h; cases h) ((s12.trans sac) q o h)
  have WW : WellAt (upd Hc w (.dK (wF ⟨w, ll, lr, lh⟩ (59 - 2 * (hs.length : Int))))) p := (W2.same sac).updN (fun e => by
    obtain ⟨x, y, z, u, wl⟩ := W2
    rw [e, hw] at wl; cases wl)
  show tSeq _ _ _ _ (upd Hc w (.dK (wF ⟨w, ll, lr, lh⟩ (59 - 2 * (hs.length : Int)))))
  generalize hGW : upd Hc w (.dK (wF ⟨w, ll, lr, lh⟩ (59 - 2 * (hs.length : Int)))) = HW at hWH sW WW ⊢
  generalize hX : (⟨w, ll, lr, lh⟩ : WA) = X at hWH
  have ew : X.w = w := by rw [← hX]
  have el : X.ll = ll := by rw [← hX]
  have er : X.lr = lr := by rw [← hX]
  have eh : X.lh = lh := by rw [← hX]
  -- what moves is new
  have toS : ∀ {Ha Hb : Hp} {q : Addr}, H q = none → Same H Ha → WMv X q Ha Hb → Same H Hb := fun hq sa mv z o h => mv z o (fun hm => by
    rw [ew, el, er] at hm
    simp only [List.mem_cons, List.not_mem_nil, or_false] at hm
    rcases hm with rfl | rfl | rfl | rfl
    · rw [hq] at h; cases h
    · rw [hwn] at h; cases h
    · rw [hln] at h; cases h
    · rw [hrn] at h; cases h) (sa z o h)
  obtain ⟨hvW, qW, _⟩ := hWH.heads
  rw [eh] at qW
  refine ⟨_, rfl, lh, rfl, ⟨_, SqL.of qW⟩, for_list (xs := hvW) (fun i σ H' => ∃ (bs : List FnB) (s : WS) (z5 z6 : Option V), σ = [some (.ref a), some (.int k), some (.ref p), some (.ref lh), some (.ref X.w), z5, z6, none] ∧ Same H H' ∧ WellAt H' p ∧ H' lh = some (.lst hvW) ∧ WH K X hs H' s ∧ (∀ b ∈ bs, b.Ok (arsOf hs)) ∧ bs.map (fun b => (b.nm, b.ps)) = hs.take i ∧ s.ls = bs.flatMap FnB.lines ∧ s.R = bs.flatMap FnB.rows ∧ 0 ≤ s.left ∧ (s.ls.length : Int) + s.left = 59 - 2 * (hs.length : Int) + 2 * (i : Int))
    ⟨[], _, none, none, by rw [ew]; rfl, sW, WW, qW, hWH, (fun b hb => by cases hb), rfl, rfl, rfl, by have := hH.1; show (0 : Int) ≤ 59 - 2 * (hs.length : Int); omega, by show ((0 : Nat) : Int) + (59 - 2 * (hs.length : Int)) = _; omega⟩ (fun i σ H' _ ⟨_, _, _, _, _, _, _, h, _⟩ => SqL.of h) ?_ ?_⟩
  · rintro i x σ H3 hx ⟨bs, s, z5, z6, rfl, s3, W3, q3, hW3, hbs, hnm, hls, hR, hle, hsum⟩
    obtain ⟨hv3, r1, r2⟩ := hW3.heads
    rw [eh, q3] at r1
    have ehv : hvW = hv3 := by injection r1 with r1; injection r1
    subst ehv
    obtain ⟨⟨nm, ps⟩, hhd, t, lp, rfl, e2, nlp, e3⟩ := r2.at hx
    have hmem : (nm, ps) ∈ hs := List.mem_of_getElem? hhd
    have hok := hH.2.2 _ hmem
    have hi : i < hs.length := (List.getElem?_eq_some_iff.mp hhd).1
    have h4 := hH.1
    have hpl : ps.length ≤ 3 := hok.2.2.1
    refine ⟨t, _, rfl, SqT.of e2, rfl, _, _, rfl, _, _, rfl, rfl, ?_⟩
    refine ⟨_, rfl, X.w, _, rfl, hW3.gLines, .inl ⟨rfl, _, SqL.of hW3.lines⟩, ⟨_, rfl⟩, _, rfl, by show 2 ≤ sizeLine; decide, fun l1 hl1 => ?_⟩
    have s4 := same_new (o := .lst [V.str "fun", V.str nm]) hl1
    have g4 : upd H3 l1 (.lst [V.str "fun", V.str nm]) l1 = some (.lst [V.str "fun", V.str nm]) := upd_same
    generalize hG4 : upd H3 l1 (.lst [V.str "fun", V.str nm]) = H4 at s4 g4 ⊢
    refine ⟨_, rfl, l1, lp, _, _, rfl, rfl, g4, s4 _ _ e3, sizeL2 (by rw [List.length_map]; show 2 + ps.length ≤ _; omega), fun l3 hl3 => ?_⟩
    have s5 := same_new (o := .lst ([V.str "fun", V.str nm] ++ ps.map V.str)) hl3
    have g5 : upd H4 l3 (.lst ([V.str "fun", V.str nm] ++ ps.map V.str)) l3 = some (.lst ((Str.ofString "fun" :: nm :: ps).map V.str)) := upd_same
    generalize hG5 : upd H4 l3 (.lst ([V.str "fun", V.str nm] ++ ps.map V.str)) = H5 at s5 g5 ⊢
    have s35 := s4.trans s5
    have hW5 := hW3.same s35
    have W5 := W3.same s35
    refine ⟨_, l3, Str.ofString "fun" :: nm :: ps, rfl, rfl, .inl (SqL.of g5), ?_, X.ll, _, _, rfl, rfl, hW5.lines, ?_, ?_⟩
    · have hsum2 := sum_le_len (Str.ofString "fun" :: nm :: ps) fun x hx => by
        have := (head_tok hok x hx).1
        rw [len_tl]
        omega
      show _ + (ps.length + 1 + 1) * 1 ≤ _
      have e5 : (Str.ofString "fun" :: nm :: ps).length = ps.length + 1 + 1 := rfl
      rw [e5] at hsum2
      omega
    · rw [List.length_map]
      exact Nat.lt_of_le_of_lt (show s.ls.length ≤ 1000 by omega) (by decide)
    have hW6 := hW5.line (headText nm ps)
    have W6 := W5.updN (o := .lst (s.ls.map V.str ++ [V.str (headText nm ps)])) (well_world hW5 W5).2.1
    have mv6 : WMv X p H3 (upd H5 X.ll (.lst (s.ls.map V.str ++ [V.str (headText nm ps)]))) := (wmv_same s35).trans (wmv_upd (by simp))
    show tSeq _ _ _ _ (upd H5 X.ll (.lst (s.ls.map V.str ++ [V.str (headText nm ps)])))
    generalize hG6 : upd H5 X.ll (.lst (s.ls.map V.str ++ [V.str (headText nm ps)])) = H6 at hW6 W6 mv6 ⊢
    have s6 : Same H H6 := toS hp s3 mv6
    have q6 : H6 lh = some (.lst hvW) := by
      refine mv6 _ _ (fun hm => ?_) q3
      rw [ew, el, er] at hm
      simp only [List.mem_cons, List.not_mem_nil, or_false] at hm
      rcases hm with h | h | h | h
      · exact npl h
      · exact nwh h.symm
      · exact nlh h.symm
      · exact nrh h.symm
    refine ⟨_, rfl, _, rfl, _, rfl, _, _, rfl, rfl, _, rfl, X.w, _, rfl, hW6.gLines, X.ll, _, rfl, .inl (SqL.of hW6.lines), _, _, rfl, rfl, (by show (0 : Int) < 3; decide), _, _, rfl, rfl, a, ns, _, rfl, s6.seq hS, by omega, fun p2 H7 hp2 s7 W7 => ?_⟩
    have hW7 := hW6.same s7
    have W7p := W6.same s7
    have n2 : p ≠ p2 := fun e => by
      obtain ⟨x, y, z, u, w⟩ := W6
      rw [e, hp2] at w; cases w
    have le7 : (((s.ls ++ [headText nm ps]).length : Nat) : Int) + s.left ≤ 100 := by rw [List.length_append, List.length_singleton]; omega
    refine ⟨X, hs, _, p2, rfl, hW7, W7, hH, by decide, hle, le7, fun L R m H8 b g0 g1 hW8 mv8 W8 => ?_⟩
    have g1 : m + (L.length : Int) = s.left := g1
    have s8 : Same H H8 := toS (none_before s6 hp2) (s6.trans s7) mv8
    have W8p : WellAt H8 p := by
      obtain ⟨n1, n3, n4⟩ := well_world hW7 W7p
      obtain ⟨x, y, z, u, w⟩ := W7p
      refine ⟨x, y, z, u, mv8 _ _ (fun hm => ?_) w⟩
      simp only [List.mem_cons, List.not_mem_nil, or_false] at hm
      rcases hm with h | h | h | h
      · exact n2 h
      · exact n1 h
      · exact n3 h
      · exact n4 h
    have q8 : H8 lh = some (.lst hvW) := by
      refine mv8 _ _ (fun hm => ?_) (s7 _ _ q6)
      rw [ew, el, er] at hm
      simp only [List.mem_cons, List.not_mem_nil, or_false] at hm
      rcases hm with h | h | h | h
      · rw [h, hp2] at q6; cases q6
      · exact nwh h.symm
      · exact nlh h.symm
      · exact nrh h.symm
    refine ⟨_, rfl, _, rfl, p, rfl, W8p, fun e v H9 ex told k9 W9 => ?_⟩
    refine ⟨by show 2 ≤ sizeLine; decide, fun t2 ht2 => ?_⟩
    have s10 := same_new (o := .tup [V.str "give", v]) ht2
    have hW10 := (hW8.keepX k9 W8p).same s10
    have W10 := W9.same s10
    have len8 : (((s.ls ++ [headText nm ps]) ++ L).length : Nat) ≤ 1000 := by rw [List.length_append, List.length_append, List.length_singleton]; omega
    refine ⟨X, hs, _, .give e, .ref t2, rfl, hW10, len8, ⟨t2, v, rfl, upd_same, told.same s10⟩, ex, fun H11 hW11 k11 => ?_⟩
    have W11 := keepL_well k11 hW10 W10
    have mv11 : WMv X p H8 H11 := ((wmv_x k9).trans (wmv_same s10)).trans (wmv_ll k11)
    have s11 : Same H H11 := toS hp s8 mv11
    have q11 : H11 lh = some (.lst hvW) := by
      refine mv11 _ _ (fun hm => ?_) q8
      rw [ew, el, er] at hm
      simp only [List.mem_cons, List.not_mem_nil, or_false] at hm
      rcases hm with h | h | h | h
      · exact npl h
      · exact nwh h.symm
      · exact nlh h.symm
      · exact nrh h.symm
    refine ⟨bs ++ [⟨nm, ps, L, R, e⟩], _, _, _, rfl, s11, W11, q11, hW11, fun x hx => ?_, ?_, ?_, ?_, g0, ?_⟩
    · rcases List.mem_append.mp hx with hx | hx
      · exact hbs x hx
      · rw [List.mem_singleton.mp hx]; exact ⟨hok, ex, b⟩
    · rw [List.map_append, hnm, List.take_succ, hhd]; rfl
    · rw [List.flatMap_append, ← hls]
      show ((s.ls ++ [headText nm ps]) ++ L) ++ [(RT.give e).text] = s.ls ++ ((headText nm ps :: (L ++ [(RT.give e).text])) ++ [])
      simp
    · rw [List.flatMap_append, ← hR]
      show ((s.R ++ [none]) ++ R) ++ [some (RT.give e)] = s.R ++ ((none :: (R ++ [some (RT.give e)])) ++ [])
      simp
    · show ((((s.ls ++ [headText nm ps]) ++ L) ++ [(RT.give e).text]).length : Int) + m = _
      rw [List.length_append, List.length_append, List.length_append, List.length_singleton, List.length_singleton]
      omega
  · rintro σ H3 ⟨bs, s, z5, z6, rfl, s3, W3, q3, hW3, hbs, hnm, hls, hR, hle, hsum⟩
    obtain ⟨hv3, r1, r2⟩ := hW3.heads
    rw [eh, q3] at r1
    have ehv : hvW = hv3 := by injection r1 with r1; injection r1
    subst ehv
    rw [← r2.length] at hsum hnm
    rw [List.take_length] at hnm
    have h4 := hH.1
    have har : arsOf hs = bs.map FnB.ar := by
      rw [← hnm]
      unfold arsOf
      rw [List.map_map]; rfl
    refine ⟨_, rfl, X.w, _, rfl, hW3.gLines, .inl ⟨rfl, _, SqL.of hW3.lines⟩, X.ll, _, _, rfl, rfl, hW3.lines, ?_, ?_⟩
    · rw [List.length_map]
      exact Nat.lt_of_le_of_lt (show s.ls.length ≤ 1000 by omega) (by decide)
    have hW4 := hW3.line "main"
    have W4 := W3.updN (o := .lst (s.ls.map V.str ++ [V.str "main"])) (well_world hW3 W3).2.1
    have s4 : Same H (upd H3 X.ll (.lst (s.ls.map V.str ++ [V.str "main"]))) := toS hp s3 (wmv_upd (by simp))
    show tSeq _ _ _ _ (upd H3 X.ll (.lst (s.ls.map V.str ++ [V.str "main"])))
    generalize hG4 : upd H3 X.ll (.lst (s.ls.map V.str ++ [V.str "main"])) = H4 at hW4 W4 s4 ⊢
    refine ⟨_, rfl, p, 4, rfl, W4, by decide, by decide, fun m H5 h0 h1 k5 W5 => ?_⟩
    have hW5 := hW4.keepX k5 W4
    have s5 : Same H H5 := toS hp s4 (wmv_x k5)
    refine ⟨m, rfl, by omega, by omega, for_range (lo := 0) (n := m.toNat) (fun i σ H' => ∃ (L : List Str) (R : List (Option RT)) (lf : Int) (y5 y6 y7 : Option V), σ = [some (.ref a), some (.int k), some (.ref p), some (.ref lh), some (.ref X.w), y5, y6, y7] ∧ Body (arsOf hs) 5 L R ∧ 0 ≤ lf ∧ lf + (L.length : Int) = s.left ∧ WH K X hs H' ⟨(s.ls ++ [Str.ofString "main"]) ++ L, (s.R ++ [none]) ++ R, lf⟩ ∧ Same H H')
      ⟨[], [], s.left, _, _, _, rfl, .nil, hle, by simp, hW5.cast (by simp), s5⟩ ?_ ?_⟩
    · rintro i σ H6 hi ⟨L, R, lf, y5, y6, y7, rfl, b, hf0, hf1, hW6, s6⟩
      refine ⟨_, rfl, _, rfl, _, rfl, _, _, rfl, rfl, _, rfl, _, _, rfl, rfl, a, ns, _, rfl, s6.seq hS, by omega, fun p2 H7 hp2 s7 W7 => ?_⟩
      have le7 : ((((s.ls ++ [Str.ofString "main"]) ++ L).length : Nat) : Int) + lf ≤ 100 := by rw [List.length_append, List.length_append, List.length_singleton]; omega
      refine ⟨X, hs, _, p2, rfl, hW6.same s7, W7, hH, by decide, hf0, le7, fun L2 R2 m2 H8 b2 g0 g1 hW8 mv8 W8 => ?_⟩
      have g1 : m2 + (L2.length : Int) = lf := g1
      exact ⟨L ++ L2, R ++ R2, m2, _, _, _, rfl, .app b b2, g0, by rw [List.length_append]; omega, hW8.cast (by simp), toS (none_before s6 hp2) (s6.trans s7) mv8⟩
    · rintro σ H6 ⟨L, R, lf, y5, y6, y7, rfl, b, hf0, hf1, hW6, s6⟩
      have nd : ((bs.map FnB.ar).map Prod.fst).Nodup := by
        have := hH.2.1
        rw [← hnm] at this
        rw [List.map_map] at this ⊢
        exact this
      have hb4 : bs.length ≤ 4 := by rw [← hnm, List.length_map] at h4; exact h4
      have len60 : ((s.ls ++ [Str.ofString "main"]) ++ L).length ≤ 60 := by rw [List.length_append, List.length_append, List.length_singleton]; omega
      refine ⟨_, rfl, q X hs _ H6 hW6 ⟨⟨bs, L, R, fun x hx => har ▸ hbs x hx, hb4, nd, har ▸ b, ?_, ?_⟩, len60⟩ s6⟩
      · show (s.ls ++ [Str.ofString "main"]) ++ L = _
        rw [hls, List.append_assoc]; rfl
      · show (s.R ++ [none]) ++ R = _
        rw [hR, List.append_assoc]; rfl

end
end K12
namespace K12
open PySem L2 TL
section
variable {P : Program} {w : World} {K : PySem.W.Frag} {mg : Str → Option Value} {base : Heap} {A : Ads}
theorem ok_l_is_name (T : Txt K mg A) : FnOk P w K mg base CX0 1 A.l_is_name A.l_is_name_d ["_law_word"] (spTruthA isNameW) := by
  refine T.F_l_is_name.ok sc_l_is_name (fun vs H Q E h => ?_) (fun cdv A0 outer s H vs Q E hr h => ?_)
  · obtain ⟨s, rfl, hl, hasc, q⟩ := h
    rfl
  obtain ⟨s, rfl, hl, hasc, q⟩ := h
  refine ⟨_, (pss_cons (ps_set (i := 1) sc_l_is_name.nd rfl (Or.inl rfl) pe_str)
   (pss_cons (ps_if (PW.pt (pw_or (pt_not (pt_chain op_le op_le pe_int (pe_callB call_len_str (by rfl) T.z_len (by decide +kernel) (pa_cons (pv 0) pa_nil)) pe_int)) (pw_or1 (pt_cmpR op_in_seq (pv 0) (pe_op op_cat (pe_split (pv 1) pe_str) (pe_lst (pa_cons pe_str (pa_cons pe_str (pa_cons pe_str pa_nil))))) (by rfl)))))
    (pss_one (ps_ret pe_bl))
    pss_nil)
   (pss_one (ps_ret (pe_cmpR (op_eqD hr.units) (pe_lc (own := [("_law_sign", 2)]) (g := gName 2) rfl sc_l_is_name.nd (pi_str (pv 0)) (blkOk_by (own := [("_law_sign", 2)]) (N := N_l_is_name) (sc := defScope s_l_is_name) (by decide +kernel)) (fun _ _ _ _ _ => pg_name (i := 2) sc_l_is_name.nd rfl (Or.inl rfl)) (fun _ _ _ _ _ => pts_one (pt_not (pt_chain op_le_str op_le_str pe_str (pv 2) pe_str))) (fun _ _ _ _ _ => (pv 2))) (pe_lst pa_nil) (nomark _)))))), ?_⟩
  have hs : s.length = (tl s).length := len_tl s
  refine ⟨_, rfl, _, rfl, len_line (by omega), _, _, rfl, rfl, _, rfl, ?_⟩
  refine iteD2 (fun c1 => ?_) (fun c1 => ?_)
  · refine ⟨_, _, rfl, rfl, _, rfl, iteN2 (fun c2 => ?_) (fun c2 => ?_)⟩
    · refine (nameW_false1 (s := s) (Or.inr ?_)) ▸ q _ (Same.refl H)
      omega
    · refine ⟨_, rfl, _, rfl, ⟨_, rfl⟩, _, _, rfl, rfl, (by decide +kernel), (by show _ ≤ sizeLine; decide +kernel), fun l hl' => ?_⟩
      rw [wl_split]
      have s1 := same_new (o := .lst (WL19.map V.str)) hl'
      have g1 := upd_same (H := H) (a := l) (o := .lst (WL19.map V.str))
      refine ⟨by show 3 ≤ sizeLine; decide, fun l2 hl2 => ?_⟩
      have s2 := same_new (o := .lst (WL3.map V.str)) hl2
      refine ⟨l, l2, _, WL3.map V.str, rfl, rfl, s2 _ _ g1, upd_same, by show 22 ≤ sizeLine; decide, fun l3 hl3 => ?_⟩
      have e : WL19.map V.str ++ WL3.map V.str = (WL19 ++ WL3).map V.str := by rw [List.map_append]
      rw [e]
      have s3 := s1.trans (s2.trans (same_new (o := .lst ((WL19 ++ WL3).map V.str)) hl3))
      refine ⟨l3, (WL19 ++ WL3).map V.str, rfl, .inl (SqL.of upd_same), rfl, rfl, _, rfl, ?_⟩
      rw [if_neg Bool.false_ne_true, inV_str]
      refine iteD2 (fun c3 => (nameW_false2 (s := s) (wl_to s c3)) ▸ q _ s3) (fun c3 => ?_)
      refine ⟨_, rfl, s, rfl, fun D hD => lc_it walk_str (fun k H' => H' D = some (.lst (signs (((tl s).take k).filter fun c => !isLow c))) ∧ Same (upd (upd (upd H l (.lst (WL19.map V.str))) l2 (.lst (WL3.map V.str))) l3 (.lst ((WL19 ++ WL3).map V.str))) H') ⟨by rw [upd_same]; rfl, same_new hD⟩ (fun _ _ _ _ => trivial) (by
      rintro k x X1 X2 hk ⟨h1, h2⟩ ⟨rfl, c, hc, rfl⟩
      refine ⟨rfl, ?_⟩
      have e1 : (tl s)[k]? = some c := by rw [← hc]; simp [tl]
      have hkl : k < s.length := hk
      have no : isLow c = true → X2 D = some (.lst (signs (((tl s).take (k + 1)).filter fun c => !isLow c))) := fun hf => by
        rw [h1, List.take_add_one, e1]
        simp [List.filter_append, hf]
      have yes : isLow c = false → ∃ acc, X2 D = some (.lst acc) ∧ acc.length < sizeLine ∧ (upd X2 D (.lst (acc ++ [V.str ⟨#[c]⟩])) D = some (.lst (signs (((tl s).take (k + 1)).filter fun c => !isLow c))) ∧ Same (upd (upd (upd H l (.lst (WL19.map V.str))) l2 (.lst (WL3.map V.str))) l3 (.lst ((WL19 ++ WL3).map V.str))) (upd X2 D (.lst (acc ++ [V.str ⟨#[c]⟩])))) := fun hf => by
        refine ⟨_, h1, ?_, ?_, fun b o e => ?_⟩
        · have q1 := List.length_filter_le (fun c => !isLow c) ((tl s).take k)
          have q2 := List.length_take_le k (tl s)
          have : (signs (((tl s).take k).filter fun c => !isLow c)).length = (((tl s).take k).filter fun c => !isLow c).length := List.length_map _
          rw [this]
          exact Nat.lt_of_lt_of_le (show _ < 16777216 by omega) (by decide)
        · rw [upd_same, List.take_add_one, e1]
          simp [List.filter_append, hf, signs]
        · rw [upd_ne (ne_of_none e hD)]; exact h2 b o e
      refine ⟨_, rfl, _, _, rfl, rfl, _, rfl, ?_⟩
      refine iteN2 (fun g1 => ?_) (fun g1 => ?_)
      · have g1 : ¬ c < 97 := fun h => g1 ((lt_left (n := 97) (by decide +kernel)).mpr h)
        refine ⟨_, _, rfl, rfl, _, rfl, ?_⟩
        by_cases g2 : 122 < c
        · rw [decide_eq_true ((lt_right (n := 122) (by decide +kernel)).mpr g2)]
          exact iteT ⟨_, rfl, yes (by unfold isLow; rw [decide_eq_false (show ¬ c ≤ 122 by omega), Bool.and_false])⟩
        · rw [decide_eq_false (fun h => g2 ((lt_right (n := 122) (by decide +kernel)).mp h))]
          exact iteF ⟨no (by unfold isLow; rw [decide_eq_true (show c ≤ 122 by omega), decide_eq_true (show 97 ≤ c by omega)]; rfl), h2⟩
      · have g1 := (lt_left (n := 97) (by decide +kernel)).mp g1
        exact ⟨_, rfl, iteT ⟨_, rfl, yes (by unfold isLow; rw [decide_eq_false (show ¬ 97 ≤ c by omega)]; rfl)⟩⟩) (by
      rintro X1 ⟨h1, h2⟩
      have hs' : s.cps.size = (tl s).length := by simp [tl]
      rw [hs', List.take_length] at h1
      have asc : ∀ c ∈ (tl s).filter (fun c => !isLow c), c < 128 := fun c hc => hasc c (List.mem_filter.mp hc).1
      refine ⟨by show 0 ≤ sizeLine; decide, fun z hz => ?_⟩
      have sz := same_new (o := .lst []) hz
      refine ⟨.list (((tl s).filter fun c => !isLow c).map fun c => PyData.str ⟨#[c]⟩), .list [], .lst (SqL.of (sz _ _ h1)) (dp_signs _), .lst (SqL.of upd_same) .nil, signs_shaped asc, rfl, ?_⟩
      rw [signs_eqv, filt_empty]
      exact (nameW_true (s := s) (by omega) (by omega) (fun h => c3 (wl_of.1 s h)) (fun h => c3 (wl_of.2.1 s h)) (fun h => c3 (wl_of.2.2 s h))) ▸ q _ (s3.trans (h2.trans sz)))⟩
  · refine ⟨_, rfl, iteT ?_⟩
    refine (nameW_false1 (s := s) (Or.inl ?_)) ▸ q _ (Same.refl H)
    omega

end
end K12
namespace K12
open PySem L2 TL
section
variable {P : Program} {w : World} {K : PySem.W.Frag} {mg : Str → Option Value} {base : Heap} {A : Ads}
theorem ok_l_is_value (T : Txt K mg A) : FnOk P w K mg base CX0 1 A.l_is_value A.l_is_value_d ["_law_word"] (spTruthA isValW) := by
  refine T.F_l_is_value.ok sc_l_is_value (fun vs H Q E h => ?_) (fun cdv A0 outer s H vs Q E hr h => ?_)
  · obtain ⟨s, rfl, hl, hasc, q⟩ := h
    rfl
  obtain ⟨s, rfl, hl, hasc, q⟩ := h
  refine ⟨_, (pss_cons (ps_if (PW.pt (pw_or (pt_cmpR op_eq (pv 0) pe_str (nomark _)) (pw_or1 (pt_cmpR (op_neD hr.units) (pe_lc (own := [("_law_sign", 1)]) (g := gName 1) rfl sc_l_is_value.nd (pi_str (pv 0)) (blkOk_by (own := [("_law_sign", 1)]) (N := N_l_is_value) (sc := defScope s_l_is_value) (by decide +kernel)) (fun _ _ _ _ _ => pg_name (i := 1) sc_l_is_value.nd rfl (Or.inl rfl)) (fun _ _ _ _ _ => pts_one (pt_not (pt_chain op_le_str op_le_str pe_str (pv 1) pe_str))) (fun _ _ _ _ _ => (pv 1))) (pe_lst pa_nil) (nomark _)))))
    (pss_one (ps_ret pe_bl))
    pss_nil)
   (pss_one (ps_ret (pe_and (pe_cmpR op_lt (pe_callB call_len_str (by rfl) T.z_len (by decide +kernel) (pa_cons (pv 0) pa_nil)) pe_int (nomark _)) (pe_one (pe_or (pe_cmpR op_eq (pv 0) pe_str (nomark _)) (pe_one (pe_cmpR op_ne (pe_ix ix_str (pv 0) pe_int (fun _ _ => rfl)) pe_str (nomark _))))))))), ?_⟩
  have hs : s.length = (tl s).length := len_tl s
  refine ⟨_, rfl, rfl, _, rfl, ?_⟩
  refine iteD2 (fun c1 => ?_) (fun c1 => ?_)
  · rw [V.str.inj c1] at q
    exact (show isValW "" = false from by decide +kernel) ▸ q _ (Same.refl H)
  have hp : 1 ≤ (tl s).length := by
    cases e : tl s with
    | nil => exact absurd (congrArg V.str (ext_tl (x := s) (y := "") (by rw [e]; decide +kernel))) c1
    | cons c r => exact Nat.le_add_left _ _
  refine ⟨_, rfl, s, rfl, fun D hD => lc_it walk_str (fun k H' => H' D = some (.lst (signs (((tl s).take k).filter fun c => !isDig c))) ∧ Same H H') ⟨by rw [upd_same]; rfl, same_new hD⟩ (fun _ _ _ _ => trivial) (by
      rintro k x X1 X2 hk ⟨h1, h2⟩ ⟨rfl, c, hc, rfl⟩
      refine ⟨rfl, ?_⟩
      have e1 : (tl s)[k]? = some c := by rw [← hc]; simp [tl]
      have hkl : k < s.length := hk
      have no : isDig c = true → X2 D = some (.lst (signs (((tl s).take (k + 1)).filter fun c => !isDig c))) := fun hf => by
        rw [h1, List.take_add_one, e1]
        simp [List.filter_append, hf]
      have yes : isDig c = false → ∃ acc, X2 D = some (.lst acc) ∧ acc.length < sizeLine ∧ (upd X2 D (.lst (acc ++ [V.str ⟨#[c]⟩])) D = some (.lst (signs (((tl s).take (k + 1)).filter fun c => !isDig c))) ∧ Same H (upd X2 D (.lst (acc ++ [V.str ⟨#[c]⟩])))) := fun hf => by
        refine ⟨_, h1, ?_, ?_, fun b o e => ?_⟩
        · have q1 := List.length_filter_le (fun c => !isDig c) ((tl s).take k)
          have q2 := List.length_take_le k (tl s)
          have : (signs (((tl s).take k).filter fun c => !isDig c)).length = (((tl s).take k).filter fun c => !isDig c).length := List.length_map _
          rw [this]
          exact Nat.lt_of_lt_of_le (show _ < 16777216 by omega) (by decide)
        · rw [upd_same, List.take_add_one, e1]
          simp [List.filter_append, hf, signs]
        · rw [upd_ne (ne_of_none e hD)]; exact h2 b o e
      refine ⟨_, rfl, _, _, rfl, rfl, _, rfl, ?_⟩
      refine iteN2 (fun g1 => ?_) (fun g1 => ?_)
      · have g1 : ¬ c < 48 := fun h => g1 ((lt_left (n := 48) (by decide +kernel)).mpr h)
        refine ⟨_, _, rfl, rfl, _, rfl, ?_⟩
        by_cases g2 : 57 < c
        · rw [decide_eq_true ((lt_right (n := 57) (by decide +kernel)).mpr g2)]
          exact iteT ⟨_, rfl, yes (by unfold isDig; rw [decide_eq_false (show ¬ c ≤ 57 by omega), Bool.and_false])⟩
        · rw [decide_eq_false (fun h => g2 ((lt_right (n := 57) (by decide +kernel)).mp h))]
          exact iteF ⟨no (by unfold isDig; rw [decide_eq_true (show c ≤ 57 by omega), decide_eq_true (show 48 ≤ c by omega)]; rfl), h2⟩
      · have g1 := (lt_left (n := 48) (by decide +kernel)).mp g1
        exact ⟨_, rfl, iteT ⟨_, rfl, yes (by unfold isDig; rw [decide_eq_false (show ¬ 48 ≤ c by omega)]; rfl)⟩⟩) (by
      rintro X1 ⟨h1, h2⟩
      have hs' : s.cps.size = (tl s).length := by simp [tl]
      rw [hs', List.take_length] at h1
      have asc : ∀ c ∈ (tl s).filter (fun c => !isDig c), c < 128 := fun c hc => hasc c (List.mem_filter.mp hc).1
      refine ⟨by show 0 ≤ sizeLine; decide, fun z hz => ?_⟩
      have sz := same_new (o := .lst []) hz
      refine ⟨.list (((tl s).filter fun c => !isDig c).map fun c => PyData.str ⟨#[c]⟩), .list [], .lst (SqL.of (sz _ _ h1)) (dp_signs _), .lst (SqL.of upd_same) .nil, signs_shaped asc, rfl, ?_⟩
      rw [signs_eqv, filt_empty]
      have s0 := h2.trans sz
      refine ⟨_, rfl, ?_⟩
      cases hd : (tl s).all isDig with
      | false =>
        refine iteT ?_
        have e : isValW s = false := by unfold isValW; rw [hd, Bool.and_false]
        rw [e] at q
        exact q _ s0
      | true =>
        refine iteF ?_
        obtain ⟨c, r, hc⟩ : ∃ c r, tl s = c :: r := by
          cases e : tl s with
          | nil => rw [e] at hp; simp at hp
          | cons c r => exact ⟨c, r, rfl⟩
        refine ⟨_, rfl, _, rfl, len_line (by omega), _, _, rfl, rfl, _, rfl, iteD2 (fun g1 => ?_) (fun g1 => ?_)⟩
        · have h6 : (tl s).length ≤ 6 := by omega
          refine ⟨_, rfl, rfl, _, rfl, iteD2 (fun g2 => ?_) (fun g2 => ?_)⟩
          · have e : isValW s = true := by rw [V.str.inj g2]; decide +kernel
            rw [e] at q
            exact q _ s0
          · refine ⟨_, rfl, s, 0, c, rfl, rfl, len_line (by omega), (by show atI (tl s) ((0 : Nat) : Int) = some c; rw [hc]; exact atI_nat rfl), rfl, ?_⟩
            have e : isValW s = !decide (V.str ⟨#[c]⟩ = V.str "0") := by
              by_cases g3 : c = 48
              · subst g3
                rw [valW_false2 (s := s) (by rw [hc]; rfl) (fun e => g2 (congrArg V.str e))]
                decide +kernel
              · rw [valW_true hp h6 (fun e => by rw [hc] at e; exact absurd (Option.some.inj e) g3), hd, decide_eq_false (fun e => g3 ?_)]
                · rfl
                · have := congrArg tl (V.str.inj e)
                  have z : tl (Str.ofString "0") = [48] := by decide +kernel
                  rw [z] at this
                  exact (List.cons.inj this).1
            rw [e] at q
            exact q _ s0
        · have e : isValW s = false := valW_false1 (.inr (by omega))
          rw [e] at q
          exact q _ s0)⟩

end
end K12
namespace K12
open PySem L2 TL
section
variable {P : Program} {w : World} {K : PySem.W.Frag} {mg : Str → Option Value} {base : Heap} {A : Ads}
theorem ok_l_read (T : Txt K mg A) : ∀ n : Nat, FnOk P w K mg base CX0 (n + 3) A.l_read A.l_read_d ["_law_words", "_law_at"] (spLRead K n)
| 0 => fn_none fun vs H Q E h => by
    obtain ⟨_, _, _, _, _, _, _, hd, _⟩ := h; omega
| n + 1 => by
  have G_l_read := ok_l_read T n
  have G_l_is_value := ok_l_is_value (P := P) (w := w) (base := base) T
  have G_l_is_name := ok_l_is_name (P := P) (w := w) (base := base) T
  refine T.F_l_read.ok sc_l_read (fun vs H Q E h => ?_) (fun cdv A0 outer s H vs Q E hr h => ?_)
  · obtain ⟨a, ws, i, rfl, hS, hlen, hws, hdn, q1, q2⟩ := h
    rfl
  obtain ⟨a, ws, i, rfl, hS, hlen, hws, hdn, q1, q2⟩ := h
  refine ⟨_, (pss_cons (ps_if (pt_cmpR op_ge (pv 1) (pe_callB call_lenK (by rfl) T.z_len (by decide +kernel) (pa_cons (pv 0) pa_nil)) (nomark _))
    (pss_one (ps_ret pe_non))
    pss_nil)
   (pss_cons (ps_set (i := 2) sc_l_read.nd rfl (Or.inl rfl) (pe_ix ix_list (pv 0) (pv 1) (fun _ _ => rfl)))
   (pss_cons (ps_if (pt_val (pe_call G_l_is_value (hr.mono (by omega)) rfl T.m_l_is_value T.F_l_is_value.kp T.b_l_is_value .nil pass0 (pa_cons (pv 2) pa_nil)))
    (pss_one (ps_ret (pe_tup (pa_cons (pe_tup (pa_cons pe_str (pa_cons (pe_callTy call_int_str (by rfl) T.z_int (by decide +kernel) (pa_cons (pv 2) pa_nil)) pa_nil))) (pa_cons (pe_op op_add (pv 1) pe_int) (pa_cons pe_int pa_nil))))))
    pss_nil)
   (pss_cons (ps_if (pt_val (pe_call G_l_is_name (hr.mono (by omega)) rfl T.m_l_is_name T.F_l_is_name.kp T.b_l_is_name .nil pass0 (pa_cons (pv 2) pa_nil)))
    (pss_one (ps_ret (pe_tup (pa_cons (pe_tup (pa_cons pe_str (pa_cons (pv 2) pa_nil))) (pa_cons (pe_op op_add (pv 1) pe_int) (pa_cons pe_int pa_nil))))))
    pss_nil)
   (pss_cons (ps_set (i := 3) sc_l_read.nd rfl (Or.inl rfl) (pe_dget2 (hu_of hr) (pe_disp (pps_cons pe_str pe_int (pps_cons pe_str pe_int (pps_cons pe_str pe_int (pps_cons pe_str pe_int (pps_cons pe_str pe_int (pps_cons pe_str pe_int (pps_cons pe_str pe_int (pps_cons pe_str pe_int pps_nil)))))))) (by rfl) (by rfl) (fun z => by cases z) (by decide)) (pv 2) pe_int ⟨by rfl, by rfl, by rfl, by rfl⟩))
   (pss_cons (ps_if (pt_cmpR op_eq (pv 3) pe_int (nomark _))
    (pss_one (ps_ret pe_non))
    pss_nil)
   (pss_cons (ps_set (i := 4) sc_l_read.nd rfl (Or.inl rfl) (pe_tup (pa_cons (pv 2) pa_nil)))
   (pss_cons (ps_set (i := 5) sc_l_read.nd rfl (Or.inl rfl) pe_int)
   (pss_cons (ps_set (i := 1) sc_l_read.nd rfl (Or.inl rfl) (pe_op op_add (pv 1) pe_int))
   (pss_cons (ps_for PassesOwn.never rfl (pi_range1 (by rfl) T.z_range (pa_cons (pv 3) pa_nil)) (pg_name (i := 6) sc_l_read.nd rfl (Or.inl rfl))
    (pss_cons (ps_set (i := 7) sc_l_read.nd rfl (Or.inl rfl) (pe_call G_l_read (hr.mono (by omega)) rfl T.m_l_read T.F_l_read.kp T.b_l_read .nil pass0 (pa_cons (pv 0) (pa_cons (pv 1) pa_nil))))
   (pss_cons (ps_if (pt_cmpR op_isN (pv 7) pe_non (nomark _))
    (pss_one (ps_ret pe_non))
    pss_nil)
   (pss_cons (ps_set (i := 4) sc_l_read.nd rfl (Or.inl rfl) (pe_op op_catT (pv 4) (pe_tup (pa_cons (pe_ix ix_tup (pv 7) pe_int (fun _ _ => rfl)) pa_nil))))
   (pss_cons (ps_set (i := 1) sc_l_read.nd rfl (Or.inl rfl) (pe_ix ix_tup (pv 7) pe_int (fun _ _ => rfl)))
   (pss_one (ps_set (i := 5) sc_l_read.nd rfl (Or.inl rfl) (pe_callB (call_max2 rfl) (by rfl) T.z_max (by decide +kernel) (pa_cons (pv 5) (pa_cons (pe_ix ix_tup (pv 7) pe_int (fun _ _ => rfl)) pa_nil))))))))))
   (pss_one (ps_ret (pe_tup (pa_cons (pv 4) (pa_cons (pv 1) (pa_cons (pe_op op_add pe_int (pv 5)) pa_nil)))))))))))))))), ?_⟩
  refine ⟨_, rfl, _, rfl, a, _, rfl, .inl hS, _, _, rfl, rfl, _, rfl, ?_⟩
  rw [List.length_map]
  refine iteD2 (fun c2 => ?_) (fun c2 => ?_)
  · refine q2 ?_ H (Same.refl H)
    rw [List.drop_eq_nil_of_le (by omega)]
    rfl
  obtain ⟨w1, r1, hw⟩ : ∃ w1 r1, ws.drop i = w1 :: r1 := ⟨_, _, List.drop_eq_getElem_cons (by omega)⟩
  obtain ⟨hi, hat, hdr, hrl, hmem⟩ := at_str hw
  rw [hw] at q1 q2
  obtain ⟨hl1, hasc⟩ := hws _ hmem
  refine ⟨_, rfl, _, rfl, a, _, _, _, rfl, rfl, hS, hat, ?_⟩
  have ei : (i : Int) + 1 = ((i + 1 : Nat) : Int) := by omega
  refine ⟨_, rfl, w1, rfl, hl1, hasc, fun H1 s1 => ⟨_, rfl, iteB2 (fun c3 => ?_) (fun c3 => ?_)⟩⟩
  · rw [parseE_cons, if_pos c3] at q1
    have hv := valW_int c3
    refine ⟨_, rfl, w1, valOf w1, rfl, hv.1, hv.2.1, by show 2 ≤ sizeLine; decide, fun t1 ht1 => ?_⟩
    refine ⟨_, rfl, _, _, rfl, rfl, by show 3 ≤ sizeLine; decide, fun t ht => ?_⟩
    have s2 := same_new (o := .tup [V.str "number", V.int (valOf w1)]) ht1
    refine q1 _ _ rfl t (.ref t1) _ (s1.trans (s2.trans (same_new ht))) ?_ ⟨t1, rfl, (same_new ht) _ _ upd_same⟩
    rw [upd_same, hrl]
    have : ((ws.length - (ws.length - (i + 1)) : Nat) : Int) = (i : Int) + 1 := by omega
    rw [this]; rfl
  refine ⟨_, rfl, w1, rfl, hl1, hasc, fun H2 s2 => ⟨_, rfl, iteB2 (fun c4 => ?_) (fun c4 => ?_)⟩⟩
  · rw [parseE_cons, if_neg (by rw [c3]; decide), if_pos c4] at q1
    refine ⟨_, rfl, by show 2 ≤ sizeLine; decide, fun t1 ht1 => ?_⟩
    refine ⟨_, rfl, _, _, rfl, rfl, by show 3 ≤ sizeLine; decide, fun t ht => ?_⟩
    have s3 := same_new (o := .tup [V.str "box", V.str w1]) ht1
    refine q1 _ _ rfl t (.ref t1) _ (s1.trans (s2.trans (s3.trans (same_new ht)))) ?_ ⟨t1, rfl, (same_new ht) _ _ upd_same⟩
    rw [upd_same, hrl]
    have : ((ws.length - (ws.length - (i + 1)) : Nat) : Int) = (i : Int) + 1 := by omega
    rw [this]; rfl
  rw [parseE_many c3 c4] at q1 q2
  have s12 := s1.trans s2
  refine fun d hd => ?_
  refine ⟨upd_same, KVS, rfl, by decide, ?_⟩
  rw [kvs_merge]
  refine ⟨d, rfl, .inl ⟨_, .inl upd_same⟩, _, rfl, _, DGet.k (k := .inr w1) upd_same, ?_⟩
  rw [kvs_get]
  have s3 : Same H2 (upd (upd H2 d (.dK [])) d (.dK KVS)) := by rw [upd_upd]; exact same_new hd
  revert s3
  generalize upd (upd H2 d (.dK [])) d (.dK KVS) = H3
  intro s3
  have s13 := s12.trans s3
  refine ⟨_, rfl, rfl, _, rfl, iteD2 (fun c5 => ?_) (fun c5 => ?_)⟩
  · have c5 : manyOf w1 = 0 := by have := V.int.inj c5; omega
    rw [c5] at q2
    exact q2 rfl H3 s13
  obtain ⟨m, hm⟩ : ∃ m, manyOf w1 = m + 1 := ⟨manyOf w1 - 1, by
    have : manyOf w1 ≠ 0 := fun e => c5 (by rw [e]; rfl)
    omega⟩
  have hm2 : m + 1 ≤ 2 := by
    rw [← hm]; unfold manyOf
    by_cases g : w1 = "cell"
    · rw [if_pos g]; decide
    · rw [if_neg g]
      by_cases g2 : w1 ∈ PAIRW
      · rw [if_pos g2]; decide
      · rw [if_neg g2]; decide
  rw [hm] at q1 q2 ⊢
  simp only at q1 q2
  refine ⟨_, rfl, by show 1 ≤ sizeLine; decide, fun t0 ht0 => ?_⟩
  have s4 := s13.trans (same_new (o := .tup [V.str w1]) ht0)
  refine ⟨_, rfl, _, _, rfl, rfl, ?_⟩
  refine ⟨_, rfl, ((m + 1 : Nat) : Int), rfl, by omega, by omega, for_range (n := ((m + 1 : Nat) : Int).toNat) (fun k σ H' => ∃ (es : List Ex) (j : Nat) (t : Addr) (vs : List V) (v6 v7 : Option V), parseK n k r1 = some (es, ws.drop j) ∧ i + 1 ≤ j ∧ j ≤ ws.length ∧
      σ = [some (.ref a), some (.int j), some (.str w1), some (.int ((m + 1 : Nat) : Int)), some (.ref t), some (.int (dmax es : Nat)), v6, v7] ∧ Same H H' ∧ H' t = some (.tup (.str w1 :: vs)) ∧ All2 (ToldE K H') es vs)
    ⟨[], i + 1, t0, [], none, none, by rw [hdr]; rfl, Nat.le_refl _, by omega, by rw [← ei]; rfl, s4, upd_same, .nil⟩ ?_ ?_⟩
  · rintro k σ X1 hk ⟨es, j, t, vs, v6, v7, hp, hj1, hj2, rfl, sx, ht, ha⟩
    have hk' : k < m + 1 := by omega
    have hln := parseK_len hp
    have hal := ha.length
    refine ⟨_, rfl, _, rfl, a, ws, j, rfl, sx.seq hS, hlen, hws, by omega, fun e r pe t2 v X2 s5 ht2 hv => ?_, fun pe X2 s5 => ?_⟩
    · have pa := parse_at pe
      refine ⟨_, rfl, rfl, _, rfl, iteDF (by simp) ?_⟩
      refine ⟨_, rfl, _, rfl, t2, _, _, _, rfl, rfl, SqT.of ht2, rfl, by show 1 ≤ sizeLine; decide, fun t3 ht3 => ?_⟩
      have s6 := same_new (o := .tup [v]) ht3
      refine ⟨t, t3, _, _, rfl, rfl, SqT.of (s6 _ _ (s5 _ _ ht)), SqT.of upd_same, by simp, by show vs.length + 1 + 1 ≤ sizeLine; exact sizeL2 (by omega), (fun h => by cases h), fun _ t4 ht4 => ?_⟩
      have s7 := same_new (o := .tup ((V.str w1 :: vs) ++ [v])) ht4
      have s57 := s5.trans (s6.trans s7)
      refine ⟨_, rfl, t2, _, _, _, rfl, rfl, SqT.of ((s6.trans s7) _ _ ht2), rfl, ?_⟩
      refine ⟨_, rfl, _, rfl, t2, _, _, _, rfl, rfl, SqT.of ((s6.trans s7) _ _ ht2), rfl, _, _, rfl, ?_⟩
      refine ⟨es ++ [e], ws.length - r.length, t4, vs ++ [v], some (.int (0 + (k : Int))), some (.ref t2), ?_, by omega, pa.2.1, ?_, sx.trans s57, upd_same, (ha.mono fun e v h => h.same s57).snoc (hv.same (s6.trans s7))⟩
      · show (match parseK n k r1 with | none => none | some (es, r) => match parseE n r with | none => none | some (e, r2) => some (es ++ [e], r2)) = _
        rw [hp]
        show (match parseE n (ws.drop j) with | none => none | some (e, r2) => some (es ++ [e], r2)) = _
        rw [pe, pa.2.2]
      · rw [dmax_snoc]
        have em : (if ((e.depth : Nat) : Int) > ((dmax es : Nat) : Int) then ((e.depth : Nat) : Int) else ((dmax es : Nat) : Int)) = ((max (dmax es) e.depth : Nat) : Int) := by split <;> omega
        rw [← em]; rfl
    · refine ⟨_, rfl, rfl, _, rfl, iteDT rfl ?_⟩
      have hn : parseK n (k + 1) r1 = none := by
        show (match parseK n k r1 with | none => none | some (es, r) => match parseE n r with | none => none | some (e, r2) => some (es ++ [e], r2)) = _
        rw [hp]
        show (match parseE n (ws.drop j) with | none => none | some (e, r2) => some (es ++ [e], r2)) = _
        rw [pe]
      have hn2 := parseK_none hn (m - k)
      rw [show k + 1 + (m - k) = m + 1 by omega] at hn2
      rw [hn2] at q2
      exact q2 rfl X2 (sx.trans s5)
  · rintro σ X1 ⟨es, j, t, vs, v6, v7, hp, hj1, hj2, rfl, sx, ht, ha⟩
    rw [Int.toNat_natCast] at hp
    have hln := parseK_len hp
    rw [hp] at q1
    refine ⟨_, rfl, _, rfl, _, rfl, _, _, rfl, rfl, by show 3 ≤ sizeLine; decide, fun t5 ht5 => ?_⟩
    have s5 := same_new (o := .tup [V.ref t, V.int (j : Nat), V.int (1 + (dmax es : Nat))]) ht5
    have hjj : ws.length - (ws.drop j).length = j := by rw [List.length_drop]; omega
    have hmm : m = 0 ∨ m = 1 := by omega
    rcases hmm with rfl | rfl
    · obtain ⟨e, rfl⟩ : ∃ e, es = [e] := by
        match es, hln with
        | [e], _ => exact ⟨e, rfl⟩
      cases ha with
      | cons h1 hn =>
        cases hn
        have g : w1 = "cell" := by
          unfold manyOf at hm
          by_cases g : w1 = "cell"
          · exact g
          · rw [if_neg g] at hm
            by_cases g2 : w1 ∈ PAIRW
            · rw [if_pos g2] at hm; omega
            · rw [if_neg g2] at hm; omega
        subst g
        refine q1 (.cell e) _ rfl t5 (.ref t) _ (sx.trans s5) ?_ ⟨t, _, rfl, s5 _ _ ht, h1.same s5⟩
        rw [upd_same, hjj]
        have : (1 : Int) + ((dmax [e] : Nat) : Int) = (((Ex.cell e).depth : Nat) : Int) := by show (1 : Int) + ((max 0 e.depth : Nat) : Int) = ((e.depth + 1 : Nat) : Int); omega
        show some (HO.tup [V.ref t, V.int (j : Nat), V.int (1 + (dmax [e] : Nat))]) = _
        rw [this]
    · obtain ⟨e1, e2, rfl⟩ : ∃ e1 e2, es = [e1, e2] := by
        match es, hln with
        | [e1, e2], _ => exact ⟨e1, e2, rfl⟩
      cases ha with
      | cons h1 hn =>
        cases hn with
        | cons h2 hn =>
          cases hn
          refine q1 (.two w1 e1 e2) _ rfl t5 (.ref t) _ (sx.trans s5) ?_ ⟨t, _, _, rfl, s5 _ _ ht, h1.same s5, h2.same s5⟩
          rw [upd_same, hjj]
          have : (1 : Int) + ((dmax [e1, e2] : Nat) : Int) = (((Ex.two w1 e1 e2).depth : Nat) : Int) := by show (1 : Int) + ((max (max 0 e1.depth) e2.depth : Nat) : Int) = ((max e1.depth e2.depth + 1 : Nat) : Int); omega
          show some (HO.tup [V.ref t, V.int (j : Nat), V.int (1 + (dmax [e1, e2] : Nat))]) = _
          rw [this]

end
end K12
namespace K12
open PySem L2 TL
section
variable {P : Program} {w : World} {K : PySem.W.Frag} {mg : Str → Option Value} {base : Heap} {A : Ads}
theorem ok_l_many (T : Txt K mg A) : FnOk P w K mg base CX0 164 A.l_many A.l_many_d ["_law_words"] (spLMany K) := by
  have G_l_read := ok_l_read (P := P) (w := w) (base := base) T 160
  have G_l_parts := ok_l_parts (P := P) (w := w) (base := base) T 7
  refine T.F_l_many.ok sc_l_many (fun vs H Q E h => ?_) (fun cdv A0 outer s H vs Q E hr h => ?_)
  · obtain ⟨a, ws, rfl, hS, hws, q1, q2⟩ := h
    rfl
  obtain ⟨a, ws, rfl, hS, hws, q1, q2⟩ := h
  refine ⟨_, (pss_cons (ps_set (i := 1) sc_l_many.nd rfl (Or.inl rfl) pe_int)
   (pss_cons (ps_set (i := 2) sc_l_many.nd rfl (Or.inl rfl) pe_int)
   (pss_cons (ps_while PassesOwn.never (pt_cmpR op_lt (pv 2) (pe_callB call_lenK (by rfl) T.z_len (by decide +kernel) (pa_cons (pv 0) pa_nil)) (nomark _))
    (pss_cons (ps_set (i := 3) sc_l_many.nd rfl (Or.inl rfl) (pe_call G_l_read (hr.mono (by decide)) rfl T.m_l_read T.F_l_read.kp T.b_l_read .nil pass0 (pa_cons (pv 0) (pa_cons (pv 2) pa_nil))))
   (pss_cons (ps_if (PW.pt (pw_or (pt_cmpR op_isN (pv 3) pe_non (nomark _)) (pw_or (pt_cmpR op_gt (pe_ix ix_tup (pv 3) pe_int (fun _ _ => rfl)) pe_int (nomark _)) (pw_or1 (pt_cmpR op_gt (pe_call G_l_parts (hr.mono (by decide)) rfl T.m_l_parts T.F_l_parts.kp T.b_l_parts .nil pass0 (pa_cons (pe_ix ix_tup (pv 3) pe_int (fun _ _ => rfl)) pa_nil)) pe_int (nomark _))))))
    (pss_one (ps_ret pe_non))
    pss_nil)
   (pss_cons (ps_set (i := 2) sc_l_many.nd rfl (Or.inl rfl) (pe_ix ix_tup (pv 3) pe_int (fun _ _ => rfl)))
   (pss_one (ps_set (i := 1) sc_l_many.nd rfl (Or.inl rfl) (pe_op op_add (pv 1) pe_int)))))))
   (pss_one (ps_ret (pv 1)))))), ?_⟩
  refine while_m (fun m σ H' => ∃ (i : Nat) (pre : List Ex) (z : Option V), σ = [some (.ref a), some (.int (pre.length : Nat)), some (.int (i : Nat)), z] ∧ m = ws.length - i ∧ i ≤ ws.length ∧ Same H H' ∧ exL ws = (exL (ws.drop i)).map (pre ++ ·))
    ws.length ⟨0, [], none, rfl, rfl, Nat.zero_le _, Same.refl H, by rw [List.drop_zero]; cases exL ws <;> rfl⟩ ?_
  rintro m σ H1 ⟨i, pre, z, rfl, rfl, hi, s1, he⟩
  have hw1 := hws.1
  refine ⟨_, rfl, _, rfl, a, _, rfl, .inl (s1.seq hS), _, _, rfl, rfl, _, rfl, ?_⟩
  rw [List.length_map]
  refine iteD2 (fun c1 => ?_) (fun c1 => ?_)
  rotate_left
  · rw [List.drop_eq_nil_of_le (by omega), exL_nil] at he
    have he' : exL ws = some pre := by rw [he]; show some (pre ++ []) = _; rw [List.append_nil]
    exact ⟨_, rfl, q1 pre he' H1 s1⟩
  have hil : i < ws.length := by omega
  have hne : ws.drop i ≠ [] := fun e => by have := congrArg List.length e; rw [List.length_drop] at this; simp at this; omega
  rw [exL_step hne] at he
  refine ⟨fun σ' H' => ∃ (i' : Nat) (pre' : List Ex) (z' : Option V), i < i' ∧ i' ≤ ws.length ∧ σ' = [some (.ref a), some (.int (pre'.length : Nat)), some (.int (i' : Nat)), z'] ∧ Same H H' ∧ exL ws = (exL (ws.drop i')).map (pre' ++ ·),
    fun σ' H' ⟨i', pre', z', g1, g2, hσ, s', he'⟩ => ⟨ws.length - i', by omega, i', pre', z', hσ, rfl, g2, s', he'⟩, ?_⟩
  refine ⟨_, rfl, _, rfl, a, ws, i, rfl, s1.seq hS, by omega, fun w hw => (hws.2 w hw).b, by omega, fun e r pe t v H2 s2 ht hv => ?_, fun pe H2 s2 => ?_⟩
  rotate_left
  · refine ⟨_, rfl, rfl, _, rfl, iteDT rfl ?_⟩
    rw [big_none (by decide) pe] at he
    exact q2 he H2 (s1.trans s2)
  have pw := parse_wf pe
  have s12 := s1.trans s2
  refine ⟨_, rfl, rfl, _, rfl, iteDF (by simp) ?_⟩
  refine ⟨_, rfl, t, _, _, _, rfl, rfl, SqT.of ht, rfl, _, _, rfl, rfl, _, rfl, iteD2 (fun c2 => ?_) (fun c2 => ?_)⟩
  · rw [big_deep (by decide) pe (by omega)] at he
    exact q2 he H2 s12
  rw [big_some pe (by omega)] at he
  simp only at he
  refine ⟨_, rfl, t, _, _, _, rfl, rfl, SqT.of ht, rfl, e, v, rfl, hv, pw.1, by omega, fun H3 s3 => ?_⟩
  refine ⟨_, _, rfl, rfl, _, rfl, iteD2 (fun c3 => ?_) (fun c3 => ?_)⟩
  · rw [if_neg (by omega)] at he
    exact q2 he H3 (s12.trans s3)
  rw [if_pos (by omega)] at he
  refine ⟨_, rfl, t, _, _, _, rfl, rfl, SqT.of (s3 _ _ ht), rfl, _, rfl, _, _, rfl, rfl, ?_⟩
  have hr : ws.drop (ws.length - r.length) = r := by
    have h1 := pw.2.2
    have h2 := congrArg List.length h1
    rw [List.length_drop, List.length_append] at h2
    have h3 : ws.length - r.length = i + e.toks.length := by omega
    rw [h3, ← List.drop_drop, h1, List.drop_left]
  have hlt : i < ws.length - r.length := by
    have h2 := congrArg List.length pw.2.2
    rw [List.length_drop, List.length_append, e.toks_len] at h2
    have := e.parts_pos
    omega
  refine ⟨ws.length - r.length, pre ++ [e], some (.ref t), hlt, by omega, ?_, s12.trans s3, ?_⟩
  · rw [List.length_append]; rfl
  · rw [he, hr]
    cases exL r with
    | none => rfl
    | some es => show some (pre ++ (e :: es)) = some ((pre ++ [e]) ++ es); rw [List.append_assoc]; rfl

end
end K12
namespace K12
open PySem L2 TL
section
variable {P : Program} {w : World} {K : PySem.W.Frag} {mg : Str → Option Value} {base : Heap} {A : Ads}
theorem ok_l_is_simple (T : Txt K mg A) : FnOk P w K mg base CX0 165 A.l_is_simple A.l_is_simple_d ["_law_words"] (spLSimp K) := by
  have G_l_is_name := ok_l_is_name (P := P) (w := w) (base := base) T
  have G_l_many := ok_l_many (P := P) (w := w) (base := base) T
  refine T.F_l_is_simple.ok sc_l_is_simple (fun vs H Q E h => ?_) (fun cdv A0 outer s H vs Q E hr h => ?_)
  · obtain ⟨a, ws, rfl, hS, hws, hne, hsw, q⟩ := h
    rfl
  obtain ⟨a, ws, rfl, hS, hws, hne, hsw, q⟩ := h
  refine ⟨_, (pss_cons (ps_set (i := 1) sc_l_is_simple.nd rfl (Or.inl rfl) (pe_dget2 (hu_of hr) (pe_disp (pps_cons pe_str pe_int (pps_cons pe_str pe_int (pps_cons pe_str pe_int pps_nil))) (by rfl) (by rfl) (fun z => by cases z) (by decide)) (pe_ix ix_list (pv 0) pe_int (fun _ _ => rfl)) pe_int ⟨by rfl, by rfl, by rfl, by rfl⟩))
   (pss_cons (ps_if (pt_cmpR op_eq (pe_ix ix_list (pv 0) pe_int (fun _ _ => rfl)) pe_str (nomark _))
    (pss_one (ps_ret (pe_cmpR op_eq (pe_callB call_lenK (by rfl) T.z_len (by decide +kernel) (pa_cons (pv 0) pa_nil)) pe_int (nomark _))))
    pss_nil)
   (pss_cons (ps_if (PW.pt (pw_or (pt_cmpR (op_neD hr.units) (pe_lc (own := [("_law_word", 2)]) (g := gName 2) rfl sc_l_is_simple.nd (pi_list (pe_slice sl_list (pv 0) (po_some pe_int) (po_some (pe_op op_add pe_int (pv 1))))) (blkOk_by (own := [("_law_word", 2)]) (N := N_l_is_simple) (sc := defScope s_l_is_simple) (by decide +kernel)) (fun _ _ _ _ _ => pg_name (i := 2) sc_l_is_simple.nd rfl (Or.inl rfl)) (fun _ _ _ _ _ => pts_one (pt_not (pt_val (pe_call G_l_is_name (hr.mono (by decide)) rfl T.m_l_is_name T.F_l_is_name.kp T.b_l_is_name .nil pass0 (pa_cons (pv 2) pa_nil))))) (fun _ _ _ _ _ => (pv 2))) (pe_lst pa_nil) (nomark _)) (pw_or1 (pt_cmpR op_lt (pe_callB call_lenK (by rfl) T.z_len (by decide +kernel) (pa_cons (pv 0) pa_nil)) (pe_op op_add pe_int (pv 1)) (nomark _)))))
    (pss_one (ps_ret pe_bl))
    pss_nil)
   (pss_one (ps_ret (pe_cmpR op_eq (pe_call G_l_many (hr.mono (by decide)) rfl T.m_l_many T.F_l_many.kp T.b_l_many .nil pass0 (pa_cons (pe_slice sl_list (pv 0) (po_some (pe_op op_add pe_int (pv 1))) po_none) pa_nil)) (pe_dget2 (hu_of hr) (pe_disp (pps_cons pe_str pe_int (pps_cons pe_str pe_int pps_nil)) (by rfl) (by rfl) (fun z => by cases z) (by decide)) (pe_ix ix_list (pv 0) pe_int (fun _ _ => rfl)) pe_int ⟨by rfl, by rfl, by rfl, by rfl⟩) (nomark _))))))), ?_⟩
  have at0 := at_hd0 hne
  have hw1 := hws.1
  refine fun d hd => ?_
  refine ⟨upd_same, KV3, rfl, by decide, ?_⟩
  rw [kv3_merge]
  have s1 : Same H (upd (upd H d (.dK [])) d (.dK KV3)) := by rw [upd_upd]; exact same_new hd
  have g1 : upd (upd H d (.dK [])) d (.dK KV3) d = some (.dK KV3) := upd_same
  revert s1 g1
  generalize upd (upd H d (.dK [])) d (.dK KV3) = H1
  intro s1 g1
  have hS1 := s1.seq hS
  refine ⟨d, rfl, .inl ⟨_, .inl g1⟩, _, rfl, a, _, _, _, rfl, rfl, hS1, at0, _, DGet.k (k := .inr (hd0 ws)) g1, ?_⟩
  rw [kv3_get]
  have wsl : (ws.map V.str).length = ws.length := List.length_map _
  refine ⟨_, rfl, a, _, _, _, rfl, rfl, hS1, at0, rfl, _, rfl, iteD2 (fun c1 => ?_) (fun c1 => ?_)⟩
  · have hq := q H1 s1
    rw [simp_skip (V.str.inj c1)] at hq
    refine ⟨_, rfl, a, _, rfl, .inl hS1, rfl, ?_⟩
    have e : decide (V.int ((ws.map V.str).length : Nat) = V.int 1) = decide (ws.length = 1) := by
      rw [wsl]
      exact decide_eq_decide.mpr ⟨fun e => by have := V.int.inj e; omega, fun e => by rw [e]; rfl⟩
    rw [← e] at hq
    exact hq
  have hb := simpB_eq hne hsw (fun e => c1 (congrArg V.str e))
  unfold simpB at hb
  generalize hk : namesN (hd0 ws) = k at hb ⊢
  have hk2 : k ≤ 2 := by
    rw [← hk]; unfold namesN
    split
    · decide
    split
    · decide
    split <;> decide
  refine ⟨_, rfl, 1, rfl, _, rfl, _, _, rfl, rfl, _, rfl, a, _, rfl, hS1, fun l2 hl2 => ?_⟩
  have hcm : cutV (ws.map V.str) (some 1) (some ((1 : Int) + (k : Int))) = ((ws.drop 1).take k).map V.str := by
    rw [show (1 : Int) + (k : Int) = ((1 + k : Nat) : Int) from by omega, show ((1 : Int) = ((1 : Nat) : Int)) from rfl, cut_mid, show 1 + k - 1 = k from by omega]
  rw [hcm]
  have s2 := same_new (o := .lst (((ws.drop 1).take k).map V.str)) hl2
  have g2 := upd_same (H := H1) (a := l2) (o := .lst (((ws.drop 1).take k).map V.str))
  generalize hG2 : upd H1 l2 _ = H2 at s2 g2 ⊢
  have sub : ∀ x ∈ (ws.drop 1).take k, WordOk x := fun x hx => hws.2 x (List.mem_of_mem_drop (List.mem_of_mem_take hx))
  have hln : ((ws.drop 1).take k).length < 16777216 := by rw [List.length_take]; omega
  refine ⟨l2, rfl, ⟨_, SqL.of g2⟩, fun D hD => lc_filter (fun s => !isNameW s) walk_list hD hln (fun H' s' => SqL.of (s' _ _ g2)) ?_ ?_ ?_⟩
  · intro x hx H3 Z s3 z
    exact ⟨_, rfl, x, rfl, (sub x hx).b.1, (sub x hx).b.2, fun H4 s4 => ⟨isNameW x, rfl, z H4 s4⟩⟩
  · intro x hx H3 Z z
    exact ⟨_, rfl, z⟩
  · intro H3 s3 hD3
    refine ⟨by show 0 ≤ sizeLine; decide, fun z hz => ?_⟩
    have sz := same_new (o := .lst ([] : List V)) hz
    have cod : Codes (((ws.drop 1).take k).filter fun s => !isNameW s) := fun x hx => strOk_ascii (sub x (List.mem_filter.mp hx).1).2
    refine ⟨strsD (((ws.drop 1).take k).filter fun s => !isNameW s), .list [], .lst (SqL.of (sz _ _ hD3)) (dp_strs _), .lst (SqL.of upd_same) .nil, strs_shaped cod, rfl, _, rfl, ?_⟩
    rw [show PyData.eqv (strsD (((ws.drop 1).take k).filter fun s => !isNameW s)) (.list []) = decide (((ws.drop 1).take k).filter (fun s => !isNameW s) = []) from strs_eqv _ []]
    generalize hG3 : upd H3 z _ = H4 at sz ⊢
    have s14 := (s1.trans s2).trans (s3.trans sz)
    have hS4 := s14.seq hS
    refine iteN2 (fun c2 => ?_) (fun c2 => ?_)
    · have hq := q H4 s14
      rw [hb, ← filt_all, decide_eq_false c2, Bool.false_and] at hq
      exact hq
    rw [← filt_all, decide_eq_true c2, Bool.true_and] at hb
    refine ⟨_, rfl, a, _, rfl, .inl hS4, _, rfl, _, _, rfl, rfl, _, _, rfl, rfl, _, rfl, ?_⟩
    rw [wsl]
    refine iteD2 (fun c3 => ?_) (fun c3 => ?_)
    · have hq := q H4 s14
      rw [hb, decide_eq_false (by omega), Bool.false_and] at hq
      exact hq
    rw [decide_eq_true (by omega), Bool.true_and] at hb
    refine ⟨_, rfl, _, rfl, _, _, rfl, rfl, _, rfl, a, _, rfl, hS4, fun l5 hl5 => ?_⟩
    have hcd : cutV (ws.map V.str) (some ((1 : Int) + (k : Int))) none = (ws.drop (1 + k)).map V.str := by
      rw [show (1 : Int) + (k : Int) = ((1 + k : Nat) : Int) from by omega, cut_drop]
    rw [hcd]
    have s5 := same_new (o := .lst ((ws.drop (1 + k)).map V.str)) hl5
    refine ⟨l5, ws.drop (1 + k), rfl, SqL.of upd_same, hws.drop _, fun es he H6 s6 => ?_, fun he H6 s6 => ?_⟩
    · replace hb : (simpleF ws).isSome = decide (es.length = expN (hd0 ws)) := by rw [he] at hb; exact hb
      refine fun d2 hd2 => ?_
      refine ⟨upd_same, KV2, rfl, by decide, ?_⟩
      rw [kv2_merge]
      have s7 : Same H6 (upd (upd H6 d2 (.dK [])) d2 (.dK KV2)) := by rw [upd_upd]; exact same_new hd2
      have s17 := ((s14.trans s5).trans s6).trans s7
      refine ⟨d2, rfl, .inl ⟨_, .inl upd_same⟩, _, rfl, a, _, _, _, rfl, rfl, s17.seq hS, at0, _, DGet.k (k := .inr (hd0 ws)) upd_same, ?_⟩
      rw [kv2_get]
      refine ⟨rfl, ?_⟩
      have hq := q _ s17
      rw [hb] at hq
      have e : decide (V.int (es.length : Nat) = V.int (expN (hd0 ws) : Nat)) = decide (es.length = expN (hd0 ws)) := decide_eq_decide.mpr ⟨fun e => by have := V.int.inj e; omega, fun e => by rw [e]⟩
      rw [← e] at hq
      exact hq
    · replace hb : (simpleF ws).isSome = false := by rw [he] at hb; exact hb
      refine fun d2 hd2 => ?_
      refine ⟨upd_same, KV2, rfl, by decide, ?_⟩
      rw [kv2_merge]
      have s7 : Same H6 (upd (upd H6 d2 (.dK [])) d2 (.dK KV2)) := by rw [upd_upd]; exact same_new hd2
      have s17 := ((s14.trans s5).trans s6).trans s7
      refine ⟨d2, rfl, .inl ⟨_, .inl upd_same⟩, _, rfl, a, _, _, _, rfl, rfl, s17.seq hS, at0, _, DGet.k (k := .inr (hd0 ws)) upd_same, ?_⟩
      rw [kv2_get]
      refine ⟨rfl, ?_⟩
      have hq := q _ s17
      rw [hb] at hq
      have e : decide (V.non = V.int (expN (hd0 ws) : Nat)) = false := decide_eq_false (fun e => by cases e)
      rw [← e] at hq
      exact hq

end
end K12
namespace K12
open PySem L2 TL
section
variable {P : Program} {w : World} {K : PySem.W.Frag} {mg : Str → Option Value} {base : Heap} {A : Ads}
theorem ok_l_call (T : Txt K mg A) : FnOk P w K mg base CX0 165 A.l_call A.l_call_d ["_law_words", "_law_calls"] (spLCall) := by
  have G_l_is_name := ok_l_is_name (P := P) (w := w) (base := base) T
  have G_l_many := ok_l_many (P := P) (w := w) (base := base) T
  refine T.F_l_call.ok sc_l_call (fun vs H Q E h => ?_) (fun cdv A0 outer s H vs Q E hr h => ?_)
  · obtain ⟨a, cl, ws, cs, os, rfl, ha, hacl, hws, hne, hcl, hcs, hos, q1, q2⟩ := h
    rfl
  obtain ⟨a, cl, ws, cs, os, rfl, ha, hacl, hws, hne, hcl, hcs, hos, q1, q2⟩ := h
  refine ⟨_, (pss_cons (ps_if (PW.pt (pw_or (pt_cmpR op_lt (pe_callB call_lenK (by rfl) T.z_len (by decide +kernel) (pa_cons (pv 0) pa_nil)) pe_int (nomark _)) (pw_or (pt_not (pt_val (pe_call G_l_is_name (hr.mono (by decide)) rfl T.m_l_is_name T.F_l_is_name.kp T.b_l_is_name .nil pass0 (pa_cons (pe_ix ix_list (pv 0) pe_int (fun _ _ => rfl)) pa_nil)))) (pw_or1 (pt_not (pt_val (pe_call G_l_is_name (hr.mono (by decide)) rfl T.m_l_is_name T.F_l_is_name.kp T.b_l_is_name .nil pass0 (pa_cons (pe_ix ix_list (pv 0) pe_int (fun _ _ => rfl)) pa_nil))))))))
    (pss_one (ps_ret pe_bl))
    pss_nil)
   (pss_cons (ps_expr (pe_bm PySem.F.plainAttrs_list PySem.F.slot_list_append PySem.F.type_list_append mt_append (pv 1) (pa_cons (pe_tup (pa_cons (pe_ix ix_list (pv 0) pe_int (fun _ _ => rfl)) (pa_cons (pe_call G_l_many (hr.mono (by decide)) rfl T.m_l_many T.F_l_many.kp T.b_l_many .nil pass0 (pa_cons (pe_slice sl_list (pv 0) (po_some pe_int) po_none) pa_nil)) pa_nil))) pa_nil)))
   (pss_one (ps_ret (pe_cmpR op_notN (pe_ix ix_tup (pe_ix ix_list (pv 1) (pe_un un_neg pe_int) (fun _ _ => rfl)) pe_int (fun _ _ => rfl)) pe_non (nomark _)))))), ?_⟩
  have wsl : (ws.map V.str).length = ws.length := List.length_map _
  unfold callF at q1 q2
  refine ⟨_, rfl, a, _, rfl, .inl (SqL.of ha), _, _, rfl, rfl, _, rfl, ?_⟩
  rw [wsl]
  refine iteD2 (fun c1 => ?_) (fun c1 => ?_)
  · refine q2 (if_neg fun e => ?_) H os (keepL_same (Same.refl H)) hcl
    have e := (names_len e).1
    rw [List.length_take, List.length_drop] at e
    omega
  have hl : 3 ≤ ws.length := by omega
  rw [names2 hl] at q1 q2
  refine ⟨_, rfl, a, _, _, _, rfl, rfl, SqL.of ha, wd_at (i := 1) (by omega), wd ws 1, rfl, (hws.2 _ (wd_mem (by omega))).b.1, (hws.2 _ (wd_mem (by omega))).b.2, fun H1 s1 => ⟨_, rfl, ?_⟩⟩
  cases n1 : isNameW (wd ws 1) with
  | false =>
    rw [n1] at q2
    exact iteT (q2 (if_neg (by rw [Bool.false_and]; decide)) H1 os (keepL_same s1) (s1 _ _ hcl))
  | true =>
    rw [n1, Bool.true_and] at q1 q2
    refine iteF ?_
    refine ⟨_, rfl, a, _, _, _, rfl, rfl, SqL.of (s1 _ _ ha), wd_at (i := 2) (by omega), wd ws 2, rfl, (hws.2 _ (wd_mem (by omega))).b.1, (hws.2 _ (wd_mem (by omega))).b.2, fun H2 s2 => ⟨_, rfl, ?_⟩⟩
    have s12 := s1.trans s2
    cases n2 : isNameW (wd ws 2) with
    | false =>
      rw [n2] at q2
      exact iteT (q2 (if_neg (by decide)) H2 os (keepL_same s12) (s12 _ _ hcl))
    | true =>
      rw [n2] at q1 q2
      rw [if_pos rfl] at q2
      simp only [if_pos rfl] at q1
      refine iteF ?_
      refine ⟨_, rfl, .inl ⟨rfl, _, SqL.of (s12 _ _ hcl)⟩, _, rfl, a, _, _, _, rfl, rfl, SqL.of (s12 _ _ ha), wd_at (i := 2) (by omega), _, rfl, 3, rfl, a, _, rfl, SqL.of (s12 _ _ ha), fun l3 hl3 => ?_⟩
      have hcd : cutV (ws.map V.str) (some 3) none = (ws.drop 3).map V.str := cut_drop (i := 3)
      rw [hcd]
      have s3 := same_new (o := .lst ((ws.drop 3).map V.str)) hl3
      refine ⟨l3, ws.drop 3, rfl, SqL.of upd_same, hws.drop 3, fun es he H4 s4 => ?_, fun he H4 s4 => ?_⟩
      · rw [he] at q1
        refine ⟨by show 2 ≤ sizeLine; decide, fun t ht => ?_⟩
        have s5 := same_new (o := .tup [V.str (wd ws 2), V.int (es.length : Nat)]) ht
        have s25 := ((s12.trans s3).trans s4).trans s5
        have hcl5 := s25 _ _ hcl
        refine ⟨cl, _, _, rfl, rfl, hcl5, Nat.lt_of_le_of_lt hos (by decide), ?_⟩
        have tcl : t ≠ cl := fun e => by rw [← e] at hcl5; rw [upd_same] at hcl5; cases hcl5
        have kk : KeepL [cl] H (upd (upd H4 t (.tup [V.str (wd ws 2), V.int (es.length : Nat)])) cl (.lst (os ++ [.ref t]))) := keepL_trans (keepL_same s25) keepL_upd
        have gt : upd (upd H4 t (.tup [V.str (wd ws 2), V.int (es.length : Nat)])) cl (.lst (os ++ [.ref t])) t = some (.tup [V.str (wd ws 2), V.int (es.length : Nat)]) := by rw [upd_ne tcl]; exact upd_same
        refine ⟨_, rfl, _, rfl, cl, _, _, _, rfl, rfl, SqL.of upd_same, atI_last, ?_⟩
        refine ⟨t, _, _, _, rfl, rfl, SqT.of gt, rfl, ?_⟩
        refine ⟨rfl, ?_⟩
        rw [decide_eq_false (fun e => by cases e)]
        exact q1 _ _ _ rfl _ _ kk upd_same ((CallsV.keep kk hcl hcs).snoc ⟨t, rfl, strOk_word (hws.2 _ (wd_mem (by omega))), gt⟩) (by rw [List.length_append]; rfl)
      · rw [he] at q2
        refine ⟨by show 2 ≤ sizeLine; decide, fun t ht => ?_⟩
        have s5 := same_new (o := .tup [V.str (wd ws 2), V.non]) ht
        have s25 := ((s12.trans s3).trans s4).trans s5
        have hcl5 := s25 _ _ hcl
        refine ⟨cl, _, _, rfl, rfl, hcl5, Nat.lt_of_le_of_lt hos (by decide), ?_⟩
        have tcl : t ≠ cl := fun e => by rw [← e] at hcl5; rw [upd_same] at hcl5; cases hcl5
        have kk : KeepL [cl] H (upd (upd H4 t (.tup [V.str (wd ws 2), V.non])) cl (.lst (os ++ [.ref t]))) := keepL_trans (keepL_same s25) keepL_upd
        have gt : upd (upd H4 t (.tup [V.str (wd ws 2), V.non])) cl (.lst (os ++ [.ref t])) t = some (.tup [V.str (wd ws 2), V.non]) := by rw [upd_ne tcl]; exact upd_same
        refine ⟨_, rfl, _, rfl, cl, _, _, _, rfl, rfl, SqL.of upd_same, atI_last, ?_⟩
        refine ⟨t, _, _, _, rfl, rfl, SqT.of gt, rfl, ?_⟩
        refine ⟨rfl, ?_⟩
        rw [decide_eq_true rfl]
        exact q2 rfl _ _ kk upd_same

end
end K12
namespace K12
open PySem L2 TL
section
variable {P : Program} {w : World} {K : PySem.W.Frag} {mg : Str → Option Value} {base : Heap} {A : Ads}
theorem ok_l_behind (T : Txt K mg A) : ∀ n : Nat, FnOk P w K mg base CX0 (n + 166) A.l_behind A.l_behind_d ["_law_lines", "_law_at", "_law_within", "_law_calls"] (spLBehind n)
| 0 => fn_none fun vs H Q E h => by
    obtain ⟨_, _, _, _, _, _, _, _, _, _, _, _, _, h1, _⟩ := h; omega
| n + 1 => by
  have G_l_behind := ok_l_behind T n
  have G_l_is_simple := ok_l_is_simple (P := P) (w := w) (base := base) T
  have G_l_call := ok_l_call (P := P) (w := w) (base := base) T
  have G_l_many := ok_l_many (P := P) (w := w) (base := base) T
  refine T.F_l_behind.ok sc_l_behind (fun vs H Q E h => ?_) (fun cdv A0 outer s H vs Q E hr h => ?_)
  · obtain ⟨a, cl, ts, st, os, rfl, ha, hacl, hts, hat, hcl, hcs, hos, hn1, q1, q2⟩ := h
    rfl
  obtain ⟨a, cl, ts, st, os, rfl, ha, hacl, hts, hat, hcl, hcs, hos, hn1, q1, q2⟩ := h
  refine ⟨_, (pss_cons (ps_while PassesOwn.never (pt_cmpR op_lt (pv 1) (pe_callB call_lenK (by rfl) T.z_len (by decide +kernel) (pa_cons (pv 0) pa_nil)) (nomark _))
    (pss_cons (ps_set (i := 4) sc_l_behind.nd rfl (Or.inl rfl) (pe_split (pe_ix ix_list (pv 0) (pv 1) (fun _ _ => rfl)) pe_str))
   (pss_cons (ps_set (i := 5) sc_l_behind.nd rfl (Or.inl rfl) pe_bl)
   (pss_cons (ps_cut (ps_if (pt_cmpR op_in_seq (pe_ix ix_list (pv 4) pe_int (fun _ _ => rfl)) (pe_lst (pa_cons pe_str (pa_cons pe_str (pa_cons pe_str (pa_cons pe_str (pa_cons pe_str (pa_cons pe_str pa_nil))))))) (by rfl))
    (pss_one (ps_set (i := 5) sc_l_behind.nd rfl (Or.inl rfl) (pe_call G_l_is_simple (hr.mono (by omega)) rfl T.m_l_is_simple T.F_l_is_simple.kp T.b_l_is_simple .nil pass0 (pa_cons (pv 4) pa_nil))))
    (pss_one (ps_if (pt_cmpR op_eq (pe_ix ix_list (pv 4) pe_int (fun _ _ => rfl)) pe_str (nomark _))
    (pss_one (ps_set (i := 5) sc_l_behind.nd rfl (Or.inl rfl) (pe_call G_l_call (hr.mono (by omega)) rfl T.m_l_call T.F_l_call.kp T.b_l_call .nil pass0 (pa_cons (pv 4) (pa_cons (pv 3) pa_nil)))))
    (pss_one (ps_if (pt_cmpR op_in_seq (pe_ix ix_list (pv 4) pe_int (fun _ _ => rfl)) (pe_lst (pa_cons pe_str (pa_cons pe_str pa_nil))) (by rfl))
    (pss_cons (ps_cut (ps_set (i := 5) sc_l_behind.nd rfl (Or.inl rfl) (pe_and (pe_cmpR op_lt (pv 2) pe_int (nomark _)) (pe_one (pe_cmpR op_eq (pe_call G_l_many (hr.mono (by omega)) rfl T.m_l_many T.F_l_many.kp T.b_l_many .nil pass0 (pa_cons (pe_slice sl_list (pv 4) (po_some pe_int) po_none) pa_nil)) pe_int (nomark _))))))
   (pss_one (ps_for PassesOwn.never rfl (pi_list (pe_ix ix_list (pe_lst (pa_cons (pe_lst (pa_cons pe_str (pa_cons pe_str pa_nil))) (pa_cons (pe_lst (pa_cons pe_str pa_nil)) pa_nil))) (pe_callTy call_int1 (by rfl) T.z_int (by decide +kernel) (pa_cons (pe_cmpR op_eq (pe_ix ix_list (pv 4) pe_int (fun _ _ => rfl)) pe_str (nomark _)) pa_nil)) (fun _ _ => rfl))) (pg_name (i := 6) sc_l_behind.nd rfl (Or.inl rfl))
    (pss_one (ps_if (pt_val (pv 5))
    (pss_cons (ps_set (i := 1) sc_l_behind.nd rfl (Or.inl rfl) (pe_call G_l_behind (hr.mono (by omega)) rfl T.m_l_behind T.F_l_behind.kp T.b_l_behind .nil pass0 (pa_cons (pv 0) (pa_cons (pe_op op_add (pv 1) pe_int) (pa_cons (pe_op op_add (pv 2) pe_int) (pa_cons (pv 3) pa_nil))))))
   (pss_one (ps_set (i := 5) sc_l_behind.nd rfl (Or.inl rfl) (pe_and (pe_cmpR op_notN (pv 1) pe_non (nomark _)) (pe_one (pe_cmpR (op_eqD hr.units) (pe_slice sl_list (pv 0) (po_some (pv 1)) (po_some (pe_op op_add (pv 1) pe_int))) (pe_lst (pa_cons (pv 6) pa_nil)) (nomark _)))))))
    pss_nil)))))
    (pss_one (ps_ret (pv 1)))))))))
   (pss_cons (ps_if (pt_not (pt_val (pv 5)))
    (pss_one (ps_ret pe_non))
    pss_nil)
   (pss_one (ps_set (i := 1) sc_l_behind.nd rfl (Or.inl rfl) (pe_op op_add (pv 1) pe_int))))))))
   (pss_one (ps_ret (pv 1)))), ?_⟩
  have hcod := lines_codes hts
  have tsl : (ts.map V.str).length = ts.length := List.length_map _
  have ht1 := hts.1
  generalize hF0 : blockF ts (n + 1) st = F0 at q1 q2
  have hF1 : blkF ts (oneF ts (rowsF ts (blockF ts n) (decide (0 < n)))) (ts.length + 1) st = F0 := hF0
  refine while_m (fun m σ H' => ∃ (st' : RS) (f : Nat) (os' : List V) (z4 z5 z6 : Option V), σ = [some (.ref a), some (.int (st'.at_ : Nat)), some (.int (6 - ((n + 1 : Nat) : Int))), some (.ref cl), z4, z5, z6] ∧ m = ts.length - st'.at_ ∧ st'.at_ ≤ ts.length ∧ KeepL [cl] H H' ∧ H' cl = some (.lst os') ∧ CallsV H' st'.calls os' ∧ os'.length ≤ st'.at_ ∧ ts.length + 1 ≤ f + st'.at_ ∧ blkF ts (oneF ts (rowsF ts (blockF ts n) (decide (0 < n)))) f st' = F0)
    (ts.length - st.at_) ⟨st, ts.length + 1, os, none, none, none, rfl, rfl, hat, keepL_same (Same.refl H), hcl, hcs, hos, by omega, hF1⟩ ?_
  rintro m σ H1 ⟨st1, f, os1, z4, z5, z6, rfl, rfl, hat1, k1, hcl1, hcs1, hos1, hf, hb⟩
  obtain ⟨f, rfl⟩ : ∃ f', f = f' + 1 := ⟨f - 1, by omega⟩
  have ha1 := k1 _ _ (fun hm => hacl (List.mem_singleton.mp hm)) ha
  refine ⟨_, rfl, _, rfl, a, _, rfl, .inl (SqL.of ha1), _, _, rfl, rfl, _, rfl, ?_⟩
  rw [tsl]
  refine iteD2 (fun c1 => ?_) (fun c1 => ?_)
  rotate_left
  · have hh : headAt ts st1.at_ = none := by unfold headAt; rw [if_neg (by omega)]
    rw [blkF_end hh] at hb
    exact ⟨_, rfl, q1 st1 hb.symm H1 os1 k1 hcl1 hcs1 hos1 hat1⟩
  have hlt : st1.at_ < ts.length := by omega
  have hmem : ts[st1.at_] ∈ ts := List.getElem_mem hlt
  have hln := hts.2 _ hmem
  generalize htx : ts[st1.at_] = t at hmem hln
  have hdr : ts.drop st1.at_ = t :: ts.drop (st1.at_ + 1) := by rw [← htx]; exact List.drop_eq_getElem_cons hlt
  generalize hws : Txt.split t (Str.ofString " ") = ws at hln
  obtain ⟨hw, hh⟩ := words_here hdr hws
  have hne : ws ≠ [] := by rw [← hws]; exact split_ne t _
  have hwok : WsOk ws := by have := hln.2.2; rw [hws] at this; exact this
  have at0 := at_hd0 hne
  have hati : atI (ts.map V.str) (st1.at_ : Int) = some (V.str t) := atI_nat (by rw [List.getElem?_map, List.getElem?_eq_getElem hlt, htx]; rfl)
  refine ⟨fun σ' H' => ∃ (st' : RS) (f : Nat) (os' : List V) (z4 z5 z6 : Option V), st1.at_ < st'.at_ ∧ σ' = [some (.ref a), some (.int (st'.at_ : Nat)), some (.int (6 - ((n + 1 : Nat) : Int))), some (.ref cl), z4, z5, z6] ∧ st'.at_ ≤ ts.length ∧ KeepL [cl] H H' ∧ H' cl = some (.lst os') ∧ CallsV H' st'.calls os' ∧ os'.length ≤ st'.at_ ∧ ts.length + 1 ≤ f + st'.at_ ∧ blkF ts (oneF ts (rowsF ts (blockF ts n) (decide (0 < n)))) f st' = F0,
    fun σ' H' ⟨st', f', os', y4, y5, y6, g1, hσ, k⟩ => ⟨ts.length - st'.at_, by have := k.1; omega, st', f', os', y4, y5, y6, hσ, rfl, k⟩, ?_⟩
  refine ⟨_, rfl, _, rfl, a, _, _, _, rfl, rfl, SqL.of ha1, hati, ⟨_, rfl⟩, t, _, rfl, rfl, (by decide +kernel), sizeL2 (by have := hln.1; omega), fun lw hlw => ?_⟩
  rw [hws]
  have lwcl : lw ≠ cl := (ne_of_none hcl1 hlw).symm
  generalize hG2 : upd H1 lw _ = H2
  have s2 : Same H1 H2 := by rw [← hG2]; exact same_new hlw
  have gw : H2 lw = some (.lst (ws.map V.str)) := by rw [← hG2]; exact upd_same
  have k2 : KeepL [cl] H H2 := keepL_trans k1 (keepL_same s2)
  have hcl2 := s2 _ _ hcl1
  have hcs2 := hcs1.same s2
  have ha2 := s2 _ _ ha1
  generalize hone : oneF ts (rowsF ts (blockF ts n) (decide (0 < n))) st1 = one
  refine ⟨fun σ' H' => hd0 ws ∈ ROWW ∧ ((∃ (rt : RT) (st2 : RS) (p : Nat) (os' : List V) (y4 y6 : Option V), one = some (rt, st2) ∧ st2.at_ = p + 1 ∧ σ' = [some (.ref a), some (.int (p : Nat)), some (.int (6 - ((n + 1 : Nat) : Int))), some (.ref cl), y4, some (.bl true), y6] ∧ st1.at_ < st2.at_ ∧ st2.at_ ≤ ts.length ∧ KeepL [cl] H H' ∧ H' cl = some (.lst os') ∧ CallsV H' st2.calls os' ∧ os'.length ≤ st2.at_) ∨
      (∃ (os' : List V) (y1 y4 y6 : Option V), one = none ∧ σ' = [some (.ref a), y1, some (.int (6 - ((n + 1 : Nat) : Int))), some (.ref cl), y4, some (.bl false), y6] ∧ KeepL [cl] H H' ∧ H' cl = some (.lst os'))), ?_, ?_⟩
  rotate_left
  · rintro σ' H' ⟨hrw, ⟨rt, st2, p, os', y4, y6, h1, hp, rfl, hgt, hle, kk, hc, hcs', hol⟩ | ⟨os', y1, y4, y6, h1, rfl, kk, hc⟩⟩
    · refine ⟨_, rfl, true, rfl, iteF ?_⟩
      have hb2 : blkF ts (oneF ts (rowsF ts (blockF ts n) (decide (0 < n)))) f ⟨st2.at_, putN st2.num st1.at_ rt, st2.calls⟩ = F0 := by
        rw [← hb]
        conv => rhs; unfold blkF
        rw [hh]
        simp only
        rw [if_pos hrw, hone, h1]
      refine ⟨_, rfl, _, _, rfl, rfl, ⟨st2.at_, putN st2.num st1.at_ rt, st2.calls⟩, f, os', y4, some (.bl true), y6, hgt, ?_, hle, kk, hc, hcs', hol, by show ts.length + 1 ≤ f + st2.at_; omega, hb2⟩
      show _ = [some (V.ref a), some (V.int ((st2.at_ : Nat) : Int)), _, _, _, _, _]
      rw [hp]; rfl
    · have hF : F0 = none := by
        rw [← hb]
        unfold blkF
        rw [hh]
        simp only
        rw [if_pos hrw, hone, h1]
      exact ⟨_, rfl, false, rfl, iteT (q2 hF H' os' kk hc)⟩
  -- the row
  refine ⟨_, rfl, lw, _, _, _, rfl, rfl, SqL.of gw, at0, by show 6 ≤ sizeLine; decide, fun l6 hl6 => ?_⟩
  refine ⟨l6, SIMPLEW.map V.str, rfl, .inl (SqL.of upd_same), rfl, rfl, _, rfl, ?_⟩
  rw [if_neg Bool.false_ne_true, inV_str]
  generalize hG3 : upd H2 l6 _ = H3
  have s3 : Same H2 H3 := by rw [← hG3]; exact same_new hl6
  have k3 := keepL_trans k2 (keepL_same s3)
  have gw3 := s3 _ _ gw
  refine iteD2 (fun c2 => ?_) (fun c2 => ?_)
  · rw [one_simple hw c2] at hone
    refine ⟨_, rfl, lw, ws, rfl, SqL.of gw3, hwok, hne, c2, fun H4 s4 => ⟨(simplew_all _ c2).2.2.2, ?_⟩⟩
    cases hsf : simpleF ws with
    | none =>
      rw [hsf] at hone
      exact .inr ⟨os1, _, _, _, hone.symm, rfl, keepL_trans k3 (keepL_same s4), s4 _ _ (s3 _ _ hcl2)⟩
    | some rt =>
      rw [hsf] at hone
      exact .inl ⟨rt, ⟨st1.at_ + 1, st1.num, st1.calls⟩, st1.at_, os1, _, _, hone.symm, rfl, rfl, Nat.lt_succ_self _, hlt, keepL_trans k3 (keepL_same s4), s4 _ _ (s3 _ _ hcl2), hcs2.same (s3.trans s4), Nat.le_succ_of_le hos1⟩
  refine ⟨_, rfl, lw, _, _, _, rfl, rfl, SqL.of gw3, at0, rfl, _, rfl, iteD2 (fun c3 => ?_) (fun c3 => ?_)⟩
  · have c3 : hd0 ws = "call" := V.str.inj c3
    rw [one_call hw c3] at hone
    have hrw : hd0 ws ∈ ROWW := by rw [c3]; decide +kernel
    refine ⟨_, rfl, _, rfl, lw, cl, ws, st1.calls, os1, rfl, gw3, lwcl, hwok, hne, s3 _ _ hcl2, hcs2.same s3, by omega, fun b g es he H4 os4 k4 hc4 hcs4 hl4 => ⟨hrw, ?_⟩, fun he H4 os4 k4 hc4 => ⟨hrw, ?_⟩⟩
    · rw [he] at hone
      exact .inl ⟨_, ⟨st1.at_ + 1, st1.num, st1.calls ++ [(g, es.length)]⟩, st1.at_, os4, _, _, hone.symm, rfl, rfl, Nat.lt_succ_self _, hlt, keepL_trans k3 k4, hc4, hcs4, by show os4.length ≤ st1.at_ + 1; omega⟩
    · rw [he] at hone
      exact .inr ⟨os4, _, _, _, hone.symm, rfl, keepL_trans k3 k4, hc4⟩
  refine ⟨_, rfl, lw, _, _, _, rfl, rfl, SqL.of gw3, at0, by show 2 ≤ sizeLine; decide, fun l7 hl7 => ?_⟩
  refine ⟨l7, IFW.map V.str, rfl, .inl (SqL.of upd_same), rfl, rfl, _, rfl, ?_⟩
  rw [if_neg Bool.false_ne_true, inV_str]
  generalize hG4 : upd H3 l7 _ = H4
  have s4 : Same H3 H4 := by rw [← hG4]; exact same_new hl7
  have s24 := s3.trans s4
  have k4 := keepL_trans k2 (keepL_same s24)
  have gw4 := s24 _ _ gw
  refine iteD2 (fun c4 => ?_) (fun c4 => ?_)
  rotate_left
  · have hnr : hd0 ws ∉ ROWW := fun h => by
      rcases roww_all _ h with h | h | h
      · exact c2 h
      · exact c3 (congrArg V.str h)
      · exact c4 h
    rw [blkF_stop hh hnr] at hb
    exact ⟨_, rfl, q1 st1 hb.symm H4 os1 k4 (s24 _ _ hcl2) (hcs2.same s24) hos1 hat1⟩
  have hrw := (ifw_all _ c4).2
  rw [one_if hw c4] at hone
  refine ⟨fun σ' H' => ∃ (g : Bool) (y6 : Option V), σ' = [some (.ref a), some (.int (st1.at_ : Nat)), some (.int (6 - ((n + 1 : Nat) : Int))), some (.ref cl), some (.ref lw), some (.bl g), y6] ∧ Same H4 H' ∧ (g = true → 0 < n ∧ ∃ e, only1 (exL (ws.drop 1)) = some e) ∧ (g = false → one = none), ?_, ?_⟩
  · refine ⟨_, rfl, _, _, rfl, rfl, _, rfl, ?_⟩
    by_cases hn0 : 0 < n
    · rw [decide_eq_true (by omega)]
      rw [decide_eq_true hn0, rowsF_ends] at hone
      refine iteT ⟨_, rfl, 1, rfl, lw, _, rfl, SqL.of gw4, fun l8 hl8 => ?_⟩
      have hcd : cutV (ws.map V.str) (some 1) none = (ws.drop 1).map V.str := cut_drop (i := 1)
      rw [hcd]
      have s8 := same_new (o := .lst ((ws.drop 1).map V.str)) hl8
      refine ⟨l8, ws.drop 1, rfl, SqL.of upd_same, hwok.drop 1, fun es he H5 s5 => ⟨rfl, ?_⟩, fun he H5 s5 => ⟨rfl, ?_⟩⟩
      · by_cases c5 : es.length = 1
        · rw [decide_eq_true (show V.int (es.length : Nat) = V.int 1 by rw [c5]; rfl)]
          exact ⟨true, _, rfl, s8.trans s5, fun _ => ⟨hn0, only_of_len he c5⟩, fun h => by cases h⟩
        · rw [decide_eq_false (show ¬ V.int (es.length : Nat) = V.int 1 from fun e => c5 (by have := V.int.inj e; omega))]
          refine ⟨false, _, rfl, s8.trans s5, fun h => (by cases h), fun _ => ?_⟩
          rw [only_none he c5] at hone
          exact hone.symm
      · rw [decide_eq_false (show ¬ V.non = V.int 1 from fun e => by cases e)]
        refine ⟨false, _, rfl, s8.trans s5, fun h => (by cases h), fun _ => ?_⟩
        rw [he] at hone
        exact hone.symm
    · rw [decide_eq_false (by omega)]
      refine iteF ⟨false, _, rfl, Same.refl _, fun h => (by cases h), fun _ => ?_⟩
      have : n = 0 := by omega
      subst this
      exact hone.symm
  · rintro σ' H5 ⟨g, y6, rfl, s5, hg1, hg2⟩
    have gw5 := s5 _ _ gw4
    refine ⟨by show 2 ≤ sizeLine; decide, fun m1 hm1 => ?_⟩
    generalize hG6 : upd H5 m1 _ = H6
    have s6 : Same H5 H6 := by rw [← hG6]; exact same_new hm1
    have g6 : H6 m1 = some (.lst (([Str.ofString "else", Str.ofString "end"] : List Str).map V.str)) := by rw [← hG6]; exact upd_same
    refine ⟨by show 1 ≤ sizeLine; decide, fun m2 hm2 => ?_⟩
    generalize hG7 : upd H6 m2 _ = H7
    have s7 : Same H6 H7 := by rw [← hG7]; exact same_new hm2
    have g7 : H7 m2 = some (.lst (([Str.ofString "end"] : List Str).map V.str)) := by rw [← hG7]; exact upd_same
    refine ⟨by show 2 ≤ sizeLine; decide, fun m3 hm3 => ?_⟩
    generalize hG8 : upd H7 m3 _ = H8
    have s8 : Same H7 H8 := by rw [← hG8]; exact same_new hm3
    have g8 : H8 m3 = some (.lst [.ref m1, .ref m2]) := by rw [← hG8]; exact upd_same
    have s58 := (s6.trans s7).trans s8
    have k8 := keepL_trans k4 (keepL_same (s5.trans s58))
    have hcl8 := (s5.trans s58) _ _ (s24 _ _ hcl2)
    have hcs8 := (hcs2.same s24).same (s5.trans s58)
    have ha8 := (s5.trans s58) _ _ (s24 _ _ ha2)
    obtain ⟨mE, hmE, gE⟩ : ∃ mE, atI [V.ref m1, V.ref m2] (if decide (V.str (hd0 ws) = V.str (Str.ofString "while")) = true then 1 else 0) = some (V.ref mE) ∧ H8 mE = some (.lst ((endsOf (hd0 ws)).map V.str)) := by
      unfold endsOf
      by_cases c : hd0 ws = "while"
      · rw [if_pos c, decide_eq_true (by rw [c]), if_pos rfl]
        exact ⟨m2, rfl, s8 _ _ g7⟩
      · rw [if_neg c, decide_eq_false (fun e => c (V.str.inj e)), if_neg Bool.false_ne_true]
        exact ⟨m1, rfl, (s7.trans s8) _ _ g6⟩
    refine ⟨_, rfl, lw, _, _, _, rfl, rfl, SqL.of (s58 _ _ gw5), at0, rfl, .inr ⟨_, rfl, m3, _, _, _, rfl, rfl, SqL.of g8, hmE, ?_⟩⟩
    have mEcl : mE ≠ cl := fun e => by
      have h2 := (s5.trans s58) _ _ (s24 _ _ hcl2)
      rw [← e, gE] at h2
      have h3 := HO.lst.inj (Option.some.inj h2)
      have hcs' := hcs2
      rw [← h3] at hcs'
      unfold endsOf at hcs'
      by_cases c : hd0 ws = "while"
      · rw [if_pos c] at hcs'
        exact callsV_str hcs'
      · rw [if_neg c] at hcs'
        exact callsV_str hcs'
    generalize hE : endsOf (hd0 ws) = E at gE
    refine ⟨mE, rfl, ⟨_, SqL.of gE⟩, for_list (xs := E.map V.str) (fun j σ H' => KeepL [cl] H8 H' ∧ ((∃ (sj : RS) (p : Nat) (os' : List V) (e : Ex) (y6 : Option V), sj.at_ = p + 1 ∧ σ = [some (.ref a), some (.int (p : Nat)), some (.int (6 - ((n + 1 : Nat) : Int))), some (.ref cl), some (.ref lw), some (.bl true), y6] ∧ H' cl = some (.lst os') ∧ CallsV H' sj.calls os' ∧ os'.length ≤ sj.at_ ∧ sj.at_ ≤ ts.length ∧ st1.at_ < sj.at_ ∧ 0 < n ∧ one = endsF ts (blockF ts n) (rowOfW (hd0 ws) e) (E.drop j) sj) ∨
        (∃ (os' : List V) (y1 y6 : Option V), one = none ∧ σ = [some (.ref a), y1, some (.int (6 - ((n + 1 : Nat) : Int))), some (.ref cl), some (.ref lw), some (.bl false), y6] ∧ H' cl = some (.lst os'))))
      ⟨keepL_same (Same.refl _), ?_⟩ (fun j σ H' _ h => SqL.of (h.1 _ _ (fun hm => mEcl (List.mem_singleton.mp hm)) gE)) ?_ ?_⟩
    · cases g with
      | false => exact .inr ⟨os1, _, _, hg2 rfl, rfl, hcl8⟩
      | true =>
        obtain ⟨hn0, e, he⟩ := hg1 rfl
        rw [decide_eq_true hn0, rowsF_ends, he] at hone
        simp only at hone
        rw [hE] at hone
        exact .inl ⟨⟨st1.at_ + 1, st1.num, st1.calls⟩, st1.at_, os1, e, _, rfl, rfl, hcl8, hcs8, Nat.le_succ_of_le hos1, hlt, Nat.lt_succ_self _, hn0, by rw [List.drop_zero]; exact hone.symm⟩
    · rintro j x σ H9 hx ⟨k9, ⟨sj, p, os', e, y6, hp, rfl, hc9, hcs9, hol9, hle9, hgt9, hn0, hone9⟩ | ⟨os', y1, y6, hnone, rfl, hc9⟩⟩
      rotate_left
      · exact ⟨_, rfl, false, rfl, iteF ⟨k9, .inr ⟨os', _, _, hnone, rfl, hc9⟩⟩⟩
      rw [List.getElem?_map] at hx
      obtain ⟨y, hy, rfl⟩ := Option.map_eq_some_iff.mp hx
      have hjl : j < E.length := (List.getElem?_eq_some_iff.mp hy).1
      have hdj : E.drop j = y :: E.drop (j + 1) := by
        rw [List.drop_eq_getElem_cons hjl]
        have : E[j] = y := (List.getElem?_eq_some_iff.mp hy).2
        rw [this]
      rw [hdj] at hone9
      unfold endsF at hone9
      have ha9 := k9 _ _ (fun hm => hacl (List.mem_singleton.mp hm)) ha8
      refine ⟨_, rfl, true, rfl, iteT ?_⟩
      refine ⟨_, rfl, _, rfl, _, _, rfl, rfl, _, rfl, _, _, rfl, rfl, _, rfl, a, cl, ts, sj, os', ?_, ha9, hacl, hts, hle9, hc9, hcs9, hol9, hn0, fun st' e' H10 os10 k10 hc10 hcs10 hol10 hle10 => ?_, fun e' H10 os10 k10 hc10 => ?_⟩
      · show [V.ref a, V.int ((p : Int) + 1), V.int (6 - ((n + 1 : Nat) : Int) + 1), V.ref cl] = [V.ref a, V.int ((sj.at_ : Nat) : Int), V.int (6 - (n : Int)), V.ref cl]
        rw [hp, show (6 : Int) - ((n + 1 : Nat) : Int) + 1 = 6 - (n : Int) from by omega]; rfl
      · rw [e'] at hone9
        simp only at hone9
        have hgt10 : sj.at_ ≤ st'.at_ := (blockF_at hle9 e').1
        refine ⟨_, rfl, rfl, _, rfl, iteNT (fun e => by cases e) ?_⟩
        have k810 := keepL_trans k9 k10
        have ha10 := k10 _ _ (fun hm => hacl (List.mem_singleton.mp hm)) ha9
        refine ⟨_, rfl, _, rfl, _, rfl, _, rfl, _, _, rfl, rfl, _, rfl, a, _, rfl, SqL.of ha10, fun ls hls => ?_⟩
        have hcm : cutV (ts.map V.str) (some ((st'.at_ : Nat) : Int)) (some (((st'.at_ : Nat) : Int) + 1)) = ((ts.drop st'.at_).take 1).map V.str := by
          rw [show ((st'.at_ : Nat) : Int) + 1 = ((st'.at_ + 1 : Nat) : Int) from by omega, cut_mid, show st'.at_ + 1 - st'.at_ = 1 from by omega]
        rw [hcm]
        generalize hG11 : upd H10 ls _ = H11
        have s11 : Same H10 H11 := by rw [← hG11]; exact same_new hls
        have g11 : H11 ls = some (.lst (((ts.drop st'.at_).take 1).map V.str)) := by rw [← hG11]; exact upd_same
        refine ⟨_, rfl, by show 1 ≤ sizeLine; decide, fun le hle => ?_⟩
        have s12 := same_new (o := .lst ([y].map V.str)) hle
        have cod1 : Codes ((ts.drop st'.at_).take 1) := fun t ht => hcod t (List.mem_of_mem_drop (List.mem_of_mem_take ht))
        have cod2 : Codes [y] := fun t ht => by
          have hyE : y ∈ endsOf (hd0 ws) := by rw [hE]; exact List.mem_of_getElem? hy
          rw [List.mem_singleton.mp ht]
          unfold endsOf at hyE
          have : ∀ t ∈ ([Str.ofString "else", Str.ofString "end"] : List Str), PyData.strOk t = true := by decide +kernel
          split at hyE
          · rw [List.mem_singleton.mp hyE]; exact this _ (by decide +kernel)
          · exact this _ hyE
        refine ⟨strsD ((ts.drop st'.at_).take 1), strsD [y], .lst (SqL.of (s12 _ _ g11)) (dp_strs _), .lst (SqL.of upd_same) (dp_strs [y]), strs_shaped cod1, strs_shaped cod2, ?_⟩
        rw [strs_eqv, pass_slice]
        have k812 := keepL_trans k810 (keepL_same (s11.trans s12))
        have hc12 := (s11.trans s12) _ _ hc10
        cases hpf : passF ts y st' with
        | none =>
          rw [hpf] at hone9
          exact ⟨k812, .inr ⟨os10, _, _, hone9, rfl, hc12⟩⟩
        | some st3 =>
          rw [hpf] at hone9
          obtain ⟨pa1, pa2, pa3, pa4⟩ := passF_at hpf
          exact ⟨k812, .inl ⟨st3, st'.at_, os10, e, _, pa1, rfl, hc12, by rw [pa4]; exact hcs10.same (s11.trans s12), by rw [pa1]; omega, pa2, by rw [pa1]; omega, hn0, hone9⟩⟩
      · rw [e'] at hone9
        refine ⟨_, rfl, rfl, _, rfl, iteNF rfl ?_⟩
        exact ⟨keepL_trans k9 k10, .inr ⟨os10, _, _, hone9, rfl, hc10⟩⟩
    · rintro σ H9 ⟨k9, ⟨sj, p, os', e, y6, hp, rfl, hc9, hcs9, hol9, hle9, hgt9, hn0, hone9⟩ | ⟨os', y1, y6, hnone, rfl, hc9⟩⟩
      · have hd0' : E.drop (E.map V.str).length = [] := by rw [List.length_map, List.drop_length]
        rw [hd0'] at hone9
        exact ⟨hrw, .inl ⟨_, sj, p, os', _, _, hone9, hp, rfl, hgt9, hle9, keepL_trans k8 k9, hc9, hcs9, hol9⟩⟩
      · exact ⟨hrw, .inr ⟨os', _, _, _, hnone, rfl, keepL_trans k8 k9, hc9⟩⟩

end
end K12
namespace K12
open PySem L2 TL
section
variable {P : Program} {w : World} {K : PySem.W.Frag} {mg : Str → Option Value} {base : Heap} {A : Ads}
theorem ok_l_fun_behind (T : Txt K mg A) : FnOk P w K mg base CX0 173 A.l_fun_behind A.l_fun_behind_d ["_law_lines", "_law_at", "_law_heads_here", "_law_calls"] (spLFun) := by
  have G_l_is_name := ok_l_is_name (P := P) (w := w) (base := base) T
  have G_l_behind := ok_l_behind (P := P) (w := w) (base := base) T 6
  have G_l_many := ok_l_many (P := P) (w := w) (base := base) T
  refine T.F_l_fun_behind.ok sc_l_fun_behind (fun vs H Q E h => ?_) (fun cdv A0 outer s H vs Q E hr h => ?_)
  · obtain ⟨a, hd, cl, ts, st, os, fs, rfl, ha, hacl, hts, hlt, hcl, hcs, hos, hhd, hfs, q1, q2⟩ := h
    rfl
  obtain ⟨a, hd, cl, ts, st, os, fs, rfl, ha, hacl, hts, hlt, hcl, hcs, hos, hhd, hfs, q1, q2⟩ := h
  refine ⟨_, (pss_cons (ps_set (i := 4) sc_l_fun_behind.nd rfl (Or.inl rfl) (pe_split (pe_ix ix_list (pv 0) (pv 1) (fun _ _ => rfl)) pe_str))
   (pss_cons (ps_if (PW.pt (pw_or (pt_cmpR op_lt (pe_callB call_lenK (by rfl) T.z_len (by decide +kernel) (pa_cons (pv 4) pa_nil)) pe_int (nomark _)) (pw_or (pt_cmpR op_gt (pe_callB call_lenK (by rfl) T.z_len (by decide +kernel) (pa_cons (pv 4) pa_nil)) pe_int (nomark _)) (pw_or1 (pt_cmpR (op_neD hr.units) (pe_lc (own := [("_law_word", 5)]) (g := gName 5) rfl sc_l_fun_behind.nd (pi_list (pe_slice sl_list (pv 4) (po_some pe_int) po_none)) (blkOk_by (own := [("_law_word", 5)]) (N := N_l_fun_behind) (sc := defScope s_l_fun_behind) (by decide +kernel)) (fun _ _ _ _ _ => pg_name (i := 5) sc_l_fun_behind.nd rfl (Or.inl rfl)) (fun _ _ _ _ _ => pts_one (pt_not (pt_val (pe_call G_l_is_name (hr.mono (by decide)) rfl T.m_l_is_name T.F_l_is_name.kp T.b_l_is_name .nil pass0 (pa_cons (pv 5) pa_nil))))) (fun _ _ _ _ _ => (pv 5))) (pe_lst pa_nil) (nomark _))))))
    (pss_one (ps_ret pe_non))
    pss_nil)
   (pss_cons (ps_if (PW.pt (pw_or (pt_cmp (pc_din (hu_of hr) (pe_ix ix_list (pv 4) pe_int (fun _ _ => rfl)) (pv 2))) (pw_or1 (pt_cmpR op_ne (pe_lenTexts rfl (by rfl) T.z_len (by rfl) T.z_set (pe_slice sl_list (pv 4) (po_some pe_int) po_none)) (pe_op op_sub (pe_callB call_lenK (by rfl) T.z_len (by decide +kernel) (pa_cons (pv 4) pa_nil)) pe_int) (nomark _)))))
    (pss_one (ps_ret pe_non))
    pss_nil)
   (pss_cons (ps_dput (hu_of hr) (pv 2) (pe_ix ix_list (pv 4) pe_int (fun _ _ => rfl)) (pe_op op_sub (pe_callB call_lenK (by rfl) T.z_len (by decide +kernel) (pa_cons (pv 4) pa_nil)) pe_int) rfl)
   (pss_cons (ps_set (i := 1) sc_l_fun_behind.nd rfl (Or.inl rfl) (pe_call G_l_behind (hr.mono (by decide)) rfl T.m_l_behind T.F_l_behind.kp T.b_l_behind .nil pass0 (pa_cons (pv 0) (pa_cons (pe_op op_add (pv 1) pe_int) (pa_cons pe_int (pa_cons (pv 3) pa_nil))))))
   (pss_cons (ps_if (PW.pt (pw_or (pt_cmpR op_isN (pv 1) pe_non (nomark _)) (pw_or1 (pt_cmpR op_ge (pv 1) (pe_callB call_lenK (by rfl) T.z_len (by decide +kernel) (pa_cons (pv 0) pa_nil)) (nomark _)))))
    (pss_one (ps_ret pe_non))
    pss_nil)
   (pss_cons (ps_set (i := 4) sc_l_fun_behind.nd rfl (Or.inl rfl) (pe_split (pe_ix ix_list (pv 0) (pv 1) (fun _ _ => rfl)) pe_str))
   (pss_cons (ps_if (PW.pt (pw_or (pt_cmpR op_ne (pe_ix ix_list (pv 4) pe_int (fun _ _ => rfl)) pe_str (nomark _)) (pw_or1 (pt_cmpR op_ne (pe_call G_l_many (hr.mono (by decide)) rfl T.m_l_many T.F_l_many.kp T.b_l_many .nil pass0 (pa_cons (pe_slice sl_list (pv 4) (po_some pe_int) po_none) pa_nil)) pe_int (nomark _)))))
    (pss_one (ps_ret pe_non))
    pss_nil)
   (pss_one (ps_ret (pe_op op_add (pv 1) pe_int))))))))))), ?_⟩
  have ht1 := hts.1
  have hmem : ts[st.at_] ∈ ts := List.getElem_mem hlt
  have hln := hts.2 _ hmem
  generalize htx : ts[st.at_] = t at hmem hln
  have hdr : ts.drop st.at_ = t :: ts.drop (st.at_ + 1) := by rw [← htx]; exact List.drop_eq_getElem_cons hlt
  generalize hws : Txt.split t (Str.ofString " ") = ws at hln
  obtain ⟨hw, hh⟩ := words_here hdr hws
  have hne : ws ≠ [] := by rw [← hws]; exact split_ne t _
  have hwok : WsOk ws := by have := hln.2.2; rw [hws] at this; exact this
  have wsl : (ws.map V.str).length = ws.length := List.length_map _
  have hw1 := hwok.1
  have hati : atI (ts.map V.str) (st.at_ : Int) = some (V.str t) := atI_nat (by rw [List.getElem?_map, List.getElem?_eq_getElem hlt, htx]; rfl)
  have hdcl : hd ≠ cl := fun e => by rw [e, hcl] at hhd; cases hhd
  have hda : hd ≠ a := fun e => by rw [e, ha] at hhd; cases hhd
  have hF : functionF ts st = if (ws.drop 1).all isNameW = true ∧ 2 ≤ ws.length ∧ (ws.drop 2).length ≤ 3 ∧ cntTo (ws.drop 2) (ws.drop 2).length = (ws.drop 2).length then
      (match blockF ts 6 ⟨st.at_ + 1, st.num, st.calls⟩ with
      | none => none
      | some st2 => if headAt ts st2.at_ = some (Str.ofString "give") then (match only1 (exL ((wordsAt ts st2.at_).drop 1)) with
          | none => none
          | some e => some ((wd ws 1, (ws.drop 2).length), ⟨st2.at_ + 1, putN st2.num st2.at_ (.give e), st2.calls⟩)) else none) else none := by
    unfold functionF
    rw [hw]
    by_cases c : (ws.drop 1).all isNameW = true ∧ 2 ≤ ws.length ∧ (ws.drop 2).length ≤ 3 ∧ cntTo (ws.drop 2) (ws.drop 2).length = (ws.drop 2).length
    · rw [if_pos c, if_pos c]
      cases blockF ts 6 ⟨st.at_ + 1, st.num, st.calls⟩ with
      | none => rfl
      | some st2 =>
        simp only
        by_cases c2 : headAt ts st2.at_ = some (Str.ofString "give")
        · refine (if_pos (by exact c2)).trans (Eq.trans ?_ (if_pos c2).symm)
          cases only1 (exL ((wordsAt ts st2.at_).drop 1)) <;> rfl
        · exact (if_neg (by exact c2)).trans (if_neg c2).symm
    · rw [if_neg c, if_neg c]
  refine ⟨_, rfl, _, rfl, a, _, _, _, rfl, rfl, SqL.of ha, hati, ⟨_, rfl⟩, t, _, rfl, rfl, (by decide +kernel), sizeL2 (by have := hln.1; omega), fun lw hlw => ?_⟩
  rw [hws]
  generalize hG1 : upd H lw _ = H1
  have s1 : Same H H1 := by rw [← hG1]; exact same_new hlw
  have gw : H1 lw = some (.lst (ws.map V.str)) := by rw [← hG1]; exact upd_same
  have none_if : ¬ ((ws.drop 1).all isNameW = true ∧ 2 ≤ ws.length ∧ (ws.drop 2).length ≤ 3 ∧ cntTo (ws.drop 2) (ws.drop 2).length = (ws.drop 2).length) → ∀ f st', functionF ts st = some (f, st') → ∃ g ∈ fs, g.1 = f.1 := fun hc f st' e => by rw [hF, if_neg hc] at e; cases e
  refine ⟨_, rfl, lw, _, rfl, .inl (SqL.of gw), _, _, rfl, rfl, _, rfl, ?_⟩
  rw [wsl]
  refine iteD2 (fun c1 => ?_) (fun c1 => ?_)
  · exact q2 (none_if fun h => by have := h.2.1; omega) H1 (keepL_same s1)
  refine ⟨_, rfl, lw, _, rfl, .inl (SqL.of gw), _, _, rfl, rfl, _, rfl, ?_⟩
  rw [wsl]
  refine iteD2 (fun c2 => ?_) (fun c2 => ?_)
  · exact q2 (none_if fun h => by have := h.2.2.1; rw [List.length_drop] at this; omega) H1 (keepL_same s1)
  refine ⟨_, rfl, 1, rfl, lw, _, rfl, SqL.of gw, fun l2 hl2 => ?_⟩
  have hcd : cutV (ws.map V.str) (some 1) none = (ws.drop 1).map V.str := cut_drop (i := 1)
  rw [hcd]
  generalize hG2 : upd H1 l2 _ = H2
  have s2 : Same H1 H2 := by rw [← hG2]; exact same_new hl2
  have g2 : H2 l2 = some (.lst ((ws.drop 1).map V.str)) := by rw [← hG2]; exact upd_same
  have sub : ∀ x ∈ ws.drop 1, WordOk x := fun x hx => hwok.2 x (List.mem_of_mem_drop hx)
  refine ⟨l2, rfl, ⟨_, SqL.of g2⟩, fun D hD => lc_filter (fun s => !isNameW s) walk_list hD (by rw [List.length_drop]; omega) (fun H' s' => SqL.of (s' _ _ g2)) ?_ ?_ ?_⟩
  · intro x hx H3 Z s3 z
    exact ⟨_, rfl, x, rfl, (sub x hx).b.1, (sub x hx).b.2, fun H4 s4 => ⟨isNameW x, rfl, z H4 s4⟩⟩
  · intro x hx H3 Z z
    exact ⟨_, rfl, z⟩
  intro H3 s3 hD3
  refine ⟨by show 0 ≤ sizeLine; decide, fun z hz => ?_⟩
  have sz := same_new (o := .lst ([] : List V)) hz
  have cod : Codes ((ws.drop 1).filter fun s => !isNameW s) := fun x hx => strOk_ascii (sub x (List.mem_filter.mp hx).1).2
  refine ⟨strsD ((ws.drop 1).filter fun s => !isNameW s), .list [], .lst (SqL.of (sz _ _ hD3)) (dp_strs _), .lst (SqL.of upd_same) .nil, strs_shaped cod, rfl, _, rfl, ?_⟩
  rw [show PyData.eqv (strsD ((ws.drop 1).filter fun s => !isNameW s)) (.list []) = decide ((ws.drop 1).filter (fun s => !isNameW s) = []) from strs_eqv _ []]
  generalize hG4 : upd H3 z _ = H4 at sz ⊢
  have s14 := s1.trans (s2.trans (s3.trans sz))
  have gw4 := (s2.trans (s3.trans sz)) _ _ gw
  refine iteN2 (fun c3 => ?_) (fun c3 => ?_)
  · exact q2 (none_if fun h => c3 (of_decide_eq_true (by rw [filt_all]; exact h.1))) H4 (keepL_same s14)
  have hall : (ws.drop 1).all isNameW = true := by rw [← filt_all]; exact decide_eq_true c3
  refine ⟨_, rfl, lw, _, _, _, rfl, rfl, SqL.of gw4, wd_at (i := 1) (by omega), _, rfl, hd, _, rfl, DGet.k (k := .inr (wd ws 1)) (s14 _ _ hhd), _, rfl, ?_⟩
  rw [hv_get]
  cases hin : (fs.any fun g => decide (g.1 = wd ws 1)) with
  | true =>
    refine iteT (q2 (fun f st' e => ?_) H4 (keepL_same s14))
    obtain ⟨g, hg, hd1⟩ := List.any_eq_true.mp hin
    have hn : f.1 = wd ws 1 := by
      rw [hF] at e
      split at e
      · split at e
        · cases e
        · split at e
          · split at e
            · cases e
            · cases e; rfl
          · cases e
      · cases e
    exact ⟨g, hg, by rw [hn]; exact of_decide_eq_true hd1⟩
  | false =>
  refine iteF ?_
  have hnew : ∀ g ∈ fs, g.1 ≠ wd ws 1 := fun g hg e => by
    have := List.any_eq_false.mp hin g hg
    rw [decide_eq_true e] at this
    exact this rfl
  refine ⟨_, rfl, 2, rfl, lw, _, rfl, SqL.of gw4, fun l5 hl5 => ?_⟩
  have hcd2 : cutV (ws.map V.str) (some 2) none = (ws.drop 2).map V.str := cut_drop (i := 2)
  rw [hcd2]
  generalize hG5 : upd H4 l5 _ = H5
  have s5 : Same H4 H5 := by rw [← hG5]; exact same_new hl5
  have g5 : H5 l5 = some (.lst ((ws.drop 2).map V.str)) := by rw [← hG5]; exact upd_same
  have hd3 : (ws.drop 2).length ≤ 3 := by rw [List.length_drop]; omega
  have s15 := s14.trans s5
  have gw5 := s5 _ _ gw4
  refine ⟨l5, ws.drop 2, rfl, SqL.of g5, by omega, _, rfl, lw, _, rfl, .inl (SqL.of gw5), _, _, rfl, rfl, rfl, _, rfl, iteN2 (fun c4 => ?_) (fun c4 => ?_)⟩
  · refine q2 (none_if fun h => c4 ?_) H5 (keepL_same s15)
    rw [h.2.2.2, wsl, List.length_drop]
    exact congrArg V.int (by omega)
  have hcnt : cntTo (ws.drop 2) (ws.drop 2).length = (ws.drop 2).length := by
    have e := V.int.inj c4
    rw [wsl] at e
    have : (ws.drop 2).length = ws.length - 2 := List.length_drop ..
    omega
  rw [if_pos ⟨hall, by omega, hd3, hcnt⟩] at hF
  have hhd5 := s15 _ _ hhd
  have ev : V.int (((ws.map V.str).length : Nat) - 2 : Int) = V.int ((ws.drop 2).length : Nat) := by
    rw [wsl, List.length_drop]
    exact congrArg V.int (by omega)
  refine ⟨_, rfl, lw, _, rfl, .inl (SqL.of gw5), _, _, rfl, rfl, ?_⟩
  refine ⟨_, rfl, _, rfl, lw, _, _, _, rfl, rfl, SqL.of gw5, wd_at (i := 1) (by omega), hd, _, rfl, DPut.k (k := .inr (wd ws 1)) (v := V.int (((ws.map V.str).length : Nat) - 2 : Int)) hhd5 (Nat.lt_of_le_of_lt (show (fs.map hv).length ≤ 100 by rw [List.length_map]; exact hfs) (by decide)), ?_⟩
  have hput : putK (fs.map hv) (.inr (wd ws 1)) (.int ((ws.drop 2).length : Nat)) = (fs ++ [(wd ws 1, (ws.drop 2).length)]).map hv := hv_put (f := (wd ws 1, (ws.drop 2).length)) hnew
  rw [ev, hput]
  have k6 : KeepL [cl, hd] H (upd H5 hd (.dK ((fs ++ [(wd ws 1, (ws.drop 2).length)]).map hv))) := fun q o n e => by
    rw [upd_ne (fun e => n (by rw [e]; simp))]
    exact s15 _ _ e
  have kt6 : ∀ t xs, H5 t = some (.tup xs) → upd H5 hd (.dK ((fs ++ [(wd ws 1, (ws.drop 2).length)]).map hv)) t = some (.tup xs) := fun t xs e => by
    rw [upd_ne (fun e2 => by rw [e2, hhd5] at e; cases e)]; exact e
  have hcl6 : upd H5 hd (.dK ((fs ++ [(wd ws 1, (ws.drop 2).length)]).map hv)) cl = some (.lst os) := by rw [upd_ne hdcl.symm]; exact s15 _ _ hcl
  have hcs6 : CallsV (upd H5 hd (.dK ((fs ++ [(wd ws 1, (ws.drop 2).length)]).map hv))) st.calls os := (hcs.same s15).mono fun c v ⟨t, h1, h0, h2⟩ => ⟨t, h1, h0, kt6 _ _ h2⟩
  have ha6 : upd H5 hd (.dK ((fs ++ [(wd ws 1, (ws.drop 2).length)]).map hv)) a = some (.lst (ts.map V.str)) := by rw [upd_ne hda.symm]; exact s15 _ _ ha
  have hhd6 : upd H5 hd (.dK ((fs ++ [(wd ws 1, (ws.drop 2).length)]).map hv)) hd = some (.dK ((fs ++ [(wd ws 1, (ws.drop 2).length)]).map hv)) := upd_same
  generalize hG6 : upd H5 hd _ = H6 at k6 hcl6 hcs6 ha6 hhd6 ⊢
  refine ⟨_, rfl, _, rfl, _, _, rfl, rfl, _, rfl, a, cl, ts, ⟨st.at_ + 1, st.num, st.calls⟩, os, rfl, ha6, hacl, hts, hlt, hcl6, hcs6, by show os.length ≤ st.at_ + 1; omega, by decide, fun st2 e7 H7 os7 k7 hcl7 hcs7 hos7 hle7 => ?_, fun e7 H7 os7 k7 hcl7 => ?_⟩
  rotate_left
  · rw [e7] at hF
    refine ⟨_, rfl, rfl, _, rfl, iteDT rfl ?_⟩
    exact q2 (fun f st' e => by rw [hF] at e; cases e) H7 (keepL_trans k6 (keepL_two k7))
  rw [e7] at hF
  simp only at hF
  have k17 := keepL_trans k6 (keepL_two (h := hd) k7)
  have ha7 := k7 _ _ (fun hm => hacl (List.mem_singleton.mp hm)) ha6
  have hhd7 := k7 _ _ (fun hm => hdcl (List.mem_singleton.mp hm)) hhd6
  refine ⟨_, rfl, rfl, _, rfl, iteDF (fun e => by cases e) ?_⟩
  refine ⟨_, rfl, _, rfl, a, _, rfl, .inl (SqL.of ha7), _, _, rfl, rfl, _, rfl, ?_⟩
  rw [List.length_map]
  refine iteD2 (fun c5 => ?_) (fun c5 => ?_)
  · have hh2 : headAt ts st2.at_ = none := by unfold headAt; rw [if_neg (by omega)]
    rw [hh2, if_neg (fun e => by cases e)] at hF
    exact q2 (fun f st' e => by rw [hF] at e; cases e) H7 k17
  have hlt2 : st2.at_ < ts.length := by omega
  have hmem2 : ts[st2.at_] ∈ ts := List.getElem_mem hlt2
  have hln2 := hts.2 _ hmem2
  generalize htx2 : ts[st2.at_] = t2 at hmem2 hln2
  have hdr2 : ts.drop st2.at_ = t2 :: ts.drop (st2.at_ + 1) := by rw [← htx2]; exact List.drop_eq_getElem_cons hlt2
  generalize hws2 : Txt.split t2 (Str.ofString " ") = ws2 at hln2
  obtain ⟨hw2, hh2⟩ := words_here hdr2 hws2
  have hne2 : ws2 ≠ [] := by rw [← hws2]; exact split_ne t2 _
  have hwok2 : WsOk ws2 := by have := hln2.2.2; rw [hws2] at this; exact this
  have hati2 : atI (ts.map V.str) (st2.at_ : Int) = some (V.str t2) := atI_nat (by rw [List.getElem?_map, List.getElem?_eq_getElem hlt2, htx2]; rfl)
  rw [hh2, hw2] at hF
  refine ⟨_, rfl, _, rfl, a, _, _, _, rfl, rfl, SqL.of ha7, hati2, ⟨_, rfl⟩, t2, _, rfl, rfl, (by decide +kernel), sizeL2 (by have := hln2.1; omega), fun lw2 hlw2 => ?_⟩
  rw [hws2]
  generalize hG8 : upd H7 lw2 _ = H8
  have s8 : Same H7 H8 := by rw [← hG8]; exact same_new hlw2
  have gw8 : H8 lw2 = some (.lst (ws2.map V.str)) := by rw [← hG8]; exact upd_same
  refine ⟨_, rfl, lw2, _, _, _, rfl, rfl, SqL.of gw8, at_hd0 hne2, rfl, _, rfl, iteN2 (fun c6 => ?_) (fun c6 => ?_)⟩
  · rw [if_neg (fun e => c6 (congrArg V.str (Option.some.inj e)))] at hF
    exact q2 (fun f st' e => by rw [hF] at e; cases e) H8 (keepL_trans k17 (keepL_same s8))
  rw [if_pos (congrArg some (V.str.inj c6))] at hF
  refine ⟨_, rfl, 1, rfl, lw2, _, rfl, SqL.of gw8, fun l9 hl9 => ?_⟩
  have hcd9 : cutV (ws2.map V.str) (some 1) none = (ws2.drop 1).map V.str := cut_drop (i := 1)
  rw [hcd9]
  have s9 := same_new (o := .lst ((ws2.drop 1).map V.str)) hl9
  refine ⟨l9, ws2.drop 1, rfl, SqL.of upd_same, hwok2.drop 1, fun es he H10 s10 => ?_, fun he H10 s10 => ?_⟩
  · have s810 := (s8.trans s9).trans s10
    refine ⟨rfl, _, rfl, iteN2 (fun c7 => ?_) (fun c7 => ?_)⟩
    · rw [only_none he (fun e => c7 (by rw [e]; rfl))] at hF
      exact q2 (fun f st' e => by rw [hF] at e; cases e) H10 (keepL_trans k17 (keepL_same s810))
    · have hl1 : es.length = 1 := by have := V.int.inj c7; omega
      obtain ⟨e1, he1⟩ := only_of_len he hl1
      rw [he1] at hF
      refine ⟨_, rfl, _, _, rfl, rfl, ?_⟩
      exact q1 _ _ hF (fun g hg => hnew g hg) H10 os7 (keepL_trans k17 (keepL_same s810)) (s810 _ _ hcl7) (hcs7.same s810) (by show os7.length ≤ st2.at_ + 1; omega) hlt2 (s810 _ _ hhd7)
  · have s810 := (s8.trans s9).trans s10
    refine ⟨rfl, _, rfl, iteNT (fun e => by cases e) ?_⟩
    rw [he] at hF
    exact q2 (fun f st' e => by rw [hF] at e; cases e) H10 (keepL_trans k17 (keepL_same s810))

end
end K12
namespace K12
open PySem L2 TL
section
variable {P : Program} {w : World} {K : PySem.W.Frag} {mg : Str → Option Value} {base : Heap} {A : Ads}
theorem ok_l_is_program (T : Txt K mg A) : FnOk P w K mg base CX0 174 A.l_is_program A.l_is_program_d ["_law_text"] (spLProg) := by
  have G_l_fun_behind := ok_l_fun_behind (P := P) (w := w) (base := base) T
  have G_l_behind := ok_l_behind (P := P) (w := w) (base := base) T 6
  refine T.F_l_is_program.ok sc_l_is_program (fun vs H Q E h => ?_) (fun cdv A0 outer s H vs Q E hr h => ?_)
  · obtain ⟨ls, rfl, hne, hts, h10, q⟩ := h
    rfl
  obtain ⟨ls, rfl, hne, hts, h10, q⟩ := h
  refine ⟨_, (pss_cons (ps_set (i := 1) sc_l_is_program.nd rfl (Or.inl rfl) (pe_split (pv 0) pe_str))
   (pss_cons (ps_set (i := 2) sc_l_is_program.nd rfl (Or.inr rfl) pe_dnewK)
   (pss_cons (ps_set (i := 3) sc_l_is_program.nd rfl (Or.inl rfl) (pe_lst pa_nil))
   (pss_cons (ps_set (i := 4) sc_l_is_program.nd rfl (Or.inl rfl) pe_int)
   (pss_cons (ps_cut (ps_while PassesOwn.never (PW.pt (pw_and (pt_cmpR op_lt (pv 4) (pe_callB call_lenK (by rfl) T.z_len (by decide +kernel) (pa_cons (pv 1) pa_nil)) (nomark _)) (pw_and1 (pt_cmpR op_eq (pe_ix ix_list (pe_split (pe_ix ix_list (pv 1) (pv 4) (fun _ _ => rfl)) pe_str) pe_int (fun _ _ => rfl)) pe_str (nomark _)))))
    (pss_cons (ps_set (i := 4) sc_l_is_program.nd rfl (Or.inl rfl) (pe_call G_l_fun_behind (hr.mono (by decide)) rfl T.m_l_fun_behind T.F_l_fun_behind.kp T.b_l_fun_behind .nil pass0 (pa_cons (pv 1) (pa_cons (pv 4) (pa_cons (pv 2) (pa_cons (pv 3) pa_nil))))))
   (pss_one (ps_if (pt_cmpR op_isN (pv 4) pe_non (nomark _))
    (pss_one (ps_ret pe_bl))
    pss_nil)))))
   (pss_cons (ps_if (PW.pt (pw_or (pt_cmpR op_gt (pe_callB call_lenK (by rfl) T.z_len (by decide +kernel) (pa_cons (pv 1) pa_nil)) pe_int (nomark _)) (pw_or (pt_cmpR op_gt (pe_callB call_lenD (by rfl) T.z_len (by decide +kernel) (pa_cons (pv 2) pa_nil)) pe_int (nomark _)) (pw_or1 (pt_cmpR (op_neD hr.units) (pe_slice sl_list (pv 1) (po_some (pv 4)) (po_some (pe_op op_add (pv 4) pe_int))) (pe_lst (pa_cons pe_str pa_nil)) (nomark _))))))
    (pss_one (ps_ret pe_bl))
    pss_nil)
   (pss_cons (ps_if (pt_cmpR op_ne (pe_call G_l_behind (hr.mono (by decide)) rfl T.m_l_behind T.F_l_behind.kp T.b_l_behind .nil pass0 (pa_cons (pv 1) (pa_cons (pe_op op_add (pv 4) pe_int) (pa_cons pe_int (pa_cons (pv 3) pa_nil))))) (pe_callB call_lenK (by rfl) T.z_len (by decide +kernel) (pa_cons (pv 1) pa_nil)) (nomark _))
    (pss_one (ps_ret pe_bl))
    pss_nil)
   (pss_one (ps_ret (pe_cmpR (op_eqD hr.units) (pe_lc (own := [("_law_one", 5)]) (g := gName 5) rfl sc_l_is_program.nd (pi_list (pv 3)) (blkOk_by (own := [("_law_one", 5)]) (N := N_l_is_program) (sc := defScope s_l_is_program) (by decide +kernel)) (fun _ _ _ _ _ => pg_name (i := 5) sc_l_is_program.nd rfl (Or.inl rfl)) (fun _ _ _ _ _ => pts_one (pt_cmpR op_ne (pe_dget2 (hu_of hr) (pv 2) (pe_ix (r := rIxT K) ix_tup (pv 5) pe_int (fun _ _ => rfl)) (pe_un un_neg pe_int) ⟨by rfl, by rfl, by rfl, by rfl⟩) (pe_ix (r := rIxT K) ix_tup (pv 5) pe_int (fun _ _ => rfl)) (nomark _))) (fun _ _ _ _ _ => (pv 5))) (pe_lst pa_nil) (nomark _))))))))))), ?_⟩
  obtain ⟨hsp, hjl⟩ := lines_join hts hne h10
  have ht1 := hts.1
  have hcod := lines_codes hts
  refine ⟨_, rfl, ⟨_, rfl⟩, _, _, rfl, rfl, (by decide +kernel), sizeL2 (by omega), fun a haf => ?_⟩
  rw [hsp]
  generalize hG1 : upd H a _ = H1
  have s1 : Same H H1 := by rw [← hG1]; exact same_new haf
  have ga : H1 a = some (.lst (ls.map V.str)) := by rw [← hG1]; exact upd_same
  show ∀ hd, _ → _
  intro hd hhf
  generalize hG2 : upd H1 hd _ = H2
  have s2 : Same H1 H2 := by rw [← hG2]; exact same_new hhf
  have ghd : H2 hd = some (.dK (([] : List (Str × Nat)).map hv)) := by rw [← hG2]; exact upd_same
  refine ⟨by show 0 ≤ sizeLine; decide, fun cl hcf => ?_⟩
  generalize hG3 : upd H2 cl _ = H3
  have s3 : Same H2 H3 := by rw [← hG3]; exact same_new hcf
  have gcl : H3 cl = some (.lst []) := by rw [← hG3]; exact upd_same
  have hacl : a ≠ cl := ne_of_none (s2 _ _ ga) hcf
  have hahd : a ≠ hd := ne_of_none ga hhf
  have s13 := (s1.trans s2).trans s3
  have nh : H hd = none := none_before s1 hhf
  have nc : H cl = none := none_before (s1.trans s2) hcf
  have toS : ∀ {Ha Hb : Hp}, Same H Ha → KeepL [cl, hd] Ha Hb → Same H Hb := fun sa k q o e => k q o (fun hm => by
    simp only [List.mem_cons, List.not_mem_nil, or_false] at hm
    rcases hm with rfl | rfl
    · rw [nc] at e; cases e
    · rw [nh] at e; cases e) (sa q o e)
  generalize hF0 : funsF ls (ls.length + 1) [] ⟨0, [], []⟩ = F0
  have hrd : F0 = none → readF ls = none := fun e => by
    unfold readF
    rw [hF0, e]
    split <;> rfl
  refine ⟨fun σ' H' => ∃ (st : RS) (os : List V) (fs : List (Str × Nat)) (z5 : Option V), σ' = [some (.str (Txt.join (Str.ofString "\n") ls)), some (.ref a), some (.ref hd), some (.ref cl), some (.int (st.at_ : Nat)), z5] ∧ Same H H' ∧ H' a = some (.lst (ls.map V.str)) ∧ H' cl = some (.lst os) ∧ CallsV H' st.calls os ∧ os.length ≤ st.at_ ∧ st.at_ ≤ ls.length ∧ H' hd = some (.dK (fs.map hv)) ∧ ((fs.length ≤ 4 ∧ F0 = some (fs, st)) ∨ (4 < fs.length ∧ F0 = none)), ?_, ?_⟩
  · refine while_m (fun m σ H' => ∃ (st : RS) (os : List V) (fs : List (Str × Nat)) (z5 : Option V), σ = [some (.str (Txt.join (Str.ofString "\n") ls)), some (.ref a), some (.ref hd), some (.ref cl), some (.int (st.at_ : Nat)), z5] ∧ m = ls.length - st.at_ ∧ Same H H' ∧ H' a = some (.lst (ls.map V.str)) ∧ H' cl = some (.lst os) ∧ CallsV H' st.calls os ∧ os.length ≤ st.at_ ∧ st.at_ ≤ ls.length ∧ H' hd = some (.dK (fs.map hv)) ∧ fs.length ≤ st.at_ ∧ ((fs.length ≤ 4 ∧ ∃ f, ls.length + 1 ≤ f + st.at_ ∧ funsF ls f fs st = F0) ∨ (4 < fs.length ∧ F0 = none)))
      (ls.length - 0) ⟨⟨0, [], []⟩, [], [], none, rfl, rfl, s13, (s2.trans s3) _ _ ga, gcl, .nil, Nat.le_refl _, Nat.zero_le _, s3 _ _ ghd, Nat.le_refl _, .inl ⟨by decide, ls.length + 1, by omega, hF0⟩⟩ ?_
    rintro m σ H4 ⟨st, os, fs, z5, rfl, rfl, s4, ha4, hc4, hcs4, hos4, hat4, hh4, hfl, halt⟩
    -- leaving the loop
    have out : headAt ls st.at_ ≠ some (Str.ofString "fun") → (fs.length ≤ 4 ∧ F0 = some (fs, st)) ∨ (4 < fs.length ∧ F0 = none) := fun hnf => by
      rcases halt with ⟨h4, f, hf, hb⟩ | h
      · obtain ⟨f, rfl⟩ : ∃ f', f = f' + 1 := ⟨f - 1, by omega⟩
        unfold funsF at hb
        rw [if_neg (by exact hnf)] at hb
        exact .inl ⟨h4, hb.symm⟩
      · exact .inr h
    refine ⟨_, rfl, _, rfl, a, _, rfl, .inl (SqL.of ha4), _, _, rfl, rfl, _, rfl, ?_⟩
    rw [List.length_map]
    refine iteD2 (fun c1 => ?_) (fun c1 => ?_)
    rotate_left
    · have hh : headAt ls st.at_ = none := by unfold headAt; rw [if_neg (by omega)]
      exact iteF ⟨st, os, fs, _, rfl, s4, ha4, hc4, hcs4, hos4, hat4, hh4, out (by rw [hh]; intro e; cases e)⟩
    have hlt : st.at_ < ls.length := by omega
    have hmem : ls[st.at_] ∈ ls := List.getElem_mem hlt
    have hln := hts.2 _ hmem
    generalize htx : ls[st.at_] = t at hmem hln
    have hdr : ls.drop st.at_ = t :: ls.drop (st.at_ + 1) := by rw [← htx]; exact List.drop_eq_getElem_cons hlt
    generalize hws : Txt.split t (Str.ofString " ") = ws at hln
    obtain ⟨hw, hh⟩ := words_here hdr hws
    have hne2 : ws ≠ [] := by rw [← hws]; exact split_ne t _
    have hati : atI (ls.map V.str) (st.at_ : Int) = some (V.str t) := atI_nat (by rw [List.getElem?_map, List.getElem?_eq_getElem hlt, htx]; rfl)
    refine ⟨_, rfl, _, rfl, a, _, _, _, rfl, rfl, SqL.of ha4, hati, ⟨_, rfl⟩, t, _, rfl, rfl, (by decide +kernel), sizeL2 (by have := hln.1; omega), fun lw hlw => ?_⟩
    rw [hws]
    generalize hG5 : upd H4 lw _ = H5
    have s5 : Same H4 H5 := by rw [← hG5]; exact same_new hlw
    have gw : H5 lw = some (.lst (ws.map V.str)) := by rw [← hG5]; exact upd_same
    have s05 := s4.trans s5
    refine ⟨lw, _, _, _, rfl, rfl, SqL.of gw, at_hd0 hne2, rfl, _, rfl, iteD2 (fun c2 => ?_) (fun c2 => ?_)⟩
    rotate_left
    · exact ⟨st, os, fs, _, rfl, s05, s5 _ _ ha4, s5 _ _ hc4, hcs4.same s5, hos4, hat4, s5 _ _ hh4, out (by rw [hh]; intro e; exact c2 (congrArg V.str (Option.some.inj e)))⟩
    have hfun : headAt ls st.at_ = some (Str.ofString "fun") := by rw [hh]; exact congrArg some (V.str.inj c2)
    refine ⟨fun σ' H' => ∃ (st' : RS) (os : List V) (fs : List (Str × Nat)) (z5 : Option V), st.at_ < st'.at_ ∧ σ' = [some (.str (Txt.join (Str.ofString "\n") ls)), some (.ref a), some (.ref hd), some (.ref cl), some (.int (st'.at_ : Nat)), z5] ∧ Same H H' ∧ H' a = some (.lst (ls.map V.str)) ∧ H' cl = some (.lst os) ∧ CallsV H' st'.calls os ∧ os.length ≤ st'.at_ ∧ st'.at_ ≤ ls.length ∧ H' hd = some (.dK (fs.map hv)) ∧ fs.length ≤ st'.at_ ∧ ((fs.length ≤ 4 ∧ ∃ f, ls.length + 1 ≤ f + st'.at_ ∧ funsF ls f fs st' = F0) ∨ (4 < fs.length ∧ F0 = none)),
      fun σ' H' ⟨st', os', fs', z', g1, hσ, k⟩ => ⟨ls.length - st'.at_, by have := k.2.2.2.2.2.1; omega, st', os', fs', z', hσ, rfl, k⟩, ?_⟩
    refine ⟨_, rfl, _, rfl, _, rfl, _, rfl, a, hd, cl, ls, st, os, fs, rfl, s5 _ _ ha4, hacl, hts, hlt, s5 _ _ hc4, hcs4.same s5, hos4, s5 _ _ hh4, by omega, fun fn st' e hnew H6 os6 k6 hc6 hcs6 hos6 hle6 hh6 => ?_, fun hno H6 k6 => ?_⟩
    · have hlt6 := functionF_at hlt e
      have ha6 := k6 _ _ (fun hm => by
        simp only [List.mem_cons, List.not_mem_nil, or_false] at hm
        exact hm.elim hacl hahd) (s5 _ _ ha4)
      refine ⟨_, rfl, rfl, _, rfl, iteDF (fun e => by cases e) ?_⟩
      refine ⟨st', os6, fs ++ [fn], _, hlt6, rfl, toS s05 k6, ha6, hc6, hcs6, hos6, hle6, hh6, by rw [List.length_append, List.length_singleton]; omega, ?_⟩
      rcases halt with ⟨h4, f, hf, hb⟩ | ⟨h4, hb⟩
      · obtain ⟨f, rfl⟩ : ∃ f', f = f' + 1 := ⟨f - 1, by omega⟩
        unfold funsF at hb
        rw [if_pos (by exact hfun), e] at hb
        simp only at hb
        have hany : (fs.any fun g => decide (g.1 = fn.1)) = false := List.any_eq_false.mpr fun g hg => by
          rw [decide_eq_false (hnew g hg)]; decide
        by_cases c4 : fs.length = 4
        · rw [if_pos (.inr c4)] at hb
          exact .inr ⟨by rw [List.length_append, List.length_singleton]; omega, hb.symm⟩
        · rw [if_neg (fun h => h.elim (fun h => by rw [hany] at h; cases h) c4)] at hb
          exact .inl ⟨by rw [List.length_append, List.length_singleton]; omega, f, by omega, hb⟩
      · exact .inr ⟨by rw [List.length_append, List.length_singleton]; omega, hb⟩
    · have hnone : F0 = none := by
        rcases halt with ⟨h4, f, hf, hb⟩ | ⟨h4, hb⟩
        · obtain ⟨f, rfl⟩ : ∃ f', f = f' + 1 := ⟨f - 1, by omega⟩
          unfold funsF at hb
          rw [if_pos (by exact hfun)] at hb
          cases hfn : functionF ls st with
          | none => rw [hfn] at hb; exact hb.symm
          | some p =>
            obtain ⟨fn, st'⟩ := p
            rw [hfn] at hb
            simp only at hb
            obtain ⟨g, hg, hge⟩ := hno fn st' hfn
            rw [if_pos (.inl (List.any_eq_true.mpr ⟨g, hg, decide_eq_true hge⟩))] at hb
            exact hb.symm
        · exact hb
      refine ⟨_, rfl, rfl, _, rfl, iteDT rfl ?_⟩
      have hq := q H6 (toS s05 k6)
      rw [hrd hnone] at hq
      exact hq
  · rintro σ' H4 ⟨st, os, fs, z5, rfl, s4, ha4, hc4, hcs4, hos4, hat4, hh4, halt⟩
    have fls : ∀ {H' : Hp}, Same H H' → readF ls = none → Q (.bl false) H' := fun s e => by
      have hq := q _ s
      rw [e] at hq
      exact hq
    refine ⟨_, rfl, a, _, rfl, .inl (SqL.of ha4), _, _, rfl, rfl, _, rfl, ?_⟩
    rw [List.length_map]
    refine iteD2 (fun c1 => ?_) (fun c1 => ?_)
    · exact fls s4 (by unfold readF; rw [if_neg (by omega)])
    refine ⟨_, rfl, hd, _, rfl, hh4, _, _, rfl, rfl, _, rfl, ?_⟩
    rw [List.length_map]
    refine iteD2 (fun c2 => ?_) (fun c2 => ?_)
    · rcases halt with ⟨h4, _⟩ | ⟨_, h⟩
      · omega
      · exact fls s4 (hrd h)
    obtain ⟨h4, hF⟩ : fs.length ≤ 4 ∧ F0 = some (fs, st) := by
      rcases halt with h | ⟨h, _⟩
      · exact h
      · omega
    refine ⟨_, rfl, _, rfl, _, rfl, _, rfl, _, _, rfl, rfl, _, rfl, a, _, rfl, SqL.of ha4, fun l5 hl5 => ?_⟩
    have hcm : cutV (ls.map V.str) (some ((st.at_ : Nat) : Int)) (some (((st.at_ : Nat) : Int) + 1)) = ((ls.drop st.at_).take 1).map V.str := by
      rw [show ((st.at_ : Nat) : Int) + 1 = ((st.at_ + 1 : Nat) : Int) from by omega, cut_mid, show st.at_ + 1 - st.at_ = 1 from by omega]
    rw [hcm]
    generalize hG5 : upd H4 l5 _ = H5
    have s5 : Same H4 H5 := by rw [← hG5]; exact same_new hl5
    have g5 : H5 l5 = some (.lst (((ls.drop st.at_).take 1).map V.str)) := by rw [← hG5]; exact upd_same
    refine ⟨by show 1 ≤ sizeLine; decide, fun l6 hl6 => ?_⟩
    generalize hG6 : upd H5 l6 _ = H6
    have s6 : Same H5 H6 := by rw [← hG6]; exact same_new hl6
    have g6 : H6 l6 = some (.lst (([Str.ofString "main"] : List Str).map V.str)) := by rw [← hG6]; exact upd_same
    have cod1 : Codes ((ls.drop st.at_).take 1) := fun t ht => hcod t (List.mem_of_mem_drop (List.mem_of_mem_take ht))
    have cod2 : Codes [Str.ofString "main"] := fun t ht => by rw [List.mem_singleton.mp ht]; decide +kernel
    have s56 := s5.trans s6
    have s06 := s4.trans s56
    refine ⟨strsD ((ls.drop st.at_).take 1), strsD [Str.ofString "main"], .lst (SqL.of (s6 _ _ g5)) (dp_strs _), .lst (SqL.of g6) (dp_strs [Str.ofString "main"]), strs_shaped cod1, strs_shaped cod2, _, rfl, ?_⟩
    rw [strs_eqv]
    refine iteN2 (fun c3 => ?_) (fun c3 => ?_)
    · refine fls s06 ?_
      have hp : passF ls (Str.ofString "main") st = none := by
        have := @pass_slice ls (Str.ofString "main") st
        rw [decide_eq_false c3] at this
        exact Option.not_isSome_iff_eq_none.mp (by rw [← this]; decide)
      unfold readF
      rw [hF0, hF, if_pos (by omega)]
      simp only
      have hp' : passF ls "main" st = none := hp
      rw [hp']
    obtain ⟨st1, hp⟩ : ∃ st1, passF ls (Str.ofString "main") st = some st1 := by
      have := @pass_slice ls (Str.ofString "main") st
      rw [decide_eq_true c3] at this
      exact Option.isSome_iff_exists.mp this.symm
    obtain ⟨p1, p2, p3, p4⟩ := passF_at hp
    have hrf : readF ls = (match blockF ls 6 st1 with
        | none => none
        | some st2 => if st2.at_ = ls.length ∧ st2.calls.all (callOk fs) = true then some st2.num else none) := by
      unfold readF
      rw [hF0, hF, if_pos (by omega)]
      simp only
      have hp' : passF ls "main" st = some st1 := hp
      rw [hp']
      all_goals (try simp only)
      all_goals (cases blockF ls 6 st1 <;> rfl)
    have ha6 := s56 _ _ ha4
    refine ⟨_, rfl, _, rfl, _, _, rfl, rfl, _, rfl, a, cl, ls, st1, os, ?_, ha6, hacl, hts, p2, s56 _ _ hc4, by rw [p4]; exact hcs4.same s56, by rw [p1]; omega, by decide, fun st2 e7 H7 os7 k7 hcl7 hcs7 hos7 hle7 => ?_, fun e7 H7 os7 k7 hcl7 => ?_⟩
    · rw [p1]; rfl
    rotate_left
    · have s07 := toS s06 (keepL_two (h := hd) k7)
      have ha7 := k7 _ _ (fun hm => hacl (List.mem_singleton.mp hm)) ha6
      rw [e7] at hrf
      refine ⟨_, rfl, a, _, rfl, .inl (SqL.of ha7), rfl, _, rfl, iteNT (fun e => by cases e) ?_⟩
      exact fls s07 hrf
    rw [e7] at hrf
    simp only at hrf
    have s07 := toS s06 (keepL_two (h := hd) k7)
    have ha7 := k7 _ _ (fun hm => hacl (List.mem_singleton.mp hm)) ha6
    have hdcl : hd ≠ cl := fun e => by rw [e, hc4] at hh4; cases hh4
    have hh7 := k7 _ _ (fun hm => hdcl (List.mem_singleton.mp hm)) (s56 _ _ hh4)
    refine ⟨_, rfl, a, _, rfl, .inl (SqL.of ha7), rfl, _, rfl, ?_⟩
    rw [List.length_map]
    refine iteN2 (fun c4 => ?_) (fun c4 => ?_)
    · rw [if_neg (fun h => c4 (by rw [h.1]))] at hrf
      exact fls s07 hrf
    have c4' : st2.at_ = ls.length := by have := V.int.inj c4; omega
    refine ⟨_, rfl, cl, rfl, ⟨_, SqL.of hcl7⟩, fun D hD => lc_calls (fun c => !callOk fs c) walk_list hcs7 hD (by omega) (fun H' s' => SqL.of (s' _ _ hcl7)) ?_ ?_ ?_⟩
    · intro c hc t H8 Z s8 ht8 z
      have hh8 := s8 _ _ hh7
      have hg : DGet H8 hd (.str c.1) (valV (fs.map hv) (.inr c.1)) := DGet.k (k := .inr c.1) hh8
      have at0 : atI [V.str c.1, V.int (c.2 : Nat)] 0 = some (V.str c.1) := rfl
      have at1 : atI [V.str c.1, V.int (c.2 : Nat)] 1 = some (V.int (c.2 : Nat)) := rfl
      refine ⟨_, rfl, hd, rfl, .inl ⟨_, .inl hh8⟩, _, rfl, t, _, _, _, rfl, rfl, SqT.of ht8, at0, _, rfl, _, hg, ?_⟩
      rw [show (valV (fs.map hv) (.inr c.1)).getD (V.int (-1)) = _ from hv_getD]
      refine ⟨_, rfl, t, _, _, _, rfl, rfl, SqT.of ht8, at1, rfl, _, rfl, ?_⟩
      rw [callOk_dec]
      exact z _ (Same.refl _)
    · intro t H8 Z z
      exact ⟨_, rfl, z⟩
    · intro H8 os8 s8 hD8 hcs8
      refine ⟨by show 0 ≤ sizeLine; decide, fun z hz => ?_⟩
      have sz := same_new (o := .lst ([] : List V)) hz
      refine ⟨.list ((st2.calls.filter fun c => !callOk fs c).map callD), .list [], .lst (SqL.of (sz _ _ hD8)) (calls_dp (hcs8.same sz)), .lst (SqL.of upd_same) .nil, calls_shaped hcs8, rfl, ?_⟩
      rw [calls_eqv, filt_allC]
      have hq := q _ ((s07.trans s8).trans sz)
      rw [hrf] at hq
      cases hall : st2.calls.all (callOk fs) with
      | true =>
        rw [hall, if_pos ⟨c4', rfl⟩] at hq
        exact hq
      | false =>
        rw [hall, if_neg (fun h => by cases h.2)] at hq
        exact hq

def ML0 : List Str := ["", " ", "skip", "skip ", " skip", "skip a", "skips", "set a 1", "set a", "set", "set 1 a", "set a 1 2"]
def ML1 : List Str := ["set if 1", "set  a 1", "set abcdefg 1", "set a cell", "set a plus 1", "set a 01", "set a 1000000"]
def ML2 : List Str := ["set a -1", "set A 1", "put 1 2", "put 1", "put a b c", "put", "ask a b 1", "ask a b", "ask a 1"]
def ML3 : List Str := ["ask a b 1 2", "ask a less 1", "ask ask a 1", "draw a b", "draw a", "draw a b 1", "draw a 1"]
def ML4 : List Str := ["draw a same", "tell 1", "tell", "tell 1 2", "tell tell", "if 1", "if", "if 1 2", "else", "else 1"]
def ML5 : List Str := ["else ", "end", "end ", "ends", "while a", "while", "while 1 2", "while end", "call a f"]
def ML6 : List Str := ["call a f 1", "call a f 1 2", "call a go 1", "call a a", "call f", "call a f 1 2 3"]
def ML7 : List Str := ["call a nofun", "call 1 f"]
def ML8 : List Str := ["call a main", "fun f", "fun a", "fun go a", "fun", "fun f a a", "fun x a b c", "fun x a b c d"]
def ML9 : List Str := ["fun x 1", "fun if", "fun x x", "fun ab f go", "main", "main ", "Main", "main a", "give 1", "give"]
def ML10 : List Str := ["give 1 2", "give a ", "cell 1", "plus 1 2", "a", "1", "stop", "tell cell cell cell cell cell 1"]
def ML11 : List Str := ["tell cell cell cell cell cell cell 1", "set abcdef 999999", "tell plus 1"]
def MENUL : List Str := (((((((((((ML0 ++ ML1) ++ ML2) ++ ML3) ++ ML4) ++ ML5) ++ ML6) ++ ML7) ++ ML8) ++ ML9) ++ ML10) ++ ML11)
def LnG (k : Nat) (t : Str) : Prop := (∀ w ∈ Txt.split t (Str.ofString " "), WordOk w ∧ 10 ∉ tl w) ∧ (Txt.split t (Str.ofString " ")).length ≤ 100 + k
instance (w : Str) : Decidable (WordOk w) := by unfold WordOk; infer_instance
instance (k : Nat) (t : Str) : Decidable (LnG k t) := by unfold LnG; infer_instance
theorem menul_ok : ∀ s ∈ MENUL, LnG 0 s := by decide +kernel
theorem LnG.mono {k j : Nat} {t : Str} (h : LnG k t) (e : k ≤ j) : LnG j t := ⟨h.1, by have := h.2; omega⟩
theorem blank_eq : (Str.ofString " ") = (⟨#[32]⟩ : Str) := by decide +kernel
theorem LnG.free {t : Str} : ∀ w ∈ Txt.split t (Str.ofString " "), 32 ∉ tl w := by
  rw [blank_eq]
  exact PySem.StrLaws.split_free t 32
theorem LnG.chars {k : Nat} {t : Str} (h : LnG k t) : ∀ c ∈ tl t, c < 128 ∧ c ≠ 10 := fun c hc => by
  have e := congrArg tl (PySem.StrLaws.join_split t (Str.ofString " "))
  rw [tl_join, tl_blank] at e
  rw [← e] at hc
  rcases joinL_mem2 hc with rfl | ⟨p, hp, hcp⟩
  · decide
  · obtain ⟨w, hw, rfl⟩ := List.mem_map.mp hp
    obtain ⟨h1, h2⟩ := h.1 w hw
    exact ⟨h1.2 c hcp, fun e => h2 (e ▸ hcp)⟩
theorem LnG.len {k : Nat} {t : Str} (h : LnG k t) (hk : k ≤ 40) : t.length ≤ 1200 := by
  have e := congrArg tl (PySem.StrLaws.join_split t (Str.ofString " "))
  rw [tl_join, tl_blank] at e
  rw [len_tl, ← e]
  have hb : ∀ {ps : List (List Nat)}, (∀ p ∈ ps, p.length ≤ 7) → (joinL [32] ps).length ≤ 8 * ps.length := by
    intro ps
    induction ps with
    | nil => intro _; exact Nat.zero_le _
    | cons p r ih =>
      intro hp
      have h1 := hp p List.mem_cons_self
      have h2 := ih fun q hq => hp q (List.mem_cons_of_mem _ hq)
      cases r with
      | nil => show p.length ≤ 8 * 1; omega
      | cons q r =>
        show (p ++ ([32] ++ joinL [32] (q :: r))).length ≤ 8 * ((q :: r).length + 1)
        rw [List.length_append, List.length_append]
        show p.length + (1 + _) ≤ _
        omega
  have := hb (ps := (Txt.split t (Str.ofString " ")).map tl) fun p hp => by
    obtain ⟨w, hw, rfl⟩ := List.mem_map.mp hp
    exact (h.1 w hw).1.1
  rw [List.length_map] at this
  have := h.2
  omega
theorem LnG.lnw {k : Nat} {t : Str} (h : LnG k t) (hk : k ≤ 40) : LnW t := ⟨by have := h.len hk; omega, fun c hc => (h.chars c hc).1, by have := h.2; omega, fun w hw => (h.1 w hw).1⟩
theorem LnG.of_words {k : Nat} {ws : List Str} (h : ∀ w ∈ ws, WordOk w ∧ 10 ∉ tl w ∧ 32 ∉ tl w) (hl : ws.length ≤ 100 + k) : LnG k (Txt.join (Str.ofString " ") ws) := by
  by_cases e : ws = []
  · subst e
    have : LnG 0 (Txt.join (Str.ofString " ") []) := by decide +kernel
    exact this.mono (Nat.zero_le _)
  · have hs : Txt.split (Txt.join (Str.ofString " ") ws) (Str.ofString " ") = ws := split_join (s := 32) (S := []) tl_blank (by decide +kernel) e fun p hp => (h p hp).2.2
    refine ⟨?_, ?_⟩
    · rw [hs]; exact fun w hw => ⟨(h w hw).1, (h w hw).2.1⟩
    · rw [hs]; exact hl
theorem LnG.ws {k : Nat} {t : Str} (h : LnG k t) : ∀ w ∈ Txt.split t (Str.ofString " "), WordOk w ∧ 10 ∉ tl w ∧ 32 ∉ tl w := fun w hw => ⟨(h.1 w hw).1, (h.1 w hw).2, LnG.free w hw⟩
theorem OTH_ok : ∀ w ∈ (["end", "else", "0", "if", "zz", "times", ""] : List Str), WordOk w ∧ 10 ∉ tl w ∧ 32 ∉ tl w := by decide +kernel
theorem fin_sum {ws us : List Str} (hl : ws.length ≤ 130) (h : ∀ w ∈ ws, WordOk w ∧ 10 ∉ tl w ∧ 32 ∉ tl w) (hu : us.length ≤ 200) (h2 : ∀ w ∈ us, w ∈ ws ∨ w ∈ (["end", "else", "0", "if", "zz", "times", ""] : List Str)) : (us.map (·.length)).sum + us.length * (Str.ofString " ").length ≤ 16777216 := by
  have b : ∀ w ∈ us, w.length ≤ 10 := fun w hw => by
    rw [len_tl]
    rcases h2 w hw with e | e
    · have := (h w e).1.1; omega
    · have := (OTH_ok w e).1.1; omega
  have hg : ∀ {ws : List Str}, (∀ w ∈ ws, w.length ≤ 10) → (ws.map (·.length)).sum ≤ 10 * ws.length := by
    intro ws
    induction ws with
    | nil => intro _; exact Nat.zero_le _
    | cons x r ih =>
      intro h
      have := ih fun w hw => h w (List.mem_cons_of_mem x hw)
      have := h x List.mem_cons_self
      rw [List.map_cons, List.sum_cons, List.length_cons]
      omega
  have := hg b
  rw [show (Str.ofString " ").length = 1 from by decide +kernel]
  omega
theorem words12 {ws us : List Str} (h : ∀ w ∈ ws, WordOk w ∧ 10 ∉ tl w ∧ 32 ∉ tl w) (h2 : ∀ w ∈ us, w ∈ ws ∨ w ∈ (["end", "else", "0", "if", "zz", "times", ""] : List Str)) : ∀ w ∈ us, WordOk w ∧ 10 ∉ tl w ∧ 32 ∉ tl w := fun w hw => (h2 w hw).elim (h w) (OTH_ok w)
def spMenu12 : Sp := fun vs H Q _ => ∃ (p : Addr), vs = [.ref p] ∧ WellAt H p ∧ ∀ (s : Str) H', LnG 0 s → KeepX p H H' → WellAt H' p → Q (.str s) H'
def spChanged : Sp := fun vs H Q _ => ∃ (p : Addr) (t : Str) (k : Nat), vs = [.ref p, .str t] ∧ WellAt H p ∧ LnG k t ∧ k ≤ 30 ∧ ∀ (s : Str) H', LnG (k + 1) s → KeepX p H H' → WellAt H' p → Q (.str s) H'
def spSpoiled12 : Sp := fun vs H Q _ => ∃ (p a : Addr) (ls : List Str) (k : Nat), vs = [.ref p, .ref a] ∧ WellAt H p ∧ H a = some (.lst (ls.map V.str)) ∧ a ≠ p ∧ ls ≠ [] ∧ ls.length ≤ 90 ∧ (∀ t ∈ ls, LnG k t) ∧ k ≤ 30 ∧
  ∀ (b : Addr) (us : List Str) H', H' b = some (.lst (us.map V.str)) → b ≠ p → us ≠ [] → us.length ≤ ls.length + 1 → (∀ t ∈ us, LnG (k + 1) t) → KeepX p H H' → WellAt H' p → Q (.ref b) H'

theorem tok_lng {s : Str} (h : TokOk s) : WordOk s ∧ 10 ∉ tl s := ⟨⟨by have := h.1; omega, fun c hc => by have := h.2 c hc; omega⟩, fun e => by have := h.2 10 e; omega⟩
theorem toks_lng {t : Str} {ws : List Str} (hs : Txt.split t (Str.ofString " ") = ws) (h : ∀ s ∈ ws, TokOk s) (hl : ws.length ≤ 100) : LnG 0 t := by
  unfold LnG
  rw [hs]
  exact ⟨fun w hw => tok_lng (h w hw), by omega⟩
theorem word_lng : ∀ s ∈ (["main", "else", "end", ""] : List Str), LnG 0 s := by decide +kernel
theorem RT.lng {rt : RT} (h : rt.Ok) : LnG 0 rt.text := toks_lng (RT.split h) (RT.tok h) (RT.toks_len h)
theorem Body.lng {hs : List (Str × Nat)} : ∀ {d : Nat} {L : List Str} {R : List (Option RT)}, Body hs d L R → ∀ t ∈ L, LnG 0 t := by
  intro d L R h
  induction h with
  | nil => intro t ht; cases ht
  | app _ _ h1 h2 =>
    intro t ht
    rcases List.mem_append.mp ht with h | h
    · exact h1 t h
    · exact h2 t h
  | row h _ => intro t ht; rw [List.mem_singleton.mp ht]; exact RT.lng h
  | call h _ => intro t ht; rw [List.mem_singleton.mp ht]; exact RT.lng h
  | loop he _ h =>
    intro t ht
    rcases List.mem_cons.mp ht with rfl | ht
    · exact RT.lng (rt := .loop _) he
    rcases List.mem_append.mp ht with ht | ht
    · exact h t ht
    · rw [List.mem_singleton.mp ht]; exact word_lng _ (by decide +kernel)
  | ifr he _ _ h1 h2 =>
    intro t ht
    rcases List.mem_cons.mp ht with rfl | ht
    · exact RT.lng (rt := .ifr _) he
    rcases List.mem_append.mp ht with ht | ht
    · exact h1 t ht
    rcases List.mem_cons.mp ht with rfl | ht
    · exact word_lng _ (by decide +kernel)
    rcases List.mem_append.mp ht with ht | ht
    · exact h2 t ht
    · rw [List.mem_singleton.mp ht]; exact word_lng _ (by decide +kernel)
theorem FnB.Ok.lng {hs : List (Str × Nat)} {b : FnB} (h : b.Ok hs) : ∀ t ∈ b.lines, LnG 0 t := fun t ht => by
  rcases List.mem_cons.mp ht with rfl | ht
  · exact toks_lng (head_split h.head) (head_tok h.head) (by have := h.head.2.2.1; simp; omega)
  rcases List.mem_append.mp ht with ht | ht
  · exact h.body.lng t ht
  · rw [List.mem_singleton.mp ht]; exact RT.lng (rt := .give b.e) h.ex
theorem ProgOk.lng {ts : List Str} {R : List (Option RT)} (h : ProgOk ts R) : ∀ t ∈ ts, LnG 0 t := by
  obtain ⟨bs, L, M, ok, h4, hn, hb, hts, hR⟩ := h.ex
  intro t ht
  rw [hts] at ht
  rcases List.mem_append.mp ht with ht | ht
  · obtain ⟨b, hb, ht⟩ := List.mem_flatMap.mp ht
    exact (ok b hb).lng t ht
  rcases List.mem_cons.mp ht with rfl | ht
  · exact word_lng _ (by decide +kernel)
  · exact hb.lng t ht
theorem readF_len {ts : List Str} {num : List (Nat × RT)} (h : readF ts = some num) : ts.length ≤ 60 := by
  unfold readF at h
  by_cases c : ts.length ≤ 60
  · exact c
  · rw [if_neg c] at h; cases h
theorem lng_split {ls : List Str} (hne : ls ≠ []) (h : ∀ t ∈ ls, LnG 40 t) : Txt.split (Txt.join (Str.ofString "\n") ls) (Str.ofString "\n") = ls :=
  split_join (s := 10) (S := []) tl_end (by decide +kernel) hne fun p hp hm => ((h p hp).chars 10 hm).2 rfl
theorem lng_jlen {ls : List Str} (hl : ls.length ≤ 95) (h : ∀ t ∈ ls, LnG 40 t) : (Txt.join (Str.ofString "\n") ls).length ≤ 200000 := by
  rw [len_tl, join_eq, tl_join, tl_end]
  have := joinL_bound (B := 1200) (ps := ls.map tl) fun p hp => by
    obtain ⟨t, ht, rfl⟩ := List.mem_map.mp hp
    rw [← len_tl]; exact (h t ht).len (Nat.le_refl _)
  rw [List.length_map] at this
  omega
theorem lng_text {ls : List Str} (hne : ls ≠ []) (hl : ls.length ≤ 95) (h : ∀ t ∈ ls, LnG 40 t) : TextOk (Txt.join (Str.ofString "\n") ls) := by
  refine ⟨?_, ?_, ?_⟩
  · have := lng_jlen hl h; omega
  · have e' : Txt.split (Txt.join (Str.ofString "\n") ls) "\n" = ls := lng_split hne h
    rw [e']
    exact fun t ht => Nat.le_trans ((h t ht).len (Nat.le_refl _)) (by decide)
  · refine strOk_ascii fun c hc => ?_
    rw [join_eq, tl_join, tl_end] at hc
    rcases joinL_mem2 hc with rfl | ⟨p, hp, hcp⟩
    · decide
    · obtain ⟨t, ht, rfl⟩ := List.mem_map.mp hp
      exact ((h t ht).chars c hcp).1
theorem lng_ts {ls : List Str} (hl : ls.length ≤ 95) (h : ∀ t ∈ ls, LnG 40 t) : TsOk ls := ⟨by omega, fun t ht => (h t ht).lnw (Nat.le_refl _)⟩
theorem lng_10 {ls : List Str} (h : ∀ t ∈ ls, LnG 40 t) : ∀ t ∈ ls, 10 ∉ tl t := fun t ht hm => ((h t ht).chars 10 hm).2 rfl
theorem sum12 {ls : List Str} (hl : ls.length ≤ 95) (h : ∀ t ∈ ls, LnG 40 t) : (ls.map (·.length)).sum + ls.length * (Str.ofString "\n").length ≤ 16777216 := by
  have hg : ∀ {ws : List Str}, (∀ w ∈ ws, w.length ≤ 1200) → (ws.map (·.length)).sum ≤ 1200 * ws.length := by
    intro ws
    induction ws with
    | nil => intro _; exact Nat.zero_le _
    | cons x r ih =>
      intro h
      have := ih fun w hw => h w (List.mem_cons_of_mem x hw)
      have := h x List.mem_cons_self
      rw [List.map_cons, List.sum_cons, List.length_cons]
      omega
  have := hg fun t ht => (h t ht).len (Nat.le_refl _)
  rw [show (Str.ofString "\n").length = 1 from by decide +kernel]
  omega
theorem join_snoc : ∀ {ps : List (List Nat)}, ps ≠ [] → joinL [10] (ps ++ [[]]) = joinL [10] ps ++ [10]
  | [], h => absurd rfl h
  | [p], _ => by show p ++ ([10] ++ []) = p ++ [10]; rfl
  | p :: q :: r, _ => by
    show p ++ ([10] ++ joinL [10] ((q :: r) ++ [[]])) = (p ++ ([10] ++ joinL [10] (q :: r))) ++ [10]
    rw [join_snoc (by simp)]
    simp [List.append_assoc]
theorem tl_empty : tl (Str.ofString "") = [] := by decide +kernel
theorem txt_snoc {ls : List Str} (hne : ls ≠ []) : Txt.join (Str.ofString "\n") ls ++ Str.ofString "\n" = Txt.join (Str.ofString "\n") (ls ++ [Str.ofString ""]) := by
  refine ext_tl ?_
  rw [tl_append, join_eq, tl_join, join_eq, tl_join, tl_end, List.map_append]
  show _ = joinL [10] (ls.map tl ++ [tl (Str.ofString "")])
  rw [tl_empty, join_snoc (by simpa using hne)]
theorem txt_cons {ls : List Str} (hne : ls ≠ []) : Str.ofString "\n" ++ Txt.join (Str.ofString "\n") ls = Txt.join (Str.ofString "\n") (Str.ofString "" :: ls) := by
  refine ext_tl ?_
  rw [tl_append, join_eq, tl_join, join_eq, tl_join, tl_end, List.map_cons, tl_empty]
  obtain ⟨x, r, rfl⟩ := List.exists_cons_of_ne_nil hne
  show _ = [] ++ ([10] ++ joinL [10] ((x :: r).map tl))
  rfl
theorem shaped12 : SeqAt.shaped (.str "refused") = true := by decide +kernel
section
variable (K : PySem.W.Frag)
def spFound12 : Sp := fun vs H Q _ => ∃ x : V, vs = [x] ∧ ((∃ ls : List Str, x = .str (Txt.join (Str.ofString "\n") ls) ∧ ls ≠ [] ∧ ls.length ≤ 95 ∧ (∀ t ∈ ls, LnG 40 t) ∧ ∀ H', Same H H' → Q (.str (if (readF ls).isSome = true then Txt.join (Str.ofString "\n") ls else Str.ofString "refused")) H') ∨ (∃ t, TyX K H x t ∧ PySem.W.kitOne K t (.type "str") = some false ∧ ∀ H', Same H H' → Q (.str (Str.ofString "refused")) H'))
end

end
end K12
namespace K12
open PySem L2 TL
section
variable {P : Program} {w : World} {K : PySem.W.Frag} {mg : Str → Option Value} {base : Heap} {A : Ads}
theorem ok_l_found (T : Txt K mg A) : FnOk P w K mg base CX0 33 A.l_found A.l_found_d ["_law_text"] (spFound12 K) := by
  have G_read_program := ok_read_program (P := P) (w := w) (base := base) T
  have G_Program_text := ok_Program_text (P := P) (w := w) (base := base) T
  refine T.F_l_found.ok sc_l_found (fun vs H Q E h => ?_) (fun cdv A0 outer s H vs Q E hr h => ?_)
  · obtain ⟨x, rfl, h⟩ := h
    rfl
  obtain ⟨x, rfl, h⟩ := h
  refine ⟨_, (pss_cons (ps_try_as (i := 2) (Wout := fun _ _ _ _ => False) rfl rfl sc_l_found.nd rfl rfl ⟨rfl, by decide, Or.inl T.m_HadError⟩ takes0
    (fun W pn xe tk _ => (pss_one (ps_set (i := 1) sc_l_found.nd rfl (Or.inl rfl) (pe_callS G_read_program (hr.mono (by decide)) rfl T.m_read_program T.F_read_program.kp T.b_read_program (fun σ => passAt tk σ) (pa_cons (pv 0) pa_nil)))))
    (fun a oe cls d pn hz hf => (pss_cons (ps_set (i := 3) sc_l_found.nd rfl (Or.inl rfl) (pe_callB (call_isXT hz hf) (by rfl) T.z_isinstance (by decide +kernel) (pa_cons (pv 2) (pa_cons (pe_tup (pa_cons (pe_glob (v := .ref A.NoChange) (by rfl) T.m_NoChange rfl) (pa_cons (pe_glob (v := .ref A.NoText) (by rfl) T.m_NoText rfl) (pa_cons (pe_glob (v := .ref A.NoValue) (by rfl) T.m_NoValue rfl) (pa_cons (pe_glob (v := .ref A.NoWish) (by rfl) T.m_NoWish rfl) pa_nil))))) pa_nil))))
   (pss_cons (ps_set (i := 4) sc_l_found.nd rfl (Or.inl rfl) (pe_and (pe_callB (call_isX hz hf) (by rfl) T.z_isinstance (by decide +kernel) (pa_cons (pv 2) (pa_cons (pe_glob (v := .ref A.NoProgram) (by rfl) T.m_NoProgram rfl) pa_nil))) (pe_and (pe_callB (call_isX hz hf) (by rfl) T.z_isinstance (by decide +kernel) (pa_cons (pv 2) (pa_cons (pe_bltn (v := .ty "ValueError") (by rfl) T.z_ValueError (by decide +kernel) rfl) pa_nil))) (pe_one (pe_not (pv 3))))))
   (pss_one (ps_ret (pe_ix (r := rIxL K) ix_list (pe_lst (pa_cons pe_str (pa_cons pe_str pa_nil))) (pe_callTy call_int1 (by rfl) T.z_int (by decide +kernel) (pa_cons (pv 4) pa_nil)) (fun _ _ => rfl))))))))
   (pss_one (ps_ret (pe_meth0 (pv 1) T.cl_Program T.me_Program_text G_Program_text (hr.mono (by decide)) T.b_Program_text .nil pass0)))), ?_⟩
  rcases h with ⟨ls, rfl, hne, hl, hok, q⟩ | ⟨t, ht, hk, q⟩
  · have htx := lng_text hne hl hok
    have hsp : Txt.split (Txt.join (Str.ofString "\n") ls) "\n" = ls := lng_split hne hok
    refine ⟨_, rfl, _, rfl, .inl ⟨_, rfl, htx, fun num v H1 e s1 hP => ?_, fun no H1 s1 => ?_⟩⟩
    · rw [hsp] at e hP
      obtain ⟨pp, dx, la, ld, m, f, kvs, rfl, hp, hS, hd, hnum⟩ := id hP
      have hl := readF_len e
      refine ⟨_, rfl, pp, dx, _, rfl, hp, rfl, _, _, num, rfl, hP, by omega, fun t ht => Nat.le_trans ((hok t ht).len (Nat.le_refl _)) (by decide), ?_⟩
      have := q _ s1
      rw [e] at this
      exact this
    · rw [hsp] at no
      have q := fun H' s' => q H' s'
      rw [no] at q
      exact ⟨true, T.xh, fun _ ex hex => by
    refine ⟨_, rfl, by show 4 ≤ sizeLine; decide, fun tp htp => ?_⟩
    refine ⟨A.NoProgram, tp, _, [.ref A.NoChange, .ref A.NoText, .ref A.NoValue, .ref A.NoWish], false, rfl, rfl, excNP T, rfl, upd_same, .cons (.own _) (.cons (.own _) (.cons (.own _) (.cons (.own _) .nil))), T.xo, ?_⟩
    refine ⟨_, rfl, A.NoProgram, _, _, true, rfl, rfl, excNP T, rfl, (fun u h => h), is_self _, _, rfl, iteT ?_⟩
    refine ⟨_, rfl, A.NoProgram, _, _, true, rfl, rfl, excNP T, rfl, (fun u h => h), T.xv, _, rfl, iteT ?_⟩
    refine ⟨_, rfl, _, rfl, ?_⟩
    refine ⟨by show 2 ≤ sizeLine; decide, fun l hl => ?_⟩
    refine ⟨_, rfl, .inr ⟨_, rfl, ?_⟩⟩
    refine ⟨l, _, _, _, rfl, rfl, SqL.of upd_same, rfl, ?_⟩
    exact q _ (s1.trans <| (same_new htp).trans (same_new hl)), fun h => Bool.noConfusion h⟩
  · exact ⟨_, rfl, _, rfl, .inr ⟨t, ht, hk, ⟨true, T.xh, fun _ ex hex => by
    refine ⟨_, rfl, by show 4 ≤ sizeLine; decide, fun tp htp => ?_⟩
    refine ⟨A.NoProgram, tp, _, [.ref A.NoChange, .ref A.NoText, .ref A.NoValue, .ref A.NoWish], false, rfl, rfl, excNP T, rfl, upd_same, .cons (.own _) (.cons (.own _) (.cons (.own _) (.cons (.own _) .nil))), T.xo, ?_⟩
    refine ⟨_, rfl, A.NoProgram, _, _, true, rfl, rfl, excNP T, rfl, (fun u h => h), is_self _, _, rfl, iteT ?_⟩
    refine ⟨_, rfl, A.NoProgram, _, _, true, rfl, rfl, excNP T, rfl, (fun u h => h), T.xv, _, rfl, iteT ?_⟩
    refine ⟨_, rfl, _, rfl, ?_⟩
    refine ⟨by show 2 ≤ sizeLine; decide, fun l hl => ?_⟩
    refine ⟨_, rfl, .inr ⟨_, rfl, ?_⟩⟩
    refine ⟨l, _, _, _, rfl, rfl, SqL.of upd_same, rfl, ?_⟩
    exact q _ ((same_new htp).trans (same_new hl)), fun h => Bool.noConfusion h⟩⟩⟩

end
end K12
namespace K12
open PySem L2 TL
section
variable {P : Program} {w : World} {K : PySem.W.Frag} {mg : Str → Option Value} {base : Heap} {A : Ads}
theorem ok_l_menu (T : Txt K mg A) : FnOk P w K mg base CX0 4 A.l_menu A.l_menu_d ["_law_well_here"] spMenu12 := by
  have G_l_draw := ok_l_draw (P := P) (w := w) (base := base) T
  refine T.F_l_menu.ok sc_l_menu (fun vs H Q E h => ?_) (fun cdv A0 outer s H vs Q E hr h => ?_)
  · obtain ⟨p, rfl, W, q⟩ := h
    rfl
  obtain ⟨p, rfl, W, q⟩ := h
  refine ⟨_, (pss_cons (ps_set (i := 1) sc_l_menu.nd rfl (Or.inl rfl) (pe_lst (pa_cons pe_str (pa_cons pe_str (pa_cons pe_str (pa_cons pe_str (pa_cons pe_str (pa_cons pe_str (pa_cons pe_str (pa_cons pe_str (pa_cons pe_str (pa_cons pe_str (pa_cons pe_str (pa_cons pe_str pa_nil))))))))))))))
   (pss_cons (ps_set (i := 1) sc_l_menu.nd rfl (Or.inl rfl) (pe_op op_cat (pv 1) (pe_lst (pa_cons pe_str (pa_cons pe_str (pa_cons pe_str (pa_cons pe_str (pa_cons pe_str (pa_cons pe_str (pa_cons pe_str pa_nil))))))))))
   (pss_cons (ps_set (i := 1) sc_l_menu.nd rfl (Or.inl rfl) (pe_op op_cat (pv 1) (pe_lst (pa_cons pe_str (pa_cons pe_str (pa_cons pe_str (pa_cons pe_str (pa_cons pe_str (pa_cons pe_str (pa_cons pe_str (pa_cons pe_str (pa_cons pe_str pa_nil))))))))))))
   (pss_cons (ps_set (i := 1) sc_l_menu.nd rfl (Or.inl rfl) (pe_op op_cat (pv 1) (pe_lst (pa_cons pe_str (pa_cons pe_str (pa_cons pe_str (pa_cons pe_str (pa_cons pe_str (pa_cons pe_str (pa_cons pe_str pa_nil))))))))))
   (pss_cons (ps_set (i := 1) sc_l_menu.nd rfl (Or.inl rfl) (pe_op op_cat (pv 1) (pe_lst (pa_cons pe_str (pa_cons pe_str (pa_cons pe_str (pa_cons pe_str (pa_cons pe_str (pa_cons pe_str (pa_cons pe_str (pa_cons pe_str (pa_cons pe_str (pa_cons pe_str pa_nil)))))))))))))
   (pss_cons (ps_set (i := 1) sc_l_menu.nd rfl (Or.inl rfl) (pe_op op_cat (pv 1) (pe_lst (pa_cons pe_str (pa_cons pe_str (pa_cons pe_str (pa_cons pe_str (pa_cons pe_str (pa_cons pe_str (pa_cons pe_str (pa_cons pe_str (pa_cons pe_str pa_nil))))))))))))
   (pss_cons (ps_set (i := 1) sc_l_menu.nd rfl (Or.inl rfl) (pe_op op_cat (pv 1) (pe_lst (pa_cons pe_str (pa_cons pe_str (pa_cons pe_str (pa_cons pe_str (pa_cons pe_str (pa_cons pe_str pa_nil)))))))))
   (pss_cons (ps_set (i := 1) sc_l_menu.nd rfl (Or.inl rfl) (pe_op op_cat (pv 1) (pe_lst (pa_cons pe_str (pa_cons pe_str pa_nil)))))
   (pss_cons (ps_set (i := 1) sc_l_menu.nd rfl (Or.inl rfl) (pe_op op_cat (pv 1) (pe_lst (pa_cons pe_str (pa_cons pe_str (pa_cons pe_str (pa_cons pe_str (pa_cons pe_str (pa_cons pe_str (pa_cons pe_str (pa_cons pe_str pa_nil)))))))))))
   (pss_cons (ps_set (i := 1) sc_l_menu.nd rfl (Or.inl rfl) (pe_op op_cat (pv 1) (pe_lst (pa_cons pe_str (pa_cons pe_str (pa_cons pe_str (pa_cons pe_str (pa_cons pe_str (pa_cons pe_str (pa_cons pe_str (pa_cons pe_str (pa_cons pe_str (pa_cons pe_str pa_nil)))))))))))))
   (pss_cons (ps_set (i := 1) sc_l_menu.nd rfl (Or.inl rfl) (pe_op op_cat (pv 1) (pe_lst (pa_cons pe_str (pa_cons pe_str (pa_cons pe_str (pa_cons pe_str (pa_cons pe_str (pa_cons pe_str (pa_cons pe_str (pa_cons pe_str pa_nil)))))))))))
   (pss_cons (ps_set (i := 1) sc_l_menu.nd rfl (Or.inl rfl) (pe_op op_cat (pv 1) (pe_lst (pa_cons pe_str (pa_cons pe_str (pa_cons pe_str pa_nil))))))
   (pss_one (ps_ret (pe_ix ix_list (pv 1) (pe_call G_l_draw (hr.mono (by decide)) rfl T.m_l_draw T.F_l_draw.kp T.b_l_draw .nil pass0 (pa_cons (pv 0) (pa_cons (pe_callB call_lenK (by rfl) T.z_len (by decide +kernel) (pa_cons (pv 1) pa_nil)) pa_nil))) (fun _ _ => rfl)))))))))))))))), ?_⟩
  refine ⟨by show 12 ≤ sizeLine; decide, fun l0 h0 => ?_⟩
  generalize hG0 : upd H l0 _ = H0
  have s0 : Same H H0 := by rw [← hG0]; exact same_new h0
  have g0 : H0 l0 = some (.lst (ML0.map V.str)) := by rw [← hG0]; exact upd_same
  refine ⟨_, rfl, by show 7 ≤ sizeLine; decide, fun m1 k1 => ?_⟩
  generalize hM1 : upd H0 m1 _ = M1
  have t1 : Same H0 M1 := by rw [← hM1]; exact same_new k1
  have e1 : M1 m1 = some (.lst (ML1.map V.str)) := by rw [← hM1]; exact upd_same
  refine ⟨l0, m1, _, _, rfl, rfl, t1 _ _ g0, e1, by show 19 ≤ sizeLine; decide, fun l1 h1 => ?_⟩
  rw [← List.map_append]
  generalize hG1 : upd M1 l1 _ = H1
  have s1 : Same H H1 := by rw [← hG1]; exact (s0.trans t1).trans (same_new h1)
  have g1 : H1 l1 = some (.lst ((ML0 ++ ML1).map V.str)) := by rw [← hG1]; exact upd_same
  refine ⟨_, rfl, by show 9 ≤ sizeLine; decide, fun m2 k2 => ?_⟩
  generalize hM2 : upd H1 m2 _ = M2
  have t2 : Same H1 M2 := by rw [← hM2]; exact same_new k2
  have e2 : M2 m2 = some (.lst (ML2.map V.str)) := by rw [← hM2]; exact upd_same
  refine ⟨l1, m2, _, _, rfl, rfl, t2 _ _ g1, e2, by show 28 ≤ sizeLine; decide, fun l2 h2 => ?_⟩
  rw [← List.map_append]
  generalize hG2 : upd M2 l2 _ = H2
  have s2 : Same H H2 := by rw [← hG2]; exact (s1.trans t2).trans (same_new h2)
  have g2 : H2 l2 = some (.lst (((ML0 ++ ML1) ++ ML2).map V.str)) := by rw [← hG2]; exact upd_same
  refine ⟨_, rfl, by show 7 ≤ sizeLine; decide, fun m3 k3 => ?_⟩
  generalize hM3 : upd H2 m3 _ = M3
  have t3 : Same H2 M3 := by rw [← hM3]; exact same_new k3
  have e3 : M3 m3 = some (.lst (ML3.map V.str)) := by rw [← hM3]; exact upd_same
  refine ⟨l2, m3, _, _, rfl, rfl, t3 _ _ g2, e3, by show 35 ≤ sizeLine; decide, fun l3 h3 => ?_⟩
  rw [← List.map_append]
  generalize hG3 : upd M3 l3 _ = H3
  have s3 : Same H H3 := by rw [← hG3]; exact (s2.trans t3).trans (same_new h3)
  have g3 : H3 l3 = some (.lst ((((ML0 ++ ML1) ++ ML2) ++ ML3).map V.str)) := by rw [← hG3]; exact upd_same
  refine ⟨_, rfl, by show 10 ≤ sizeLine; decide, fun m4 k4 => ?_⟩
  generalize hM4 : upd H3 m4 _ = M4
  have t4 : Same H3 M4 := by rw [← hM4]; exact same_new k4
  have e4 : M4 m4 = some (.lst (ML4.map V.str)) := by rw [← hM4]; exact upd_same
  refine ⟨l3, m4, _, _, rfl, rfl, t4 _ _ g3, e4, by show 45 ≤ sizeLine; decide, fun l4 h4 => ?_⟩
  rw [← List.map_append]
  generalize hG4 : upd M4 l4 _ = H4
  have s4 : Same H H4 := by rw [← hG4]; exact (s3.trans t4).trans (same_new h4)
  have g4 : H4 l4 = some (.lst (((((ML0 ++ ML1) ++ ML2) ++ ML3) ++ ML4).map V.str)) := by rw [← hG4]; exact upd_same
  refine ⟨_, rfl, by show 9 ≤ sizeLine; decide, fun m5 k5 => ?_⟩
  generalize hM5 : upd H4 m5 _ = M5
  have t5 : Same H4 M5 := by rw [← hM5]; exact same_new k5
  have e5 : M5 m5 = some (.lst (ML5.map V.str)) := by rw [← hM5]; exact upd_same
  refine ⟨l4, m5, _, _, rfl, rfl, t5 _ _ g4, e5, by show 54 ≤ sizeLine; decide, fun l5 h5 => ?_⟩
  rw [← List.map_append]
  generalize hG5 : upd M5 l5 _ = H5
  have s5 : Same H H5 := by rw [← hG5]; exact (s4.trans t5).trans (same_new h5)
  have g5 : H5 l5 = some (.lst ((((((ML0 ++ ML1) ++ ML2) ++ ML3) ++ ML4) ++ ML5).map V.str)) := by rw [← hG5]; exact upd_same
  refine ⟨_, rfl, by show 6 ≤ sizeLine; decide, fun m6 k6 => ?_⟩
  generalize hM6 : upd H5 m6 _ = M6
  have t6 : Same H5 M6 := by rw [← hM6]; exact same_new k6
  have e6 : M6 m6 = some (.lst (ML6.map V.str)) := by rw [← hM6]; exact upd_same
  refine ⟨l5, m6, _, _, rfl, rfl, t6 _ _ g5, e6, by show 60 ≤ sizeLine; decide, fun l6 h6 => ?_⟩
  rw [← List.map_append]
  generalize hG6 : upd M6 l6 _ = H6
  have s6 : Same H H6 := by rw [← hG6]; exact (s5.trans t6).trans (same_new h6)
  have g6 : H6 l6 = some (.lst (((((((ML0 ++ ML1) ++ ML2) ++ ML3) ++ ML4) ++ ML5) ++ ML6).map V.str)) := by rw [← hG6]; exact upd_same
  refine ⟨_, rfl, by show 2 ≤ sizeLine; decide, fun m7 k7 => ?_⟩
  generalize hM7 : upd H6 m7 _ = M7
  have t7 : Same H6 M7 := by rw [← hM7]; exact same_new k7
  have e7 : M7 m7 = some (.lst (ML7.map V.str)) := by rw [← hM7]; exact upd_same
  refine ⟨l6, m7, _, _, rfl, rfl, t7 _ _ g6, e7, by show 62 ≤ sizeLine; decide, fun l7 h7 => ?_⟩
  rw [← List.map_append]
  generalize hG7 : upd M7 l7 _ = H7
  have s7 : Same H H7 := by rw [← hG7]; exact (s6.trans t7).trans (same_new h7)
  have g7 : H7 l7 = some (.lst ((((((((ML0 ++ ML1) ++ ML2) ++ ML3) ++ ML4) ++ ML5) ++ ML6) ++ ML7).map V.str)) := by rw [← hG7]; exact upd_same
  refine ⟨_, rfl, by show 8 ≤ sizeLine; decide, fun m8 k8 => ?_⟩
  generalize hM8 : upd H7 m8 _ = M8
  have t8 : Same H7 M8 := by rw [← hM8]; exact same_new k8
  have e8 : M8 m8 = some (.lst (ML8.map V.str)) := by rw [← hM8]; exact upd_same
  refine ⟨l7, m8, _, _, rfl, rfl, t8 _ _ g7, e8, by show 70 ≤ sizeLine; decide, fun l8 h8 => ?_⟩
  rw [← List.map_append]
  generalize hG8 : upd M8 l8 _ = H8
  have s8 : Same H H8 := by rw [← hG8]; exact (s7.trans t8).trans (same_new h8)
  have g8 : H8 l8 = some (.lst (((((((((ML0 ++ ML1) ++ ML2) ++ ML3) ++ ML4) ++ ML5) ++ ML6) ++ ML7) ++ ML8).map V.str)) := by rw [← hG8]; exact upd_same
  refine ⟨_, rfl, by show 10 ≤ sizeLine; decide, fun m9 k9 => ?_⟩
  generalize hM9 : upd H8 m9 _ = M9
  have t9 : Same H8 M9 := by rw [← hM9]; exact same_new k9
  have e9 : M9 m9 = some (.lst (ML9.map V.str)) := by rw [← hM9]; exact upd_same
  refine ⟨l8, m9, _, _, rfl, rfl, t9 _ _ g8, e9, by show 80 ≤ sizeLine; decide, fun l9 h9 => ?_⟩
  rw [← List.map_append]
  generalize hG9 : upd M9 l9 _ = H9
  have s9 : Same H H9 := by rw [← hG9]; exact (s8.trans t9).trans (same_new h9)
  have g9 : H9 l9 = some (.lst ((((((((((ML0 ++ ML1) ++ ML2) ++ ML3) ++ ML4) ++ ML5) ++ ML6) ++ ML7) ++ ML8) ++ ML9).map V.str)) := by rw [← hG9]; exact upd_same
  refine ⟨_, rfl, by show 8 ≤ sizeLine; decide, fun m10 k10 => ?_⟩
  generalize hM10 : upd H9 m10 _ = M10
  have t10 : Same H9 M10 := by rw [← hM10]; exact same_new k10
  have e10 : M10 m10 = some (.lst (ML10.map V.str)) := by rw [← hM10]; exact upd_same
  refine ⟨l9, m10, _, _, rfl, rfl, t10 _ _ g9, e10, by show 88 ≤ sizeLine; decide, fun l10 h10 => ?_⟩
  rw [← List.map_append]
  generalize hG10 : upd M10 l10 _ = H10
  have s10 : Same H H10 := by rw [← hG10]; exact (s9.trans t10).trans (same_new h10)
  have g10 : H10 l10 = some (.lst (((((((((((ML0 ++ ML1) ++ ML2) ++ ML3) ++ ML4) ++ ML5) ++ ML6) ++ ML7) ++ ML8) ++ ML9) ++ ML10).map V.str)) := by rw [← hG10]; exact upd_same
  refine ⟨_, rfl, by show 3 ≤ sizeLine; decide, fun m11 k11 => ?_⟩
  generalize hM11 : upd H10 m11 _ = M11
  have t11 : Same H10 M11 := by rw [← hM11]; exact same_new k11
  have e11 : M11 m11 = some (.lst (ML11.map V.str)) := by rw [← hM11]; exact upd_same
  refine ⟨l10, m11, _, _, rfl, rfl, t11 _ _ g10, e11, by show 91 ≤ sizeLine; decide, fun l11 h11 => ?_⟩
  rw [← List.map_append]
  generalize hG11 : upd M11 l11 _ = H11
  have s11 : Same H H11 := by rw [← hG11]; exact (s10.trans t11).trans (same_new h11)
  have g11 : H11 l11 = some (.lst ((((((((((((ML0 ++ ML1) ++ ML2) ++ ML3) ++ ML4) ++ ML5) ++ ML6) ++ ML7) ++ ML8) ++ ML9) ++ ML10) ++ ML11).map V.str)) := by rw [← hG11]; exact upd_same
  have npl : l11 ≠ p := (W.same (s10.trans t11)).fresh h11
  refine ⟨_, rfl, _, rfl, _, rfl, l11, _, rfl, .inl (SqL.of g11), p, _, rfl, W.same s11, by rw [List.length_map]; decide, by rw [List.length_map]; decide, fun m H99 hm0 hm1 k99 W99 => ?_⟩
  rw [List.length_map] at hm1
  have hl := k99 _ _ npl g11
  obtain ⟨s, hs, es⟩ := at_strs (ss := MENUL) hm0 hm1
  refine ⟨l11, _, _, _, rfl, rfl, SqL.of hl, es, ?_⟩
  exact q s H99 (menul_ok s hs) ((keepX_of s11).trans k99) W99

end
end K12
namespace K12
open PySem L2 TL
section
variable {P : Program} {w : World} {K : PySem.W.Frag} {mg : Str → Option Value} {base : Heap} {A : Ads}
theorem ok_l_word_changed (T : Txt K mg A) : FnOk P w K mg base CX0 4 A.l_word_changed A.l_word_changed_d ["_law_well_here", "_law_line_here"] spChanged := by
  have G_l_draw := ok_l_draw (P := P) (w := w) (base := base) T
  refine T.F_l_word_changed.ok sc_l_word_changed (fun vs H Q E h => ?_) (fun cdv A0 outer s H vs Q E hr h => ?_)
  · obtain ⟨p, t, k, rfl, W, ht, hk, q⟩ := h
    rfl
  obtain ⟨p, t, k, rfl, W, ht, hk, q⟩ := h
  refine ⟨_, (pss_cons (ps_set (i := 2) sc_l_word_changed.nd rfl (Or.inl rfl) (pe_split (pv 1) pe_str))
   (pss_cons (ps_set (i := 3) sc_l_word_changed.nd rfl (Or.inl rfl) (pe_call G_l_draw (hr.mono (by decide)) rfl T.m_l_draw T.F_l_draw.kp T.b_l_draw .nil pass0 (pa_cons (pv 0) (pa_cons (pe_callB call_lenK (by rfl) T.z_len (by decide +kernel) (pa_cons (pv 2) pa_nil)) pa_nil))))
   (pss_cons (ps_set (i := 4) sc_l_word_changed.nd rfl (Or.inl rfl) (pe_call G_l_draw (hr.mono (by decide)) rfl T.m_l_draw T.F_l_draw.kp T.b_l_draw .nil pass0 (pa_cons (pv 0) (pa_cons pe_int pa_nil))))
   (pss_cons (ps_if (pt_cmpR op_eq (pv 4) pe_int (nomark _))
    (pss_one (ps_ret (pe_join pe_str (pe_op op_cat (pe_slice sl_list (pv 2) po_none (po_some (pv 3))) (pe_slice sl_list (pv 2) (po_some (pe_op op_add (pv 3) pe_int)) po_none)))))
    pss_nil)
   (pss_cons (ps_if (pt_cmpR op_eq (pv 4) pe_int (nomark _))
    (pss_one (ps_ret (pe_join pe_str (pe_op op_cat (pe_slice sl_list (pv 2) po_none (po_some (pe_op op_add (pv 3) pe_int))) (pe_slice sl_list (pv 2) (po_some (pv 3)) po_none)))))
    pss_nil)
   (pss_cons (ps_if (pt_cmpR op_eq (pv 4) pe_int (nomark _))
    (pss_one (ps_ret (pe_join pe_str (pe_op op_cat (pe_op op_cat (pe_slice sl_list (pv 2) po_none (po_some (pv 3))) (pe_lst (pa_cons pe_str pa_nil))) (pe_slice sl_list (pv 2) (po_some (pv 3)) po_none)))))
    pss_nil)
   (pss_cons (ps_set (i := 5) sc_l_word_changed.nd rfl (Or.inl rfl) (pe_ix ix_list (pe_lst (pa_cons pe_str (pa_cons pe_str (pa_cons pe_str (pa_cons pe_str (pa_cons pe_str (pa_cons pe_str pa_nil))))))) (pe_call G_l_draw (hr.mono (by decide)) rfl T.m_l_draw T.F_l_draw.kp T.b_l_draw .nil pass0 (pa_cons (pv 0) (pa_cons pe_int pa_nil))) (fun _ _ => rfl)))
   (pss_one (ps_ret (pe_join pe_str (pe_op op_cat (pe_op op_cat (pe_slice sl_list (pv 2) po_none (po_some (pv 3))) (pe_lst (pa_cons (pv 5) pa_nil))) (pe_slice sl_list (pv 2) (po_some (pe_op op_add (pv 3) pe_int)) po_none)))))))))))), ?_⟩
  generalize hws : Txt.split t (Str.ofString " ") = ws at *
  have hwl : ws.length ≤ 130 := by have := ht.2; rw [hws] at this; omega
  have hwl2 : ws.length ≤ 100 + k := by have := ht.2; rw [hws] at this; exact this
  have hwok : ∀ w ∈ ws, WordOk w ∧ 10 ∉ tl w ∧ 32 ∉ tl w := by have := ht.ws; rw [hws] at this; exact this
  have hne : ws ≠ [] := by rw [← hws]; exact split_ne t _
  have hl1 : 1 ≤ ws.length := List.length_pos_iff.mpr hne
  refine ⟨_, rfl, ⟨_, rfl⟩, t, _, rfl, rfl, (by decide +kernel), sizeL2 (by have := ht.len (by omega); omega), fun lw hlw => ?_⟩
  rw [hws]
  generalize hG0 : upd H lw _ = H0
  have s0 : Same H H0 := by rw [← hG0]; exact same_new hlw
  have gw : H0 lw = some (.lst (ws.map V.str)) := by rw [← hG0]; exact upd_same
  have npl := W.fresh hlw
  refine ⟨_, rfl, _, rfl, lw, _, rfl, .inl (SqL.of gw), p, _, rfl, W.same s0, by rw [List.length_map]; omega, by rw [List.length_map]; omega, fun at_ H1 h0 h1 k1 W1 => ?_⟩
  rw [List.length_map] at h1
  obtain ⟨i, rfl⟩ : ∃ i : Nat, at_ = (i : Int) := ⟨at_.toNat, by omega⟩
  have hi : i < ws.length := by omega
  refine ⟨_, rfl, p, 4, rfl, W1, by decide, by decide, fun way H2 w0 w1 k2 W2 => ?_⟩
  have k12 := (keepX_of (p := p) s0).trans (k1.trans k2)
  have gw2 := k2 _ _ npl (k1 _ _ npl gw)

  refine ⟨_, rfl, rfl, _, rfl, iteD2 (fun c => ?_) (fun c => ?_)⟩
  · refine ⟨⟨_, rfl⟩, ?_⟩
    have hc_a1 : cutV (ws.map V.str) none (some (i : Int)) = (ws.take i).map V.str := cut_take
    refine ⟨_, rfl, _, rfl, _, rfl, lw, _, rfl, SqL.of gw2, fun a1l hla1 => ?_⟩
    rw [hc_a1]
    generalize hGa1 : upd H2 a1l _ = Ha1
    have sa1 : Same H2 Ha1 := by rw [← hGa1]; exact same_new hla1
    have ga1 : Ha1 a1l = some (.lst ((ws.take i).map V.str)) := by rw [← hGa1]; exact upd_same
    have aa1 := sa1 _ _ gw2
    have hc_a2 : cutV (ws.map V.str) (some ((i : Int) + 1)) none = (ws.drop (i + 1)).map V.str := by rw [show (i : Int) + 1 = ((i + 1 : Nat) : Int) from by omega, cut_drop]
    refine ⟨_, rfl, _, rfl, _, _, rfl, rfl, _, rfl, lw, _, rfl, SqL.of aa1, fun a2l hla2 => ?_⟩
    rw [hc_a2]
    generalize hGa2 : upd Ha1 a2l _ = Ha2
    have sa2 : Same Ha1 Ha2 := by rw [← hGa2]; exact same_new hla2
    have ga2 : Ha2 a2l = some (.lst ((ws.drop (i + 1)).map V.str)) := by rw [← hGa2]; exact upd_same
    have fa1_a2 := sa2 _ _ ga1
    have aa2 := sa2 _ _ aa1
    refine ⟨a1l, a2l, _, _, rfl, rfl, fa1_a2, ga2, sizeL2 (by simp only [List.length_map, List.length_append, List.length_take, List.length_drop, List.length_cons, List.length_nil, List.length_reverse]; omega), fun a3l hla3 => ?_⟩
    rw [← List.map_append]
    generalize hGa3 : upd Ha2 a3l _ = Ha3
    have sa3 : Same Ha2 Ha3 := by rw [← hGa3]; exact same_new hla3
    have ga3 : Ha3 a3l = some (.lst (((ws.take i) ++ (ws.drop (i + 1))).map V.str)) := by rw [← hGa3]; exact upd_same
    have fa1_a3 := sa3 _ _ fa1_a2
    have fa2_a3 := sa3 _ _ ga2
    have aa3 := sa3 _ _ aa2
    have hmem : ∀ w ∈ ((ws.take i) ++ (ws.drop (i + 1))), w ∈ ws ∨ w ∈ (["end", "else", "0", "if", "zz", "times", ""] : List Str) := fun w hw => (List.mem_append.mp hw).elim (fun hw => .inl (List.mem_of_mem_take hw)) (fun hw => .inl (List.mem_of_mem_drop hw))
    have hlen : ((ws.take i) ++ (ws.drop (i + 1))).length ≤ 100 + (k + 1) := by simp only [List.length_append, List.length_take, List.length_drop, List.length_cons, List.length_nil]; omega
    refine ⟨_, a3l, ((ws.take i) ++ (ws.drop (i + 1))), rfl, rfl, .inl (SqL.of ga3), fin_sum hwl hwok (by omega) hmem, ?_⟩
    exact q _ _ (LnG.of_words (words12 hwok hmem) hlen) (k12.trans (keepX_of ((sa1.trans sa2).trans sa3))) (W2.same ((sa1.trans sa2).trans sa3))

  refine ⟨_, rfl, rfl, _, rfl, iteD2 (fun c => ?_) (fun c => ?_)⟩
  · refine ⟨⟨_, rfl⟩, ?_⟩
    have hc_b1 : cutV (ws.map V.str) none (some ((i : Int) + 1)) = (ws.take (i + 1)).map V.str := by rw [show (i : Int) + 1 = ((i + 1 : Nat) : Int) from by omega, cut_take]
    refine ⟨_, rfl, _, rfl, _, _, rfl, rfl, _, rfl, lw, _, rfl, SqL.of gw2, fun b1l hlb1 => ?_⟩
    rw [hc_b1]
    generalize hGb1 : upd H2 b1l _ = Hb1
    have sb1 : Same H2 Hb1 := by rw [← hGb1]; exact same_new hlb1
    have gb1 : Hb1 b1l = some (.lst ((ws.take (i + 1)).map V.str)) := by rw [← hGb1]; exact upd_same
    have ab1 := sb1 _ _ gw2
    have hc_b2 : cutV (ws.map V.str) (some (i : Int)) none = (ws.drop i).map V.str := cut_drop
    refine ⟨_, rfl, _, rfl, _, rfl, lw, _, rfl, SqL.of ab1, fun b2l hlb2 => ?_⟩
    rw [hc_b2]
    generalize hGb2 : upd Hb1 b2l _ = Hb2
    have sb2 : Same Hb1 Hb2 := by rw [← hGb2]; exact same_new hlb2
    have gb2 : Hb2 b2l = some (.lst ((ws.drop i).map V.str)) := by rw [← hGb2]; exact upd_same
    have fb1_b2 := sb2 _ _ gb1
    have ab2 := sb2 _ _ ab1
    refine ⟨b1l, b2l, _, _, rfl, rfl, fb1_b2, gb2, sizeL2 (by simp only [List.length_map, List.length_append, List.length_take, List.length_drop, List.length_cons, List.length_nil, List.length_reverse]; omega), fun b3l hlb3 => ?_⟩
    rw [← List.map_append]
    generalize hGb3 : upd Hb2 b3l _ = Hb3
    have sb3 : Same Hb2 Hb3 := by rw [← hGb3]; exact same_new hlb3
    have gb3 : Hb3 b3l = some (.lst (((ws.take (i + 1)) ++ (ws.drop i)).map V.str)) := by rw [← hGb3]; exact upd_same
    have fb1_b3 := sb3 _ _ fb1_b2
    have fb2_b3 := sb3 _ _ gb2
    have ab3 := sb3 _ _ ab2
    have hmem : ∀ w ∈ ((ws.take (i + 1)) ++ (ws.drop i)), w ∈ ws ∨ w ∈ (["end", "else", "0", "if", "zz", "times", ""] : List Str) := fun w hw => (List.mem_append.mp hw).elim (fun hw => .inl (List.mem_of_mem_take hw)) (fun hw => .inl (List.mem_of_mem_drop hw))
    have hlen : ((ws.take (i + 1)) ++ (ws.drop i)).length ≤ 100 + (k + 1) := by simp only [List.length_append, List.length_take, List.length_drop, List.length_cons, List.length_nil]; omega
    refine ⟨_, b3l, ((ws.take (i + 1)) ++ (ws.drop i)), rfl, rfl, .inl (SqL.of gb3), fin_sum hwl hwok (by omega) hmem, ?_⟩
    exact q _ _ (LnG.of_words (words12 hwok hmem) hlen) (k12.trans (keepX_of ((sb1.trans sb2).trans sb3))) (W2.same ((sb1.trans sb2).trans sb3))

  refine ⟨_, rfl, rfl, _, rfl, iteD2 (fun c => ?_) (fun c => ?_)⟩
  · refine ⟨⟨_, rfl⟩, ?_⟩
    have hc_c1 : cutV (ws.map V.str) none (some (i : Int)) = (ws.take i).map V.str := cut_take
    refine ⟨_, rfl, _, rfl, _, rfl, lw, _, rfl, SqL.of gw2, fun c1l hlc1 => ?_⟩
    rw [hc_c1]
    generalize hGc1 : upd H2 c1l _ = Hc1
    have sc1 : Same H2 Hc1 := by rw [← hGc1]; exact same_new hlc1
    have gc1 : Hc1 c1l = some (.lst ((ws.take i).map V.str)) := by rw [← hGc1]; exact upd_same
    have ac1 := sc1 _ _ gw2
    refine ⟨by show 1 ≤ sizeLine; decide, fun c2l hlc2 => ?_⟩
    generalize hGc2 : upd Hc1 c2l _ = Hc2
    have sc2 : Same Hc1 Hc2 := by rw [← hGc2]; exact same_new hlc2
    have gc2 : Hc2 c2l = some (.lst (([Str.ofString ""] : List Str).map V.str)) := by rw [← hGc2]; exact upd_same
    have fc1_c2 := sc2 _ _ gc1
    have ac2 := sc2 _ _ ac1
    refine ⟨c1l, c2l, _, _, rfl, rfl, fc1_c2, gc2, sizeL2 (by simp only [List.length_map, List.length_append, List.length_take, List.length_drop, List.length_cons, List.length_nil, List.length_reverse]; omega), fun c3l hlc3 => ?_⟩
    rw [← List.map_append]
    generalize hGc3 : upd Hc2 c3l _ = Hc3
    have sc3 : Same Hc2 Hc3 := by rw [← hGc3]; exact same_new hlc3
    have gc3 : Hc3 c3l = some (.lst (((ws.take i) ++ ([Str.ofString ""] : List Str)).map V.str)) := by rw [← hGc3]; exact upd_same
    have fc1_c3 := sc3 _ _ fc1_c2
    have fc2_c3 := sc3 _ _ gc2
    have ac3 := sc3 _ _ ac2
    have hc_c4 : cutV (ws.map V.str) (some (i : Int)) none = (ws.drop i).map V.str := cut_drop
    refine ⟨_, rfl, _, rfl, _, rfl, lw, _, rfl, SqL.of ac3, fun c4l hlc4 => ?_⟩
    rw [hc_c4]
    generalize hGc4 : upd Hc3 c4l _ = Hc4
    have sc4 : Same Hc3 Hc4 := by rw [← hGc4]; exact same_new hlc4
    have gc4 : Hc4 c4l = some (.lst ((ws.drop i).map V.str)) := by rw [← hGc4]; exact upd_same
    have fc1_c4 := sc4 _ _ fc1_c3
    have fc2_c4 := sc4 _ _ fc2_c3
    have fc3_c4 := sc4 _ _ gc3
    have ac4 := sc4 _ _ ac3
    refine ⟨c3l, c4l, _, _, rfl, rfl, fc3_c4, gc4, sizeL2 (by simp only [List.length_map, List.length_append, List.length_take, List.length_drop, List.length_cons, List.length_nil, List.length_reverse]; omega), fun c5l hlc5 => ?_⟩
    rw [← List.map_append]
    generalize hGc5 : upd Hc4 c5l _ = Hc5
    have sc5 : Same Hc4 Hc5 := by rw [← hGc5]; exact same_new hlc5
    have gc5 : Hc5 c5l = some (.lst ((((ws.take i) ++ ([Str.ofString ""] : List Str)) ++ (ws.drop i)).map V.str)) := by rw [← hGc5]; exact upd_same
    have fc1_c5 := sc5 _ _ fc1_c4
    have fc2_c5 := sc5 _ _ fc2_c4
    have fc3_c5 := sc5 _ _ fc3_c4
    have fc4_c5 := sc5 _ _ gc4
    have ac5 := sc5 _ _ ac4
    have hmem : ∀ w ∈ (((ws.take i) ++ ([Str.ofString ""] : List Str)) ++ (ws.drop i)), w ∈ ws ∨ w ∈ (["end", "else", "0", "if", "zz", "times", ""] : List Str) := fun w hw => (List.mem_append.mp hw).elim (fun hw => (List.mem_append.mp hw).elim (fun hw => .inl (List.mem_of_mem_take hw)) (fun hw => .inr (by rw [List.mem_singleton.mp hw]; decide +kernel))) (fun hw => .inl (List.mem_of_mem_drop hw))
    have hlen : (((ws.take i) ++ ([Str.ofString ""] : List Str)) ++ (ws.drop i)).length ≤ 100 + (k + 1) := by simp only [List.length_append, List.length_take, List.length_drop, List.length_cons, List.length_nil]; omega
    refine ⟨_, c5l, (((ws.take i) ++ ([Str.ofString ""] : List Str)) ++ (ws.drop i)), rfl, rfl, .inl (SqL.of gc5), fin_sum hwl hwok (by omega) hmem, ?_⟩
    exact q _ _ (LnG.of_words (words12 hwok hmem) hlen) (k12.trans (keepX_of ((((sc1.trans sc2).trans sc3).trans sc4).trans sc5))) (W2.same ((((sc1.trans sc2).trans sc3).trans sc4).trans sc5))

  refine ⟨by show 6 ≤ sizeLine; decide, fun lo hlo => ?_⟩
  have so := same_new (o := .lst ((["end", "else", "0", "if", "zz", "times"] : List Str).map V.str)) hlo
  have nlo := W2.fresh hlo
  refine ⟨_, rfl, p, 6, rfl, W2.same so, by decide, by decide, fun z H3 z0 z1 k3 W3 => ?_⟩
  have glo := k3 _ _ nlo (upd_same (H := H2) (a := lo) (o := .lst ((["end", "else", "0", "if", "zz", "times"] : List Str).map V.str)))
  have gw3 := k3 _ _ npl (so _ _ gw2)
  have k13 := k12.trans ((keepX_of so).trans k3)
  obtain ⟨x, hx, es⟩ := at_strs (ss := (["end", "else", "0", "if", "zz", "times"] : List Str)) z0 z1
  have hxo : x ∈ (["end", "else", "0", "if", "zz", "times", ""] : List Str) := List.mem_append_left [Str.ofString ""] hx
  refine ⟨lo, _, _, _, rfl, rfl, SqL.of glo, es, ?_⟩
  refine ⟨⟨_, rfl⟩, ?_⟩
  have hc_d1 : cutV (ws.map V.str) none (some (i : Int)) = (ws.take i).map V.str := cut_take
  refine ⟨_, rfl, _, rfl, _, rfl, lw, _, rfl, SqL.of gw3, fun d1l hld1 => ?_⟩
  rw [hc_d1]
  generalize hGd1 : upd H3 d1l _ = Hd1
  have sd1 : Same H3 Hd1 := by rw [← hGd1]; exact same_new hld1
  have gd1 : Hd1 d1l = some (.lst ((ws.take i).map V.str)) := by rw [← hGd1]; exact upd_same
  have ad1 := sd1 _ _ gw3
  refine ⟨_, rfl, by show 1 ≤ sizeLine; decide, fun d2l hld2 => ?_⟩
  generalize hGd2 : upd Hd1 d2l _ = Hd2
  have sd2 : Same Hd1 Hd2 := by rw [← hGd2]; exact same_new hld2
  have gd2 : Hd2 d2l = some (.lst (([x] : List Str).map V.str)) := by rw [← hGd2]; exact upd_same
  have fd1_d2 := sd2 _ _ gd1
  have ad2 := sd2 _ _ ad1
  refine ⟨d1l, d2l, _, _, rfl, rfl, fd1_d2, gd2, sizeL2 (by simp only [List.length_map, List.length_append, List.length_take, List.length_drop, List.length_cons, List.length_nil, List.length_reverse]; omega), fun d3l hld3 => ?_⟩
  rw [← List.map_append]
  generalize hGd3 : upd Hd2 d3l _ = Hd3
  have sd3 : Same Hd2 Hd3 := by rw [← hGd3]; exact same_new hld3
  have gd3 : Hd3 d3l = some (.lst (((ws.take i) ++ ([x] : List Str)).map V.str)) := by rw [← hGd3]; exact upd_same
  have fd1_d3 := sd3 _ _ fd1_d2
  have fd2_d3 := sd3 _ _ gd2
  have ad3 := sd3 _ _ ad2
  have hc_d4 : cutV (ws.map V.str) (some ((i : Int) + 1)) none = (ws.drop (i + 1)).map V.str := by rw [show (i : Int) + 1 = ((i + 1 : Nat) : Int) from by omega, cut_drop]
  refine ⟨_, rfl, _, rfl, _, _, rfl, rfl, _, rfl, lw, _, rfl, SqL.of ad3, fun d4l hld4 => ?_⟩
  rw [hc_d4]
  generalize hGd4 : upd Hd3 d4l _ = Hd4
  have sd4 : Same Hd3 Hd4 := by rw [← hGd4]; exact same_new hld4
  have gd4 : Hd4 d4l = some (.lst ((ws.drop (i + 1)).map V.str)) := by rw [← hGd4]; exact upd_same
  have fd1_d4 := sd4 _ _ fd1_d3
  have fd2_d4 := sd4 _ _ fd2_d3
  have fd3_d4 := sd4 _ _ gd3
  have ad4 := sd4 _ _ ad3
  refine ⟨d3l, d4l, _, _, rfl, rfl, fd3_d4, gd4, sizeL2 (by simp only [List.length_map, List.length_append, List.length_take, List.length_drop, List.length_cons, List.length_nil, List.length_reverse]; omega), fun d5l hld5 => ?_⟩
  rw [← List.map_append]
  generalize hGd5 : upd Hd4 d5l _ = Hd5
  have sd5 : Same Hd4 Hd5 := by rw [← hGd5]; exact same_new hld5
  have gd5 : Hd5 d5l = some (.lst ((((ws.take i) ++ ([x] : List Str)) ++ (ws.drop (i + 1))).map V.str)) := by rw [← hGd5]; exact upd_same
  have fd1_d5 := sd5 _ _ fd1_d4
  have fd2_d5 := sd5 _ _ fd2_d4
  have fd3_d5 := sd5 _ _ fd3_d4
  have fd4_d5 := sd5 _ _ gd4
  have ad5 := sd5 _ _ ad4
  have hmem : ∀ w ∈ (((ws.take i) ++ ([x] : List Str)) ++ (ws.drop (i + 1))), w ∈ ws ∨ w ∈ (["end", "else", "0", "if", "zz", "times", ""] : List Str) := fun w hw => (List.mem_append.mp hw).elim (fun hw => (List.mem_append.mp hw).elim (fun hw => .inl (List.mem_of_mem_take hw)) (fun hw => .inr (by rw [List.mem_singleton.mp hw]; exact hxo))) (fun hw => .inl (List.mem_of_mem_drop hw))
  have hlen : (((ws.take i) ++ ([x] : List Str)) ++ (ws.drop (i + 1))).length ≤ 100 + (k + 1) := by simp only [List.length_append, List.length_take, List.length_drop, List.length_cons, List.length_nil]; omega
  refine ⟨_, d5l, (((ws.take i) ++ ([x] : List Str)) ++ (ws.drop (i + 1))), rfl, rfl, .inl (SqL.of gd5), fin_sum hwl hwok (by omega) hmem, ?_⟩
  exact q _ _ (LnG.of_words (words12 hwok hmem) hlen) (k13.trans (keepX_of ((((sd1.trans sd2).trans sd3).trans sd4).trans sd5))) (W3.same ((((sd1.trans sd2).trans sd3).trans sd4).trans sd5))

end
end K12
namespace K12
open PySem L2 TL
section
variable {P : Program} {w : World} {K : PySem.W.Frag} {mg : Str → Option Value} {base : Heap} {A : Ads}
theorem ok_l_spoiled (T : Txt K mg A) : FnOk P w K mg base CX0 5 A.l_spoiled A.l_spoiled_d ["_law_well_here", "_law_lines"] spSpoiled12 := by
  have G_l_draw := ok_l_draw (P := P) (w := w) (base := base) T
  have G_l_menu := ok_l_menu (P := P) (w := w) (base := base) T
  have G_l_word_changed := ok_l_word_changed (P := P) (w := w) (base := base) T
  refine T.F_l_spoiled.ok sc_l_spoiled (fun vs H Q E h => ?_) (fun cdv A0 outer s H vs Q E hr h => ?_)
  · obtain ⟨p, a, ws, k, rfl, W, ha, nap, hne, hlen, hok, hk, q⟩ := h
    rfl
  obtain ⟨p, a, ws, k, rfl, W, ha, nap, hne, hlen, hok, hk, q⟩ := h
  refine ⟨_, (pss_cons (ps_set (i := 2) sc_l_spoiled.nd rfl (Or.inl rfl) (pe_call G_l_draw (hr.mono (by decide)) rfl T.m_l_draw T.F_l_draw.kp T.b_l_draw .nil pass0 (pa_cons (pv 0) (pa_cons (pe_callB call_lenK (by rfl) T.z_len (by decide +kernel) (pa_cons (pv 1) pa_nil)) pa_nil))))
   (pss_cons (ps_set (i := 3) sc_l_spoiled.nd rfl (Or.inl rfl) (pe_call G_l_draw (hr.mono (by decide)) rfl T.m_l_draw T.F_l_draw.kp T.b_l_draw .nil pass0 (pa_cons (pv 0) (pa_cons pe_int pa_nil))))
   (pss_cons (ps_if (pt_cmpR op_eq (pv 3) pe_int (nomark _))
    (pss_one (ps_ret (pe_op op_cat (pe_op op_cat (pe_slice sl_list (pv 1) po_none (po_some (pv 2))) (pe_lst (pa_cons (pe_call G_l_menu (hr.mono (by decide)) rfl T.m_l_menu T.F_l_menu.kp T.b_l_menu .nil pass0 (pa_cons (pv 0) pa_nil)) pa_nil))) (pe_slice sl_list (pv 1) (po_some (pe_op op_add (pv 2) pe_int)) po_none))))
    pss_nil)
   (pss_cons (ps_if (pt_cmpR op_eq (pv 3) pe_int (nomark _))
    (pss_one (ps_ret (pe_op op_cat (pe_op op_cat (pe_slice sl_list (pv 1) po_none (po_some (pv 2))) (pe_slice sl_list (pv 1) (po_some (pe_op op_add (pv 2) pe_int)) po_none)) (pe_op op_rep (pe_lst (pa_cons pe_str pa_nil)) (pe_callTy call_int1 (by rfl) T.z_int (by decide +kernel) (pa_cons (pe_cmpR op_eq (pe_callB call_lenK (by rfl) T.z_len (by decide +kernel) (pa_cons (pv 1) pa_nil)) pe_int (nomark _)) pa_nil))))))
    pss_nil)
   (pss_cons (ps_if (pt_cmpR op_eq (pv 3) pe_int (nomark _))
    (pss_one (ps_ret (pe_op op_cat (pe_slice sl_list (pv 1) po_none (po_some (pe_op op_add (pv 2) pe_int))) (pe_slice sl_list (pv 1) (po_some (pv 2)) po_none))))
    pss_nil)
   (pss_cons (ps_if (pt_cmpR op_eq (pv 3) pe_int (nomark _))
    (pss_cons (ps_set (i := 4) sc_l_spoiled.nd rfl (Or.inl rfl) (pe_slice sl_list (pv 1) (po_some (pv 2)) (po_some (pe_op op_add (pv 2) pe_int))))
   (pss_one (ps_ret (pe_op op_cat (pe_op op_cat (pe_slice sl_list (pv 1) po_none (po_some (pv 2))) (pe_revL (pv 4))) (pe_slice sl_list (pv 1) (po_some (pe_op op_add (pv 2) pe_int)) po_none)))))
    pss_nil)
   (pss_cons (ps_if (pt_cmpR op_eq (pv 3) pe_int (nomark _))
    (pss_one (ps_ret (pe_op op_cat (pe_op op_cat (pe_slice sl_list (pv 1) po_none (po_some (pv 2))) (pe_lst (pa_cons (pe_call G_l_menu (hr.mono (by decide)) rfl T.m_l_menu T.F_l_menu.kp T.b_l_menu .nil pass0 (pa_cons (pv 0) pa_nil)) pa_nil))) (pe_slice sl_list (pv 1) (po_some (pv 2)) po_none))))
    pss_nil)
   (pss_one (ps_ret (pe_op op_cat (pe_op op_cat (pe_slice sl_list (pv 1) po_none (po_some (pv 2))) (pe_lst (pa_cons (pe_call G_l_word_changed (hr.mono (by decide)) rfl T.m_l_word_changed T.F_l_word_changed.kp T.b_l_word_changed .nil pass0 (pa_cons (pv 0) (pa_cons (pe_ix ix_list (pv 1) (pv 2) (fun _ _ => rfl)) pa_nil))) pa_nil))) (pe_slice sl_list (pv 1) (po_some (pe_op op_add (pv 2) pe_int)) po_none))))))))))), ?_⟩
  have hl1 : 1 ≤ ws.length := List.length_pos_iff.mpr hne
  have hup : ∀ w ∈ ws, LnG (k + 1) w := fun w hw => (hok w hw).mono (Nat.le_succ _)
  refine ⟨_, rfl, _, rfl, a, _, rfl, .inl (SqL.of ha), p, _, rfl, W, by rw [List.length_map]; omega, by rw [List.length_map]; omega, fun at_ H1 h0 h1 k1 W1 => ?_⟩
  rw [List.length_map] at h1
  obtain ⟨i, rfl⟩ : ∃ i : Nat, at_ = (i : Int) := ⟨at_.toNat, by omega⟩
  have hi : i < ws.length := by omega
  have ha1 := k1 _ _ nap ha
  refine ⟨_, rfl, p, 6, rfl, W1, by decide, by decide, fun way H2 w0 w1 k2 W2 => ?_⟩
  have ha2 := k2 _ _ nap ha1
  have k12 := k1.trans k2
  have hati : atI (ws.map V.str) (i : Int) = some (V.str ws[i]) := atI_nat (by rw [List.getElem?_map, List.getElem?_eq_getElem hi]; rfl)

  refine ⟨_, rfl, rfl, _, rfl, iteD2 (fun c => ?_) (fun c => ?_)⟩
  · skip
    have hc_a1 : cutV (ws.map V.str) none (some (i : Int)) = (ws.take i).map V.str := cut_take
    refine ⟨_, rfl, _, rfl, _, rfl, a, _, rfl, SqL.of ha2, fun a1l hla1 => ?_⟩
    rw [hc_a1]
    generalize hGa1 : upd H2 a1l _ = Ha1
    have sa1 : Same H2 Ha1 := by rw [← hGa1]; exact same_new hla1
    have ga1 : Ha1 a1l = some (.lst ((ws.take i).map V.str)) := by rw [← hGa1]; exact upd_same
    have aa1 := sa1 _ _ ha2
    have na1 : a1l ≠ p := (W2).fresh hla1
    have Wa1 := (W2).same sa1
    have ka1 := (k12).trans (keepX_of sa1)
    refine ⟨_, rfl, p, rfl, Wa1, fun ma2 Ha2 hma2 kka2 Wa2 => ?_⟩
    have fa1_a2 := kka2 _ _ na1 ga1
    have aa2 := kka2 _ _ nap aa1
    have ka2 := (ka1).trans kka2
    refine ⟨by show 1 ≤ sizeLine; decide, fun a3l hla3 => ?_⟩
    generalize hGa3 : upd Ha2 a3l _ = Ha3
    have sa3 : Same Ha2 Ha3 := by rw [← hGa3]; exact same_new hla3
    have ga3 : Ha3 a3l = some (.lst (([ma2] : List Str).map V.str)) := by rw [← hGa3]; exact upd_same
    have fa1_a3 := sa3 _ _ fa1_a2
    have aa3 := sa3 _ _ aa2
    have na3 : a3l ≠ p := (Wa2).fresh hla3
    have Wa3 := (Wa2).same sa3
    have ka3 := (ka2).trans (keepX_of sa3)
    refine ⟨a1l, a3l, _, _, rfl, rfl, fa1_a3, ga3, sizeL2 (by simp only [List.length_map, List.length_append, List.length_take, List.length_drop, List.length_cons, List.length_nil, List.length_reverse]; omega), fun a4l hla4 => ?_⟩
    rw [← List.map_append]
    generalize hGa4 : upd Ha3 a4l _ = Ha4
    have sa4 : Same Ha3 Ha4 := by rw [← hGa4]; exact same_new hla4
    have ga4 : Ha4 a4l = some (.lst (((ws.take i) ++ ([ma2] : List Str)).map V.str)) := by rw [← hGa4]; exact upd_same
    have fa1_a4 := sa4 _ _ fa1_a3
    have fa3_a4 := sa4 _ _ ga3
    have aa4 := sa4 _ _ aa3
    have na4 : a4l ≠ p := (Wa3).fresh hla4
    have Wa4 := (Wa3).same sa4
    have ka4 := (ka3).trans (keepX_of sa4)
    have hc_a5 : cutV (ws.map V.str) (some ((i : Int) + 1)) none = (ws.drop (i + 1)).map V.str := by rw [show (i : Int) + 1 = ((i + 1 : Nat) : Int) from by omega, cut_drop]
    refine ⟨_, rfl, _, rfl, _, _, rfl, rfl, _, rfl, a, _, rfl, SqL.of aa4, fun a5l hla5 => ?_⟩
    rw [hc_a5]
    generalize hGa5 : upd Ha4 a5l _ = Ha5
    have sa5 : Same Ha4 Ha5 := by rw [← hGa5]; exact same_new hla5
    have ga5 : Ha5 a5l = some (.lst ((ws.drop (i + 1)).map V.str)) := by rw [← hGa5]; exact upd_same
    have fa1_a5 := sa5 _ _ fa1_a4
    have fa3_a5 := sa5 _ _ fa3_a4
    have fa4_a5 := sa5 _ _ ga4
    have aa5 := sa5 _ _ aa4
    have na5 : a5l ≠ p := (Wa4).fresh hla5
    have Wa5 := (Wa4).same sa5
    have ka5 := (ka4).trans (keepX_of sa5)
    refine ⟨a4l, a5l, _, _, rfl, rfl, fa4_a5, ga5, sizeL2 (by simp only [List.length_map, List.length_append, List.length_take, List.length_drop, List.length_cons, List.length_nil, List.length_reverse]; omega), fun a6l hla6 => ?_⟩
    rw [← List.map_append]
    generalize hGa6 : upd Ha5 a6l _ = Ha6
    have sa6 : Same Ha5 Ha6 := by rw [← hGa6]; exact same_new hla6
    have ga6 : Ha6 a6l = some (.lst ((((ws.take i) ++ ([ma2] : List Str)) ++ (ws.drop (i + 1))).map V.str)) := by rw [← hGa6]; exact upd_same
    have fa1_a6 := sa6 _ _ fa1_a5
    have fa3_a6 := sa6 _ _ fa3_a5
    have fa4_a6 := sa6 _ _ fa4_a5
    have fa5_a6 := sa6 _ _ ga5
    have aa6 := sa6 _ _ aa5
    have na6 : a6l ≠ p := (Wa5).fresh hla6
    have Wa6 := (Wa5).same sa6
    have ka6 := (ka5).trans (keepX_of sa6)
    have hmem : ∀ w ∈ (((ws.take i) ++ ([ma2] : List Str)) ++ (ws.drop (i + 1))), LnG (k + 1) w := fun w hw => (List.mem_append.mp hw).elim (fun hw => (List.mem_append.mp hw).elim (fun hw => hup w (List.mem_of_mem_take hw)) (fun hw => (by rw [List.mem_singleton.mp hw]; exact hma2.mono (Nat.zero_le _)))) (fun hw => hup w (List.mem_of_mem_drop hw))
    have hlen : (((ws.take i) ++ ([ma2] : List Str)) ++ (ws.drop (i + 1))).length ≤ ws.length + 1 := by simp only [List.length_append, List.length_take, List.length_drop, List.length_cons, List.length_nil, List.length_reverse]; omega
    have hne2 : (((ws.take i) ++ ([ma2] : List Str)) ++ (ws.drop (i + 1))) ≠ [] := fun e => by have := congrArg List.length e; simp only [List.length_append, List.length_take, List.length_drop, List.length_cons, List.length_nil, List.length_reverse] at this; omega
    exact q a6l _ _ ga6 na6 hne2 hlen hmem ka6 Wa6

  refine ⟨_, rfl, rfl, _, rfl, iteD2 (fun c => ?_) (fun c => ?_)⟩
  · skip
    have hc_b1 : cutV (ws.map V.str) none (some (i : Int)) = (ws.take i).map V.str := cut_take
    refine ⟨_, rfl, _, rfl, _, rfl, a, _, rfl, SqL.of ha2, fun b1l hlb1 => ?_⟩
    rw [hc_b1]
    generalize hGb1 : upd H2 b1l _ = Hb1
    have sb1 : Same H2 Hb1 := by rw [← hGb1]; exact same_new hlb1
    have gb1 : Hb1 b1l = some (.lst ((ws.take i).map V.str)) := by rw [← hGb1]; exact upd_same
    have ab1 := sb1 _ _ ha2
    have nb1 : b1l ≠ p := (W2).fresh hlb1
    have Wb1 := (W2).same sb1
    have kb1 := (k12).trans (keepX_of sb1)
    have hc_b2 : cutV (ws.map V.str) (some ((i : Int) + 1)) none = (ws.drop (i + 1)).map V.str := by rw [show (i : Int) + 1 = ((i + 1 : Nat) : Int) from by omega, cut_drop]
    refine ⟨_, rfl, _, rfl, _, _, rfl, rfl, _, rfl, a, _, rfl, SqL.of ab1, fun b2l hlb2 => ?_⟩
    rw [hc_b2]
    generalize hGb2 : upd Hb1 b2l _ = Hb2
    have sb2 : Same Hb1 Hb2 := by rw [← hGb2]; exact same_new hlb2
    have gb2 : Hb2 b2l = some (.lst ((ws.drop (i + 1)).map V.str)) := by rw [← hGb2]; exact upd_same
    have fb1_b2 := sb2 _ _ gb1
    have ab2 := sb2 _ _ ab1
    have nb2 : b2l ≠ p := (Wb1).fresh hlb2
    have Wb2 := (Wb1).same sb2
    have kb2 := (kb1).trans (keepX_of sb2)
    refine ⟨b1l, b2l, _, _, rfl, rfl, fb1_b2, gb2, sizeL2 (by simp only [List.length_map, List.length_append, List.length_take, List.length_drop, List.length_cons, List.length_nil, List.length_reverse]; omega), fun b3l hlb3 => ?_⟩
    rw [← List.map_append]
    generalize hGb3 : upd Hb2 b3l _ = Hb3
    have sb3 : Same Hb2 Hb3 := by rw [← hGb3]; exact same_new hlb3
    have gb3 : Hb3 b3l = some (.lst (((ws.take i) ++ (ws.drop (i + 1))).map V.str)) := by rw [← hGb3]; exact upd_same
    have fb1_b3 := sb3 _ _ fb1_b2
    have fb2_b3 := sb3 _ _ gb2
    have ab3 := sb3 _ _ ab2
    have nb3 : b3l ≠ p := (Wb2).fresh hlb3
    have Wb3 := (Wb2).same sb3
    have kb3 := (kb2).trans (keepX_of sb3)
    refine ⟨by show 1 ≤ sizeLine; decide, fun b4l hlb4 => ?_⟩
    generalize hGb4 : upd Hb3 b4l _ = Hb4
    have sb4 : Same Hb3 Hb4 := by rw [← hGb4]; exact same_new hlb4
    have gb4 : Hb4 b4l = some (.lst (([Str.ofString "main"] : List Str).map V.str)) := by rw [← hGb4]; exact upd_same
    have fb1_b4 := sb4 _ _ fb1_b3
    have fb2_b4 := sb4 _ _ fb2_b3
    have fb3_b4 := sb4 _ _ gb3
    have ab4 := sb4 _ _ ab3
    have nb4 : b4l ≠ p := (Wb3).fresh hlb4
    have Wb4 := (Wb3).same sb4
    have kb4 := (kb3).trans (keepX_of sb4)
    have e1 : (if decide (V.int ((ws.map V.str).length : Nat) = V.int 1) = true then (1 : Int) else 0) = (if ws.length = 1 then 1 else 0) := by
      rw [List.length_map]
      by_cases c : ws.length = 1
      · rw [if_pos c, decide_eq_true (by rw [c]; rfl), if_pos rfl]
      · rw [if_neg c, decide_eq_false (fun e => c (by have := V.int.inj e; omega)), if_neg Bool.false_ne_true]
    refine ⟨_, rfl, a, _, rfl, .inl (SqL.of ab4), rfl, .inr ⟨_, rfl, ?_⟩⟩
    rw [e1]
    have hrep : (List.replicate (if ws.length = 1 then (1 : Int) else 0).toNat ([Str.ofString "main"].map V.str)).flatten = (if ws.length = 1 then ([Str.ofString "main"] : List Str) else []).map V.str := by
      split <;> rfl
    refine ⟨b4l, _, _, rfl, rfl, gb4, by split <;> decide, by split <;> decide, by show 1 * _ ≤ sizeLine; split <;> decide, fun b5l hlb5 => ?_⟩
    rw [hrep]
    generalize hGb5 : upd Hb4 b5l _ = Hb5
    have sb5 : Same Hb4 Hb5 := by rw [← hGb5]; exact same_new hlb5
    have gb5 : Hb5 b5l = some (.lst ((if ws.length = 1 then ([Str.ofString "main"] : List Str) else []).map V.str)) := by rw [← hGb5]; exact upd_same
    have fb1_b5 := sb5 _ _ fb1_b4
    have fb2_b5 := sb5 _ _ fb2_b4
    have fb3_b5 := sb5 _ _ fb3_b4
    have fb4_b5 := sb5 _ _ gb4
    have ab5 := sb5 _ _ ab4
    have nb5 : b5l ≠ p := (Wb4).fresh hlb5
    have Wb5 := (Wb4).same sb5
    have kb5 := (kb4).trans (keepX_of sb5)
    refine ⟨b3l, b5l, _, _, rfl, rfl, fb3_b5, gb5, sizeL2 (by rw [List.length_map, List.length_map]; split <;> simp only [List.length_append, List.length_take, List.length_drop, List.length_cons, List.length_nil] <;> omega), fun b6l hlb6 => ?_⟩
    rw [← List.map_append]
    generalize hGb6 : upd Hb5 b6l _ = Hb6
    have sb6 : Same Hb5 Hb6 := by rw [← hGb6]; exact same_new hlb6
    have gb6 : Hb6 b6l = some (.lst ((((ws.take i) ++ (ws.drop (i + 1))) ++ (if ws.length = 1 then ([Str.ofString "main"] : List Str) else [])).map V.str)) := by rw [← hGb6]; exact upd_same
    have fb1_b6 := sb6 _ _ fb1_b5
    have fb2_b6 := sb6 _ _ fb2_b5
    have fb3_b6 := sb6 _ _ fb3_b5
    have fb4_b6 := sb6 _ _ fb4_b5
    have fb5_b6 := sb6 _ _ gb5
    have ab6 := sb6 _ _ ab5
    have nb6 : b6l ≠ p := (Wb5).fresh hlb6
    have Wb6 := (Wb5).same sb6
    have kb6 := (kb5).trans (keepX_of sb6)
    have hmain : LnG (k + 1) (Str.ofString "main") := (show LnG 0 (Str.ofString "main") by decide +kernel).mono (Nat.zero_le _)
    have hmem : ∀ w ∈ (((ws.take i) ++ (ws.drop (i + 1))) ++ (if ws.length = 1 then ([Str.ofString "main"] : List Str) else [])), LnG (k + 1) w := fun w hw => (List.mem_append.mp hw).elim (fun hw => (List.mem_append.mp hw).elim (fun hw => hup w (List.mem_of_mem_take hw)) (fun hw => hup w (List.mem_of_mem_drop hw))) (fun hw => by
      split at hw
      · rw [List.mem_singleton.mp hw]; exact hmain
      · cases hw)
    have hlen : (((ws.take i) ++ (ws.drop (i + 1))) ++ (if ws.length = 1 then ([Str.ofString "main"] : List Str) else [])).length ≤ ws.length + 1 := by split <;> simp only [List.length_append, List.length_take, List.length_drop, List.length_cons, List.length_nil] <;> omega
    have hne2 : (((ws.take i) ++ (ws.drop (i + 1))) ++ (if ws.length = 1 then ([Str.ofString "main"] : List Str) else [])) ≠ [] := fun e => by
      have := congrArg List.length e
      split at this <;> simp only [List.length_append, List.length_take, List.length_drop, List.length_cons, List.length_nil] at this <;> omega
    exact q b6l _ _ gb6 nb6 hne2 hlen hmem kb6 Wb6

  refine ⟨_, rfl, rfl, _, rfl, iteD2 (fun c => ?_) (fun c => ?_)⟩
  · skip
    have hc_c1 : cutV (ws.map V.str) none (some ((i : Int) + 1)) = (ws.take (i + 1)).map V.str := by rw [show (i : Int) + 1 = ((i + 1 : Nat) : Int) from by omega, cut_take]
    refine ⟨_, rfl, _, rfl, _, _, rfl, rfl, _, rfl, a, _, rfl, SqL.of ha2, fun c1l hlc1 => ?_⟩
    rw [hc_c1]
    generalize hGc1 : upd H2 c1l _ = Hc1
    have sc1 : Same H2 Hc1 := by rw [← hGc1]; exact same_new hlc1
    have gc1 : Hc1 c1l = some (.lst ((ws.take (i + 1)).map V.str)) := by rw [← hGc1]; exact upd_same
    have ac1 := sc1 _ _ ha2
    have nc1 : c1l ≠ p := (W2).fresh hlc1
    have Wc1 := (W2).same sc1
    have kc1 := (k12).trans (keepX_of sc1)
    have hc_c2 : cutV (ws.map V.str) (some (i : Int)) none = (ws.drop i).map V.str := cut_drop
    refine ⟨_, rfl, _, rfl, _, rfl, a, _, rfl, SqL.of ac1, fun c2l hlc2 => ?_⟩
    rw [hc_c2]
    generalize hGc2 : upd Hc1 c2l _ = Hc2
    have sc2 : Same Hc1 Hc2 := by rw [← hGc2]; exact same_new hlc2
    have gc2 : Hc2 c2l = some (.lst ((ws.drop i).map V.str)) := by rw [← hGc2]; exact upd_same
    have fc1_c2 := sc2 _ _ gc1
    have ac2 := sc2 _ _ ac1
    have nc2 : c2l ≠ p := (Wc1).fresh hlc2
    have Wc2 := (Wc1).same sc2
    have kc2 := (kc1).trans (keepX_of sc2)
    refine ⟨c1l, c2l, _, _, rfl, rfl, fc1_c2, gc2, sizeL2 (by simp only [List.length_map, List.length_append, List.length_take, List.length_drop, List.length_cons, List.length_nil, List.length_reverse]; omega), fun c3l hlc3 => ?_⟩
    rw [← List.map_append]
    generalize hGc3 : upd Hc2 c3l _ = Hc3
    have sc3 : Same Hc2 Hc3 := by rw [← hGc3]; exact same_new hlc3
    have gc3 : Hc3 c3l = some (.lst (((ws.take (i + 1)) ++ (ws.drop i)).map V.str)) := by rw [← hGc3]; exact upd_same
    have fc1_c3 := sc3 _ _ fc1_c2
    have fc2_c3 := sc3 _ _ gc2
    have ac3 := sc3 _ _ ac2
    have nc3 : c3l ≠ p := (Wc2).fresh hlc3
    have Wc3 := (Wc2).same sc3
    have kc3 := (kc2).trans (keepX_of sc3)
    have hmem : ∀ w ∈ ((ws.take (i + 1)) ++ (ws.drop i)), LnG (k + 1) w := fun w hw => (List.mem_append.mp hw).elim (fun hw => hup w (List.mem_of_mem_take hw)) (fun hw => hup w (List.mem_of_mem_drop hw))
    have hlen : ((ws.take (i + 1)) ++ (ws.drop i)).length ≤ ws.length + 1 := by simp only [List.length_append, List.length_take, List.length_drop, List.length_cons, List.length_nil, List.length_reverse]; omega
    have hne2 : ((ws.take (i + 1)) ++ (ws.drop i)) ≠ [] := fun e => by have := congrArg List.length e; simp only [List.length_append, List.length_take, List.length_drop, List.length_cons, List.length_nil, List.length_reverse] at this; omega
    exact q c3l _ _ gc3 nc3 hne2 hlen hmem kc3 Wc3

  refine ⟨_, rfl, rfl, _, rfl, iteD2 (fun c => ?_) (fun c => ?_)⟩
  · skip
    have hc_d1 : cutV (ws.map V.str) (some (i : Int)) (some ((i : Int) + 2)) = ((ws.drop i).take 2).map V.str := by rw [show (i : Int) + 2 = ((i + 2 : Nat) : Int) from by omega, cut_mid, show i + 2 - i = 2 from by omega]
    refine ⟨_, rfl, _, rfl, _, rfl, _, rfl, _, _, rfl, rfl, _, rfl, a, _, rfl, SqL.of ha2, fun d1l hld1 => ?_⟩
    rw [hc_d1]
    generalize hGd1 : upd H2 d1l _ = Hd1
    have sd1 : Same H2 Hd1 := by rw [← hGd1]; exact same_new hld1
    have gd1 : Hd1 d1l = some (.lst (((ws.drop i).take 2).map V.str)) := by rw [← hGd1]; exact upd_same
    have ad1 := sd1 _ _ ha2
    have nd1 : d1l ≠ p := (W2).fresh hld1
    have Wd1 := (W2).same sd1
    have kd1 := (k12).trans (keepX_of sd1)
    have hc_d2 : cutV (ws.map V.str) none (some (i : Int)) = (ws.take i).map V.str := cut_take
    refine ⟨_, rfl, _, rfl, _, rfl, a, _, rfl, SqL.of ad1, fun d2l hld2 => ?_⟩
    rw [hc_d2]
    generalize hGd2 : upd Hd1 d2l _ = Hd2
    have sd2 : Same Hd1 Hd2 := by rw [← hGd2]; exact same_new hld2
    have gd2 : Hd2 d2l = some (.lst ((ws.take i).map V.str)) := by rw [← hGd2]; exact upd_same
    have fd1_d2 := sd2 _ _ gd1
    have ad2 := sd2 _ _ ad1
    have nd2 : d2l ≠ p := (Wd1).fresh hld2
    have Wd2 := (Wd1).same sd2
    have kd2 := (kd1).trans (keepX_of sd2)
    refine ⟨_, rfl, d1l, _, rfl, SqL.of fd1_d2, fun d3l hld3 => ?_⟩
    rw [← List.map_reverse]
    generalize hGd3 : upd Hd2 d3l _ = Hd3
    have sd3 : Same Hd2 Hd3 := by rw [← hGd3]; exact same_new hld3
    have gd3 : Hd3 d3l = some (.lst (((ws.drop i).take 2).reverse.map V.str)) := by rw [← hGd3]; exact upd_same
    have fd1_d3 := sd3 _ _ fd1_d2
    have fd2_d3 := sd3 _ _ gd2
    have ad3 := sd3 _ _ ad2
    have nd3 : d3l ≠ p := (Wd2).fresh hld3
    have Wd3 := (Wd2).same sd3
    have kd3 := (kd2).trans (keepX_of sd3)
    refine ⟨d2l, d3l, _, _, rfl, rfl, fd2_d3, gd3, sizeL2 (by simp only [List.length_map, List.length_append, List.length_take, List.length_drop, List.length_cons, List.length_nil, List.length_reverse]; omega), fun d4l hld4 => ?_⟩
    rw [← List.map_append]
    generalize hGd4 : upd Hd3 d4l _ = Hd4
    have sd4 : Same Hd3 Hd4 := by rw [← hGd4]; exact same_new hld4
    have gd4 : Hd4 d4l = some (.lst (((ws.take i) ++ ((ws.drop i).take 2).reverse).map V.str)) := by rw [← hGd4]; exact upd_same
    have fd1_d4 := sd4 _ _ fd1_d3
    have fd2_d4 := sd4 _ _ fd2_d3
    have fd3_d4 := sd4 _ _ gd3
    have ad4 := sd4 _ _ ad3
    have nd4 : d4l ≠ p := (Wd3).fresh hld4
    have Wd4 := (Wd3).same sd4
    have kd4 := (kd3).trans (keepX_of sd4)
    have hc_d5 : cutV (ws.map V.str) (some ((i : Int) + 2)) none = (ws.drop (i + 2)).map V.str := by rw [show (i : Int) + 2 = ((i + 2 : Nat) : Int) from by omega, cut_drop]
    refine ⟨_, rfl, _, rfl, _, _, rfl, rfl, _, rfl, a, _, rfl, SqL.of ad4, fun d5l hld5 => ?_⟩
    rw [hc_d5]
    generalize hGd5 : upd Hd4 d5l _ = Hd5
    have sd5 : Same Hd4 Hd5 := by rw [← hGd5]; exact same_new hld5
    have gd5 : Hd5 d5l = some (.lst ((ws.drop (i + 2)).map V.str)) := by rw [← hGd5]; exact upd_same
    have fd1_d5 := sd5 _ _ fd1_d4
    have fd2_d5 := sd5 _ _ fd2_d4
    have fd3_d5 := sd5 _ _ fd3_d4
    have fd4_d5 := sd5 _ _ gd4
    have ad5 := sd5 _ _ ad4
    have nd5 : d5l ≠ p := (Wd4).fresh hld5
    have Wd5 := (Wd4).same sd5
    have kd5 := (kd4).trans (keepX_of sd5)
    refine ⟨d4l, d5l, _, _, rfl, rfl, fd4_d5, gd5, sizeL2 (by simp only [List.length_map, List.length_append, List.length_take, List.length_drop, List.length_cons, List.length_nil, List.length_reverse]; omega), fun d6l hld6 => ?_⟩
    rw [← List.map_append]
    generalize hGd6 : upd Hd5 d6l _ = Hd6
    have sd6 : Same Hd5 Hd6 := by rw [← hGd6]; exact same_new hld6
    have gd6 : Hd6 d6l = some (.lst ((((ws.take i) ++ ((ws.drop i).take 2).reverse) ++ (ws.drop (i + 2))).map V.str)) := by rw [← hGd6]; exact upd_same
    have fd1_d6 := sd6 _ _ fd1_d5
    have fd2_d6 := sd6 _ _ fd2_d5
    have fd3_d6 := sd6 _ _ fd3_d5
    have fd4_d6 := sd6 _ _ fd4_d5
    have fd5_d6 := sd6 _ _ gd5
    have ad6 := sd6 _ _ ad5
    have nd6 : d6l ≠ p := (Wd5).fresh hld6
    have Wd6 := (Wd5).same sd6
    have kd6 := (kd5).trans (keepX_of sd6)
    have hmem : ∀ w ∈ (((ws.take i) ++ ((ws.drop i).take 2).reverse) ++ (ws.drop (i + 2))), LnG (k + 1) w := fun w hw => (List.mem_append.mp hw).elim (fun hw => (List.mem_append.mp hw).elim (fun hw => hup w (List.mem_of_mem_take hw)) (fun hw => hup w (List.mem_of_mem_drop (List.mem_of_mem_take (List.mem_reverse.mp hw))))) (fun hw => hup w (List.mem_of_mem_drop hw))
    have hlen : (((ws.take i) ++ ((ws.drop i).take 2).reverse) ++ (ws.drop (i + 2))).length ≤ ws.length + 1 := by simp only [List.length_append, List.length_take, List.length_drop, List.length_cons, List.length_nil, List.length_reverse]; omega
    have hne2 : (((ws.take i) ++ ((ws.drop i).take 2).reverse) ++ (ws.drop (i + 2))) ≠ [] := fun e => by have := congrArg List.length e; simp only [List.length_append, List.length_take, List.length_drop, List.length_cons, List.length_nil, List.length_reverse] at this; omega
    exact q d6l _ _ gd6 nd6 hne2 hlen hmem kd6 Wd6

  refine ⟨_, rfl, rfl, _, rfl, iteD2 (fun c => ?_) (fun c => ?_)⟩
  · skip
    have hc_e1 : cutV (ws.map V.str) none (some (i : Int)) = (ws.take i).map V.str := cut_take
    refine ⟨_, rfl, _, rfl, _, rfl, a, _, rfl, SqL.of ha2, fun e1l hle1 => ?_⟩
    rw [hc_e1]
    generalize hGe1 : upd H2 e1l _ = He1
    have se1 : Same H2 He1 := by rw [← hGe1]; exact same_new hle1
    have ge1 : He1 e1l = some (.lst ((ws.take i).map V.str)) := by rw [← hGe1]; exact upd_same
    have ae1 := se1 _ _ ha2
    have ne1 : e1l ≠ p := (W2).fresh hle1
    have We1 := (W2).same se1
    have ke1 := (k12).trans (keepX_of se1)
    refine ⟨_, rfl, p, rfl, We1, fun me2 He2 hme2 kke2 We2 => ?_⟩
    have fe1_e2 := kke2 _ _ ne1 ge1
    have ae2 := kke2 _ _ nap ae1
    have ke2 := (ke1).trans kke2
    refine ⟨by show 1 ≤ sizeLine; decide, fun e3l hle3 => ?_⟩
    generalize hGe3 : upd He2 e3l _ = He3
    have se3 : Same He2 He3 := by rw [← hGe3]; exact same_new hle3
    have ge3 : He3 e3l = some (.lst (([me2] : List Str).map V.str)) := by rw [← hGe3]; exact upd_same
    have fe1_e3 := se3 _ _ fe1_e2
    have ae3 := se3 _ _ ae2
    have ne3 : e3l ≠ p := (We2).fresh hle3
    have We3 := (We2).same se3
    have ke3 := (ke2).trans (keepX_of se3)
    refine ⟨e1l, e3l, _, _, rfl, rfl, fe1_e3, ge3, sizeL2 (by simp only [List.length_map, List.length_append, List.length_take, List.length_drop, List.length_cons, List.length_nil, List.length_reverse]; omega), fun e4l hle4 => ?_⟩
    rw [← List.map_append]
    generalize hGe4 : upd He3 e4l _ = He4
    have se4 : Same He3 He4 := by rw [← hGe4]; exact same_new hle4
    have ge4 : He4 e4l = some (.lst (((ws.take i) ++ ([me2] : List Str)).map V.str)) := by rw [← hGe4]; exact upd_same
    have fe1_e4 := se4 _ _ fe1_e3
    have fe3_e4 := se4 _ _ ge3
    have ae4 := se4 _ _ ae3
    have ne4 : e4l ≠ p := (We3).fresh hle4
    have We4 := (We3).same se4
    have ke4 := (ke3).trans (keepX_of se4)
    have hc_e5 : cutV (ws.map V.str) (some (i : Int)) none = (ws.drop i).map V.str := cut_drop
    refine ⟨_, rfl, _, rfl, _, rfl, a, _, rfl, SqL.of ae4, fun e5l hle5 => ?_⟩
    rw [hc_e5]
    generalize hGe5 : upd He4 e5l _ = He5
    have se5 : Same He4 He5 := by rw [← hGe5]; exact same_new hle5
    have ge5 : He5 e5l = some (.lst ((ws.drop i).map V.str)) := by rw [← hGe5]; exact upd_same
    have fe1_e5 := se5 _ _ fe1_e4
    have fe3_e5 := se5 _ _ fe3_e4
    have fe4_e5 := se5 _ _ ge4
    have ae5 := se5 _ _ ae4
    have ne5 : e5l ≠ p := (We4).fresh hle5
    have We5 := (We4).same se5
    have ke5 := (ke4).trans (keepX_of se5)
    refine ⟨e4l, e5l, _, _, rfl, rfl, fe4_e5, ge5, sizeL2 (by simp only [List.length_map, List.length_append, List.length_take, List.length_drop, List.length_cons, List.length_nil, List.length_reverse]; omega), fun e6l hle6 => ?_⟩
    rw [← List.map_append]
    generalize hGe6 : upd He5 e6l _ = He6
    have se6 : Same He5 He6 := by rw [← hGe6]; exact same_new hle6
    have ge6 : He6 e6l = some (.lst ((((ws.take i) ++ ([me2] : List Str)) ++ (ws.drop i)).map V.str)) := by rw [← hGe6]; exact upd_same
    have fe1_e6 := se6 _ _ fe1_e5
    have fe3_e6 := se6 _ _ fe3_e5
    have fe4_e6 := se6 _ _ fe4_e5
    have fe5_e6 := se6 _ _ ge5
    have ae6 := se6 _ _ ae5
    have ne6 : e6l ≠ p := (We5).fresh hle6
    have We6 := (We5).same se6
    have ke6 := (ke5).trans (keepX_of se6)
    have hmem : ∀ w ∈ (((ws.take i) ++ ([me2] : List Str)) ++ (ws.drop i)), LnG (k + 1) w := fun w hw => (List.mem_append.mp hw).elim (fun hw => (List.mem_append.mp hw).elim (fun hw => hup w (List.mem_of_mem_take hw)) (fun hw => (by rw [List.mem_singleton.mp hw]; exact hme2.mono (Nat.zero_le _)))) (fun hw => hup w (List.mem_of_mem_drop hw))
    have hlen : (((ws.take i) ++ ([me2] : List Str)) ++ (ws.drop i)).length ≤ ws.length + 1 := by simp only [List.length_append, List.length_take, List.length_drop, List.length_cons, List.length_nil, List.length_reverse]; omega
    have hne2 : (((ws.take i) ++ ([me2] : List Str)) ++ (ws.drop i)) ≠ [] := fun e => by have := congrArg List.length e; simp only [List.length_append, List.length_take, List.length_drop, List.length_cons, List.length_nil, List.length_reverse] at this; omega
    exact q e6l _ _ ge6 ne6 hne2 hlen hmem ke6 We6
  have hc_f1 : cutV (ws.map V.str) none (some (i : Int)) = (ws.take i).map V.str := cut_take
  refine ⟨_, rfl, _, rfl, _, rfl, a, _, rfl, SqL.of ha2, fun f1l hlf1 => ?_⟩
  rw [hc_f1]
  generalize hGf1 : upd H2 f1l _ = Hf1
  have sf1 : Same H2 Hf1 := by rw [← hGf1]; exact same_new hlf1
  have gf1 : Hf1 f1l = some (.lst ((ws.take i).map V.str)) := by rw [← hGf1]; exact upd_same
  have af1 := sf1 _ _ ha2
  have nf1 : f1l ≠ p := (W2).fresh hlf1
  have Wf1 := (W2).same sf1
  have kf1 := (k12).trans (keepX_of sf1)
  refine ⟨_, rfl, _, rfl, _, rfl, a, _, _, _, rfl, rfl, SqL.of af1, hati, p, _, k, rfl, Wf1, hok _ (List.getElem_mem hi), by omega, fun mf2 Hf2 hmf2 kkf2 Wf2 => ?_⟩
  have ff1_f2 := kkf2 _ _ nf1 gf1
  have af2 := kkf2 _ _ nap af1
  have kf2 := (kf1).trans kkf2
  refine ⟨by show 1 ≤ sizeLine; decide, fun f3l hlf3 => ?_⟩
  generalize hGf3 : upd Hf2 f3l _ = Hf3
  have sf3 : Same Hf2 Hf3 := by rw [← hGf3]; exact same_new hlf3
  have gf3 : Hf3 f3l = some (.lst (([mf2] : List Str).map V.str)) := by rw [← hGf3]; exact upd_same
  have ff1_f3 := sf3 _ _ ff1_f2
  have af3 := sf3 _ _ af2
  have nf3 : f3l ≠ p := (Wf2).fresh hlf3
  have Wf3 := (Wf2).same sf3
  have kf3 := (kf2).trans (keepX_of sf3)
  refine ⟨f1l, f3l, _, _, rfl, rfl, ff1_f3, gf3, sizeL2 (by simp only [List.length_map, List.length_append, List.length_take, List.length_drop, List.length_cons, List.length_nil, List.length_reverse]; omega), fun f4l hlf4 => ?_⟩
  rw [← List.map_append]
  generalize hGf4 : upd Hf3 f4l _ = Hf4
  have sf4 : Same Hf3 Hf4 := by rw [← hGf4]; exact same_new hlf4
  have gf4 : Hf4 f4l = some (.lst (((ws.take i) ++ ([mf2] : List Str)).map V.str)) := by rw [← hGf4]; exact upd_same
  have ff1_f4 := sf4 _ _ ff1_f3
  have ff3_f4 := sf4 _ _ gf3
  have af4 := sf4 _ _ af3
  have nf4 : f4l ≠ p := (Wf3).fresh hlf4
  have Wf4 := (Wf3).same sf4
  have kf4 := (kf3).trans (keepX_of sf4)
  have hc_f5 : cutV (ws.map V.str) (some ((i : Int) + 1)) none = (ws.drop (i + 1)).map V.str := by rw [show (i : Int) + 1 = ((i + 1 : Nat) : Int) from by omega, cut_drop]
  refine ⟨_, rfl, _, rfl, _, _, rfl, rfl, _, rfl, a, _, rfl, SqL.of af4, fun f5l hlf5 => ?_⟩
  rw [hc_f5]
  generalize hGf5 : upd Hf4 f5l _ = Hf5
  have sf5 : Same Hf4 Hf5 := by rw [← hGf5]; exact same_new hlf5
  have gf5 : Hf5 f5l = some (.lst ((ws.drop (i + 1)).map V.str)) := by rw [← hGf5]; exact upd_same
  have ff1_f5 := sf5 _ _ ff1_f4
  have ff3_f5 := sf5 _ _ ff3_f4
  have ff4_f5 := sf5 _ _ gf4
  have af5 := sf5 _ _ af4
  have nf5 : f5l ≠ p := (Wf4).fresh hlf5
  have Wf5 := (Wf4).same sf5
  have kf5 := (kf4).trans (keepX_of sf5)
  refine ⟨f4l, f5l, _, _, rfl, rfl, ff4_f5, gf5, sizeL2 (by simp only [List.length_map, List.length_append, List.length_take, List.length_drop, List.length_cons, List.length_nil, List.length_reverse]; omega), fun f6l hlf6 => ?_⟩
  rw [← List.map_append]
  generalize hGf6 : upd Hf5 f6l _ = Hf6
  have sf6 : Same Hf5 Hf6 := by rw [← hGf6]; exact same_new hlf6
  have gf6 : Hf6 f6l = some (.lst ((((ws.take i) ++ ([mf2] : List Str)) ++ (ws.drop (i + 1))).map V.str)) := by rw [← hGf6]; exact upd_same
  have ff1_f6 := sf6 _ _ ff1_f5
  have ff3_f6 := sf6 _ _ ff3_f5
  have ff4_f6 := sf6 _ _ ff4_f5
  have ff5_f6 := sf6 _ _ gf5
  have af6 := sf6 _ _ af5
  have nf6 : f6l ≠ p := (Wf5).fresh hlf6
  have Wf6 := (Wf5).same sf6
  have kf6 := (kf5).trans (keepX_of sf6)
  have hmem : ∀ w ∈ (((ws.take i) ++ ([mf2] : List Str)) ++ (ws.drop (i + 1))), LnG (k + 1) w := fun w hw => (List.mem_append.mp hw).elim (fun hw => (List.mem_append.mp hw).elim (fun hw => hup w (List.mem_of_mem_take hw)) (fun hw => (by rw [List.mem_singleton.mp hw]; exact hmf2))) (fun hw => hup w (List.mem_of_mem_drop hw))
  have hlen : (((ws.take i) ++ ([mf2] : List Str)) ++ (ws.drop (i + 1))).length ≤ ws.length + 1 := by simp only [List.length_append, List.length_take, List.length_drop, List.length_cons, List.length_nil, List.length_reverse]; omega
  have hne2 : (((ws.take i) ++ ([mf2] : List Str)) ++ (ws.drop (i + 1))) ≠ [] := fun e => by have := congrArg List.length e; simp only [List.length_append, List.length_take, List.length_drop, List.length_cons, List.length_nil, List.length_reverse] at this; omega
  exact q f6l _ _ gf6 nf6 hne2 hlen hmem kf6 Wf6

end
end K12
namespace K12
open PySem L2 TL
section
variable {P : Program} {w : World} {K : PySem.W.Frag} {mg : Str → Option Value} {base : Heap} {A : Ads}
theorem ok_law (T : Txt K mg A) : FnOk P w K mg base CX0 175 A.law A.law_d ["_law_script"] (spLaw K) := by
  have G_l_world := ok_l_world (P := P) (w := w) (base := base) T
  have G_l_well := ok_l_well (P := P) (w := w) (base := base) T
  have G_l_draw := ok_l_draw (P := P) (w := w) (base := base) T
  have G_l_spoiled := ok_l_spoiled (P := P) (w := w) (base := base) T
  have G_l_is_program := ok_l_is_program (P := P) (w := w) (base := base) T
  have G_l_found := ok_l_found (P := P) (w := w) (base := base) T
  refine T.F_law.ok sc_law (fun vs H Q E h => ?_) (fun cdv A0 outer s H vs Q E hr h => ?_)
  · obtain ⟨a, ns, rfl, hS, hlaw, q⟩ := h
    rfl
  obtain ⟨a, ns, rfl, hS, hlaw, q⟩ := h
  refine ⟨_, (pss_cons (ps_set (i := 1) sc_law.nd rfl (Or.inl rfl) (pe_dget (hu_of hr) (pe_call G_l_world (hr.mono (by decide)) rfl T.m_l_world T.F_l_world.kp T.b_l_world .nil pass0 (pa_cons (pv 0) (pa_cons pe_int pa_nil))) pe_str (fun _ _ => rfl)))
   (pss_cons (ps_set (i := 2) sc_law.nd rfl (Or.inl rfl) (pe_call G_l_well (hr.mono (by decide)) rfl T.m_l_well T.F_l_well.kp T.b_l_well .nil pass0 (pa_cons (pv 0) (pa_cons pe_int pa_nil))))
   (pss_cons (ps_for PassesOwn.never rfl (pi_range1 (by rfl) T.z_range (pa_cons (pe_call G_l_draw (hr.mono (by decide)) rfl T.m_l_draw T.F_l_draw.kp T.b_l_draw .nil pass0 (pa_cons (pv 2) (pa_cons pe_int pa_nil))) pa_nil)) (pg_name (i := 3) sc_law.nd rfl (Or.inl rfl))
    (pss_one (ps_set (i := 1) sc_law.nd rfl (Or.inl rfl) (pe_call G_l_spoiled (hr.mono (by decide)) rfl T.m_l_spoiled T.F_l_spoiled.kp T.b_l_spoiled .nil pass0 (pa_cons (pv 2) (pa_cons (pv 1) pa_nil))))))
   (pss_cons (ps_set (i := 4) sc_law.nd rfl (Or.inl rfl) (pe_join pe_str (pv 1)))
   (pss_cons (ps_for PassesOwn.never rfl (pi_list (pe_lst (pa_cons (pv 4) (pa_cons (pe_op op_add_str (pv 4) pe_str) (pa_cons (pe_op op_add_str pe_str (pv 4)) pa_nil))))) (pg_name (i := 5) sc_law.nd rfl (Or.inl rfl))
    (pss_cons (ps_set (i := 6) sc_law.nd rfl (Or.inl rfl) pe_str)
   (pss_cons (ps_if (pt_val (pe_call G_l_is_program (hr.mono (by decide)) rfl T.m_l_is_program T.F_l_is_program.kp T.b_l_is_program .nil pass0 (pa_cons (pv 5) pa_nil)))
    (pss_one (ps_set (i := 6) sc_law.nd rfl (Or.inl rfl) (pv 5)))
    pss_nil)
   (pss_one (ps_if (pt_cmpR op_ne (pe_call G_l_found (hr.mono (by decide)) rfl T.m_l_found T.F_l_found.kp T.b_l_found .nil pass0 (pa_cons (pv 5) pa_nil)) (pv 6) (nomark _))
    (pss_one (ps_ret pe_bl))
    pss_nil)))))
   (pss_cons (ps_cut (ps_set (i := 7) sc_law.nd rfl (Or.inl rfl) (pe_ix ix_list (pe_lst (pa_cons pe_non (pa_cons pe_int (pa_cons pe_bl (pa_cons (pe_lst (pa_cons pe_str pa_nil)) (pa_cons pe_str (pa_cons pe_str pa_nil))))))) (pe_call G_l_draw (hr.mono (by decide)) rfl T.m_l_draw T.F_l_draw.kp T.b_l_draw .nil pass0 (pa_cons (pv 2) (pa_cons pe_int pa_nil))) (fun _ _ => rfl))))
   (pss_cons (ps_if (pt_cmpR (op_eqD hr.units) (pv 7) pe_str (nomark _))
    (pss_one (ps_ret (pe_cmpR (op_eqD hr.units) (pe_call G_l_found (hr.mono (by decide)) rfl T.m_l_found T.F_l_found.kp T.b_l_found .nil pass0 (pa_cons (pv 7) pa_nil)) (pv 7) (nomark _))))
    pss_nil)
   (pss_one (ps_ret (pe_cmpR op_eq (pe_call G_l_found (hr.mono (by decide)) rfl T.m_l_found T.F_l_found.kp T.b_l_found .nil pass0 (pa_cons (pv 7) pa_nil)) pe_str (nomark _))))))))))), ?_⟩
  refine ⟨_, rfl, a, ns, 1, rfl, hS, by decide, fun X hs s H1 hW hR s1 => ?_⟩
  have hlen := hR.len
  have hlo := hR.lng
  have hne := hR.ne
  refine ⟨X.w, _, rfl, hW.gLines, ?_⟩
  have hll : H1 X.ll = some (.lst (s.ls.map V.str)) := hW.lines
  refine ⟨_, rfl, a, ns, 9, rfl, s1.seq hS, by decide, fun p H2 hp s2 W2 => ?_⟩
  have g2 := s2 _ _ hll
  have nlp : X.ll ≠ p := fun e => by rw [← e, hll] at hp; cases hp
  refine ⟨_, rfl, p, 3, rfl, W2, by decide, by decide, fun m H3 m0 m1 k3 W3 => ?_⟩
  have g3 := k3 _ _ nlp g2
  refine ⟨m, rfl, by omega, by omega, for_range (n := m.toNat) (fun i σ H' => ∃ (b : Addr) (us : List Str) (v3 : Option V), σ = [some (.ref a), some (.ref b), some (.ref p), v3, none, none, none, none] ∧ H' b = some (.lst (us.map V.str)) ∧ b ≠ p ∧ us ≠ [] ∧ us.length ≤ 60 + i ∧ (∀ s ∈ us, LnG i s) ∧ WellAt H' p) ⟨X.ll, s.ls, none, rfl, g3, nlp, hne, hlen, hlo, W3⟩ ?_ ?_⟩
  · rintro i σ H9 hi ⟨b, us, v3, rfl, hb, nb, une, ulen, uok, W9⟩
    refine ⟨_, rfl, _, rfl, p, b, us, i, rfl, W9, hb, nb, une, by omega, uok, by omega, fun b2 us2 H10 hb2 nb2 une2 ul2 uok2 k10 W10 => ?_⟩
    exact ⟨b2, us2, _, rfl, hb2, nb2, une2, by omega, uok2, W10⟩
  rintro σ H9 ⟨b, us, v3, rfl, hb, nb, une, ulen, uok, W9⟩
  have hm : m.toNat ≤ 2 := by omega
  have uok' : ∀ t ∈ us, LnG 40 t := fun t ht => (uok t ht).mono (by omega)
  refine ⟨⟨_, rfl⟩, _, rfl, _, b, us, rfl, rfl, .inl (SqL.of hb), sum12 (by omega) uok', ?_⟩
  have b1 : (Str.ofString "\n").length = 1 := by decide +kernel
  have jl := lng_jlen (ls := us) (by omega) uok'
  refine ⟨_, rfl, _, rfl, _, _, rfl, rfl, by rw [b1]; exact sizeL2 (by omega), ?_⟩
  refine ⟨_, rfl, _, _, rfl, rfl, by rw [b1]; exact sizeL2 (by omega), ?_⟩
  rw [txt_snoc une, txt_cons une]
  have hall : ∀ us' ∈ [us, us ++ [Str.ofString ""], Str.ofString "" :: us], us' ≠ [] ∧ us'.length ≤ 95 ∧ ∀ t ∈ us', LnG 40 t := fun us' hm => by
    simp only [List.mem_cons, List.not_mem_nil, or_false] at hm
    have h0 : LnG 40 (Str.ofString "") := (word_lng (Str.ofString "") (by decide +kernel)).mono (Nat.zero_le _)
    rcases hm with rfl | rfl | rfl
    · exact ⟨une, by omega, uok'⟩
    · exact ⟨by simp, by rw [List.length_append]; show us.length + 1 ≤ _; omega, fun t ht => (List.mem_append.mp ht).elim (uok' t) fun ht => by rw [List.mem_singleton.mp ht]; exact h0⟩
    · exact ⟨by simp, by rw [List.length_cons]; omega, fun t ht => (List.mem_cons.mp ht).elim (fun e => by rw [e]; exact h0) (uok' t)⟩
  refine ⟨by show 3 ≤ sizeLine; decide, fun la hla => ?_⟩
  have sa := same_new (o := .lst ([us, us ++ [Str.ofString ""], Str.ofString "" :: us].map fun l => V.str (Txt.join (Str.ofString "\n") l))) hla
  have ga := upd_same (H := H9) (a := la) (o := .lst ([us, us ++ [Str.ofString ""], Str.ofString "" :: us].map fun l => V.str (Txt.join (Str.ofString "\n") l)))
  have Wa := W9.same sa
  have nap := W9.fresh hla
  refine ⟨la, rfl, ⟨_, SqL.of ga⟩, for_list (xs := [us, us ++ [Str.ofString ""], Str.ofString "" :: us].map fun l => V.str (Txt.join (Str.ofString "\n") l)) (fun i σ H' => ∃ z5 z6, σ = [some (.ref a), some (.ref b), some (.ref p), v3, some (.str (Txt.join (Str.ofString "\n") us)), z5, z6, none] ∧ Same _ H') ⟨_, _, rfl, Same.refl _⟩ (fun _ _ _ _ ⟨_, _, _, h⟩ => SqL.of (h _ _ ga)) ?_ ?_⟩
  · rintro i x σ HA hx ⟨z5, z6, rfl, sA⟩
    obtain ⟨us', hu, rfl⟩ := List.mem_map.mp (List.mem_of_getElem? hx)
    obtain ⟨une', ulen', uok''⟩ := hall us' hu
    refine ⟨_, rfl, us', rfl, une', lng_ts ulen' uok'', lng_10 uok'', fun HB sB => ?_⟩
    refine ⟨_, rfl, iteB2 (fun c => ?_) (fun c => ?_)⟩
    · refine ⟨_, rfl, _, rfl, _, rfl, .inl ⟨us', rfl, une', ulen', uok'', fun HC sC => ?_⟩⟩
      rw [if_pos c]
      refine ⟨_, rfl, rfl, _, rfl, iteNF rfl ?_⟩
      exact ⟨_, _, rfl, sA.trans (sB.trans sC)⟩
    · refine ⟨_, rfl, _, rfl, .inl ⟨us', rfl, une', ulen', uok'', fun HC sC => ?_⟩⟩
      rw [if_neg (by rw [c]; exact Bool.false_ne_true)]
      refine ⟨_, rfl, rfl, _, rfl, iteNF rfl ?_⟩
      exact ⟨_, _, rfl, sA.trans (sB.trans sC)⟩
  rintro σ HA ⟨z5, z6, rfl, sA⟩
  have WA := Wa.same sA
  refine ⟨fun σ' H' => ∃ x : V, σ' = [some (.ref a), some (.ref b), some (.ref p), v3, some (.str (Txt.join (Str.ofString "\n") us)), z5, z6, some x] ∧ (x = .str "main" ∨ ((x = .str "" ∨ ∃ t, TyX K H' x t ∧ PySem.W.kitOne K t (.type "str") = some false) ∧ ∃ d, Dp K H' x d ∧ SeqAt.shaped d = true ∧ PyData.eqv d (.str "main") = false)), ?_, ?_⟩
  · refine ⟨by show 1 ≤ sizeLine; decide, fun l1 hl1 => ⟨by show 6 ≤ sizeLine; decide, fun l2 hl2 => ?_⟩⟩
    have t1 := same_new (o := .lst [V.str "main"]) hl1
    have t2 := same_new (o := .lst [V.non, V.int 7, V.bl true, V.ref l1, V.str "", V.str "main"]) hl2
    have g1 := t2 _ _ (upd_same (H := HA) (a := l1) (o := .lst [V.str "main"]))
    have Wx := WA.same (t1.trans t2)
    have nl : l2 ≠ p := (WA.same t1).fresh hl2
    refine ⟨_, rfl, p, 6, rfl, Wx, by decide, by decide, fun z H' z0 z1 k W' => ?_⟩
    have g3 := k _ _ nl upd_same
    have g1 := k _ _ (WA.fresh hl1) g1
    have hz : z = 0 ∨ z = 1 ∨ z = 2 ∨ z = 3 ∨ z = 4 ∨ z = 5 := by omega
    rcases hz with rfl | rfl | rfl | rfl | rfl | rfl
    · exact ⟨l2, _, _, _, rfl, rfl, SqL.of g3, rfl, .non, rfl, .inr ⟨.inr ⟨_, .base .non, kit_ty (by decide +kernel)⟩, _, .non, by decide +kernel, by decide +kernel⟩⟩
    · exact ⟨l2, _, _, _, rfl, rfl, SqL.of g3, rfl, .int 7, rfl, .inr ⟨.inr ⟨_, .base (.int _), kit_ty (by decide +kernel)⟩, _, .int _, by decide +kernel, by decide +kernel⟩⟩
    · exact ⟨l2, _, _, _, rfl, rfl, SqL.of g3, rfl, .bl true, rfl, .inr ⟨.inr ⟨_, .base (.bl _), kit_ty (by decide +kernel)⟩, _, .bl _, by decide +kernel, by decide +kernel⟩⟩
    · exact ⟨l2, _, _, _, rfl, rfl, SqL.of g3, rfl, .ref l1, rfl, .inr ⟨.inr ⟨_, .base (.lst g1), kit_ty (by decide +kernel)⟩, _, .lst (SqL.of g1) (.cons (.str _) .nil), by decide +kernel, by decide +kernel⟩⟩
    · exact ⟨l2, _, _, _, rfl, rfl, SqL.of g3, rfl, .str "", rfl, .inr ⟨.inl rfl, _, .str _, by decide +kernel, by decide +kernel⟩⟩
    · exact ⟨l2, _, _, _, rfl, rfl, SqL.of g3, rfl, .str "main", rfl, .inl rfl⟩
  rintro σ HB ⟨x, rfl, hx⟩
  rcases hx with rfl | ⟨hx, d, hd1, hd2, hd3⟩
  · refine ⟨_, rfl, .str "main", .str "main", .str _, .str _, by decide +kernel, by decide +kernel, _, rfl, ?_⟩
    rw [show PyData.eqv (.str "main") (.str "main") = true from by decide +kernel]
    have hj : Txt.join (Str.ofString "\n") [Str.ofString "main"] = Str.ofString "main" := by decide +kernel
    have hr : (readF [Str.ofString "main"]).isSome = true := by decide +kernel
    refine iteT ⟨_, rfl, _, rfl, .inl ⟨[Str.ofString "main"], by rw [hj], by simp, by decide, fun t ht => by rw [List.mem_singleton.mp ht]; exact (word_lng _ (by decide +kernel)).mono (Nat.zero_le _), fun HC sC => ?_⟩⟩
    rw [if_pos hr, hj]
    refine ⟨_, rfl, .str "main", .str "main", .str _, .str _, by decide +kernel, by decide +kernel, ?_⟩
    rw [show PyData.eqv (.str "main") (.str "main") = true from by decide +kernel]
    exact q _
  · refine ⟨_, rfl, d, .str "main", hd1, .str _, hd2, by decide +kernel, _, rfl, ?_⟩
    rw [hd3]
    refine iteF ?_
    have fin : ∀ H', Same HB H' → True := fun _ _ => trivial
    have hj : Txt.join (Str.ofString "\n") [Str.ofString ""] = Str.ofString "" := by decide +kernel
    have hr : (readF [Str.ofString ""]).isSome = false := by decide +kernel
    refine ⟨_, rfl, _, rfl, ?_⟩
    rcases hx with rfl | ⟨t, ht, hk⟩
    · refine .inl ⟨[Str.ofString ""], by rw [hj], by simp, by decide, fun t ht => by rw [List.mem_singleton.mp ht]; exact (word_lng _ (by decide +kernel)).mono (Nat.zero_le _), fun HC sC => ?_⟩
      rw [if_neg (by rw [hr]; exact Bool.false_ne_true)]
      exact ⟨rfl, by rw [decide_eq_true rfl]; exact q _⟩
    · refine .inr ⟨t, ht, hk, fun HC sC => ?_⟩
      exact ⟨rfl, by rw [decide_eq_true rfl]; exact q _⟩

end
end K12
namespace K12
open PySem PySem.Spec PyProof.Rows L2 TL
set_option maxHeartbeats 0 in
theorem facts {P : Program} {w : World} {K : PySem.W.Frag} {h : Heap} {mg : Str → Option Value} {f : Addr} (X : K.In h) (G : h.Ns mainGlobals mg) (hfa : mg ("law" : Str) = some (.ref f)) (c : SaysM hFa hFn K) :
    ∃ fd : FuncData, (∀ (s : Shared) (v : Value), BindsTo s fd ⟨[v], []⟩ [("_law_script", v)]) ∧ ∀ base : Heap, K.In base → base.Ns mainGlobals mg → FnOk P w K mg base CX0 175 f fd ["_law_script"] (spLaw K) := by
  obtain ⟨d0, F0⟩ := c.def_ 0 (d := hD_is_name) rfl
  obtain ⟨d1, F1⟩ := c.def_ 1 (d := hD_is_value_word) rfl
  obtain ⟨d2, F2⟩ := c.def_ 2 (d := hD_Number_init) rfl
  obtain ⟨d3, F3⟩ := c.def_ 3 (d := hD_Box_init) rfl
  obtain ⟨d4, F4⟩ := c.def_ 4 (d := hD_Cell_init) rfl
  obtain ⟨d5, F5⟩ := c.def_ 5 (d := hD_Two_init) rfl
  obtain ⟨d6, F6⟩ := c.def_ 6 (d := hD_Expr_parts) rfl
  obtain ⟨d7, F7⟩ := c.def_ 7 (d := hD_Cell_parts) rfl
  obtain ⟨d8, F8⟩ := c.def_ 8 (d := hD_Two_parts) rfl
  obtain ⟨d9, F9⟩ := c.def_ 9 (d := hD_expr_at) rfl
  obtain ⟨d10, F10⟩ := c.def_ 10 (d := hD_exprs_of) rfl
  obtain ⟨d11, F11⟩ := c.def_ 11 (d := hD_Row_init) rfl
  obtain ⟨d12, F12⟩ := c.def_ 12 (d := hD_Set_init) rfl
  obtain ⟨d13, F13⟩ := c.def_ 13 (d := hD_Put_init) rfl
  obtain ⟨d14, F14⟩ := c.def_ 14 (d := hD_Ask_init) rfl
  obtain ⟨d15, F15⟩ := c.def_ 15 (d := hD_Draw_init) rfl
  obtain ⟨d16, F16⟩ := c.def_ 16 (d := hD_Tell_init) rfl
  obtain ⟨d17, F17⟩ := c.def_ 17 (d := hD_Choice_init) rfl
  obtain ⟨d18, F18⟩ := c.def_ 18 (d := hD_Loop_init) rfl
  obtain ⟨d19, F19⟩ := c.def_ 19 (d := hD_Call_init) rfl
  obtain ⟨d20, F20⟩ := c.def_ 20 (d := hD_Give_init) rfl
  obtain ⟨d21, F21⟩ := c.def_ 21 (d := hD_check_names) rfl
  obtain ⟨d22, F22⟩ := c.def_ 22 (d := hD_only) rfl
  obtain ⟨d23, F23⟩ := c.def_ 23 (d := hD_simple_row) rfl
  obtain ⟨d24, F24⟩ := c.def_ 24 (d := hD_Reader_head) rfl
  obtain ⟨d25, F25⟩ := c.def_ 25 (d := hD_Reader_init) rfl
  obtain ⟨d26, F26⟩ := c.def_ 26 (d := hD_Reader_pass_line) rfl
  obtain ⟨d27, F27⟩ := c.def_ 27 (d := hD_Reader_call_row) rfl
  obtain ⟨d28, F28⟩ := c.def_ 28 (d := hD_Reader_row_with_rows) rfl
  obtain ⟨d29, F29⟩ := c.def_ 29 (d := hD_Reader_block) rfl
  obtain ⟨d30, F30⟩ := c.def_ 30 (d := hD_Reader_one_row) rfl
  obtain ⟨d31, F31⟩ := c.def_ 31 (d := hD_Function_init) rfl
  obtain ⟨d32, F32⟩ := c.def_ 32 (d := hD_Reader_function) rfl
  obtain ⟨d33, F33⟩ := c.def_ 33 (d := hD_check_calls) rfl
  obtain ⟨d34, F34⟩ := c.def_ 34 (d := hD_Program_init) rfl
  obtain ⟨d35, F35⟩ := c.def_ 35 (d := hD_Program_text) rfl
  obtain ⟨d36, F36⟩ := c.def_ 36 (d := hD_read_program) rfl
  obtain ⟨d37, F37⟩ := c.def_ 37 (d := hD_l_cell) rfl
  obtain ⟨d38, F38⟩ := c.def_ 38 (d := hD_l_mixed) rfl
  obtain ⟨d39, F39⟩ := c.def_ 39 (d := hD_l_twice) rfl
  obtain ⟨d40, F40⟩ := c.def_ 40 (d := hD_l_well) rfl
  obtain ⟨d41, F41⟩ := c.def_ 41 (d := hD_l_draw) rfl
  obtain ⟨d42, F42⟩ := c.def_ 42 (d := hD_l_value) rfl
  obtain ⟨d43, F43⟩ := c.def_ 43 (d := hD_l_name) rfl
  obtain ⟨d44, F44⟩ := c.def_ 44 (d := hD_l_parts) rfl
  obtain ⟨d45, F45⟩ := c.def_ 45 (d := hD_l_expr) rfl
  obtain ⟨d46, F46⟩ := c.def_ 46 (d := hD_l_words_of) rfl
  obtain ⟨d47, F47⟩ := c.def_ 47 (d := hD_l_some_expr) rfl
  obtain ⟨d48, F48⟩ := c.def_ 48 (d := hD_l_heads) rfl
  obtain ⟨d49, F49⟩ := c.def_ 49 (d := hD_l_simple) rfl
  obtain ⟨d50, F50⟩ := c.def_ 50 (d := hD_l_line) rfl
  obtain ⟨d51, F51⟩ := c.def_ 51 (d := hD_l_put_line) rfl
  obtain ⟨d52, F52⟩ := c.def_ 52 (d := hD_l_row) rfl
  obtain ⟨d53, F53⟩ := c.def_ 53 (d := hD_l_block) rfl
  obtain ⟨d54, F54⟩ := c.def_ 54 (d := hD_l_world) rfl
  obtain ⟨d55, F55⟩ := c.def_ 55 (d := hD_l_is_name) rfl
  obtain ⟨d56, F56⟩ := c.def_ 56 (d := hD_l_is_value) rfl
  obtain ⟨d57, F57⟩ := c.def_ 57 (d := hD_l_read) rfl
  obtain ⟨d58, F58⟩ := c.def_ 58 (d := hD_l_many) rfl
  obtain ⟨d59, F59⟩ := c.def_ 59 (d := hD_l_is_simple) rfl
  obtain ⟨d60, F60⟩ := c.def_ 60 (d := hD_l_call) rfl
  obtain ⟨d61, F61⟩ := c.def_ 61 (d := hD_l_behind) rfl
  obtain ⟨d62, F62⟩ := c.def_ 62 (d := hD_l_fun_behind) rfl
  obtain ⟨d63, F63⟩ := c.def_ 63 (d := hD_l_is_program) rfl
  obtain ⟨d64, F64⟩ := c.def_ 64 (d := hD_l_found) rfl
  obtain ⟨d65, F65⟩ := c.def_ 65 (d := hD_l_menu) rfl
  obtain ⟨d66, F66⟩ := c.def_ 66 (d := hD_l_word_changed) rfl
  obtain ⟨d67, F67⟩ := c.def_ 67 (d := hD_l_spoiled) rfl
  obtain ⟨d68, F68⟩ := c.def_ 68 (d := hD_law) rfl
  have e := hfa.symm.trans (He.glo_ok (x := "law") X G (c.fact 40 rfl))
  cases e
  let A : Ads := ⟨He.fAd K ("is_name", none), d0, He.fAd K ("is_value_word", none), d1, He.fAd K ("Number", some "__init__"), d2, He.fAd K ("Box", some "__init__"), d3, He.fAd K ("Cell", some "__init__"), d4, He.fAd K ("Two", some "__init__"), d5, He.fAd K ("Expr", some "parts"), d6, He.fAd K ("Cell", some "parts"), d7, He.fAd K ("Two", some "parts"), d8, He.fAd K ("expr_at", none), d9, He.fAd K ("exprs_of", none), d10, He.fAd K ("Row", some "__init__"), d11, He.fAd K ("Set", some "__init__"), d12, He.fAd K ("Put", some "__init__"), d13, He.fAd K ("Ask", some "__init__"), d14, He.fAd K ("Draw", some "__init__"), d15, He.fAd K ("Tell", some "__init__"), d16, He.fAd K ("Choice", some "__init__"), d17, He.fAd K ("Loop", some "__init__"), d18, He.fAd K ("Call", some "__init__"), d19, He.fAd K ("Give", some "__init__"), d20, He.fAd K ("check_names", none), d21, He.fAd K ("only", none), d22, He.fAd K ("simple_row", none), d23, He.fAd K ("Reader", some "head"), d24, He.fAd K ("Reader", some "__init__"), d25, He.fAd K ("Reader", some "pass_line"), d26, He.fAd K ("Reader", some "call_row"), d27, He.fAd K ("Reader", some "row_with_rows"), d28, He.fAd K ("Reader", some "block"), d29, He.fAd K ("Reader", some "one_row"), d30, He.fAd K ("Function", some "__init__"), d31, He.fAd K ("Reader", some "function"), d32, He.fAd K ("check_calls", none), d33, He.fAd K ("Program", some "__init__"), d34, He.fAd K ("Program", some "text"), d35, He.fAd K ("read_program", none), d36, He.fAd K ("_law_cell", none), d37, He.fAd K ("_law_mixed", none), d38, He.fAd K ("_law_twice", none), d39, He.fAd K ("_law_well", none), d40, He.fAd K ("_law_draw", none), d41, He.fAd K ("_law_value", none), d42, He.fAd K ("_law_name", none), d43, He.fAd K ("_law_parts", none), d44, He.fAd K ("_law_expr", none), d45, He.fAd K ("_law_words_of", none), d46, He.fAd K ("_law_some_expr", none), d47, He.fAd K ("_law_heads", none), d48, He.fAd K ("_law_simple", none), d49, He.fAd K ("_law_line", none), d50, He.fAd K ("_law_put_line", none), d51, He.fAd K ("_law_row", none), d52, He.fAd K ("_law_block", none), d53, He.fAd K ("_law_world", none), d54, He.fAd K ("_law_is_name", none), d55, He.fAd K ("_law_is_value", none), d56, He.fAd K ("_law_read", none), d57, He.fAd K ("_law_many", none), d58, He.fAd K ("_law_is_simple", none), d59, He.fAd K ("_law_call", none), d60, He.fAd K ("_law_behind", none), d61, He.fAd K ("_law_fun_behind", none), d62, He.fAd K ("_law_is_program", none), d63, He.fAd K ("_law_found", none), d64, He.fAd K ("_law_menu", none), d65, He.fAd K ("_law_word_changed", none), d66, He.fAd K ("_law_spoiled", none), d67, He.fAd K ("law", none), d68, He.ga K "Reader", He.ga K "Function", He.ga K "Program", He.ga K "Number", He.ga K "Expr", He.ga K "Box", He.ga K "Cell", He.ga K "Two", He.ga K "Row", He.ga K "Set", He.ga K "Put", He.ga K "Ask", He.ga K "Draw", He.ga K "Tell", He.ga K "Skip", He.ga K "Call", He.ga K "Loop", He.ga K "Choice", He.ga K "Give", He.ga K "PAIRS", He.ga K "ROWS", He.ga K "OTHERS", He.ga K "NoProgram", He.ga K "HadError", He.ga K "NoChange", He.ga K "NoText", He.ga K "NoValue", He.ga K "NoWish"⟩
  have T : Txt K mg A :=
    { F_is_name := fun_of F0,
      b_is_name := FunD.bindsN (ps := ["thing"]) F0 fun _ _ _ _ _ _ us hl => match us, hl with | [_], _ => rfl,
      m_is_name := He.glo_ok (x := "is_name") X G (c.fact 0 rfl),
      F_is_value_word := fun_of F1,
      b_is_value_word := FunD.bindsN (ps := ["word"]) F1 fun _ _ _ _ _ _ us hl => match us, hl with | [_], _ => rfl,
      m_is_value_word := He.glo_ok (x := "is_value_word") X G (c.fact 1 rfl),
      F_Number_init := fun_of F2,
      b_Number_init := FunD.bindsN (ps := ["self", "value"]) F2 fun _ _ _ _ _ _ us hl => match us, hl with | [_, _], _ => rfl,
      F_Box_init := fun_of F3,
      b_Box_init := FunD.bindsN (ps := ["self", "name"]) F3 fun _ _ _ _ _ _ us hl => match us, hl with | [_, _], _ => rfl,
      F_Cell_init := fun_of F4,
      b_Cell_init := FunD.bindsN (ps := ["self", "inner"]) F4 fun _ _ _ _ _ _ us hl => match us, hl with | [_, _], _ => rfl,
      F_Two_init := fun_of F5,
      b_Two_init := FunD.bindsN (ps := ["self", "word", "left", "right"]) F5 fun _ _ _ _ _ _ us hl => match us, hl with | [_, _, _, _], _ => rfl,
      F_Expr_parts := fun_of F6,
      b_Expr_parts := FunD.bindsN (ps := ["self"]) F6 fun _ _ _ _ _ _ us hl => match us, hl with | [_], _ => rfl,
      F_Cell_parts := fun_of F7,
      b_Cell_parts := FunD.bindsN (ps := ["self"]) F7 fun _ _ _ _ _ _ us hl => match us, hl with | [_], _ => rfl,
      F_Two_parts := fun_of F8,
      b_Two_parts := FunD.bindsN (ps := ["self"]) F8 fun _ _ _ _ _ _ us hl => match us, hl with | [_], _ => rfl,
      F_expr_at := fun_of F9,
      b_expr_at := FunD.bindsN (ps := ["row", "at", "deep"]) F9 fun _ _ _ _ _ _ us hl => match us, hl with | [_, _, _], _ => rfl,
      m_expr_at := He.glo_ok (x := "expr_at") X G (c.fact 2 rfl),
      F_exprs_of := fun_of F10,
      b_exprs_of := FunD.bindsN (ps := ["row"]) F10 fun _ _ _ _ _ _ us hl => match us, hl with | [_], _ => rfl,
      m_exprs_of := He.glo_ok (x := "exprs_of") X G (c.fact 3 rfl),
      F_Row_init := fun_of F11,
      b_Row_init := FunD.bindsN (ps := ["self", "number"]) F11 fun _ _ _ _ _ _ us hl => match us, hl with | [_, _], _ => rfl,
      F_Set_init := fun_of F12,
      b_Set_init := FunD.bindsN (ps := ["self", "number", "box", "expr"]) F12 fun _ _ _ _ _ _ us hl => match us, hl with | [_, _, _, _], _ => rfl,
      F_Put_init := fun_of F13,
      b_Put_init := FunD.bindsN (ps := ["self", "number", "first", "second"]) F13 fun _ _ _ _ _ _ us hl => match us, hl with | [_, _, _, _], _ => rfl,
      F_Ask_init := fun_of F14,
      b_Ask_init := FunD.bindsN (ps := ["self", "number", "box", "word", "expr"]) F14 fun _ _ _ _ _ _ us hl => match us, hl with | [_, _, _, _, _], _ => rfl,
      F_Draw_init := fun_of F15,
      b_Draw_init := FunD.bindsN (ps := ["self", "number", "box", "word"]) F15 fun _ _ _ _ _ _ us hl => match us, hl with | [_, _, _, _], _ => rfl,
      F_Tell_init := fun_of F16,
      b_Tell_init := FunD.bindsN (ps := ["self", "number", "expr"]) F16 fun _ _ _ _ _ _ us hl => match us, hl with | [_, _, _], _ => rfl,
      F_Choice_init := fun_of F17,
      b_Choice_init := FunD.bindsN (ps := ["self", "number", "test", "first", "second"]) F17 fun _ _ _ _ _ _ us hl => match us, hl with | [_, _, _, _, _], _ => rfl,
      F_Loop_init := fun_of F18,
      b_Loop_init := FunD.bindsN (ps := ["self", "number", "test", "body"]) F18 fun _ _ _ _ _ _ us hl => match us, hl with | [_, _, _, _], _ => rfl,
      F_Call_init := fun_of F19,
      b_Call_init := FunD.bindsN (ps := ["self", "number", "box", "fun", "given"]) F19 fun _ _ _ _ _ _ us hl => match us, hl with | [_, _, _, _, _], _ => rfl,
      F_Give_init := fun_of F20,
      b_Give_init := FunD.bindsN (ps := ["self", "number", "expr"]) F20 fun _ _ _ _ _ _ us hl => match us, hl with | [_, _, _], _ => rfl,
      F_check_names := fun_of F21,
      b_check_names := FunD.bindsN (ps := ["words", "many"]) F21 fun _ _ _ _ _ _ us hl => match us, hl with | [_, _], _ => rfl,
      m_check_names := He.glo_ok (x := "check_names") X G (c.fact 4 rfl),
      F_only := fun_of F22,
      b_only := FunD.bindsN (ps := ["found"]) F22 fun _ _ _ _ _ _ us hl => match us, hl with | [_], _ => rfl,
      m_only := He.glo_ok (x := "only") X G (c.fact 5 rfl),
      F_simple_row := fun_of F23,
      b_simple_row := FunD.bindsN (ps := ["number", "words"]) F23 fun _ _ _ _ _ _ us hl => match us, hl with | [_, _], _ => rfl,
      m_simple_row := He.glo_ok (x := "simple_row") X G (c.fact 6 rfl),
      F_Reader_head := fun_of F24,
      b_Reader_head := FunD.bindsN (ps := ["self"]) F24 fun _ _ _ _ _ _ us hl => match us, hl with | [_], _ => rfl,
      F_Reader_init := fun_of F25,
      b_Reader_init := FunD.bindsN (ps := ["self", "texts"]) F25 fun _ _ _ _ _ _ us hl => match us, hl with | [_, _], _ => rfl,
      F_Reader_pass_line := fun_of F26,
      b_Reader_pass_line := FunD.bindsN (ps := ["self", "text"]) F26 fun _ _ _ _ _ _ us hl => match us, hl with | [_, _], _ => rfl,
      F_Reader_call_row := fun_of F27,
      b_Reader_call_row := FunD.bindsN (ps := ["self", "number", "words"]) F27 fun _ _ _ _ _ _ us hl => match us, hl with | [_, _, _], _ => rfl,
      F_Reader_row_with_rows := fun_of F28,
      b_Reader_row_with_rows := FunD.bindsN (ps := ["self", "number", "words", "within"]) F28 fun _ _ _ _ _ _ us hl => match us, hl with | [_, _, _, _], _ => rfl,
      F_Reader_block := fun_of F29,
      b_Reader_block := FunD.bindsN (ps := ["self", "within"]) F29 fun _ _ _ _ _ _ us hl => match us, hl with | [_, _], _ => rfl,
      F_Reader_one_row := fun_of F30,
      b_Reader_one_row := FunD.bindsN (ps := ["self", "within"]) F30 fun _ _ _ _ _ _ us hl => match us, hl with | [_, _], _ => rfl,
      F_Function_init := fun_of F31,
      b_Function_init := FunD.bindsN (ps := ["self", "name", "params", "body", "give"]) F31 fun _ _ _ _ _ _ us hl => match us, hl with | [_, _, _, _, _], _ => rfl,
      F_Reader_function := fun_of F32,
      b_Reader_function := FunD.bindsN (ps := ["self"]) F32 fun _ _ _ _ _ _ us hl => match us, hl with | [_], _ => rfl,
      F_check_calls := fun_of F33,
      b_check_calls := FunD.bindsN (ps := ["calls", "functions"]) F33 fun _ _ _ _ _ _ us hl => match us, hl with | [_, _], _ => rfl,
      m_check_calls := He.glo_ok (x := "check_calls") X G (c.fact 7 rfl),
      F_Program_init := fun_of F34,
      b_Program_init := FunD.bindsN (ps := ["self", "texts", "main", "functions", "by_number"]) F34 fun _ _ _ _ _ _ us hl => match us, hl with | [_, _, _, _, _], _ => rfl,
      F_Program_text := fun_of F35,
      b_Program_text := FunD.bindsN (ps := ["self"]) F35 fun _ _ _ _ _ _ us hl => match us, hl with | [_], _ => rfl,
      F_read_program := fun_of F36,
      b_read_program := FunD.bindsN (ps := ["text"]) F36 fun _ _ _ _ _ _ us hl => match us, hl with | [_], _ => rfl,
      m_read_program := He.glo_ok (x := "read_program") X G (c.fact 8 rfl),
      F_l_cell := fun_of F37,
      b_l_cell := FunD.bindsN (ps := ["_law_script", "_law_k"]) F37 fun _ _ _ _ _ _ us hl => match us, hl with | [_, _], _ => rfl,
      m_l_cell := He.glo_ok (x := "_law_cell") X G (c.fact 9 rfl),
      F_l_mixed := fun_of F38,
      b_l_mixed := FunD.bindsN (ps := ["_law_cell_here", "_law_k"]) F38 fun _ _ _ _ _ _ us hl => match us, hl with | [_, _], _ => rfl,
      m_l_mixed := He.glo_ok (x := "_law_mixed") X G (c.fact 10 rfl),
      F_l_twice := fun_of F39,
      b_l_twice := FunD.bindsN (ps := ["_law_cell_here", "_law_k"]) F39 fun _ _ _ _ _ _ us hl => match us, hl with | [_, _], _ => rfl,
      m_l_twice := He.glo_ok (x := "_law_twice") X G (c.fact 11 rfl),
      F_l_well := fun_of F40,
      b_l_well := FunD.bindsN (ps := ["_law_script", "_law_k"]) F40 fun _ _ _ _ _ _ us hl => match us, hl with | [_, _], _ => rfl,
      m_l_well := He.glo_ok (x := "_law_well") X G (c.fact 12 rfl),
      F_l_draw := fun_of F41,
      b_l_draw := FunD.bindsN (ps := ["_law_well_here", "_law_most"]) F41 fun _ _ _ _ _ _ us hl => match us, hl with | [_, _], _ => rfl,
      m_l_draw := He.glo_ok (x := "_law_draw") X G (c.fact 13 rfl),
      F_l_value := fun_of F42,
      b_l_value := FunD.bindsN (ps := ["_law_well_here"]) F42 fun _ _ _ _ _ _ us hl => match us, hl with | [_], _ => rfl,
      m_l_value := He.glo_ok (x := "_law_value") X G (c.fact 14 rfl),
      F_l_name := fun_of F43,
      b_l_name := FunD.bindsN (ps := ["_law_well_here"]) F43 fun _ _ _ _ _ _ us hl => match us, hl with | [_], _ => rfl,
      m_l_name := He.glo_ok (x := "_law_name") X G (c.fact 15 rfl),
      F_l_parts := fun_of F44,
      b_l_parts := FunD.bindsN (ps := ["_law_told"]) F44 fun _ _ _ _ _ _ us hl => match us, hl with | [_], _ => rfl,
      m_l_parts := He.glo_ok (x := "_law_parts") X G (c.fact 16 rfl),
      F_l_expr := fun_of F45,
      b_l_expr := FunD.bindsN (ps := ["_law_well_here", "_law_deep", "_law_most"]) F45 fun _ _ _ _ _ _ us hl => match us, hl with | [_, _, _], _ => rfl,
      m_l_expr := He.glo_ok (x := "_law_expr") X G (c.fact 17 rfl),
      F_l_words_of := fun_of F46,
      b_l_words_of := FunD.bindsN (ps := ["_law_told"]) F46 fun _ _ _ _ _ _ us hl => match us, hl with | [_], _ => rfl,
      m_l_words_of := He.glo_ok (x := "_law_words_of") X G (c.fact 18 rfl),
      F_l_some_expr := fun_of F47,
      b_l_some_expr := FunD.bindsN (ps := ["_law_well_here"]) F47 fun _ _ _ _ _ _ us hl => match us, hl with | [_], _ => rfl,
      m_l_some_expr := He.glo_ok (x := "_law_some_expr") X G (c.fact 19 rfl),
      F_l_heads := fun_of F48,
      b_l_heads := FunD.bindsN (ps := ["_law_well_here"]) F48 fun _ _ _ _ _ _ us hl => match us, hl with | [_], _ => rfl,
      m_l_heads := He.glo_ok (x := "_law_heads") X G (c.fact 20 rfl),
      F_l_simple := fun_of F49,
      b_l_simple := FunD.bindsN (ps := ["_law_world_here", "_law_well_here", "_law_way"]) F49 fun _ _ _ _ _ _ us hl => match us, hl with | [_, _, _], _ => rfl,
      m_l_simple := He.glo_ok (x := "_law_simple") X G (c.fact 21 rfl),
      F_l_line := fun_of F50,
      b_l_line := FunD.bindsN (ps := ["_law_told"]) F50 fun _ _ _ _ _ _ us hl => match us, hl with | [_], _ => rfl,
      m_l_line := He.glo_ok (x := "_law_line") X G (c.fact 22 rfl),
      F_l_put_line := fun_of F51,
      b_l_put_line := FunD.bindsN (ps := ["_law_world_here", "_law_told"]) F51 fun _ _ _ _ _ _ us hl => match us, hl with | [_, _], _ => rfl,
      m_l_put_line := He.glo_ok (x := "_law_put_line") X G (c.fact 23 rfl),
      F_l_row := fun_of F52,
      b_l_row := FunD.bindsN (ps := ["_law_world_here", "_law_well_here", "_law_within"]) F52 fun _ _ _ _ _ _ us hl => match us, hl with | [_, _, _], _ => rfl,
      m_l_row := He.glo_ok (x := "_law_row") X G (c.fact 24 rfl),
      F_l_block := fun_of F53,
      b_l_block := FunD.bindsN (ps := ["_law_world_here", "_law_well_here", "_law_within"]) F53 fun _ _ _ _ _ _ us hl => match us, hl with | [_, _, _], _ => rfl,
      m_l_block := He.glo_ok (x := "_law_block") X G (c.fact 25 rfl),
      F_l_world := fun_of F54,
      b_l_world := FunD.bindsN (ps := ["_law_script", "_law_k"]) F54 fun _ _ _ _ _ _ us hl => match us, hl with | [_, _], _ => rfl,
      m_l_world := He.glo_ok (x := "_law_world") X G (c.fact 26 rfl),
      F_l_is_name := fun_of F55,
      b_l_is_name := FunD.bindsN (ps := ["_law_word"]) F55 fun _ _ _ _ _ _ us hl => match us, hl with | [_], _ => rfl,
      m_l_is_name := He.glo_ok (x := "_law_is_name") X G (c.fact 27 rfl),
      F_l_is_value := fun_of F56,
      b_l_is_value := FunD.bindsN (ps := ["_law_word"]) F56 fun _ _ _ _ _ _ us hl => match us, hl with | [_], _ => rfl,
      m_l_is_value := He.glo_ok (x := "_law_is_value") X G (c.fact 28 rfl),
      F_l_read := fun_of F57,
      b_l_read := FunD.bindsN (ps := ["_law_words", "_law_at"]) F57 fun _ _ _ _ _ _ us hl => match us, hl with | [_, _], _ => rfl,
      m_l_read := He.glo_ok (x := "_law_read") X G (c.fact 29 rfl),
      F_l_many := fun_of F58,
      b_l_many := FunD.bindsN (ps := ["_law_words"]) F58 fun _ _ _ _ _ _ us hl => match us, hl with | [_], _ => rfl,
      m_l_many := He.glo_ok (x := "_law_many") X G (c.fact 30 rfl),
      F_l_is_simple := fun_of F59,
      b_l_is_simple := FunD.bindsN (ps := ["_law_words"]) F59 fun _ _ _ _ _ _ us hl => match us, hl with | [_], _ => rfl,
      m_l_is_simple := He.glo_ok (x := "_law_is_simple") X G (c.fact 31 rfl),
      F_l_call := fun_of F60,
      b_l_call := FunD.bindsN (ps := ["_law_words", "_law_calls"]) F60 fun _ _ _ _ _ _ us hl => match us, hl with | [_, _], _ => rfl,
      m_l_call := He.glo_ok (x := "_law_call") X G (c.fact 32 rfl),
      F_l_behind := fun_of F61,
      b_l_behind := FunD.bindsN (ps := ["_law_lines", "_law_at", "_law_within", "_law_calls"]) F61 fun _ _ _ _ _ _ us hl => match us, hl with | [_, _, _, _], _ => rfl,
      m_l_behind := He.glo_ok (x := "_law_behind") X G (c.fact 33 rfl),
      F_l_fun_behind := fun_of F62,
      b_l_fun_behind := FunD.bindsN (ps := ["_law_lines", "_law_at", "_law_heads_here", "_law_calls"]) F62 fun _ _ _ _ _ _ us hl => match us, hl with | [_, _, _, _], _ => rfl,
      m_l_fun_behind := He.glo_ok (x := "_law_fun_behind") X G (c.fact 34 rfl),
      F_l_is_program := fun_of F63,
      b_l_is_program := FunD.bindsN (ps := ["_law_text"]) F63 fun _ _ _ _ _ _ us hl => match us, hl with | [_], _ => rfl,
      m_l_is_program := He.glo_ok (x := "_law_is_program") X G (c.fact 35 rfl),
      F_l_found := fun_of F64,
      b_l_found := FunD.bindsN (ps := ["_law_text"]) F64 fun _ _ _ _ _ _ us hl => match us, hl with | [_], _ => rfl,
      m_l_found := He.glo_ok (x := "_law_found") X G (c.fact 36 rfl),
      F_l_menu := fun_of F65,
      b_l_menu := FunD.bindsN (ps := ["_law_well_here"]) F65 fun _ _ _ _ _ _ us hl => match us, hl with | [_], _ => rfl,
      m_l_menu := He.glo_ok (x := "_law_menu") X G (c.fact 37 rfl),
      F_l_word_changed := fun_of F66,
      b_l_word_changed := FunD.bindsN (ps := ["_law_well_here", "_law_line_here"]) F66 fun _ _ _ _ _ _ us hl => match us, hl with | [_, _], _ => rfl,
      m_l_word_changed := He.glo_ok (x := "_law_word_changed") X G (c.fact 38 rfl),
      F_l_spoiled := fun_of F67,
      b_l_spoiled := FunD.bindsN (ps := ["_law_well_here", "_law_lines"]) F67 fun _ _ _ _ _ _ us hl => match us, hl with | [_, _], _ => rfl,
      m_l_spoiled := He.glo_ok (x := "_law_spoiled") X G (c.fact 39 rfl),
      F_law := fun_of F68,
      b_law := FunD.bindsN (ps := ["_law_script"]) F68 fun _ _ _ _ _ _ us hl => match us, hl with | [_], _ => rfl,
      m_law := He.glo_ok (x := "law") X G (c.fact 40 rfl),
      m_Reader := He.glo_ok (x := "Reader") X G (c.fact 41 rfl),
      cl_Reader := He.cls_ok (x := "Reader") (c.fact 42 rfl),
      mk_Reader := (c.fact 43 rfl : PySem.W.makesIn K (He.ga K "Reader") = true),
      n_Reader_texts := He.noat_ok (x := "Reader") (f := "texts") (c.fact 44 rfl),
      n_Reader_at := He.noat_ok (x := "Reader") (f := "at") (c.fact 45 rfl),
      n_Reader_by_number := He.noat_ok (x := "Reader") (f := "by_number") (c.fact 46 rfl),
      n_Reader_calls := He.noat_ok (x := "Reader") (f := "calls") (c.fact 47 rfl),
      k_Reader := He.mkr_ok (x := "Reader") (c.fact 48 rfl),
      m_Function := He.glo_ok (x := "Function") X G (c.fact 49 rfl),
      cl_Function := He.cls_ok (x := "Function") (c.fact 50 rfl),
      mk_Function := (c.fact 51 rfl : PySem.W.makesIn K (He.ga K "Function") = true),
      n_Function_name := He.noat_ok (x := "Function") (f := "name") (c.fact 52 rfl),
      n_Function_params := He.noat_ok (x := "Function") (f := "params") (c.fact 53 rfl),
      n_Function_body := He.noat_ok (x := "Function") (f := "body") (c.fact 54 rfl),
      n_Function_give := He.noat_ok (x := "Function") (f := "give") (c.fact 55 rfl),
      k_Function := He.mkr_ok (x := "Function") (c.fact 56 rfl),
      m_Program := He.glo_ok (x := "Program") X G (c.fact 57 rfl),
      cl_Program := He.cls_ok (x := "Program") (c.fact 58 rfl),
      mk_Program := (c.fact 59 rfl : PySem.W.makesIn K (He.ga K "Program") = true),
      n_Program_texts := He.noat_ok (x := "Program") (f := "texts") (c.fact 60 rfl),
      n_Program_main := He.noat_ok (x := "Program") (f := "main") (c.fact 61 rfl),
      n_Program_functions := He.noat_ok (x := "Program") (f := "functions") (c.fact 62 rfl),
      n_Program_by_number := He.noat_ok (x := "Program") (f := "by_number") (c.fact 63 rfl),
      k_Program := He.mkr_ok (x := "Program") (c.fact 64 rfl),
      m_Number := He.glo_ok (x := "Number") X G (c.fact 65 rfl),
      cl_Number := He.cls_ok (x := "Number") (c.fact 66 rfl),
      mk_Number := (c.fact 67 rfl : PySem.W.makesIn K (He.ga K "Number") = true),
      n_Number_value := He.noat_ok (x := "Number") (f := "value") (c.fact 68 rfl),
      k_Number := He.mkr_ok (x := "Number") (c.fact 69 rfl),
      m_Expr := He.glo_ok (x := "Expr") X G (c.fact 70 rfl),
      cl_Expr := He.cls_ok (x := "Expr") (c.fact 71 rfl),
      mk_Expr := (c.fact 72 rfl : PySem.W.makesIn K (He.ga K "Expr") = true),
      m_Box := He.glo_ok (x := "Box") X G (c.fact 73 rfl),
      cl_Box := He.cls_ok (x := "Box") (c.fact 74 rfl),
      mk_Box := (c.fact 75 rfl : PySem.W.makesIn K (He.ga K "Box") = true),
      n_Box_name := He.noat_ok (x := "Box") (f := "name") (c.fact 76 rfl),
      k_Box := He.mkr_ok (x := "Box") (c.fact 77 rfl),
      m_Cell := He.glo_ok (x := "Cell") X G (c.fact 78 rfl),
      cl_Cell := He.cls_ok (x := "Cell") (c.fact 79 rfl),
      mk_Cell := (c.fact 80 rfl : PySem.W.makesIn K (He.ga K "Cell") = true),
      n_Cell_inner := He.noat_ok (x := "Cell") (f := "inner") (c.fact 81 rfl),
      k_Cell := He.mkr_ok (x := "Cell") (c.fact 82 rfl),
      m_Two := He.glo_ok (x := "Two") X G (c.fact 83 rfl),
      cl_Two := He.cls_ok (x := "Two") (c.fact 84 rfl),
      mk_Two := (c.fact 85 rfl : PySem.W.makesIn K (He.ga K "Two") = true),
      n_Two_word := He.noat_ok (x := "Two") (f := "word") (c.fact 86 rfl),
      n_Two_left := He.noat_ok (x := "Two") (f := "left") (c.fact 87 rfl),
      n_Two_right := He.noat_ok (x := "Two") (f := "right") (c.fact 88 rfl),
      k_Two := He.mkr_ok (x := "Two") (c.fact 89 rfl),
      m_Row := He.glo_ok (x := "Row") X G (c.fact 90 rfl),
      cl_Row := He.cls_ok (x := "Row") (c.fact 91 rfl),
      mk_Row := (c.fact 92 rfl : PySem.W.makesIn K (He.ga K "Row") = true),
      k_Row := He.mkr_ok (x := "Row") (c.fact 93 rfl),
      m_Set := He.glo_ok (x := "Set") X G (c.fact 94 rfl),
      cl_Set := He.cls_ok (x := "Set") (c.fact 95 rfl),
      mk_Set := (c.fact 96 rfl : PySem.W.makesIn K (He.ga K "Set") = true),
      n_Set_number := He.noat_ok (x := "Set") (f := "number") (c.fact 97 rfl),
      n_Set_box := He.noat_ok (x := "Set") (f := "box") (c.fact 98 rfl),
      n_Set_expr := He.noat_ok (x := "Set") (f := "expr") (c.fact 99 rfl),
      k_Set := He.mkr_ok (x := "Set") (c.fact 100 rfl),
      m_Put := He.glo_ok (x := "Put") X G (c.fact 101 rfl),
      cl_Put := He.cls_ok (x := "Put") (c.fact 102 rfl),
      mk_Put := (c.fact 103 rfl : PySem.W.makesIn K (He.ga K "Put") = true),
      n_Put_number := He.noat_ok (x := "Put") (f := "number") (c.fact 104 rfl),
      n_Put_first := He.noat_ok (x := "Put") (f := "first") (c.fact 105 rfl),
      n_Put_second := He.noat_ok (x := "Put") (f := "second") (c.fact 106 rfl),
      k_Put := He.mkr_ok (x := "Put") (c.fact 107 rfl),
      m_Ask := He.glo_ok (x := "Ask") X G (c.fact 108 rfl),
      cl_Ask := He.cls_ok (x := "Ask") (c.fact 109 rfl),
      mk_Ask := (c.fact 110 rfl : PySem.W.makesIn K (He.ga K "Ask") = true),
      n_Ask_number := He.noat_ok (x := "Ask") (f := "number") (c.fact 111 rfl),
      n_Ask_box := He.noat_ok (x := "Ask") (f := "box") (c.fact 112 rfl),
      n_Ask_word := He.noat_ok (x := "Ask") (f := "word") (c.fact 113 rfl),
      n_Ask_expr := He.noat_ok (x := "Ask") (f := "expr") (c.fact 114 rfl),
      k_Ask := He.mkr_ok (x := "Ask") (c.fact 115 rfl),
      m_Draw := He.glo_ok (x := "Draw") X G (c.fact 116 rfl),
      cl_Draw := He.cls_ok (x := "Draw") (c.fact 117 rfl),
      mk_Draw := (c.fact 118 rfl : PySem.W.makesIn K (He.ga K "Draw") = true),
      n_Draw_number := He.noat_ok (x := "Draw") (f := "number") (c.fact 119 rfl),
      n_Draw_box := He.noat_ok (x := "Draw") (f := "box") (c.fact 120 rfl),
      n_Draw_word := He.noat_ok (x := "Draw") (f := "word") (c.fact 121 rfl),
      k_Draw := He.mkr_ok (x := "Draw") (c.fact 122 rfl),
      m_Tell := He.glo_ok (x := "Tell") X G (c.fact 123 rfl),
      cl_Tell := He.cls_ok (x := "Tell") (c.fact 124 rfl),
      mk_Tell := (c.fact 125 rfl : PySem.W.makesIn K (He.ga K "Tell") = true),
      n_Tell_number := He.noat_ok (x := "Tell") (f := "number") (c.fact 126 rfl),
      n_Tell_expr := He.noat_ok (x := "Tell") (f := "expr") (c.fact 127 rfl),
      k_Tell := He.mkr_ok (x := "Tell") (c.fact 128 rfl),
      m_Skip := He.glo_ok (x := "Skip") X G (c.fact 129 rfl),
      cl_Skip := He.cls_ok (x := "Skip") (c.fact 130 rfl),
      mk_Skip := (c.fact 131 rfl : PySem.W.makesIn K (He.ga K "Skip") = true),
      n_Skip_number := He.noat_ok (x := "Skip") (f := "number") (c.fact 132 rfl),
      k_Skip := (show Mk K (He.ga K "Skip") (He.ma K (He.ga K "Row") "__init__") from of_decide_eq_true (c.fact 134 rfl) ▸ He.mkr_ok (x := "Skip") (c.fact 133 rfl)),
      m_Call := He.glo_ok (x := "Call") X G (c.fact 135 rfl),
      cl_Call := He.cls_ok (x := "Call") (c.fact 136 rfl),
      mk_Call := (c.fact 137 rfl : PySem.W.makesIn K (He.ga K "Call") = true),
      n_Call_number := He.noat_ok (x := "Call") (f := "number") (c.fact 138 rfl),
      n_Call_box := He.noat_ok (x := "Call") (f := "box") (c.fact 139 rfl),
      n_Call_fun := He.noat_ok (x := "Call") (f := "fun") (c.fact 140 rfl),
      n_Call_given := He.noat_ok (x := "Call") (f := "given") (c.fact 141 rfl),
      k_Call := He.mkr_ok (x := "Call") (c.fact 142 rfl),
      m_Loop := He.glo_ok (x := "Loop") X G (c.fact 143 rfl),
      cl_Loop := He.cls_ok (x := "Loop") (c.fact 144 rfl),
      mk_Loop := (c.fact 145 rfl : PySem.W.makesIn K (He.ga K "Loop") = true),
      n_Loop_number := He.noat_ok (x := "Loop") (f := "number") (c.fact 146 rfl),
      n_Loop_test := He.noat_ok (x := "Loop") (f := "test") (c.fact 147 rfl),
      n_Loop_body := He.noat_ok (x := "Loop") (f := "body") (c.fact 148 rfl),
      k_Loop := He.mkr_ok (x := "Loop") (c.fact 149 rfl),
      m_Choice := He.glo_ok (x := "Choice") X G (c.fact 150 rfl),
      cl_Choice := He.cls_ok (x := "Choice") (c.fact 151 rfl),
      mk_Choice := (c.fact 152 rfl : PySem.W.makesIn K (He.ga K "Choice") = true),
      n_Choice_number := He.noat_ok (x := "Choice") (f := "number") (c.fact 153 rfl),
      n_Choice_test := He.noat_ok (x := "Choice") (f := "test") (c.fact 154 rfl),
      n_Choice_first := He.noat_ok (x := "Choice") (f := "first") (c.fact 155 rfl),
      n_Choice_second := He.noat_ok (x := "Choice") (f := "second") (c.fact 156 rfl),
      k_Choice := He.mkr_ok (x := "Choice") (c.fact 157 rfl),
      m_Give := He.glo_ok (x := "Give") X G (c.fact 158 rfl),
      cl_Give := He.cls_ok (x := "Give") (c.fact 159 rfl),
      mk_Give := (c.fact 160 rfl : PySem.W.makesIn K (He.ga K "Give") = true),
      n_Give_number := He.noat_ok (x := "Give") (f := "number") (c.fact 161 rfl),
      n_Give_expr := He.noat_ok (x := "Give") (f := "expr") (c.fact 162 rfl),
      k_Give := He.mkr_ok (x := "Give") (c.fact 163 rfl),
      me_Number_parts := (show Meth K (He.ga K "Number") "parts" (He.ma K (He.ga K "Expr") "parts") from of_decide_eq_true (c.fact 165 rfl) ▸ He.meth_ok (x := "Number") (m := "parts") (c.fact 164 rfl)),
      me_Box_parts := (show Meth K (He.ga K "Box") "parts" (He.ma K (He.ga K "Expr") "parts") from of_decide_eq_true (c.fact 167 rfl) ▸ He.meth_ok (x := "Box") (m := "parts") (c.fact 166 rfl)),
      me_Cell_parts := He.meth_ok (x := "Cell") (m := "parts") (c.fact 168 rfl),
      me_Two_parts := He.meth_ok (x := "Two") (m := "parts") (c.fact 169 rfl),
      me_Reader_block := He.meth_ok (x := "Reader") (m := "block") (c.fact 170 rfl),
      me_Reader_pass_line := He.meth_ok (x := "Reader") (m := "pass_line") (c.fact 171 rfl),
      me_Reader_row_with_rows := He.meth_ok (x := "Reader") (m := "row_with_rows") (c.fact 172 rfl),
      me_Reader_call_row := He.meth_ok (x := "Reader") (m := "call_row") (c.fact 173 rfl),
      me_Reader_head := He.meth_ok (x := "Reader") (m := "head") (c.fact 174 rfl),
      me_Reader_one_row := He.meth_ok (x := "Reader") (m := "one_row") (c.fact 175 rfl),
      me_Reader_function := He.meth_ok (x := "Reader") (m := "function") (c.fact 176 rfl),
      me_Program_text := He.meth_ok (x := "Program") (m := "text") (c.fact 177 rfl),
      cf_Row_init := cfn_ok (c.fact 178 rfl),
      m_PAIRS := He.glo_ok (x := "PAIRS") X G (c.fact 179 rfl),
      q_PAIRS := fun H => He.tupB_ok (x := "PAIRS") (vs := [.str "plus", .str "minus", .str "times", .str "over", .str "rest", .str "less", .str "same"]) (c.fact 180 rfl) H,
      m_ROWS := He.glo_ok (x := "ROWS") X G (c.fact 181 rfl),
      q_ROWS := fun H => He.tupB_ok (x := "ROWS") (vs := [.str "skip", .str "set", .str "put", .str "ask", .str "draw", .str "tell", .str "if", .str "while", .str "call"]) (c.fact 182 rfl) H,
      m_OTHERS := He.glo_ok (x := "OTHERS") X G (c.fact 183 rfl),
      q_OTHERS := fun H => He.tupB_ok (x := "OTHERS") (vs := [.str "else", .str "end", .str "fun", .str "main", .str "give", .str "cell"]) (c.fact 184 rfl) H,
      m_NoProgram := He.glo_ok (x := "NoProgram") X G (c.fact 186 rfl),
      x_NoProgram := (He.exc_ok (x := "NoProgram") (c.fact 185 rfl)).1,
      kk_NoProgram := (He.exc_ok (x := "NoProgram") (c.fact 185 rfl)).2.1,
      bb_NoProgram := (He.exc_ok (x := "NoProgram") (c.fact 185 rfl)).2.2.1,
      tt_NoProgram := (He.exc_ok (x := "NoProgram") (c.fact 185 rfl)).2.2.2,
      m_HadError := He.glo_ok (x := "HadError") X G (c.fact 188 rfl),
      x_HadError := (He.exc_ok (x := "HadError") (c.fact 187 rfl)).1,
      kk_HadError := (He.exc_ok (x := "HadError") (c.fact 187 rfl)).2.1,
      bb_HadError := (He.exc_ok (x := "HadError") (c.fact 187 rfl)).2.2.1,
      tt_HadError := (He.exc_ok (x := "HadError") (c.fact 187 rfl)).2.2.2,
      m_NoChange := He.glo_ok (x := "NoChange") X G (c.fact 190 rfl),
      x_NoChange := (He.exc_ok (x := "NoChange") (c.fact 189 rfl)).1,
      kk_NoChange := (He.exc_ok (x := "NoChange") (c.fact 189 rfl)).2.1,
      bb_NoChange := (He.exc_ok (x := "NoChange") (c.fact 189 rfl)).2.2.1,
      tt_NoChange := (He.exc_ok (x := "NoChange") (c.fact 189 rfl)).2.2.2,
      m_NoText := He.glo_ok (x := "NoText") X G (c.fact 192 rfl),
      x_NoText := (He.exc_ok (x := "NoText") (c.fact 191 rfl)).1,
      kk_NoText := (He.exc_ok (x := "NoText") (c.fact 191 rfl)).2.1,
      bb_NoText := (He.exc_ok (x := "NoText") (c.fact 191 rfl)).2.2.1,
      tt_NoText := (He.exc_ok (x := "NoText") (c.fact 191 rfl)).2.2.2,
      m_NoValue := He.glo_ok (x := "NoValue") X G (c.fact 194 rfl),
      x_NoValue := (He.exc_ok (x := "NoValue") (c.fact 193 rfl)).1,
      kk_NoValue := (He.exc_ok (x := "NoValue") (c.fact 193 rfl)).2.1,
      bb_NoValue := (He.exc_ok (x := "NoValue") (c.fact 193 rfl)).2.2.1,
      tt_NoValue := (He.exc_ok (x := "NoValue") (c.fact 193 rfl)).2.2.2,
      m_NoWish := He.glo_ok (x := "NoWish") X G (c.fact 196 rfl),
      x_NoWish := (He.exc_ok (x := "NoWish") (c.fact 195 rfl)).1,
      kk_NoWish := (He.exc_ok (x := "NoWish") (c.fact 195 rfl)).2.1,
      bb_NoWish := (He.exc_ok (x := "NoWish") (c.fact 195 rfl)).2.2.1,
      tt_NoWish := (He.exc_ok (x := "NoWish") (c.fact 195 rfl)).2.2.2,
      ne_num_box := of_decide_eq_true (c.fact 197 rfl),
      ne_num_cell := of_decide_eq_true (c.fact 198 rfl),
      ne_num_two := of_decide_eq_true (c.fact 199 rfl),
      ne_box_num := of_decide_eq_true (c.fact 200 rfl),
      ne_box_cell := of_decide_eq_true (c.fact 201 rfl),
      ne_box_two := of_decide_eq_true (c.fact 202 rfl),
      ne_cell_num := of_decide_eq_true (c.fact 203 rfl),
      ne_cell_box := of_decide_eq_true (c.fact 204 rfl),
      ne_cell_two := of_decide_eq_true (c.fact 205 rfl),
      ne_two_num := of_decide_eq_true (c.fact 206 rfl),
      ne_two_box := of_decide_eq_true (c.fact 207 rfl),
      ne_two_cell := of_decide_eq_true (c.fact 208 rfl),
      ne_Skip_Set := of_decide_eq_true (c.fact 209 rfl),
      ne_Skip_Put := of_decide_eq_true (c.fact 210 rfl),
      ne_Skip_Ask := of_decide_eq_true (c.fact 211 rfl),
      ne_Skip_Draw := of_decide_eq_true (c.fact 212 rfl),
      ne_Skip_Tell := of_decide_eq_true (c.fact 213 rfl),
      ne_Skip_Choice := of_decide_eq_true (c.fact 214 rfl),
      ne_Skip_Loop := of_decide_eq_true (c.fact 215 rfl),
      ne_Skip_Call := of_decide_eq_true (c.fact 216 rfl),
      ne_Skip_Give := of_decide_eq_true (c.fact 217 rfl),
      ne_Set_Skip := of_decide_eq_true (c.fact 218 rfl),
      ne_Set_Put := of_decide_eq_true (c.fact 219 rfl),
      ne_Set_Ask := of_decide_eq_true (c.fact 220 rfl),
      ne_Set_Draw := of_decide_eq_true (c.fact 221 rfl),
      ne_Set_Tell := of_decide_eq_true (c.fact 222 rfl),
      ne_Set_Choice := of_decide_eq_true (c.fact 223 rfl),
      ne_Set_Loop := of_decide_eq_true (c.fact 224 rfl),
      ne_Set_Call := of_decide_eq_true (c.fact 225 rfl),
      ne_Set_Give := of_decide_eq_true (c.fact 226 rfl),
      ne_Put_Skip := of_decide_eq_true (c.fact 227 rfl),
      ne_Put_Set := of_decide_eq_true (c.fact 228 rfl),
      ne_Put_Ask := of_decide_eq_true (c.fact 229 rfl),
      ne_Put_Draw := of_decide_eq_true (c.fact 230 rfl),
      ne_Put_Tell := of_decide_eq_true (c.fact 231 rfl),
      ne_Put_Choice := of_decide_eq_true (c.fact 232 rfl),
      ne_Put_Loop := of_decide_eq_true (c.fact 233 rfl),
      ne_Put_Call := of_decide_eq_true (c.fact 234 rfl),
      ne_Put_Give := of_decide_eq_true (c.fact 235 rfl),
      ne_Ask_Skip := of_decide_eq_true (c.fact 236 rfl),
      ne_Ask_Set := of_decide_eq_true (c.fact 237 rfl),
      ne_Ask_Put := of_decide_eq_true (c.fact 238 rfl),
      ne_Ask_Draw := of_decide_eq_true (c.fact 239 rfl),
      ne_Ask_Tell := of_decide_eq_true (c.fact 240 rfl),
      ne_Ask_Choice := of_decide_eq_true (c.fact 241 rfl),
      ne_Ask_Loop := of_decide_eq_true (c.fact 242 rfl),
      ne_Ask_Call := of_decide_eq_true (c.fact 243 rfl),
      ne_Ask_Give := of_decide_eq_true (c.fact 244 rfl),
      ne_Draw_Skip := of_decide_eq_true (c.fact 245 rfl),
      ne_Draw_Set := of_decide_eq_true (c.fact 246 rfl),
      ne_Draw_Put := of_decide_eq_true (c.fact 247 rfl),
      ne_Draw_Ask := of_decide_eq_true (c.fact 248 rfl),
      ne_Draw_Tell := of_decide_eq_true (c.fact 249 rfl),
      ne_Draw_Choice := of_decide_eq_true (c.fact 250 rfl),
      ne_Draw_Loop := of_decide_eq_true (c.fact 251 rfl),
      ne_Draw_Call := of_decide_eq_true (c.fact 252 rfl),
      ne_Draw_Give := of_decide_eq_true (c.fact 253 rfl),
      ne_Tell_Skip := of_decide_eq_true (c.fact 254 rfl),
      ne_Tell_Set := of_decide_eq_true (c.fact 255 rfl),
      ne_Tell_Put := of_decide_eq_true (c.fact 256 rfl),
      ne_Tell_Ask := of_decide_eq_true (c.fact 257 rfl),
      ne_Tell_Draw := of_decide_eq_true (c.fact 258 rfl),
      ne_Tell_Choice := of_decide_eq_true (c.fact 259 rfl),
      ne_Tell_Loop := of_decide_eq_true (c.fact 260 rfl),
      ne_Tell_Call := of_decide_eq_true (c.fact 261 rfl),
      ne_Tell_Give := of_decide_eq_true (c.fact 262 rfl),
      ne_Choice_Skip := of_decide_eq_true (c.fact 263 rfl),
      ne_Choice_Set := of_decide_eq_true (c.fact 264 rfl),
      ne_Choice_Put := of_decide_eq_true (c.fact 265 rfl),
      ne_Choice_Ask := of_decide_eq_true (c.fact 266 rfl),
      ne_Choice_Draw := of_decide_eq_true (c.fact 267 rfl),
      ne_Choice_Tell := of_decide_eq_true (c.fact 268 rfl),
      ne_Choice_Loop := of_decide_eq_true (c.fact 269 rfl),
      ne_Choice_Call := of_decide_eq_true (c.fact 270 rfl),
      ne_Choice_Give := of_decide_eq_true (c.fact 271 rfl),
      ne_Loop_Skip := of_decide_eq_true (c.fact 272 rfl),
      ne_Loop_Set := of_decide_eq_true (c.fact 273 rfl),
      ne_Loop_Put := of_decide_eq_true (c.fact 274 rfl),
      ne_Loop_Ask := of_decide_eq_true (c.fact 275 rfl),
      ne_Loop_Draw := of_decide_eq_true (c.fact 276 rfl),
      ne_Loop_Tell := of_decide_eq_true (c.fact 277 rfl),
      ne_Loop_Choice := of_decide_eq_true (c.fact 278 rfl),
      ne_Loop_Call := of_decide_eq_true (c.fact 279 rfl),
      ne_Loop_Give := of_decide_eq_true (c.fact 280 rfl),
      ne_Call_Skip := of_decide_eq_true (c.fact 281 rfl),
      ne_Call_Set := of_decide_eq_true (c.fact 282 rfl),
      ne_Call_Put := of_decide_eq_true (c.fact 283 rfl),
      ne_Call_Ask := of_decide_eq_true (c.fact 284 rfl),
      ne_Call_Draw := of_decide_eq_true (c.fact 285 rfl),
      ne_Call_Tell := of_decide_eq_true (c.fact 286 rfl),
      ne_Call_Choice := of_decide_eq_true (c.fact 287 rfl),
      ne_Call_Loop := of_decide_eq_true (c.fact 288 rfl),
      ne_Call_Give := of_decide_eq_true (c.fact 289 rfl),
      ne_Give_Skip := of_decide_eq_true (c.fact 290 rfl),
      ne_Give_Set := of_decide_eq_true (c.fact 291 rfl),
      ne_Give_Put := of_decide_eq_true (c.fact 292 rfl),
      ne_Give_Ask := of_decide_eq_true (c.fact 293 rfl),
      ne_Give_Draw := of_decide_eq_true (c.fact 294 rfl),
      ne_Give_Tell := of_decide_eq_true (c.fact 295 rfl),
      ne_Give_Choice := of_decide_eq_true (c.fact 296 rfl),
      ne_Give_Loop := of_decide_eq_true (c.fact 297 rfl),
      ne_Give_Call := of_decide_eq_true (c.fact 298 rfl),
      nr_Number := of_decide_eq_true (c.fact 299 rfl),
      nr_Box := of_decide_eq_true (c.fact 300 rfl),
      nr_Cell := of_decide_eq_true (c.fact 301 rfl),
      nr_Two := of_decide_eq_true (c.fact 302 rfl),
      nr_Function := of_decide_eq_true (c.fact 303 rfl),
      nr_Skip := of_decide_eq_true (c.fact 304 rfl),
      nr_Set := of_decide_eq_true (c.fact 305 rfl),
      nr_Put := of_decide_eq_true (c.fact 306 rfl),
      nr_Ask := of_decide_eq_true (c.fact 307 rfl),
      nr_Draw := of_decide_eq_true (c.fact 308 rfl),
      nr_Tell := of_decide_eq_true (c.fact 309 rfl),
      nr_Choice := of_decide_eq_true (c.fact 310 rfl),
      nr_Loop := of_decide_eq_true (c.fact 311 rfl),
      nr_Call := of_decide_eq_true (c.fact 312 rfl),
      nr_Give := of_decide_eq_true (c.fact 313 rfl),
      xg := of_decide_eq_true (c.fact 314 rfl),
      xk := of_decide_eq_true (c.fact 315 rfl),
      xd := of_decide_eq_true (c.fact 316 rfl),
      xa := of_decide_eq_true (c.fact 317 rfl),
      xn := of_decide_eq_true (c.fact 318 rfl),
      xt := of_decide_eq_true (c.fact 319 rfl),
      xm := of_decide_eq_true (c.fact 320 rfl),
      xh := of_decide_eq_true (c.fact 321 rfl),
      xo := of_decide_eq_true (c.fact 322 rfl),
      xv := of_decide_eq_true (c.fact 323 rfl),
      c_LETTERS := He.str_ok (x := "LETTERS") X G (c.fact 324 rfl),
      c_FIGURES := He.str_ok (x := "FIGURES") X G (c.fact 325 rfl),
      c_MOST_DEEP := He.int_ok (x := "MOST_DEEP") X G (c.fact 326 rfl),
      c_MOST_PARTS := He.int_ok (x := "MOST_PARTS") X G (c.fact 327 rfl),
      c_MOST_WITHIN := He.int_ok (x := "MOST_WITHIN") X G (c.fact 328 rfl),
      c_MOST_PARAMS := He.int_ok (x := "MOST_PARAMS") X G (c.fact 329 rfl),
      c_MOST_LINES := He.int_ok (x := "MOST_LINES") X G (c.fact 330 rfl),
      c_MOST_FUNCTIONS := He.int_ok (x := "MOST_FUNCTIONS") X G (c.fact 331 rfl),
      z_str := He.free_ok (x := "str") X G (c.fact 332 rfl),
      z_isinstance := He.free_ok (x := "isinstance") X G (c.fact 333 rfl),
      z_len := He.free_ok (x := "len") X G (c.fact 334 rfl),
      z_all := He.free_ok (x := "all") X G (c.fact 335 rfl),
      z_int := He.free_ok (x := "int") X G (c.fact 336 rfl),
      z_set := He.free_ok (x := "set") X G (c.fact 337 rfl),
      z_range := He.free_ok (x := "range") X G (c.fact 338 rfl),
      z_sum := He.free_ok (x := "sum") X G (c.fact 339 rfl),
      z_tuple := He.free_ok (x := "tuple") X G (c.fact 340 rfl),
      z_max := He.free_ok (x := "max") X G (c.fact 341 rfl),
      z_ValueError := He.free_ok (x := "ValueError") X G (c.fact 342 rfl) }
  exact ⟨d68, fun s v => (FunD.bindsA (ps := ["_law_script"]) F68 fun _ _ _ _ _ _ us hl => match us, hl with | [_], _ => rfl) s [v] rfl, fun base _ _ => ok_law T⟩
end K12
open PySem PySem.W PySem.Calls PyProof.Rows
set_option maxRecDepth 100000 in
set_option maxHeartbeats 0 in
theorem PySem.Challenge.cw_hadbeen_k12_no_program_holds : PySem.Challenge.rw_hadbeen_k12_no_program.Holds := by
  w_on; o_law
  refine HandSHeadRun.head_any (r := OpenLaw.row PySem.Challenge.rw_hadbeen_k12_no_program) (q := view (OpenLaw.row PySem.Challenge.rw_hadbeen_k12_no_program).prog [82]) (H := K12.hk) (ob := K12.ob) (M := 12000) (loose := K12.loose) (d := HandSHeadRun.topDef (OpenLaw.row PySem.Challenge.rw_hadbeen_k12_no_program).prog 82) (kwd := []) K12.ob_eq
    (by kernel_rfl) (fun s => by kernel_rfl) K12.run (by kernel_rfl) (by kernel_rfl) (by kernel_rfl) (by rfl) (by first | assumption | decide +kernel) (by decide +kernel) ⟨rfl, rfl, rfl, rfl, rfl, by decide +kernel⟩ ?hw ?hc
  case hw => w_witness2
  case hc =>
    refine L2.walk_ofE (l := PySem.Challenge.rw_hadbeen_k12_no_program) (n := 63) (k := 175) (x := "_law_script") (CX := L2.CX0) rfl (by decide) (by kernel_rfl) ⟨rfl, by decide, by decide⟩ ?F (fun _ _ _ _ z => z)
    intro w mg fa h Y G hmg0
    obtain ⟨K, KX, c⟩ := Y
    have hmg : mg ("law" : PySem.Str) = some (.ref fa) := by
      have e : (HandSHeadRun.topDef (OpenLaw.row PySem.Challenge.rw_hadbeen_k12_no_program).prog 82).name = ("law" : PySem.Str) := by kernel_rfl
      rw [← e]
      exact hmg0
    obtain ⟨fd, hb, hF⟩ := K12.facts (P := (PySem.Challenge.rw_hadbeen_k12_no_program).prog) (w := w) KX G hmg c
    exact ⟨K, fd, K12.spLaw K, KX, hb, fun H a ns hl _ hS => ⟨a, ns, rfl, hS, hl, fun _ => rfl⟩, hF⟩
