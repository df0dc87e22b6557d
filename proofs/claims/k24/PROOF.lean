import PyProof.Rows.All
import Wide.All
import OpenK.AllK
import Wide.FinOn
import HandS.ForMost
import HandS.IsInst
import HandS.NoneIn
import HandS.ForExc
import HandS.Walk
import HandS.RaiseMore
import HandS.Strs
import HandS.Iter
import KE.KDictCopyH
import KE.KDictDisplayH
import KE.KDictOf
import KE.KEqDict
import KE.KDictWalk
import KE.KeyNested
import HandS.More
import HandS.Lambda
import HandS.Nested
import HandS.Codes
import HandS.TupMul
import HandS.TupAny
import HandS.EndTab
import HandS.HeadWalk
import HandS.HeadHook3
import HandS.HeadHook4
import HandS.Conv
import PyProof.StrLawsChain
import KE.IntTextText
import KE.KSuperObj
import OpenK.KCls
import KE.KStateDown
import Lean
import HandS.More
import HandS.WordsExc
import HandS.Defaults
import HandS.Head0
import HandS.Head1
import HandS.Head2
import HandS.HeadEnd
import HandS.HeadHook1
import HandS.HeadHook2
import HandS.ExcIs
import HandS.IsInst
import HandS.Flow
import HandS.Dict
import PySem.Challenge.RW_hadbeen_k24_calls_within_one_another
set_option Elab.async false
set_option maxRecDepth 100000
set_option maxHeartbeats 4000000
set_option linter.all false
namespace K24
open PySem L2 TL

theorem same_new {H : Hp} {p : Addr} {o : HO} (h : H p = none) : Same H (upd H p o) := fun b u q => by rw [upd_ne (ne_of_none q h)]; exact q
theorem iteDT {p A B : Prop} [Decidable p] (h : p) (a : A) : if decide p = true then A else B := by rw [decide_eq_true h]; exact iteT a
theorem iteDF {p A B : Prop} [Decidable p] (h : ¬ p) (b : B) : if decide p = true then A else B := by rw [decide_eq_false h]; exact iteF b
theorem iteNT {p A B : Prop} [Decidable p] (h : ¬ p) (a : A) : if (!decide p) = true then A else B := by rw [decide_eq_false h]; exact iteT a
theorem iteNF {p A B : Prop} [Decidable p] (h : p) (b : B) : if (!decide p) = true then A else B := by rw [decide_eq_true h]; exact iteF b
theorem iteD2 {p A B : Prop} [Decidable p] (h1 : p → A) (h2 : ¬ p → B) : if decide p = true then A else B := by
  by_cases h : p
  · exact iteDT h (h1 h)
  · exact iteDF h (h2 h)
theorem iteN2 {p A B : Prop} [Decidable p] (h1 : ¬ p → A) (h2 : p → B) : if (!decide p) = true then A else B := by
  by_cases h : p
  · exact iteNF h (h2 h)
  · exact iteNT h (h1 h)
theorem iteB2 {b : Bool} {A B : Prop} (h1 : b = true → A) (h2 : b = false → B) : if b = true then A else B := by
  cases b with
  | true => exact iteT (h1 rfl)
  | false => exact iteF (h2 rfl)
theorem vint_ne {i j : Int} (h : i ≠ j) : ¬ V.int i = V.int j := fun e => h (V.int.inj e)
theorem vstr_ne {i j : Str} (h : i ≠ j) : ¬ V.str i = V.str j := fun e => h (V.str.inj e)
/-- all that was tracked stands, but what is at p -/
def KeepX (p : Addr) (H H' : Hp) : Prop := ∀ q o, q ≠ p → H q = some o → H' q = some o
theorem KeepX.refl (p : Addr) (H : Hp) : KeepX p H H := fun _ _ _ h => h
theorem KeepX.trans {p : Addr} {H H1 H2 : Hp} (a : KeepX p H H1) (b : KeepX p H1 H2) : KeepX p H H2 := fun q o n h => b q o n (a q o n h)
theorem keepX_of {p : Addr} {H H' : Hp} (a : Same H H') : KeepX p H H' := fun q o _ h => a q o h
theorem keepX_upd {p : Addr} {H : Hp} {o : HO} : KeepX p H (upd H p o) := fun q u n h => by rw [upd_ne n]; exact h
theorem KeepX.seq {K : PySem.W.Frag} {H H' : Hp} {p a : Addr} {xs : List V} (e : KeepX p H H') (n : a ≠ p) (h : SqL K H a xs) : SqL K H' a xs := by
  rcases h with (h | ⟨o, h⟩) | h
  · exact .inl (.inl (e _ _ n h))
  · exact .inl (.inr ⟨o, e _ _ n h⟩)
  · exact .inr h
theorem same_tup {K : PySem.W.Frag} {H H' : Hp} {a : Addr} {xs : List V} (e : Same H H') (h : SqT K H a xs) : SqT K H' a xs := by
  rcases h with (h | ⟨o, h⟩) | h
  · exact .inl (.inl (e _ _ h))
  · exact .inl (.inr ⟨o, e _ _ h⟩)
  · exact .inr h
/-- what is new behind H -/
theorem KeepX.same {p : Addr} {H H' : Hp} (n : H p = none) (e : KeepX p H H') : Same H H' := fun q o h => e q o (ne_of_none h n) h
theorem none_before {H H' : Hp} {q : Addr} (s : Same H H') (h : H' q = none) : H q = none := by
  cases e : H q with
  | none => rfl
  | some o => have := s _ _ e; rw [h] at this; cases this
theorem none_keepX {p : Addr} {H H' : Hp} {q : Addr} (k : KeepX p H H') (n : q ≠ p) (h : H' q = none) : H q = none := by
  cases e : H q with
  | none => rfl
  | some o => have := k _ _ n e; rw [h] at this; cases this
/-- a def of which nothing is asked -/
theorem fn_none {P : Program} {w : World} {K : PySem.W.Frag} {mg : Str → Option Value} {base : Heap} {CX : CXT} {k : Nat} {f : Addr} {fd : FuncData} {ps : List Str} {sp : Sp} (no : ∀ vs H Q E, sp vs H Q E → False) : FnOk P w K mg base CX k f fd ps sp :=
  ⟨fun vs H Q E h => (no vs H Q E h).elim, fun A outer s H args us vs Q E _ _ _ _ h => (no vs H Q E h).elim⟩
theorem absV_rel {u : Value} {x : V} (h : absV u = some x) : RelV x u := by
  cases u <;> simp only [absV, Option.some.injEq, reduceCtorEq] at h <;> subst h <;> first | rfl | exact ⟨_, rfl⟩
theorem vals_of_absV : ∀ {us : List Value} {xs : List V}, us.map absV = xs.map some → Vals xs us
  | [], [], _ => .nil
  | [], _ :: _, h => by simp at h
  | _ :: _, [], h => by simp at h
  | u :: us, x :: xs, h => by
    rw [List.map_cons, List.map_cons, List.cons.injEq] at h
    exact .cons (absV_rel h.1) (vals_of_absV h.2)
theorem sqT_k {K : PySem.W.Frag} {H : Hp} {a : Addr} {xs : List V} {od : Option Addr} {its : Array Value} {n : Nat} {sl : Array (Option Value)} (l : K.lookup a = some ⟨.type "tuple", od, .seq its n, sl⟩) (w : its.toList.map absV = xs.map some) (z : xs.length ≤ sizeLine) : SqT K H a xs := by
  have v := vals_of_absV w
  have e := v.length
  refine .inr ⟨_, its, n, l, rfl, rfl, ?_, v⟩
  rw [← Array.length_toList, ← e]
  exact z
/-- the promise of one class's method -/
def Disp (P : Program) (w : World) (K : PySem.W.Frag) (mg : Str → Option Value) (base : Heap) (CX : CXT) (m : Str) (k : Nat) (C : Addr) (sp : Sp) : Prop :=
  ∃ f fd ps, Cls K C ∧ Meth K C m f ∧ FnOk P w K mg base CX k f fd ps sp ∧ Binds K fd ps []
/-- o.m(..) where o is an instance of one of some classes -/
def tMethP (Fam : Addr → Prop) (SP : Addr → Sp) (m : Str) (E : XK) (ta : TE) (t : TA) : TE := fun σ H Q => ta σ H fun x H1 => ∃ a C dx fs, x = .ref a ∧ H1 a = some (.ins C dx fs) ∧ fs.lookup m = none ∧ Fam C ∧
  t σ H1 fun vs H2 => SP C (x :: (vs ++ [])) H2 Q E
section
variable {X : Cx} {CX : CXT} {m : Str} {k : Nat} {Fam : Addr → Prop} {SP : Addr → Sp} {E : XK} {e o : Expr} {es : List Expr} {ta : TE} {t : TA} {pos apos : Pos}
theorem pe_methP {pl : Sem Bool} (he : PE X o ta) (D : ∀ C, Fam C → Disp X.prog X.w X.K X.mg X.base CX m k C (SP C)) (hr : Room k X.A) (hx : Passes CX X E) (ha : PA X (e :: es) t)
    (hst : starEach (e :: es) X.env = (false, eval e X.env) :: starEach es X.env := by rfl) (hpl : (backTo pos (starEach es X.env)).any (·.1) = false := by rfl)
    (ht : eval (.Call (.Attribute o m apos) (e :: es) [] pos) X.env = (do
      let ov ← eval o X.env
      standAt apos.atName
      let (f, first) ← holding [ov] (getMethod ov m pl)
      callWith pos f first (backTo pos (starEach (e :: es) X.env)) (backToKw pos (keywordEach [] X.env))) := by rfl) :
    PE X (.Call (.Attribute o m apos) (e :: es) [] pos) (tMethP Fam SP m E ta t) := by
  refine ⟨fun pins s σ H Q I h => ?_⟩
  refine PySem.W.methodCall_KW (pl := pl) (thn (he.run pins s σ H _ I h) fun u s1 ⟨x, H1, I1, rx, a, C, dx, fs, ex, ea, l, fam, q⟩ => ?_) ht
  subst ex
  obtain rfl : u = Value.ref a := rx
  obtain ⟨f, fd, ps, c, hm, F, hb⟩ := D C fam
  refine getmeth_ok I1 ea c hm l ?_
  refine PySem.W.callWith_K (first := [.ref a]) (h₀ := X.base) I.ok.mod.kin hm.kp (thn (ha.run pos pins s1 σ H1 _ I1 q) fun us s2 ⟨vs, H2, I2, r, q2⟩ => ⟨I2.kIn, ?_⟩) hst hpl
  exact run_fn (us := .ref a :: us) (vs := .ref a :: vs) F hr hb .nil hx I2 (.cons rfl r) q2
theorem pe_methP0 {pl : Sem Bool} (he : PE X o ta) (D : ∀ C, Fam C → Disp X.prog X.w X.K X.mg X.base CX m k C (SP C)) (hr : Room k X.A) (hx : Passes CX X E)
    (ht : eval (.Call (.Attribute o m apos) [] [] pos) X.env = (do
      let ov ← eval o X.env
      standAt apos.atName
      let (f, first) ← holding [ov] (getMethod ov m pl)
      callWith pos f first (backTo pos (starEach [] X.env)) (backToKw pos (keywordEach [] X.env))) := by rfl) :
    PE X (.Call (.Attribute o m apos) [] [] pos) (tMethP Fam SP m E ta tNil) := by
  refine ⟨fun pins s σ H Q I h => ?_⟩
  refine PySem.W.methodCall_KW (pl := pl) (thn (he.run pins s σ H _ I h) fun u s1 ⟨x, H1, I1, rx, a, C, dx, fs, ex, ea, l, fam, q⟩ => ?_) ht
  subst ex
  obtain rfl : u = Value.ref a := rx
  obtain ⟨f, fd, ps, c, hm, F, hb⟩ := D C fam
  refine getmeth_ok I1 ea c hm l ?_
  exact PySem.W.callWith_K0 (first := [.ref a]) I1.kIn hm.kp (run_fn (us := [.ref a]) (vs := [.ref a]) F hr hb .nil hx I1 (.cons rfl .nil) q)
end
theorem fresh_ne {H H' : Hp} {p q : Addr} {o : HO} (h : H p = some o) (n : H q = none) : q ≠ p := fun e => by rw [e, h] at n; cases n

def rTupOf (K : PySem.W.Frag) : List V → Hp → VK → Prop := fun xs H Q => ∃ p ys, xs = [.ref p] ∧ ((SqL K H p ys ∧ ∀ l, H l = none → Q (.ref l) (upd H l (.tup ys))) ∨ (SqT K H p ys ∧ Q (.ref p) H))
def rListOf (K : PySem.W.Frag) : List V → Hp → VK → Prop := fun xs H Q => ∃ p ys, xs = [.ref p] ∧ (SqL K H p ys ∨ SqT K H p ys) ∧ ∀ l, H l = none → Q (.ref l) (upd H l (.lst ys))
theorem call_tuple_ofK {X : Cx} : CallR X (.type "tuple") (rTupOf X.K) := call_tuple_of
theorem call_list_ofK {X : Cx} : CallR X (.type "list") (rListOf X.K) := call_list_of
theorem pi_tupK {X : Cx} {tg l : Expr} {tl : TE} (K : PySem.W.Frag) (hK : X.K = K) (hl : PE X l tl) : PI X tg l (iTup K tl) := by subst hK; exact pi_tup hl
theorem pi_listK {X : Cx} {tg l : Expr} {tl : TE} (K : PySem.W.Frag) (hK : X.K = K) (hl : PE X l tl) : PI X tg l (iList K tl) := by subst hK; exact pi_list hl
def rLenK (K : PySem.W.Frag) : List V → Hp → VK → Prop := fun xs H Q => ∃ p ys, xs = [.ref p] ∧ (SqL K H p ys ∨ SqT K H p ys) ∧ Q (.int ys.length) H
theorem call_lenK {X : Cx} : CallR X (.builtin "len") (rLenK X.K) := call_len_seq
/-- a choice whose test is reckoned ahead: b, and the heap behind it -/
def tIfC (c : TT) (t u : TS) : TS := fun D σ H => ∃ (b : Bool) (H1 : Hp), (∀ Z : Bool → Hp → Prop, Z b H1 → c σ H Z) ∧ (if b = true then t D σ H1 else u D σ H1)
theorem ps_ifC {X : Cx} {c : Expr} {a b : List Stmt} {tc : TT} {t u : TS} {pos : Pos} (hc : PT X c tc) (ha : PSs X a t) (hb : PSs X b u) : PS X (.If c a b pos) (tIfC tc t u) :=
  ⟨fun pins s σ H D I h => by
    obtain ⟨b, H1, h1, h2⟩ := h
    exact (ps_if hc ha hb).run pins s σ H D I (h1 _ h2)⟩
/-- a statement, then what it leaves, told by P -/
def tCut (t : TS) : TS := fun D σ H => ∃ Z : St → Hp → Prop, t { D with nx := Z } σ H ∧ ∀ σ' H', Z σ' H' → D.nx σ' H'
theorem ps_cut {X : Cx} {st : Stmt} {t : TS} (h : PS X st t) : PS X st (tCut t) := by
  refine ⟨fun pins s σ H D I hq => ?_⟩
  obtain ⟨Z, h1, h2⟩ := hq
  refine thn (h.run pins s σ H { D with nx := Z } I h1) fun f s1 hs => ?_
  cases f with
  | next =>
    obtain ⟨σ', H', I', z⟩ := hs
    exact ⟨σ', H', I', h2 _ _ z⟩
  | _ => exact hs
theorem zTrue {p : Prop} [Decidable p] {Z : Bool → Hp → Prop} {H : Hp} (h : Z (decide p) H) (q : p) : Z true H := by rw [decide_eq_true q] at h; exact h
theorem zFalse {p : Prop} [Decidable p] {Z : Bool → Hp → Prop} {H : Hp} (h : Z (decide p) H) (q : ¬ p) : Z false H := by rw [decide_eq_false q] at h; exact h

/-! ### a caught error of an own class, asked for its class -/
def rIsX (K : PySem.W.Frag) (cls : Value) (d : Option Addr) (a : Addr) : List V → Hp → VK → Prop := fun xs H Q => ∃ (D : Addr) (c : V) (cv : Value) (b : Bool), cls = .ref D ∧ d = none ∧ ExcC K D ∧ xs = [.ref a, c] ∧ (∀ u, RelV c u → u = cv) ∧ PySem.W.kitOne K (.ref D) cv = some b ∧ Q (.bl b) H
theorem call_isX {X : Cx} {a : Addr} {oe : Obj} {pn : List (Addr × Obj)} {cls : Value} {d : Option Addr} (hz : Zc cls d oe) (hf : ∃ vs, oe.data = .fields vs) : CallR (X.suite a ((a, oe) :: pn)) (.builtin "isinstance") (rIsX X.K cls d a) := by
  intro pins s σ H xs us Q I r h
  obtain ⟨D, c, cv, b, rfl, rfl, C, e, hcv, hk, q⟩ := h
  exact call_isE C hz hf pins s σ H xs us Q I r ⟨c, cv, b, e, hcv, hk, q⟩
def rIsXT (K : PySem.W.Frag) (cls : Value) (d : Option Addr) (a : Addr) : List V → Hp → VK → Prop := fun xs H Q => ∃ (D tp : Addr) (cs : List V) (us : List Value) (b : Bool), cls = .ref D ∧ d = none ∧ ExcC K D ∧ xs = [.ref a, .ref tp] ∧ H tp = some (.tup cs) ∧ Paired ClsV cs us ∧ PySem.W.kitAny K (.ref D) us = some b ∧ Q (.bl b) H
theorem call_isXT {X : Cx} {a : Addr} {oe : Obj} {pn : List (Addr × Obj)} {cls : Value} {d : Option Addr} (hz : Zc cls d oe) (hf : ∃ vs, oe.data = .fields vs) : CallR (X.suite a ((a, oe) :: pn)) (.builtin "isinstance") (rIsXT X.K cls d a) := by
  intro pins s σ H xs us Q I r h
  obtain ⟨D, tp, cs, ws, b, rfl, rfl, C, rfl, hT, k, e, q⟩ := h
  obtain ⟨u1, u2, rfl, r1, r2⟩ := vals2 r
  cases (show u1 = Value.ref a from r1)
  cases (show u2 = Value.ref tp from r2)
  obtain ⟨hget, _⟩ := I.pin (a, oe) (List.mem_append.mpr (.inl List.mem_cons_self))
  obtain ⟨vs, hv⟩ := hf
  have J : PySem.W.InstAt s.heap a oe D none := by
    obtain ⟨oc, od, oda, osl⟩ := oe
    obtain ⟨h1, h2⟩ := hz
    dsimp only at h1 h2 hv
    subst h1 h2 hv
    exact ⟨hget, rfl, rfl, trivial⟩
  obtain ⟨_, its, rv, o, h1, h2, n, h3⟩ := (show ObjOk X.prog X.w H s.heap tp (.tup cs) from I.hok tp _ hT)
  have e3 := ClsV.all k rv
  subst e3
  obtain ⟨oc, od, dt, sl⟩ := o
  simp only at h2 h3
  subst h2 h3
  exact PySem.W.kia_tup (PySem.W.handS_kitx_exc C.hg C.hk C.hs C.hd C.ha C.hn C.ht C.hm) I.kIn J h1 e (fun z => nomatch z) fun tk => ⟨.bl b, H, I.tok tk, rfl, q⟩

/-! the head's facts, by tests of one's own -/
abbrev FaM : Type := PySem.W.Frag → Bool
def obsM (fa : List FaM) (fn : List He.DefD) (K : PySem.W.Frag) : He.AlD := ((fa.all fun f => f K) && fn.all fun d => d.ok K, fn.map fun d => He.fnW K d.at_)
def SaysM (fa : List FaM) (fn : List He.DefD) (K : PySem.W.Frag) : Prop := obsM fa fn K = He.valD fn
def forceL {α : Type} : List Addr → (List Addr → α) → α
  | [], k => k []
  | a :: r, k => HandSHeadRun.frNat a fun a => forceL r fun r => k (a :: r)
theorem forceL_eq {α : Type} : ∀ (l : List Addr) (k : List Addr → α), forceL l k = k l
  | [], _ => rfl
  | a :: r, k => by
    show HandSHeadRun.frNat a (fun a => forceL r fun r => k (a :: r)) = _
    rw [HandSHeadRun.frNat_eq, forceL_eq r]
def nsOfM (g : Addr → Option Obj) (a : Addr) : List Addr := match g a with
  | some ⟨_, _, .cls cd, _⟩ => [cd.ns]
  | _ => []
def valsOfM (g : Addr → Option Obj) (a : Addr) : List Addr := match g a with
  | some ⟨_, _, .dict es _, _⟩ => es.toList.flatMap fun e => He.refV e.val
  | _ => []
def codeOfM (g : Addr → Option Obj) (a : Addr) : List Addr := match g a with
  | some ⟨_, _, .func fd, _⟩ => He.refV fd.code ++ (He.refV fd.defaults ++ He.refV fd.kwdefaults)
  | _ => []
/-- the module's names, the classes' own names, the functions' codes -/
def asM {α : Type} (names : List Str) (g : Addr → Option Obj) (k : List Addr → α) : α :=
  forceL (names.map (He.ga (He.frG g [mainGlobals]))) fun l1 => forceL (l1.flatMap (nsOfM g)) fun l2 => forceL (l2.flatMap (valsOfM g)) fun l3 => forceL ((l1 ++ l3).flatMap (codeOfM g)) fun l4 => k (mainGlobals :: cStatics :: (l1 ++ (l2 ++ (l3 ++ l4))))
def l1M (names : List Str) (g : Addr → Option Obj) : List Addr := names.map (He.ga (He.frG g [mainGlobals]))
def l2M (names : List Str) (g : Addr → Option Obj) : List Addr := (l1M names g).flatMap (nsOfM g)
def l3M (names : List Str) (g : Addr → Option Obj) : List Addr := (l2M names g).flatMap (valsOfM g)
def l4M (names : List Str) (g : Addr → Option Obj) : List Addr := (l1M names g ++ l3M names g).flatMap (codeOfM g)
theorem asM_eq {α : Type} (names : List Str) (g : Addr → Option Obj) : ∃ as : List Addr, ∀ k : List Addr → α, asM names g k = k as := by
  refine ⟨mainGlobals :: cStatics :: (l1M names g ++ (l2M names g ++ (l3M names g ++ l4M names g))), fun k => ?_⟩
  unfold asM
  rw [forceL_eq, forceL_eq, forceL_eq, forceL_eq]
  rfl
def obsMG (names : List Str) (fa : List FaM) (fn : List He.DefD) (g : Addr → Option Obj) : He.AlD := asM names g fun as => obsM fa fn (He.frG g as)
def hookM (names : List Str) (fa : List FaM) (fn : List He.DefD) : PySem.W.Hook where
  α := He.AlD
  obs := fun s => obsMG names fa fn s.heap.get?
  val := fun _ => He.valD fn
  says := fun _ h => ∃ K : PySem.W.Frag, K.In h ∧ SaysM fa fn K
  of := fun _ s e => by
    obtain ⟨as, ea⟩ := asM_eq (α := He.AlD) names s.heap.get?
    exact ⟨_, He.frG_in, (ea _).symm.trans e⟩
  keeps := fun _ _ _ ⟨K, hK, c⟩ k => ⟨K, PySem.W.Frag.In.keeps hK k, c⟩
theorem obsMG_eq {names : List Str} {fa : List FaM} {fn : List He.DefD} {g : Addr → Option Obj} {s : Shared} (h : ∀ a, g a = s.heap.get? a) : obsMG names fa fn g = (hookM names fa fn).obs s := by
  have e : g = s.heap.get? := funext h
  rw [e] <;> rfl
section
variable {fa : List FaM} {fn : List He.DefD} {K : PySem.W.Frag}
theorem SaysM.fact (c : SaysM fa fn K) (i : Nat) {f : FaM} (h : fa[i]? = some f) : f K = true := by
  have c1 := (He.ba (show ((fa.all fun f => f K) && fn.all fun d => d.ok K) = true from congrArg (fun z : He.AlD => z.1) c)).1
  exact List.all_eq_true.mp c1 f (List.mem_of_getElem? h)
theorem SaysM.def_ (c : SaysM fa fn K) (i : Nat) {d : He.DefD} (h : fn[i]? = some d) : ∃ fd, FunD K d.name d.qual d.params d.body d.scope (d.dvs K) (d.kws K) (He.fAd K d.at_) fd := by
  have c2 := (He.ba (show ((fa.all fun f => f K) && fn.all fun d => d.ok K) = true from congrArg (fun z : He.AlD => z.1) c)).2
  have e : fn.map (fun d => He.fnW K d.at_) = fn.map He.DefD.val := congrArg (fun z : He.AlD => z.2) c
  have e2 : (fn.map fun d => He.fnW K d.at_)[i]? = (fn.map He.DefD.val)[i]? := by rw [e]
  rw [List.getElem?_map, List.getElem?_map, h] at e2
  exact He.DefD.funD (Option.some.inj e2) (List.all_eq_true.mp c2 d (List.mem_of_getElem? h))
end
theorem fun_of {K : PySem.W.Frag} {x qual : Str} {st : Stmt} {f : Addr} {fd : FuncData} (F : FunD K x qual (defArgs st) (defBody st) (defScope st) [] [] f fd) : Fun K x qual st f fd := by
  obtain ⟨oc, od, dV, kV, doc, pm, an, cdv, ct, osl, rfl, lk, hcd, hD, hK⟩ := F.ex
  rcases hD with ⟨_, rfl⟩ | ⟨e, _⟩
  · exact ⟨⟨oc, od, kV, doc, pm, an, cdv, ct, osl, rfl, lk, hcd⟩, F.kp⟩
  · exact absurd rfl e

/-! defs that make functions: their code objects and the tables of these -/
def tabsM (g : Addr → Option Obj) (tf : List He.Defn) (K : PySem.W.Frag) : Bool := tf.all fun p => PySem.W.codeHdIn K (He.cT K p).1 (He.cT K p).2 && ((K.lookup (He.cT K p).2).isNone && (match g (He.cT K p).2 with
  | some o => He.emptyTab o
  | none => false))
def obsMC (names : List Str) (fa : List FaM) (fn : List He.DefD) (tf : List He.Defn) (g : Addr → Option Obj) : He.AlD × Bool := asM names g fun as => (obsM fa fn (He.frG g as), tabsM g tf (He.frG g as))
structure SaysMC (fa : List FaM) (fn : List He.DefD) (tf : List He.Defn) (h : Heap) (K : PySem.W.Frag) : Prop where
  m : SaysM fa fn K
  hd : ∀ p ∈ tf, PySem.W.codeHdIn K (He.cT K p).1 (He.cT K p).2 = true
  out : ∀ p ∈ tf, K.lookup (He.cT K p).2 = none
  empty : ∀ p ∈ tf, h.get? (He.cT K p).2 = some { cls := .none, data := .fields #[] }
def hookMC (names : List Str) (fa : List FaM) (fn : List He.DefD) (tf : List He.Defn) : PySem.W.Hook where
  α := He.AlD × Bool
  obs := fun s => obsMC names fa fn tf s.heap.get?
  val := fun _ => (He.valD fn, true)
  says := fun _ h => ∃ K : PySem.W.Frag, K.In h ∧ SaysMC fa fn tf h K
  of := fun _ s e => by
    obtain ⟨as, ea⟩ := asM_eq (α := He.AlD × Bool) names s.heap.get?
    have e1 : (obsM fa fn (He.frG s.heap.get? as), tabsM s.heap.get? tf (He.frG s.heap.get? as)) = (He.valD fn, true) := (ea _).symm.trans e
    have e2 : obsM fa fn (He.frG s.heap.get? as) = He.valD fn := congrArg (fun z : He.AlD × Bool => z.1) e1
    have e3 : tabsM s.heap.get? tf (He.frG s.heap.get? as) = true := congrArg (fun z : He.AlD × Bool => z.2) e1
    have key : ∀ p ∈ tf, PySem.W.codeHdIn (He.frG s.heap.get? as) (He.cT (He.frG s.heap.get? as) p).1 (He.cT (He.frG s.heap.get? as) p).2 = true ∧ (He.frG s.heap.get? as).lookup (He.cT (He.frG s.heap.get? as) p).2 = none ∧ s.heap.get? (He.cT (He.frG s.heap.get? as) p).2 = some { cls := .none, data := .fields #[] } := fun p hp => by
      obtain ⟨h1, h2⟩ := He.ba (List.all_eq_true.mp e3 p hp)
      obtain ⟨h3, h4⟩ := He.ba h2
      refine ⟨h1, Option.isNone_iff_eq_none.mp h3, ?_⟩
      cases q : s.heap.get? (He.cT (He.frG s.heap.get? as) p).2 with
      | none => rw [q] at h4; cases h4
      | some o => rw [q] at h4; rw [He.emptyTab_eq h4]
    exact ⟨_, He.frG_in, e2, fun p hp => (key p hp).1, fun p hp => (key p hp).2.1, fun p hp => (key p hp).2.2⟩
  keeps := fun _ _ _ ⟨K, hK, c⟩ k => ⟨K, PySem.W.Frag.In.keeps hK k, ⟨c.m, c.hd, c.out, fun p hp => k _ _ (c.empty p hp)⟩⟩
theorem obsMC_eq {names : List Str} {fa : List FaM} {fn : List He.DefD} {tf : List He.Defn} {g : Addr → Option Obj} {s : Shared} (h : ∀ a, g a = s.heap.get? a) : obsMC names fa fn tf g = (hookMC names fa fn tf).obs s := by
  have e : g = s.heap.get? := funext h
  rw [e] <;> rfl
theorem code_of {K : PySem.W.Frag} {x qual : Str} {st : Stmt} {p : Str × Option Str} {fd : FuncData} (F : FunD K x qual (defArgs st) (defBody st) (defScope st) [] [] (He.fAd K p) fd) : fd.code = .ref (He.codeOf K p) := by
  obtain ⟨oc, od, dV, kV, doc, pm, an, cdv, ct, osl, rfl, lk, hcd, hD, hK⟩ := F.ex
  obtain ⟨c, hc⟩ := He.codeIn_ref hcd
  subst hc
  rw [He.codeOf_eq lk rfl]
/-- a def that makes functions: its code object is known -/
theorem okC {P : Program} {w : World} {K : PySem.W.Frag} {mg : Str → Option Value} {base : Heap} {x qual : Str} {st : Stmt} {f c : Addr} {fd : FuncData} {N ps : List Str} {k : Nat} {sp : Sp} (F : Fun K x qual st f fd) (hc : fd.code = .ref c) (S : FnScope N ps (defScope st)) (len : ∀ vs H Q E, sp vs H Q E → vs.length = ps.length)
    (hbody : ∀ (A : Around) (outer : List Env) (s : Shared) (H : Hp) (vs : List V) (Q : VK) (E : XK), Room k (A.deeper (PyProof.Rows.envOfC qual (defScope st) s.heap.objs.size f (.ref c))) → sp vs H Q E →
      ∃ t, PSs (cxOf CX0 P w K mg base N qual (defScope st) f (.ref c) A outer s H E).nox (defBody st) t ∧ t { nx := fun _ H' => Q .non H', rt := Q } (start N vs) H) : FnOk P w K mg base CX0 (k + 1) f fd ps sp := by
  obtain ⟨oc, od, kV, doc, pm, an, cdv, ct, osl, rfl, lk, hcd⟩ := F.ex
  have e : cdv = .ref c := hc
  subst e
  refine fn_of lk hcd S len fun A outer s H vs Q E hr hsp => ?_
  obtain ⟨t, h, q⟩ := hbody A outer s H vs Q E hr hsp
  exact ⟨t, h.nox, q⟩

/-! ### a def read off its class, called -/
structure CFn (K : PySem.W.Frag) (C : Addr) (m : Str) (f : Addr) : Prop where
  rd : PySem.W.readsIn K C (.type "type") = true
  ga : PySem.W.specialIn K (.ref C) "__getattribute__" = some (some (.builtin "type.__getattribute__"))
  at_ : PySem.W.findCls K (.ref C) (.type "type") m = some (.val (.ref f))
  fn : PySem.W.isFn K (.ref f) = true
  kp : PySem.W.keepIn K (.ref f) = true
def cfnB (K : PySem.W.Frag) (C : Addr) (m : Str) (f : Addr) : Bool := PySem.W.readsIn K C (.type "type") && (He.eqO (PySem.W.specialIn K (.ref C) "__getattribute__") (some (some (.builtin "type.__getattribute__"))) && ((match PySem.W.findCls K (.ref C) (.type "type") m with
  | some (.val v) => decide (v = .ref f)
  | _ => false) && (PySem.W.isFn K (.ref f) && PySem.W.keepIn K (.ref f))))
theorem cfn_ok {K : PySem.W.Frag} {C : Addr} {m : Str} {f : Addr} (h : cfnB K C m f = true) : CFn K C m f := by
  obtain ⟨h1, h⟩ := He.ba h
  obtain ⟨h2, h⟩ := He.ba h
  obtain ⟨h3, h⟩ := He.ba h
  obtain ⟨h4, h5⟩ := He.ba h
  refine ⟨h1, He.eqO_ok h2, ?_, h4, h5⟩
  cases q : PySem.W.findCls K (.ref C) (.type "type") m with
  | none => rw [q] at h3; cases h3
  | some r =>
    rw [q] at h3
    cases r with
    | val v => rw [of_decide_eq_true h3]
    | get g a ob tp => cases h3
section
open PySem.Spec PyProof.Rows
variable {X : Cx} {CX : CXT} {m : Str} {k : Nat} {E : XK} {e o : Expr} {es : List Expr} {ta : TE} {t : TA} {pos apos : Pos} {C f : Addr} {fd : FuncData} {ps : List Str} {sp : Sp} {ds : List Value} {dvs : List V}
theorem getcfn_ok {A : Around} {E : Value → Shared → Prop} {pins : List (Addr × Obj)} {σ : L2.St} {H : Hp} {s : Shared} {pl : Sem Bool} {Q : Value × List Value → Shared → Prop} (I : Inv X pins σ H s) (c : CFn X.K C m f) (h : ∀ s', Inv X pins σ H s' → Q (.ref f, []) s') :
    wpAny (model X.prog X.w) A (getMethod (.ref C) m pl) Q E s := by
  exact PySem.W.method_cls I.kIn c.ga (PySem.W.cls_value I.kIn c.rd c.at_ rfl (h _ (I.tok _)))
def tCFn (C : Addr) (sp : Sp) (dvs : List V) (E : XK) (ta : TE) (t : TA) : TE := fun σ H Q => ta σ H fun x H1 => x = .ref C ∧ t σ H1 fun vs H2 => sp (vs ++ dvs) H2 Q E
theorem pe_cfn {pl : Sem Bool} (he : PE X o ta) (c : CFn X.K C m f) (F : FnOk X.prog X.w X.K X.mg X.base CX k f fd ps sp) (hr : Room k X.A) (hb : Binds X.K fd ps ds) (hd : Vals dvs ds) (hx : Passes CX X E) (ha : PA X (e :: es) t)
    (hst : starEach (e :: es) X.env = (false, eval e X.env) :: starEach es X.env := by rfl) (hpl : (backTo pos (starEach es X.env)).any (·.1) = false := by rfl)
    (ht : eval (.Call (.Attribute o m apos) (e :: es) [] pos) X.env = (do
      let ov ← eval o X.env
      standAt apos.atName
      let (f, first) ← holding [ov] (getMethod ov m pl)
      callWith pos f first (backTo pos (starEach (e :: es) X.env)) (backToKw pos (keywordEach [] X.env))) := by rfl) :
    PE X (.Call (.Attribute o m apos) (e :: es) [] pos) (tCFn C sp dvs E ta t) := by
  refine ⟨fun pins s σ H Q I h => ?_⟩
  refine PySem.W.methodCall_KW (pl := pl) (thn (he.run pins s σ H _ I h) fun u s1 ⟨x, H1, I1, rx, ex, q⟩ => ?_) ht
  subst ex
  obtain rfl : u = Value.ref C := rx
  refine getcfn_ok I1 c fun s2 I2 => ?_
  refine PySem.W.callWith_K (first := []) (h₀ := X.base) I2.ok.mod.kin c.kp (thn (ha.run pos pins s2 σ H1 _ I2 q) fun us s3 ⟨vs, H2, I3, r, q2⟩ => ⟨I3.kIn, ?_⟩) hst hpl
  exact run_fn (us := us) (vs := vs) F hr hb hd hx I3 r q2
end

def top (i : Nat) : Stmt := PySem.Challenge.pw_hadbeen_k24_calls_within_one_another.main.body.getD i (.Pass ⟨0, 0, 0, 0⟩)
abbrev s_is_name : Stmt := top 17
abbrev s_is_value_word : Stmt := top 18
abbrev s_Number_init : Stmt := inClass (top 20) 0
abbrev s_Box_init : Stmt := inClass (top 21) 0
abbrev s_Cell_init : Stmt := inClass (top 22) 0
abbrev s_Two_init : Stmt := inClass (top 24) 0
abbrev s_Expr_parts : Stmt := inClass (top 19) 3
abbrev s_Cell_parts : Stmt := inClass (top 22) 4
abbrev s_Two_parts : Stmt := inClass (top 24) 4
abbrev s_expr_at : Stmt := top 25
abbrev s_exprs_of : Stmt := top 26
abbrev s_Row_init : Stmt := inClass (top 28) 0
abbrev s_Set_init : Stmt := inClass (top 30) 0
abbrev s_Put_init : Stmt := inClass (top 31) 0
abbrev s_Ask_init : Stmt := inClass (top 32) 0
abbrev s_Draw_init : Stmt := inClass (top 33) 0
abbrev s_Tell_init : Stmt := inClass (top 34) 0
abbrev s_Choice_init : Stmt := inClass (top 35) 0
abbrev s_Loop_init : Stmt := inClass (top 36) 0
abbrev s_Call_init : Stmt := inClass (top 37) 0
abbrev s_Give_init : Stmt := inClass (top 38) 0
abbrev s_check_names : Stmt := top 57
abbrev s_only : Stmt := top 58
abbrev s_simple_row : Stmt := top 59
abbrev s_Reader_head : Stmt := inClass (top 56) 1
abbrev s_Reader_init : Stmt := inClass (top 56) 0
abbrev s_Reader_pass_line : Stmt := inClass (top 56) 2
abbrev s_Reader_call_row : Stmt := inClass (top 56) 6
abbrev s_Reader_row_with_rows : Stmt := inClass (top 56) 5
abbrev s_Reader_block : Stmt := inClass (top 56) 3
abbrev s_Reader_one_row : Stmt := inClass (top 56) 4
abbrev s_Function_init : Stmt := inClass (top 39) 0
abbrev s_Reader_function : Stmt := inClass (top 56) 7
abbrev s_check_calls : Stmt := top 60
abbrev s_Program_init : Stmt := inClass (top 55) 0
abbrev s_read_program : Stmt := top 61
abbrev s_both : Stmt := top 23
abbrev s_Number_reckon : Stmt := inClass (top 20) 3
abbrev s_Box_reckon : Stmt := inClass (top 21) 3
abbrev s_Cell_reckon : Stmt := inClass (top 22) 3
abbrev s_Two_reckon : Stmt := inClass (top 24) 3
abbrev s_Walker_whole : Stmt := inClass (top 46) 9
abbrev s_Setting_holds : Stmt := inClass (top 64) 3
abbrev s_Setting_forced_at : Stmt := inClass (top 64) 4
abbrev s_Walker_holds : Stmt := inClass (top 46) 1
abbrev s_Walker_goes_now : Stmt := inClass (top 46) 2
abbrev s_Moment_init : Stmt := inClass (top 42) 0
abbrev s_Moment_told : Stmt := inClass (top 42) 1
abbrev s_Spot_init : Stmt := inClass (top 43) 0
abbrev s_Scene_init : Stmt := inClass (top 44) 0
abbrev s_Scene_place_of : Stmt := inClass (top 44) 1
abbrev s_Scene_read : Stmt := inClass (top 44) 2
abbrev s_Scene_look_at : Stmt := inClass (top 44) 3
abbrev s_Scene_reckon : Stmt := inClass (top 44) 4
abbrev s_Scene_make : Stmt := inClass (top 44) 5
abbrev s_Scene_say : Stmt := inClass (top 44) 6
abbrev s_Scene_look : Stmt := inClass (top 44) 7
abbrev s_Scene_enter : Stmt := inClass (top 44) 8
abbrev s_Scene_give_back : Stmt := inClass (top 44) 9
abbrev s_Set_act : Stmt := inClass (top 30) 2
abbrev s_Tell_act : Stmt := inClass (top 34) 2
abbrev s_Choice_act : Stmt := inClass (top 35) 2
abbrev s_Call_act : Stmt := inClass (top 37) 2
abbrev s_Give_act : Stmt := inClass (top 38) 2
abbrev s_Walker_happening : Stmt := inClass (top 46) 11
abbrev s_Walker_take_in : Stmt := inClass (top 46) 12
abbrev s_Walker_go_moment : Stmt := inClass (top 46) 10
abbrev s_Walker_go_choice : Stmt := inClass (top 46) 6
abbrev s_Walker_go_block : Stmt := inClass (top 46) 4
abbrev s_Walker_go_loop : Stmt := inClass (top 46) 7
abbrev s_Walker_go_call : Stmt := inClass (top 46) 8
abbrev s_Walker_go_row : Stmt := inClass (top 46) 5
abbrev s_Walker_init : Stmt := inClass (top 46) 0
abbrev s_Walker_walk : Stmt := inClass (top 46) 3
abbrev s_Run_init : Stmt := inClass (top 48) 0
abbrev s_Run_moments : Stmt := inClass (top 48) 1
abbrev s_Run_end : Stmt := inClass (top 48) 2
abbrev s_Run_tells : Stmt := inClass (top 48) 3
abbrev s_is_given : Stmt := top 63
abbrev s_is_value : Stmt := top 16
abbrev s_Setting_init : Stmt := inClass (top 64) 0
abbrev s_run_of : Stmt := top 49
abbrev s_l_cell_at : Stmt := top 66
abbrev s_l_well : Stmt := top 67
abbrev s_l_draw : Stmt := top 68
abbrev s_l_lines : Stmt := top 69
abbrev s_law : Stmt := top 70
end K24
namespace K24
open PySem PySem.Spec PyProof.Rows L2 TL
def hD_is_name : He.DefD := ⟨("is_name", none), "is_name", "is_name", defArgs s_is_name, defBody s_is_name, defScope s_is_name, [], []⟩
def hD_is_value_word : He.DefD := ⟨("is_value_word", none), "is_value_word", "is_value_word", defArgs s_is_value_word, defBody s_is_value_word, defScope s_is_value_word, [], []⟩
def hD_Number_init : He.DefD := ⟨("Number", some "__init__"), "__init__", "Number.__init__", defArgs s_Number_init, defBody s_Number_init, defScope s_Number_init, [], []⟩
def hD_Box_init : He.DefD := ⟨("Box", some "__init__"), "__init__", "Box.__init__", defArgs s_Box_init, defBody s_Box_init, defScope s_Box_init, [], []⟩
def hD_Cell_init : He.DefD := ⟨("Cell", some "__init__"), "__init__", "Cell.__init__", defArgs s_Cell_init, defBody s_Cell_init, defScope s_Cell_init, [], []⟩
def hD_Two_init : He.DefD := ⟨("Two", some "__init__"), "__init__", "Two.__init__", defArgs s_Two_init, defBody s_Two_init, defScope s_Two_init, [], []⟩
def hD_Expr_parts : He.DefD := ⟨("Expr", some "parts"), "parts", "Expr.parts", defArgs s_Expr_parts, defBody s_Expr_parts, defScope s_Expr_parts, [], []⟩
def hD_Cell_parts : He.DefD := ⟨("Cell", some "parts"), "parts", "Cell.parts", defArgs s_Cell_parts, defBody s_Cell_parts, defScope s_Cell_parts, [], []⟩
def hD_Two_parts : He.DefD := ⟨("Two", some "parts"), "parts", "Two.parts", defArgs s_Two_parts, defBody s_Two_parts, defScope s_Two_parts, [], []⟩
def hD_expr_at : He.DefD := ⟨("expr_at", none), "expr_at", "expr_at", defArgs s_expr_at, defBody s_expr_at, defScope s_expr_at, [], []⟩
def hD_exprs_of : He.DefD := ⟨("exprs_of", none), "exprs_of", "exprs_of", defArgs s_exprs_of, defBody s_exprs_of, defScope s_exprs_of, [], []⟩
def hD_Row_init : He.DefD := ⟨("Row", some "__init__"), "__init__", "Row.__init__", defArgs s_Row_init, defBody s_Row_init, defScope s_Row_init, [], []⟩
def hD_Set_init : He.DefD := ⟨("Set", some "__init__"), "__init__", "Set.__init__", defArgs s_Set_init, defBody s_Set_init, defScope s_Set_init, [], []⟩
def hD_Put_init : He.DefD := ⟨("Put", some "__init__"), "__init__", "Put.__init__", defArgs s_Put_init, defBody s_Put_init, defScope s_Put_init, [], []⟩
def hD_Ask_init : He.DefD := ⟨("Ask", some "__init__"), "__init__", "Ask.__init__", defArgs s_Ask_init, defBody s_Ask_init, defScope s_Ask_init, [], []⟩
def hD_Draw_init : He.DefD := ⟨("Draw", some "__init__"), "__init__", "Draw.__init__", defArgs s_Draw_init, defBody s_Draw_init, defScope s_Draw_init, [], []⟩
def hD_Tell_init : He.DefD := ⟨("Tell", some "__init__"), "__init__", "Tell.__init__", defArgs s_Tell_init, defBody s_Tell_init, defScope s_Tell_init, [], []⟩
def hD_Choice_init : He.DefD := ⟨("Choice", some "__init__"), "__init__", "Choice.__init__", defArgs s_Choice_init, defBody s_Choice_init, defScope s_Choice_init, [], []⟩
def hD_Loop_init : He.DefD := ⟨("Loop", some "__init__"), "__init__", "Loop.__init__", defArgs s_Loop_init, defBody s_Loop_init, defScope s_Loop_init, [], []⟩
def hD_Call_init : He.DefD := ⟨("Call", some "__init__"), "__init__", "Call.__init__", defArgs s_Call_init, defBody s_Call_init, defScope s_Call_init, [], []⟩
def hD_Give_init : He.DefD := ⟨("Give", some "__init__"), "__init__", "Give.__init__", defArgs s_Give_init, defBody s_Give_init, defScope s_Give_init, [], []⟩
def hD_check_names : He.DefD := ⟨("check_names", none), "check_names", "check_names", defArgs s_check_names, defBody s_check_names, defScope s_check_names, [], []⟩
def hD_only : He.DefD := ⟨("only", none), "only", "only", defArgs s_only, defBody s_only, defScope s_only, [], []⟩
def hD_simple_row : He.DefD := ⟨("simple_row", none), "simple_row", "simple_row", defArgs s_simple_row, defBody s_simple_row, defScope s_simple_row, [], []⟩
def hD_Reader_head : He.DefD := ⟨("Reader", some "head"), "head", "Reader.head", defArgs s_Reader_head, defBody s_Reader_head, defScope s_Reader_head, [], []⟩
def hD_Reader_init : He.DefD := ⟨("Reader", some "__init__"), "__init__", "Reader.__init__", defArgs s_Reader_init, defBody s_Reader_init, defScope s_Reader_init, [], []⟩
def hD_Reader_pass_line : He.DefD := ⟨("Reader", some "pass_line"), "pass_line", "Reader.pass_line", defArgs s_Reader_pass_line, defBody s_Reader_pass_line, defScope s_Reader_pass_line, [], []⟩
def hD_Reader_call_row : He.DefD := ⟨("Reader", some "call_row"), "call_row", "Reader.call_row", defArgs s_Reader_call_row, defBody s_Reader_call_row, defScope s_Reader_call_row, [], []⟩
def hD_Reader_row_with_rows : He.DefD := ⟨("Reader", some "row_with_rows"), "row_with_rows", "Reader.row_with_rows", defArgs s_Reader_row_with_rows, defBody s_Reader_row_with_rows, defScope s_Reader_row_with_rows, [], []⟩
def hD_Reader_block : He.DefD := ⟨("Reader", some "block"), "block", "Reader.block", defArgs s_Reader_block, defBody s_Reader_block, defScope s_Reader_block, [], []⟩
def hD_Reader_one_row : He.DefD := ⟨("Reader", some "one_row"), "one_row", "Reader.one_row", defArgs s_Reader_one_row, defBody s_Reader_one_row, defScope s_Reader_one_row, [], []⟩
def hD_Function_init : He.DefD := ⟨("Function", some "__init__"), "__init__", "Function.__init__", defArgs s_Function_init, defBody s_Function_init, defScope s_Function_init, [], []⟩
def hD_Reader_function : He.DefD := ⟨("Reader", some "function"), "function", "Reader.function", defArgs s_Reader_function, defBody s_Reader_function, defScope s_Reader_function, [], []⟩
def hD_check_calls : He.DefD := ⟨("check_calls", none), "check_calls", "check_calls", defArgs s_check_calls, defBody s_check_calls, defScope s_check_calls, [], []⟩
def hD_Program_init : He.DefD := ⟨("Program", some "__init__"), "__init__", "Program.__init__", defArgs s_Program_init, defBody s_Program_init, defScope s_Program_init, [], []⟩
def hD_read_program : He.DefD := ⟨("read_program", none), "read_program", "read_program", defArgs s_read_program, defBody s_read_program, defScope s_read_program, [], []⟩
def hD_both : He.DefD := ⟨("both", none), "both", "both", defArgs s_both, defBody s_both, defScope s_both, [], []⟩
def hD_Number_reckon : He.DefD := ⟨("Number", some "reckon"), "reckon", "Number.reckon", defArgs s_Number_reckon, defBody s_Number_reckon, defScope s_Number_reckon, [], []⟩
def hD_Box_reckon : He.DefD := ⟨("Box", some "reckon"), "reckon", "Box.reckon", defArgs s_Box_reckon, defBody s_Box_reckon, defScope s_Box_reckon, [], []⟩
def hD_Cell_reckon : He.DefD := ⟨("Cell", some "reckon"), "reckon", "Cell.reckon", defArgs s_Cell_reckon, defBody s_Cell_reckon, defScope s_Cell_reckon, [], []⟩
def hD_Two_reckon : He.DefD := ⟨("Two", some "reckon"), "reckon", "Two.reckon", defArgs s_Two_reckon, defBody s_Two_reckon, defScope s_Two_reckon, [], []⟩
def hD_Walker_whole : He.DefD := ⟨("Walker", some "whole"), "whole", "Walker.whole", defArgs s_Walker_whole, defBody s_Walker_whole, defScope s_Walker_whole, [], []⟩
def hD_Setting_holds : He.DefD := ⟨("Setting", some "holds"), "holds", "Setting.holds", defArgs s_Setting_holds, defBody s_Setting_holds, defScope s_Setting_holds, [], []⟩
def hD_Setting_forced_at : He.DefD := ⟨("Setting", some "forced_at"), "forced_at", "Setting.forced_at", defArgs s_Setting_forced_at, defBody s_Setting_forced_at, defScope s_Setting_forced_at, [], []⟩
def hD_Walker_holds : He.DefD := ⟨("Walker", some "holds"), "holds", "Walker.holds", defArgs s_Walker_holds, defBody s_Walker_holds, defScope s_Walker_holds, [], []⟩
def hD_Walker_goes_now : He.DefD := ⟨("Walker", some "goes_now"), "goes_now", "Walker.goes_now", defArgs s_Walker_goes_now, defBody s_Walker_goes_now, defScope s_Walker_goes_now, [], []⟩
def hD_Moment_init : He.DefD := ⟨("Moment", some "__init__"), "__init__", "Moment.__init__", defArgs s_Moment_init, defBody s_Moment_init, defScope s_Moment_init, [], []⟩
def hD_Moment_told : He.DefD := ⟨("Moment", some "told"), "told", "Moment.told", defArgs s_Moment_told, defBody s_Moment_told, defScope s_Moment_told, [], []⟩
def hD_Spot_init : He.DefD := ⟨("Spot", some "__init__"), "__init__", "Spot.__init__", defArgs s_Spot_init, defBody s_Spot_init, defScope s_Spot_init, [.non], []⟩
def hD_Scene_init : He.DefD := ⟨("Scene", some "__init__"), "__init__", "Scene.__init__", defArgs s_Scene_init, defBody s_Scene_init, defScope s_Scene_init, [], []⟩
def hD_Scene_place_of : He.DefD := ⟨("Scene", some "place_of"), "place_of", "Scene.place_of", defArgs s_Scene_place_of, defBody s_Scene_place_of, defScope s_Scene_place_of, [], []⟩
def hD_Scene_read : He.DefD := ⟨("Scene", some "read"), "read", "Scene.read", defArgs s_Scene_read, defBody s_Scene_read, defScope s_Scene_read, [], []⟩
def hD_Scene_look_at : He.DefD := ⟨("Scene", some "look_at"), "look_at", "Scene.look_at", defArgs s_Scene_look_at, defBody s_Scene_look_at, defScope s_Scene_look_at, [], []⟩
def hD_Scene_reckon : He.DefD := ⟨("Scene", some "reckon"), "reckon", "Scene.reckon", defArgs s_Scene_reckon, defBody s_Scene_reckon, defScope s_Scene_reckon, [], []⟩
def hD_Scene_make : He.DefD := ⟨("Scene", some "make"), "make", "Scene.make", defArgs s_Scene_make, defBody s_Scene_make, defScope s_Scene_make, [], []⟩
def hD_Scene_say : He.DefD := ⟨("Scene", some "say"), "say", "Scene.say", defArgs s_Scene_say, defBody s_Scene_say, defScope s_Scene_say, [], []⟩
def hD_Scene_look : He.DefD := ⟨("Scene", some "look"), "look", "Scene.look", defArgs s_Scene_look, defBody s_Scene_look, defScope s_Scene_look, [], []⟩
def hD_Scene_enter : He.DefD := ⟨("Scene", some "enter"), "enter", "Scene.enter", defArgs s_Scene_enter, defBody s_Scene_enter, defScope s_Scene_enter, [], []⟩
def hD_Scene_give_back : He.DefD := ⟨("Scene", some "give_back"), "give_back", "Scene.give_back", defArgs s_Scene_give_back, defBody s_Scene_give_back, defScope s_Scene_give_back, [], []⟩
def hD_Set_act : He.DefD := ⟨("Set", some "act"), "act", "Set.act", defArgs s_Set_act, defBody s_Set_act, defScope s_Set_act, [], []⟩
def hD_Tell_act : He.DefD := ⟨("Tell", some "act"), "act", "Tell.act", defArgs s_Tell_act, defBody s_Tell_act, defScope s_Tell_act, [], []⟩
def hD_Choice_act : He.DefD := ⟨("Choice", some "act"), "act", "Choice.act", defArgs s_Choice_act, defBody s_Choice_act, defScope s_Choice_act, [], []⟩
def hD_Call_act : He.DefD := ⟨("Call", some "act"), "act", "Call.act", defArgs s_Call_act, defBody s_Call_act, defScope s_Call_act, [], []⟩
def hD_Give_act : He.DefD := ⟨("Give", some "act"), "act", "Give.act", defArgs s_Give_act, defBody s_Give_act, defScope s_Give_act, [], []⟩
def hD_Walker_happening : He.DefD := ⟨("Walker", some "happening"), "happening", "Walker.happening", defArgs s_Walker_happening, defBody s_Walker_happening, defScope s_Walker_happening, [], []⟩
def hD_Walker_take_in : He.DefD := ⟨("Walker", some "take_in"), "take_in", "Walker.take_in", defArgs s_Walker_take_in, defBody s_Walker_take_in, defScope s_Walker_take_in, [], []⟩
def hD_Walker_go_moment : He.DefD := ⟨("Walker", some "go_moment"), "go_moment", "Walker.go_moment", defArgs s_Walker_go_moment, defBody s_Walker_go_moment, defScope s_Walker_go_moment, [], []⟩
def hD_Walker_go_choice : He.DefD := ⟨("Walker", some "go_choice"), "go_choice", "Walker.go_choice", defArgs s_Walker_go_choice, defBody s_Walker_go_choice, defScope s_Walker_go_choice, [], []⟩
def hD_Walker_go_block : He.DefD := ⟨("Walker", some "go_block"), "go_block", "Walker.go_block", defArgs s_Walker_go_block, defBody s_Walker_go_block, defScope s_Walker_go_block, [], []⟩
def hD_Walker_go_loop : He.DefD := ⟨("Walker", some "go_loop"), "go_loop", "Walker.go_loop", defArgs s_Walker_go_loop, defBody s_Walker_go_loop, defScope s_Walker_go_loop, [], []⟩
def hD_Walker_go_call : He.DefD := ⟨("Walker", some "go_call"), "go_call", "Walker.go_call", defArgs s_Walker_go_call, defBody s_Walker_go_call, defScope s_Walker_go_call, [], []⟩
def hD_Walker_go_row : He.DefD := ⟨("Walker", some "go_row"), "go_row", "Walker.go_row", defArgs s_Walker_go_row, defBody s_Walker_go_row, defScope s_Walker_go_row, [], []⟩
def hD_Walker_init : He.DefD := ⟨("Walker", some "__init__"), "__init__", "Walker.__init__", defArgs s_Walker_init, defBody s_Walker_init, defScope s_Walker_init, [], []⟩
def hD_Walker_walk : He.DefD := ⟨("Walker", some "walk"), "walk", "Walker.walk", defArgs s_Walker_walk, defBody s_Walker_walk, defScope s_Walker_walk, [], []⟩
def hD_Run_init : He.DefD := ⟨("Run", some "__init__"), "__init__", "Run.__init__", defArgs s_Run_init, defBody s_Run_init, defScope s_Run_init, [], []⟩
def hD_Run_moments : He.DefD := ⟨("Run", some "moments"), "moments", "Run.moments", defArgs s_Run_moments, defBody s_Run_moments, defScope s_Run_moments, [], []⟩
def hD_Run_end : He.DefD := ⟨("Run", some "end"), "end", "Run.end", defArgs s_Run_end, defBody s_Run_end, defScope s_Run_end, [], []⟩
def hD_Run_tells : He.DefD := ⟨("Run", some "tells"), "tells", "Run.tells", defArgs s_Run_tells, defBody s_Run_tells, defScope s_Run_tells, [], []⟩
def hD_is_given : He.DefD := ⟨("is_given", none), "is_given", "is_given", defArgs s_is_given, defBody s_is_given, defScope s_is_given, [], []⟩
def hD_is_value : He.DefD := ⟨("is_value", none), "is_value", "is_value", defArgs s_is_value, defBody s_is_value, defScope s_is_value, [], []⟩
def hD_Setting_init : He.DefD := ⟨("Setting", some "__init__"), "__init__", "Setting.__init__", defArgs s_Setting_init, defBody s_Setting_init, defScope s_Setting_init, [.int 400, .non], []⟩
def hD_run_of : He.DefD := ⟨("run_of", none), "run_of", "run_of", defArgs s_run_of, defBody s_run_of, defScope s_run_of, [], []⟩
def hD_l_cell_at : He.DefD := ⟨("_law_cell_at", none), "_law_cell_at", "_law_cell_at", defArgs s_l_cell_at, defBody s_l_cell_at, defScope s_l_cell_at, [], []⟩
def hD_l_well : He.DefD := ⟨("_law_well", none), "_law_well", "_law_well", defArgs s_l_well, defBody s_l_well, defScope s_l_well, [], []⟩
def hD_l_draw : He.DefD := ⟨("_law_draw", none), "_law_draw", "_law_draw", defArgs s_l_draw, defBody s_l_draw, defScope s_l_draw, [], []⟩
def hD_l_lines : He.DefD := ⟨("_law_lines", none), "_law_lines", "_law_lines", defArgs s_l_lines, defBody s_l_lines, defScope s_l_lines, [], []⟩
def hD_law : He.DefD := ⟨("law", none), "law", "law", defArgs s_law, defBody s_law, defScope s_law, [], []⟩
def hFn : List He.DefD := ([hD_is_name, hD_is_value_word, hD_Number_init, hD_Box_init, hD_Cell_init, hD_Two_init, hD_Expr_parts, hD_Cell_parts, hD_Two_parts, hD_expr_at, hD_exprs_of, hD_Row_init, hD_Set_init, hD_Put_init, hD_Ask_init, hD_Draw_init, hD_Tell_init, hD_Choice_init, hD_Loop_init, hD_Call_init, hD_Give_init, hD_check_names, hD_only, hD_simple_row, hD_Reader_head, hD_Reader_init, hD_Reader_pass_line, hD_Reader_call_row, hD_Reader_row_with_rows, hD_Reader_block] : List He.DefD) ++ ([hD_Reader_one_row, hD_Function_init, hD_Reader_function, hD_check_calls, hD_Program_init, hD_read_program, hD_both, hD_Number_reckon, hD_Box_reckon, hD_Cell_reckon, hD_Two_reckon, hD_Walker_whole, hD_Setting_holds, hD_Setting_forced_at, hD_Walker_holds, hD_Walker_goes_now, hD_Moment_init, hD_Moment_told, hD_Spot_init, hD_Scene_init, hD_Scene_place_of, hD_Scene_read, hD_Scene_look_at, hD_Scene_reckon, hD_Scene_make, hD_Scene_say, hD_Scene_look, hD_Scene_enter, hD_Scene_give_back, hD_Set_act] : List He.DefD) ++ ([hD_Tell_act, hD_Choice_act, hD_Call_act, hD_Give_act, hD_Walker_happening, hD_Walker_take_in, hD_Walker_go_moment, hD_Walker_go_choice, hD_Walker_go_block, hD_Walker_go_loop, hD_Walker_go_call, hD_Walker_go_row, hD_Walker_init, hD_Walker_walk, hD_Run_init, hD_Run_moments, hD_Run_end, hD_Run_tells, hD_is_given, hD_is_value, hD_Setting_init, hD_run_of, hD_l_cell_at, hD_l_well, hD_l_draw, hD_l_lines, hD_law] : List He.DefD)
def hFa : List FaM := ([fun K => (He.Fa.glo "is_name").ok K,
  fun K => (He.Fa.glo "is_value_word").ok K,
  fun K => (He.Fa.glo "expr_at").ok K,
  fun K => (He.Fa.glo "exprs_of").ok K,
  fun K => (He.Fa.glo "check_names").ok K,
  fun K => (He.Fa.glo "only").ok K,
  fun K => (He.Fa.glo "simple_row").ok K,
  fun K => (He.Fa.glo "check_calls").ok K,
  fun K => (He.Fa.glo "read_program").ok K,
  fun K => (He.Fa.glo "both").ok K,
  fun K => (He.Fa.glo "is_given").ok K,
  fun K => (He.Fa.glo "is_value").ok K,
  fun K => (He.Fa.glo "run_of").ok K,
  fun K => (He.Fa.glo "_law_cell_at").ok K,
  fun K => (He.Fa.glo "_law_well").ok K,
  fun K => (He.Fa.glo "_law_draw").ok K,
  fun K => (He.Fa.glo "_law_lines").ok K,
  fun K => (He.Fa.glo "law").ok K,
  fun K => (He.Fa.glo "Reader").ok K,
  fun K => (He.Fa.cls "Reader").ok K] : List FaM) ++
  ([fun K => PySem.W.makesIn K (He.ga K "Reader"),
  fun K => (He.Fa.noat "Reader" "texts").ok K,
  fun K => (He.Fa.noat "Reader" "at").ok K,
  fun K => (He.Fa.noat "Reader" "by_number").ok K,
  fun K => (He.Fa.noat "Reader" "calls").ok K,
  fun K => (He.Fa.mkr "Reader").ok K,
  fun K => (He.Fa.glo "Function").ok K,
  fun K => (He.Fa.cls "Function").ok K,
  fun K => PySem.W.makesIn K (He.ga K "Function"),
  fun K => (He.Fa.noat "Function" "name").ok K,
  fun K => (He.Fa.noat "Function" "params").ok K,
  fun K => (He.Fa.noat "Function" "body").ok K,
  fun K => (He.Fa.noat "Function" "give").ok K,
  fun K => (He.Fa.mkr "Function").ok K,
  fun K => (He.Fa.glo "Program").ok K,
  fun K => (He.Fa.cls "Program").ok K,
  fun K => PySem.W.makesIn K (He.ga K "Program"),
  fun K => (He.Fa.noat "Program" "texts").ok K,
  fun K => (He.Fa.noat "Program" "main").ok K,
  fun K => (He.Fa.noat "Program" "functions").ok K] : List FaM) ++
  ([fun K => (He.Fa.noat "Program" "by_number").ok K,
  fun K => (He.Fa.mkr "Program").ok K,
  fun K => (He.Fa.glo "Number").ok K,
  fun K => (He.Fa.cls "Number").ok K,
  fun K => PySem.W.makesIn K (He.ga K "Number"),
  fun K => (He.Fa.noat "Number" "value").ok K,
  fun K => (He.Fa.mkr "Number").ok K,
  fun K => (He.Fa.glo "Expr").ok K,
  fun K => (He.Fa.cls "Expr").ok K,
  fun K => PySem.W.makesIn K (He.ga K "Expr"),
  fun K => (He.Fa.glo "Box").ok K,
  fun K => (He.Fa.cls "Box").ok K,
  fun K => PySem.W.makesIn K (He.ga K "Box"),
  fun K => (He.Fa.noat "Box" "name").ok K,
  fun K => (He.Fa.mkr "Box").ok K,
  fun K => (He.Fa.glo "Cell").ok K,
  fun K => (He.Fa.cls "Cell").ok K,
  fun K => PySem.W.makesIn K (He.ga K "Cell"),
  fun K => (He.Fa.noat "Cell" "inner").ok K,
  fun K => (He.Fa.mkr "Cell").ok K] : List FaM) ++
  ([fun K => (He.Fa.glo "Two").ok K,
  fun K => (He.Fa.cls "Two").ok K,
  fun K => PySem.W.makesIn K (He.ga K "Two"),
  fun K => (He.Fa.noat "Two" "word").ok K,
  fun K => (He.Fa.noat "Two" "left").ok K,
  fun K => (He.Fa.noat "Two" "right").ok K,
  fun K => (He.Fa.mkr "Two").ok K,
  fun K => (He.Fa.glo "Row").ok K,
  fun K => (He.Fa.cls "Row").ok K,
  fun K => PySem.W.makesIn K (He.ga K "Row"),
  fun K => (He.Fa.mkr "Row").ok K,
  fun K => (He.Fa.glo "Set").ok K,
  fun K => (He.Fa.cls "Set").ok K,
  fun K => PySem.W.makesIn K (He.ga K "Set"),
  fun K => (He.Fa.noat "Set" "number").ok K,
  fun K => (He.Fa.noat "Set" "box").ok K,
  fun K => (He.Fa.noat "Set" "expr").ok K,
  fun K => (He.Fa.mkr "Set").ok K,
  fun K => (He.Fa.glo "Put").ok K,
  fun K => (He.Fa.cls "Put").ok K] : List FaM) ++
  ([fun K => PySem.W.makesIn K (He.ga K "Put"),
  fun K => (He.Fa.noat "Put" "number").ok K,
  fun K => (He.Fa.noat "Put" "first").ok K,
  fun K => (He.Fa.noat "Put" "second").ok K,
  fun K => (He.Fa.mkr "Put").ok K,
  fun K => (He.Fa.glo "Ask").ok K,
  fun K => (He.Fa.cls "Ask").ok K,
  fun K => PySem.W.makesIn K (He.ga K "Ask"),
  fun K => (He.Fa.noat "Ask" "number").ok K,
  fun K => (He.Fa.noat "Ask" "box").ok K,
  fun K => (He.Fa.noat "Ask" "word").ok K,
  fun K => (He.Fa.noat "Ask" "expr").ok K,
  fun K => (He.Fa.mkr "Ask").ok K,
  fun K => (He.Fa.glo "Draw").ok K,
  fun K => (He.Fa.cls "Draw").ok K,
  fun K => PySem.W.makesIn K (He.ga K "Draw"),
  fun K => (He.Fa.noat "Draw" "number").ok K,
  fun K => (He.Fa.noat "Draw" "box").ok K,
  fun K => (He.Fa.noat "Draw" "word").ok K,
  fun K => (He.Fa.mkr "Draw").ok K] : List FaM) ++
  ([fun K => (He.Fa.glo "Tell").ok K,
  fun K => (He.Fa.cls "Tell").ok K,
  fun K => PySem.W.makesIn K (He.ga K "Tell"),
  fun K => (He.Fa.noat "Tell" "number").ok K,
  fun K => (He.Fa.noat "Tell" "expr").ok K,
  fun K => (He.Fa.mkr "Tell").ok K,
  fun K => (He.Fa.glo "Skip").ok K,
  fun K => (He.Fa.cls "Skip").ok K,
  fun K => PySem.W.makesIn K (He.ga K "Skip"),
  fun K => (He.Fa.noat "Skip" "number").ok K,
  fun K => (He.Fa.mkr "Skip").ok K,
  fun K => decide (He.ma K (He.ga K "Skip") "__init__" = He.ma K (He.ga K "Row") "__init__"),
  fun K => (He.Fa.glo "Call").ok K,
  fun K => (He.Fa.cls "Call").ok K,
  fun K => PySem.W.makesIn K (He.ga K "Call"),
  fun K => (He.Fa.noat "Call" "number").ok K,
  fun K => (He.Fa.noat "Call" "box").ok K,
  fun K => (He.Fa.noat "Call" "fun").ok K,
  fun K => (He.Fa.noat "Call" "given").ok K,
  fun K => (He.Fa.mkr "Call").ok K] : List FaM) ++
  ([fun K => (He.Fa.glo "Loop").ok K,
  fun K => (He.Fa.cls "Loop").ok K,
  fun K => PySem.W.makesIn K (He.ga K "Loop"),
  fun K => (He.Fa.noat "Loop" "number").ok K,
  fun K => (He.Fa.noat "Loop" "test").ok K,
  fun K => (He.Fa.noat "Loop" "body").ok K,
  fun K => (He.Fa.mkr "Loop").ok K,
  fun K => (He.Fa.glo "Choice").ok K,
  fun K => (He.Fa.cls "Choice").ok K,
  fun K => PySem.W.makesIn K (He.ga K "Choice"),
  fun K => (He.Fa.noat "Choice" "number").ok K,
  fun K => (He.Fa.noat "Choice" "test").ok K,
  fun K => (He.Fa.noat "Choice" "first").ok K,
  fun K => (He.Fa.noat "Choice" "second").ok K,
  fun K => (He.Fa.mkr "Choice").ok K,
  fun K => (He.Fa.glo "Give").ok K,
  fun K => (He.Fa.cls "Give").ok K,
  fun K => PySem.W.makesIn K (He.ga K "Give"),
  fun K => (He.Fa.noat "Give" "number").ok K,
  fun K => (He.Fa.noat "Give" "expr").ok K] : List FaM) ++
  ([fun K => (He.Fa.mkr "Give").ok K,
  fun K => (He.Fa.glo "Setting").ok K,
  fun K => (He.Fa.cls "Setting").ok K,
  fun K => PySem.W.makesIn K (He.ga K "Setting"),
  fun K => (He.Fa.noat "Setting" "program").ok K,
  fun K => (He.Fa.noat "Setting" "bound").ok K,
  fun K => (He.Fa.noat "Setting" "given").ok K,
  fun K => (He.Fa.noat "Setting" "goings").ok K,
  fun K => (He.Fa.mkr "Setting").ok K,
  fun K => (He.Fa.glo "Moment").ok K,
  fun K => (He.Fa.cls "Moment").ok K,
  fun K => PySem.W.makesIn K (He.ga K "Moment"),
  fun K => (He.Fa.noat "Moment" "address").ok K,
  fun K => (He.Fa.noat "Moment" "numbers").ok K,
  fun K => (He.Fa.noat "Moment" "reads").ok K,
  fun K => (He.Fa.noat "Moment" "makes").ok K,
  fun K => (He.Fa.noat "Moment" "said").ok K,
  fun K => (He.Fa.noat "Moment" "looked").ok K,
  fun K => (He.Fa.noat "Moment" "goes").ok K,
  fun K => (He.Fa.noat "Moment" "fell").ok K] : List FaM) ++
  ([fun K => (He.Fa.mkr "Moment").ok K,
  fun K => (He.Fa.glo "Walker").ok K,
  fun K => (He.Fa.cls "Walker").ok K,
  fun K => PySem.W.makesIn K (He.ga K "Walker"),
  fun K => (He.Fa.noat "Walker" "setting").ok K,
  fun K => (He.Fa.noat "Walker" "held").ok K,
  fun K => (He.Fa.noat "Walker" "kept").ok K,
  fun K => (He.Fa.noat "Walker" "ended").ok K,
  fun K => (He.Fa.mkr "Walker").ok K,
  fun K => (He.Fa.glo "Scene").ok K,
  fun K => (He.Fa.cls "Scene").ok K,
  fun K => PySem.W.makesIn K (He.ga K "Scene"),
  fun K => (He.Fa.noat "Scene" "walker").ok K,
  fun K => (He.Fa.noat "Scene" "here").ok K,
  fun K => (He.Fa.noat "Scene" "spot").ok K,
  fun K => (He.Fa.noat "Scene" "found").ok K,
  fun K => (He.Fa.noat "Scene" "met").ok K,
  fun K => (He.Fa.mkr "Scene").ok K,
  fun K => (He.Fa.glo "Spot").ok K,
  fun K => (He.Fa.cls "Spot").ok K] : List FaM) ++
  ([fun K => PySem.W.makesIn K (He.ga K "Spot"),
  fun K => (He.Fa.noat "Spot" "address").ok K,
  fun K => (He.Fa.noat "Spot" "frame").ok K,
  fun K => (He.Fa.noat "Spot" "deep").ok K,
  fun K => (He.Fa.noat "Spot" "back").ok K,
  fun K => (He.Fa.mkr "Spot").ok K,
  fun K => (He.Fa.glo "Run").ok K,
  fun K => (He.Fa.cls "Run").ok K,
  fun K => PySem.W.makesIn K (He.ga K "Run"),
  fun K => (He.Fa.noat "Run" "setting").ok K,
  fun K => (He.Fa.noat "Run" "kept").ok K,
  fun K => (He.Fa.noat "Run" "ended").ok K,
  fun K => (He.Fa.noat "Run" "by_address").ok K,
  fun K => (He.Fa.mkr "Run").ok K,
  fun K => (He.Fa.meth "Number" "parts").ok K,
  fun K => decide (He.ma K (He.ga K "Number") "parts" = He.ma K (He.ga K "Expr") "parts"),
  fun K => (He.Fa.meth "Box" "parts").ok K,
  fun K => decide (He.ma K (He.ga K "Box") "parts" = He.ma K (He.ga K "Expr") "parts"),
  fun K => (He.Fa.meth "Cell" "parts").ok K,
  fun K => (He.Fa.meth "Two" "parts").ok K] : List FaM) ++
  ([fun K => (He.Fa.meth "Reader" "block").ok K,
  fun K => (He.Fa.meth "Reader" "pass_line").ok K,
  fun K => (He.Fa.meth "Reader" "row_with_rows").ok K,
  fun K => (He.Fa.meth "Reader" "call_row").ok K,
  fun K => (He.Fa.meth "Reader" "head").ok K,
  fun K => (He.Fa.meth "Reader" "one_row").ok K,
  fun K => (He.Fa.meth "Reader" "function").ok K,
  fun K => (He.Fa.meth "Number" "reckon").ok K,
  fun K => (He.Fa.meth "Box" "reckon").ok K,
  fun K => (He.Fa.meth "Cell" "reckon").ok K,
  fun K => (He.Fa.meth "Two" "reckon").ok K,
  fun K => (He.Fa.meth "Setting" "holds").ok K,
  fun K => (He.Fa.meth "Setting" "forced_at").ok K,
  fun K => (He.Fa.meth "Walker" "holds").ok K,
  fun K => (He.Fa.meth "Scene" "place_of").ok K,
  fun K => (He.Fa.meth "Scene" "read").ok K,
  fun K => (He.Fa.meth "Scene" "look_at").ok K,
  fun K => (He.Fa.meth "Walker" "goes_now").ok K,
  fun K => (He.Fa.meth "Scene" "make").ok K,
  fun K => (He.Fa.meth "Scene" "reckon").ok K] : List FaM) ++
  ([fun K => (He.Fa.meth "Scene" "say").ok K,
  fun K => (He.Fa.meth "Scene" "look").ok K,
  fun K => (He.Fa.meth "Scene" "enter").ok K,
  fun K => (He.Fa.meth "Scene" "give_back").ok K,
  fun K => (He.Fa.meth "Set" "act").ok K,
  fun K => (He.Fa.meth "Tell" "act").ok K,
  fun K => (He.Fa.meth "Choice" "act").ok K,
  fun K => (He.Fa.meth "Call" "act").ok K,
  fun K => (He.Fa.meth "Give" "act").ok K,
  fun K => (He.Fa.meth "Walker" "happening").ok K,
  fun K => (He.Fa.meth "Walker" "take_in").ok K,
  fun K => (He.Fa.meth "Walker" "whole").ok K,
  fun K => (He.Fa.meth "Walker" "go_moment").ok K,
  fun K => (He.Fa.meth "Walker" "go_block").ok K,
  fun K => (He.Fa.meth "Walker" "go_choice").ok K,
  fun K => (He.Fa.meth "Walker" "go_loop").ok K,
  fun K => (He.Fa.meth "Walker" "go_call").ok K,
  fun K => (He.Fa.meth "Walker" "go_row").ok K,
  fun K => (He.Fa.meth "Moment" "told").ok K,
  fun K => (He.Fa.meth "Walker" "walk").ok K] : List FaM) ++
  ([fun K => (He.Fa.meth "Run" "moments").ok K,
  fun K => (He.Fa.meth "Run" "end").ok K,
  fun K => (He.Fa.meth "Run" "tells").ok K,
  fun K => cfnB K (He.ga K "Row") "__init__" (He.ma K (He.ga K "Row") "__init__"),
  fun K => (He.Fa.glo "PAIRS").ok K,
  fun K => He.tupB K "PAIRS" [.str "plus", .str "minus", .str "times", .str "over", .str "rest", .str "less", .str "same"],
  fun K => (He.Fa.glo "ROWS").ok K,
  fun K => He.tupB K "ROWS" [.str "skip", .str "set", .str "put", .str "ask", .str "draw", .str "tell", .str "if", .str "while", .str "call"],
  fun K => (He.Fa.glo "OTHERS").ok K,
  fun K => He.tupB K "OTHERS" [.str "else", .str "end", .str "fun", .str "main", .str "give", .str "cell"],
  fun K => (He.Fa.exc "NoProgram").ok K,
  fun K => (He.Fa.glo "NoProgram").ok K,
  fun K => decide ((He.ga K "Number") ≠ (He.ga K "Box")),
  fun K => decide ((He.ga K "Number") ≠ (He.ga K "Cell")),
  fun K => decide ((He.ga K "Number") ≠ (He.ga K "Two")),
  fun K => decide ((He.ga K "Box") ≠ (He.ga K "Number")),
  fun K => decide ((He.ga K "Box") ≠ (He.ga K "Cell")),
  fun K => decide ((He.ga K "Box") ≠ (He.ga K "Two")),
  fun K => decide ((He.ga K "Cell") ≠ (He.ga K "Number")),
  fun K => decide ((He.ga K "Cell") ≠ (He.ga K "Box"))] : List FaM) ++
  ([fun K => decide ((He.ga K "Cell") ≠ (He.ga K "Two")),
  fun K => decide ((He.ga K "Two") ≠ (He.ga K "Number")),
  fun K => decide ((He.ga K "Two") ≠ (He.ga K "Box")),
  fun K => decide ((He.ga K "Two") ≠ (He.ga K "Cell")),
  fun K => decide ((He.ga K "Skip") ≠ (He.ga K "Set")),
  fun K => decide ((He.ga K "Skip") ≠ (He.ga K "Put")),
  fun K => decide ((He.ga K "Skip") ≠ (He.ga K "Ask")),
  fun K => decide ((He.ga K "Skip") ≠ (He.ga K "Draw")),
  fun K => decide ((He.ga K "Skip") ≠ (He.ga K "Tell")),
  fun K => decide ((He.ga K "Skip") ≠ (He.ga K "Choice")),
  fun K => decide ((He.ga K "Skip") ≠ (He.ga K "Loop")),
  fun K => decide ((He.ga K "Skip") ≠ (He.ga K "Call")),
  fun K => decide ((He.ga K "Skip") ≠ (He.ga K "Give")),
  fun K => decide ((He.ga K "Set") ≠ (He.ga K "Skip")),
  fun K => decide ((He.ga K "Set") ≠ (He.ga K "Put")),
  fun K => decide ((He.ga K "Set") ≠ (He.ga K "Ask")),
  fun K => decide ((He.ga K "Set") ≠ (He.ga K "Draw")),
  fun K => decide ((He.ga K "Set") ≠ (He.ga K "Tell")),
  fun K => decide ((He.ga K "Set") ≠ (He.ga K "Choice")),
  fun K => decide ((He.ga K "Set") ≠ (He.ga K "Loop"))] : List FaM) ++
  ([fun K => decide ((He.ga K "Set") ≠ (He.ga K "Call")),
  fun K => decide ((He.ga K "Set") ≠ (He.ga K "Give")),
  fun K => decide ((He.ga K "Put") ≠ (He.ga K "Skip")),
  fun K => decide ((He.ga K "Put") ≠ (He.ga K "Set")),
  fun K => decide ((He.ga K "Put") ≠ (He.ga K "Ask")),
  fun K => decide ((He.ga K "Put") ≠ (He.ga K "Draw")),
  fun K => decide ((He.ga K "Put") ≠ (He.ga K "Tell")),
  fun K => decide ((He.ga K "Put") ≠ (He.ga K "Choice")),
  fun K => decide ((He.ga K "Put") ≠ (He.ga K "Loop")),
  fun K => decide ((He.ga K "Put") ≠ (He.ga K "Call")),
  fun K => decide ((He.ga K "Put") ≠ (He.ga K "Give")),
  fun K => decide ((He.ga K "Ask") ≠ (He.ga K "Skip")),
  fun K => decide ((He.ga K "Ask") ≠ (He.ga K "Set")),
  fun K => decide ((He.ga K "Ask") ≠ (He.ga K "Put")),
  fun K => decide ((He.ga K "Ask") ≠ (He.ga K "Draw")),
  fun K => decide ((He.ga K "Ask") ≠ (He.ga K "Tell")),
  fun K => decide ((He.ga K "Ask") ≠ (He.ga K "Choice")),
  fun K => decide ((He.ga K "Ask") ≠ (He.ga K "Loop")),
  fun K => decide ((He.ga K "Ask") ≠ (He.ga K "Call")),
  fun K => decide ((He.ga K "Ask") ≠ (He.ga K "Give"))] : List FaM) ++
  ([fun K => decide ((He.ga K "Draw") ≠ (He.ga K "Skip")),
  fun K => decide ((He.ga K "Draw") ≠ (He.ga K "Set")),
  fun K => decide ((He.ga K "Draw") ≠ (He.ga K "Put")),
  fun K => decide ((He.ga K "Draw") ≠ (He.ga K "Ask")),
  fun K => decide ((He.ga K "Draw") ≠ (He.ga K "Tell")),
  fun K => decide ((He.ga K "Draw") ≠ (He.ga K "Choice")),
  fun K => decide ((He.ga K "Draw") ≠ (He.ga K "Loop")),
  fun K => decide ((He.ga K "Draw") ≠ (He.ga K "Call")),
  fun K => decide ((He.ga K "Draw") ≠ (He.ga K "Give")),
  fun K => decide ((He.ga K "Tell") ≠ (He.ga K "Skip")),
  fun K => decide ((He.ga K "Tell") ≠ (He.ga K "Set")),
  fun K => decide ((He.ga K "Tell") ≠ (He.ga K "Put")),
  fun K => decide ((He.ga K "Tell") ≠ (He.ga K "Ask")),
  fun K => decide ((He.ga K "Tell") ≠ (He.ga K "Draw")),
  fun K => decide ((He.ga K "Tell") ≠ (He.ga K "Choice")),
  fun K => decide ((He.ga K "Tell") ≠ (He.ga K "Loop")),
  fun K => decide ((He.ga K "Tell") ≠ (He.ga K "Call")),
  fun K => decide ((He.ga K "Tell") ≠ (He.ga K "Give")),
  fun K => decide ((He.ga K "Choice") ≠ (He.ga K "Skip")),
  fun K => decide ((He.ga K "Choice") ≠ (He.ga K "Set"))] : List FaM) ++
  ([fun K => decide ((He.ga K "Choice") ≠ (He.ga K "Put")),
  fun K => decide ((He.ga K "Choice") ≠ (He.ga K "Ask")),
  fun K => decide ((He.ga K "Choice") ≠ (He.ga K "Draw")),
  fun K => decide ((He.ga K "Choice") ≠ (He.ga K "Tell")),
  fun K => decide ((He.ga K "Choice") ≠ (He.ga K "Loop")),
  fun K => decide ((He.ga K "Choice") ≠ (He.ga K "Call")),
  fun K => decide ((He.ga K "Choice") ≠ (He.ga K "Give")),
  fun K => decide ((He.ga K "Loop") ≠ (He.ga K "Skip")),
  fun K => decide ((He.ga K "Loop") ≠ (He.ga K "Set")),
  fun K => decide ((He.ga K "Loop") ≠ (He.ga K "Put")),
  fun K => decide ((He.ga K "Loop") ≠ (He.ga K "Ask")),
  fun K => decide ((He.ga K "Loop") ≠ (He.ga K "Draw")),
  fun K => decide ((He.ga K "Loop") ≠ (He.ga K "Tell")),
  fun K => decide ((He.ga K "Loop") ≠ (He.ga K "Choice")),
  fun K => decide ((He.ga K "Loop") ≠ (He.ga K "Call")),
  fun K => decide ((He.ga K "Loop") ≠ (He.ga K "Give")),
  fun K => decide ((He.ga K "Call") ≠ (He.ga K "Skip")),
  fun K => decide ((He.ga K "Call") ≠ (He.ga K "Set")),
  fun K => decide ((He.ga K "Call") ≠ (He.ga K "Put")),
  fun K => decide ((He.ga K "Call") ≠ (He.ga K "Ask"))] : List FaM) ++
  ([fun K => decide ((He.ga K "Call") ≠ (He.ga K "Draw")),
  fun K => decide ((He.ga K "Call") ≠ (He.ga K "Tell")),
  fun K => decide ((He.ga K "Call") ≠ (He.ga K "Choice")),
  fun K => decide ((He.ga K "Call") ≠ (He.ga K "Loop")),
  fun K => decide ((He.ga K "Call") ≠ (He.ga K "Give")),
  fun K => decide ((He.ga K "Give") ≠ (He.ga K "Skip")),
  fun K => decide ((He.ga K "Give") ≠ (He.ga K "Set")),
  fun K => decide ((He.ga K "Give") ≠ (He.ga K "Put")),
  fun K => decide ((He.ga K "Give") ≠ (He.ga K "Ask")),
  fun K => decide ((He.ga K "Give") ≠ (He.ga K "Draw")),
  fun K => decide ((He.ga K "Give") ≠ (He.ga K "Tell")),
  fun K => decide ((He.ga K "Give") ≠ (He.ga K "Choice")),
  fun K => decide ((He.ga K "Give") ≠ (He.ga K "Loop")),
  fun K => decide ((He.ga K "Give") ≠ (He.ga K "Call")),
  fun K => decide ((He.ga K "Number") ≠ (He.ga K "Reader")),
  fun K => decide ((He.ga K "Box") ≠ (He.ga K "Reader")),
  fun K => decide ((He.ga K "Cell") ≠ (He.ga K "Reader")),
  fun K => decide ((He.ga K "Two") ≠ (He.ga K "Reader")),
  fun K => decide ((He.ga K "Function") ≠ (He.ga K "Reader")),
  fun K => decide ((He.ga K "Skip") ≠ (He.ga K "Reader"))] : List FaM) ++
  ([fun K => decide ((He.ga K "Set") ≠ (He.ga K "Reader")),
  fun K => decide ((He.ga K "Put") ≠ (He.ga K "Reader")),
  fun K => decide ((He.ga K "Ask") ≠ (He.ga K "Reader")),
  fun K => decide ((He.ga K "Draw") ≠ (He.ga K "Reader")),
  fun K => decide ((He.ga K "Tell") ≠ (He.ga K "Reader")),
  fun K => decide ((He.ga K "Choice") ≠ (He.ga K "Reader")),
  fun K => decide ((He.ga K "Loop") ≠ (He.ga K "Reader")),
  fun K => decide ((He.ga K "Call") ≠ (He.ga K "Reader")),
  fun K => decide ((He.ga K "Give") ≠ (He.ga K "Reader")),
  fun K => decide (PySem.W.findIn K (.ref (He.ga K "Program")) "__class__" = some (some (.builtin "object.__class__"))),
  fun K => decide (PySem.W.mroIn K (He.ga K "Program") (.type "object") = some true),
  fun K => decide (PySem.W.specialIn K (.builtin "object.__class__") "__get__" = some (some (.builtin "getset_descriptor.__get__"))),
  fun K => decide (PySem.W.takesIn K (.builtin "object.__class__") = some true),
  fun K => decide (PySem.W.findIn K (.ref (He.ga K "Set")) "__class__" = some (some (.builtin "object.__class__"))),
  fun K => decide (PySem.W.mroIn K (He.ga K "Set") (.type "object") = some true),
  fun K => decide (PySem.W.kitOne K (.ref (He.ga K "Set")) (.ref (He.ga K "Choice")) = some false),
  fun K => decide (PySem.W.kitOne K (.ref (He.ga K "Set")) (.ref (He.ga K "Loop")) = some false),
  fun K => decide (PySem.W.kitOne K (.ref (He.ga K "Set")) (.ref (He.ga K "Call")) = some false),
  fun K => decide (PySem.W.findIn K (.ref (He.ga K "Tell")) "__class__" = some (some (.builtin "object.__class__"))),
  fun K => decide (PySem.W.mroIn K (He.ga K "Tell") (.type "object") = some true)] : List FaM) ++
  ([fun K => decide (PySem.W.kitOne K (.ref (He.ga K "Tell")) (.ref (He.ga K "Choice")) = some false),
  fun K => decide (PySem.W.kitOne K (.ref (He.ga K "Tell")) (.ref (He.ga K "Loop")) = some false),
  fun K => decide (PySem.W.kitOne K (.ref (He.ga K "Tell")) (.ref (He.ga K "Call")) = some false),
  fun K => decide (PySem.W.findIn K (.ref (He.ga K "Choice")) "__class__" = some (some (.builtin "object.__class__"))),
  fun K => decide (PySem.W.mroIn K (He.ga K "Choice") (.type "object") = some true),
  fun K => decide (PySem.W.kitOne K (.ref (He.ga K "Choice")) (.ref (He.ga K "Choice")) = some true),
  fun K => decide (PySem.W.kitOne K (.ref (He.ga K "Choice")) (.ref (He.ga K "Loop")) = some false),
  fun K => decide (PySem.W.kitOne K (.ref (He.ga K "Choice")) (.ref (He.ga K "Call")) = some false),
  fun K => decide (PySem.W.findIn K (.ref (He.ga K "Call")) "__class__" = some (some (.builtin "object.__class__"))),
  fun K => decide (PySem.W.mroIn K (He.ga K "Call") (.type "object") = some true),
  fun K => decide (PySem.W.kitOne K (.ref (He.ga K "Call")) (.ref (He.ga K "Choice")) = some false),
  fun K => decide (PySem.W.kitOne K (.ref (He.ga K "Call")) (.ref (He.ga K "Loop")) = some false),
  fun K => decide (PySem.W.kitOne K (.ref (He.ga K "Call")) (.ref (He.ga K "Call")) = some true),
  fun K => (He.Fa.str "LETTERS" "abcdefghijklmnopqrstuvwxyz").ok K,
  fun K => (He.Fa.str "FIGURES" "0123456789").ok K,
  fun K => (He.Fa.int "MOST_DEEP" 6).ok K,
  fun K => (He.Fa.int "MOST_PARTS" 15).ok K,
  fun K => (He.Fa.int "MOST_WITHIN" 5).ok K,
  fun K => (He.Fa.int "MOST_PARAMS" 3).ok K,
  fun K => (He.Fa.int "MOST_LINES" 60).ok K] : List FaM) ++
  ([fun K => (He.Fa.int "MOST_FUNCTIONS" 4).ok K,
  fun K => (He.Fa.int "LIMIT" 1000000).ok K,
  fun K => (He.Fa.int "DEEPEST" 6).ok K,
  fun K => (He.Fa.free "str").ok K,
  fun K => (He.Fa.free "isinstance").ok K,
  fun K => (He.Fa.free "len").ok K,
  fun K => (He.Fa.free "all").ok K,
  fun K => (He.Fa.free "int").ok K,
  fun K => (He.Fa.free "set").ok K,
  fun K => (He.Fa.free "list").ok K,
  fun K => (He.Fa.free "zip").ok K,
  fun K => (He.Fa.free "enumerate").ok K,
  fun K => (He.Fa.free "dict").ok K,
  fun K => (He.Fa.free "range").ok K] : List FaM)
def loose : List Str := (["_wall", "HadError", "NoProgram", "NoPlace", "NoValue", "NoMoment", "LIMIT", "MOST_PARTS", "MOST_DEEP", "LETTERS", "FIGURES", "PAIRS", "ROWS", "OTHERS", "is_value"] : List Str) ++ (["is_name", "is_value_word", "Expr", "Number", "Box", "Cell", "both", "Two", "expr_at", "exprs_of", "Row", "Skip", "Set", "Put", "Ask"] : List Str) ++ (["Draw", "Tell", "Choice", "Loop", "Call", "Give", "Function", "DEEPEST", "Moment", "Spot", "Scene", "Walker", "Run", "run_of", "MOST_LINES"] : List Str) ++ (["MOST_FUNCTIONS", "MOST_PARAMS", "MOST_WITHIN", "Program", "Reader", "check_names", "only", "simple_row", "check_calls", "read_program", "is_given", "Setting", "_law_cell_at", "_law_well", "_law_draw"] : List Str) ++ (["_law_lines"] : List Str)
abbrev R : PySem.W.OpenRow := PySem.W.OpenLaw.row PySem.Challenge.rw_hadbeen_k24_calls_within_one_another
def hTf : List He.Defn := [("Scene", some "reckon")]
abbrev hk : PySem.W.Hook := hookMC ("law" :: loose) hFa hFn hTf
def ob (s : PySem.W.SharedT) : He.AlD × Bool := obsMC ("law" :: loose) hFa hFn hTf (HandSHeadRun.getT s)
theorem ob_eq (s : PySem.W.SharedT) : ob s = hk.obs s.abs := obsMC_eq (HandSHeadRun.getT_eq s)
end K24
namespace K24
open PySem PySem.Spec PyProof.Rows L2 TL
theorem run (w : World) : HandSHeadRun.RunEq R (PySem.W.view R.prog [70]) hk ob 12000 loose w := by
  intro os
  kernel_rfl
end K24
namespace K24
open PySem L2 TL

/-! ### len(set(xs)), xs a list of texts -/
/-- how many unlike ones stand among the first i -/
def cntTo (xs : List Str) : Nat → Nat
  | 0 => 0
  | i + 1 => if ((xs.take i).any (· == xs.getD i Str.empty)) = true then cntTo xs i else cntTo xs i + 1
theorem cntTo_le (xs : List Str) : ∀ i, cntTo xs i ≤ i
  | 0 => Nat.le_refl 0
  | i + 1 => by
    have := cntTo_le xs i
    unfold cntTo
    split <;> omega
section
open PySem.Spec PyProof.Rows SS
variable {prog : Program} {w : World} {A : Around} {R : Result → Shared → Prop} {I : Addr} {fp wr : List Addr} {G : Array GenState → Array GenState → Prop} {n : Nat} {P : Nat → Value → Prop} {Sx : Nat → Shared → Prop}
theorem loop_texts (W : WalksS prog w A.in1 I fp wr G n P Sx) (S : Addr) (nS : S ∉ fp) (xs : List Str) (lx : xs.length = n) (ln : n ≤ 100) (hv : ∀ i v, P i v → ∃ t, v = .str (xs.getD i Str.empty) t) :
    ∀ (k i : Nat) (s : Shared), n - i = k → i ≤ n → Sx i s → s.heap.SetOf (PySem.strKind prog w) S (fun z => (xs.take i).any (· == z)) (cntTo xs i) →
      (∀ s', Moved (S :: wr) G s s' → s'.heap.SetOf (PySem.strKind prog w) S (fun z => (xs.take n).any (· == z)) (cntTo xs n) → R (.ok (.ret .none)) s') →
      codeAny (model prog w) A (.builtin "set.update.loop" ⟨[.ref S, .ref I], []⟩) R s := by
  have nSw : S ∉ wr := fun h => nS (W.sub _ h)
  have wrs : ∀ b ∈ wr, b ∈ S :: wr := fun b hb => List.mem_cons_of_mem _ hb
  have moved : ∀ {s s' : Shared} {f : Str → Bool} {c : Nat}, Moved wr G s s' → s.heap.SetOf (PySem.strKind prog w) S f c → s'.heap.SetOf (PySem.strKind prog w) S f c := fun {s s' f c} hm ⟨o, es, ep, t, ho, rest⟩ => ⟨o, es, ep, t, hm.heap S o nSw ho, rest⟩
  intro k
  induction k with
  | zero =>
    intro i s hk hi st hS hR
    obtain rfl : i = n := by omega
    refine codeAny_builtin PyProof.Rows.F.entry_set_update_loop ?_
    rw [Around.under_plainId PyProof.Rows.F.plain_set_update_loop _]
    show wpAny _ A.in1 (pyNext (.ref I) >>= _) _ _ s
    exact wpAny_bind (W.done s _ _ st fun s' hm => wpAny_pure (hR s' (hm.mono wrs) (moved hm hS)))
  | succ k ih =>
    intro i s hk hi st hS hR
    have hlt : i < n := by omega
    refine codeAny_builtin PyProof.Rows.F.entry_set_update_loop ?_
    rw [Around.under_plainId PyProof.Rows.F.plain_set_update_loop _]
    show wpAny _ A.in1 (pyNext (.ref I) >>= _) _ _ s
    refine wpAny_bind (W.item i s _ _ hlt st fun v s' hP st' hm => ?_)
    obtain ⟨t, rfl⟩ := hv i v hP
    have hS' := moved hm hS
    show wpAny _ A.in1 (holding [Value.str (xs.getD i Str.empty) t] (setAdd S (.str (xs.getD i Str.empty) t)) >>= _) _ _ s'
    refine wpAny_bind (wpAny_holding ?_)
    unfold setAdd
    refine wpAny_holding (wpAny_bind ((PySem.strKind prog w).pyHash (k := xs.getD i Str.empty) (strKind_is _ _ _ _) ?_))
    refine wpAny_setAddHashed_of (knd := PySem.strKind prog w) (s := { s' with toks := s'.toks + 1 }) (strKind_is _ _ _ _) rfl hS' (by have := cntTo_le xs i; unfold scanBound; omega) fun h' sb hS2 => ?_
    have hS3 : h'.SetOf (PySem.strKind prog w) S (fun z => (xs.take (i + 1)).any (· == z)) (cntTo xs (i + 1)) := by
      refine SetOf_congr hS2 (fun z => ?_) rfl
      have e1 : xs[i]? = some (xs.getD i Str.empty) := by
        rw [List.getD_eq_getElem?_getD, List.getElem?_eq_getElem (by omega)]; rfl
      rw [List.take_add_one, e1]
      simp only [Option.toList, List.any_append, List.any_cons, List.any_nil, Bool.or_false]
      congr 1
      by_cases e : z = xs.getD i Str.empty
      · rw [e]; simp
      · rw [decide_eq_false e]
        exact (beq_eq_false_iff_ne.mpr fun q => e q.symm).symm
    refine wpAny_pure ⟨plainId_quiet PyProof.Rows.F.plain_set_update_loop _, ih (i + 1) _ (by omega) hlt (W.frame _ s' _ _ st' (Nat.le_succ _) fun b hb o e => ?_) hS3 fun s'' hm'' hS'' => ?_⟩
    · rw [sb.2 b (fun q : b = S => nS (q ▸ hb))]; exact e
    · refine hR s'' (Moved.trans W.gtrans ((hm.mono wrs).then_heap (Nat.le_succ _) fun b o hb e => ?_) hm'') hS''
      rw [sb.2 b (fun q : b = S => hb (q ▸ List.mem_cons_self))]; exact e
variable {E : Value → Shared → Prop} {s : Shared}
set_option maxHeartbeats 3200000 in
theorem call_set_texts {l : Addr} {items : Array Value} {xs : List Str} {Q : Value → Shared → Prop}
    (hh : A.handled = none) (hl : s.heap.IsList l items) (hi : PyProof.Rows.StrsAre items.toList xs) (ln : xs.length ≤ 100)
    (h : ∀ (h' : Heap) (tk : Nat), h'.SetOf (PySem.strKind prog w) s.heap.objs.size (fun z => (xs.take items.size).any (· == z)) (cntTo xs items.size) →
      (∀ b o, b < s.heap.objs.size → s.heap.get? b = some o → h'.get? b = some o) → Q (.ref s.heap.objs.size) { s with heap := h', toks := tk }) :
    wpAny (model prog w) A (call (.type "set") [.ref l]) Q E s := by
  have seen : ∀ led : Bool, wpAny (model prog w) A.in1.in1 (Builtin.«set.__init__» ⟨[.ref s.heap.objs.size, .ref l], []⟩)
      (fun fin s' => match fin with | .done f => wants (fun r s₂ => r = .none ∧ Q (.ref s.heap.objs.size) s₂) E (.ok f) s' | .again c' => c'.quiet = true ∧ codeAny (model prog w) A.in1 c' (wants (fun r s₂ => r = .none ∧ Q (.ref s.heap.objs.size) s₂) E) s')
      (fun e s' => wants (fun r s₂ => r = .none ∧ Q (.ref s.heap.objs.size) s₂) E (.error e) s') { s with heap := s.heap.push { cls := .type "set", dict := none, data := .set #[] 0 (.fresh 0 0 led) } } := fun led => by
    have hS : (s.heap.push { cls := .type "set", dict := none, data := .set #[] 0 (.fresh 0 0 led) }).get? s.heap.objs.size = some { cls := .type "set", dict := none, data := .set #[] 0 (.fresh 0 0 led) } := Heap.get?_push_size _ rfl
    obtain ⟨ol, hol, hcl, nl, hdl⟩ := hl
    obtain ⟨ocls, odict, odata, oslots⟩ := ol
    simp only at hcl hdl
    subst hcl; subst hdl
    have hol' : (s.heap.push { cls := .type "set", dict := none, data := .set #[] 0 (.fresh 0 0 led) }).get? l = some { cls := .type "list", dict := odict, data := .seq items nl, slots := oslots } := Heap.get?_push_of_some _ hol
    have hl1 : (s.heap.push { cls := .type "set", dict := none, data := .set #[] 0 (.fresh 0 0 led) }).IsList l items := ⟨_, hol', rfl, nl, rfl⟩
    have q1 := PySem.F.sub_list_set
    have q2 := PySem.F.sub_list_frozenset
    have q3 : (Value.type "list" == Value.type "dict") = false := by decide
    unfold Builtin.«set.__init__» noKeywords Builtin.Frozenset.updateFrom
    generalize hPI : pyIter = PI
    wp_walk
    subst hPI
    refine wpAny_pyIter_list hl1 ?_
    refine wpAny_bind (wpAny_runValue ?_)
    have lt : l < s.heap.objs.size := Heap.lt_size hol
    have sz1 : (s.heap.push { cls := .type "set", dict := none, data := .set #[] 0 (.fresh 0 0 led) }).objs.size = s.heap.objs.size + 1 := Heap.size_push ..
    have nI : l ≠ (s.heap.push { cls := .type "set", dict := none, data := .set #[] 0 (.fresh 0 0 led) }).objs.size := by rw [sz1]; exact Nat.ne_of_lt (Nat.lt_succ_of_lt lt)
    have nF : s.heap.objs.size ∉ [(s.heap.push { cls := .type "set", dict := none, data := .set #[] 0 (.fresh 0 0 led) }).objs.size, l] := by
      simp only [List.mem_cons, List.not_mem_nil, or_false, not_or]
      exact ⟨by rw [sz1]; exact Nat.ne_of_lt (Nat.lt_succ_self _), Nat.ne_of_gt lt⟩
    have hsz : xs.length = items.size := by rw [← StrsAre.len_eq hi, Array.length_toList]
    have hv : ∀ (i : Nat) (v : Value), items[i]? = some v → ∃ t, v = .str (xs.getD i Str.empty) t := fun i v hv => strs_at hi i v (by rw [Array.getElem?_toList]; exact hv)
    have hh3 : A.in1.in1.in1.handled = none := by simp [hh]
    refine loop_texts ((Walks.list hh3 _ l nI items).toS) s.heap.objs.size nF xs hsz (by omega) hv (items.size - 0) 0 _ (by omega) (Nat.zero_le _) ⟨⟨_, Heap.get?_push_size _ rfl, rfl, rfl⟩, (hl1.push _)⟩ ?_ ?_
    · have hg : ((s.heap.push { cls := .type "set", dict := none, data := .set #[] 0 (.fresh 0 0 led) }).push { cls := .type "list_iterator", data := .fields #[.ref l, .int 0 0] }).get? s.heap.objs.size = some { cls := .type "set", dict := none, data := .set #[] 0 (.fresh 0 0 led) } := Heap.get?_push_of_some _ hS
      exact PyProof.Rows.SetOf_congr ((PyProof.Rows.setObjOf_fresh (knd := PySem.strKind prog w) led).setOf hg (by unfold scanBound; omega)) (fun _ => rfl) rfl
    · intro s' hm hS'
      obtain ⟨h', g', d', tk', os'⟩ := s'
      obtain rfl : g' = s.gens := hm.gens
      obtain rfl : d' = s.drawn := hm.drawn
      obtain rfl : os' = s.os := hm.os
      show wpAny _ _ _ _ _ _
      refine wpAny_pure ?_
      show wpAny _ _ (ret Value.none) _ _ _
      refine wpAny_pure ⟨rfl, h h' tk' hS' fun b o hb e => ?_⟩
      exact hm.heap b o (by simp only [List.mem_cons, List.not_mem_nil, or_false, not_or]; exact ⟨Nat.ne_of_lt hb, by rw [sz1]; exact Nat.ne_of_lt (Nat.lt_succ_of_lt hb)⟩) (Heap.get?_push_of_some _ (Heap.get?_push_of_some _ e))
  obtain ⟨c, tl, m0⟩ := PySem.F.called_set.mro
  have m1 := PySem.F.called_set.made
  have m2 := PySem.F.called_set.sub
  refine wpAny_call (codeAny_of_tree ?_)
  show wpAny _ _ (callAny (.type "set") _) _ _ _
  refine wpAny_pure ⟨Code.quiet_builtin _ (by decide +kernel), codeAny_builtin PySem.F.entry_type_call ?_⟩
  rw [Around.under_plain (weight_type_call_type "set" [.ref l] []) rfl]
  have m3 := PySem.F.called_set.notType
  have m4 := PySem.F.called_set.canCreate
  have m5 := PySem.F.typeCall_set_1 (.ref l)
  repeat (any_goals (first | assumption | wp_step))
  refine codeAny_mono (code_set_new_1 (.ref l) (E := E) (Q₁ := fun ob s₁ => ∃ led : Bool, ob = .ref s.heap.objs.size ∧ s₁ = { s with heap := s.heap.push { cls := .type "set", dict := none, data := .set #[] 0 (.fresh 0 0 led) } }) fun led => ⟨led, rfl, rfl⟩) fun r s₁ hr => ?_
  cases r with
  | error e => exact hr
  | ok fl =>
    cases fl with
    | ret ob =>
      obtain ⟨led, rfl, rfl⟩ := hr
      have hS : (s.heap.push { cls := .type "set", dict := none, data := .set #[] 0 (.fresh 0 0 led) }).get? s.heap.objs.size = some { cls := .type "set", dict := none, data := .set #[] 0 (.fresh 0 0 led) } := Heap.get?_push_size _ rfl
      have hT : Shared.TypeIs { s with heap := s.heap.push { cls := .type "set", dict := none, data := .set #[] 0 (.fresh 0 0 led) } } (.ref s.heap.objs.size) "set" := ⟨_, hS, rfl⟩
      have m6 := PySem.F.called_set.init.lookup
      have m7 := PySem.F.called_set.init.bind (.ref s.heap.objs.size)
      repeat (any_goals (first | assumption | wp_step))
      refine codeAny_mono (codeAny_call_builtin (R := wants (fun r s₂ => r = .none ∧ Q (.ref s.heap.objs.size) s₂) E) PySem.F.called_set.init.plain PySem.F.entry_set_init (check_set_init_1 hT (seen led))) fun r₂ s₂ hr₂ => ?_
      cases r₂ with
      | error e => exact hr₂
      | ok fl₂ =>
        cases fl₂ with
        | ret r =>
          obtain ⟨rfl, hq⟩ := hr₂
          repeat (any_goals (first | assumption | wp_step))
        | _ => exact hr₂.elim
    | _ => exact hr.elim
end
/-- len(set(xs)) -/
def tLenTexts (K : PySem.W.Frag) (ta : TE) : TE := fun σ H Q => ta σ H fun x H1 => ∃ l, ∃ xs : List Str, x = .ref l ∧ SqL K H1 l (xs.map V.str) ∧ xs.length ≤ 100 ∧ Q (.int (cntTo xs xs.length : Nat)) H1
section
open PySem.Spec PyProof.Rows
variable {X : Cx}
theorem pe_lenTexts {a : Expr} {ta : TE} {p p2 q pos : Pos} (hc : X.calm = true) (hg : Gl X "len") (hm : X.mg "len" = none) (hg2 : Gl X "set") (hm2 : X.mg "set" = none) (ha : PE X a ta)
    (na : starEach [a] X.env = (false, eval a X.env) :: starEach [] X.env := by rfl) : PE X (.Call (.Name "len" p) [.Call (.Name "set" p2) [a] [] q] [] pos) (tLenTexts X.K ta) := by
  refine ⟨fun pins s σ H Q I h => ?_⟩
  refine Call_ (ld_blt I hg hm boot_len (PyProof.Rows.callWith_builtin1 (PyProof.Rows.args_cons ?_ rfl) rfl rfl))
  refine Call_ (ld_blt I hg2 hm2 boot_set (PyProof.Rows.callWith_type1 (PyProof.Rows.args_cons (thn (ha.run pins s σ H _ I h) fun v s1 ⟨x, H1, I1, r1, q1⟩ => PyProof.Rows.args_nil ?_) na) na rfl))
  obtain ⟨l, xs, rfl, hq, ln, q1⟩ := q1
  cases r1
  obtain ⟨its, r, pl, hz⟩ := I1.list hq
  refine call_set_texts (I1.ok.hd hc) pl.isList (by simpa using strsAre_of r) ln fun h' tk hS hk => PyProof.Rows.args_nil ?_
  have hl : its.toArray.size = xs.length := by rw [List.size_toArray, ← r.length, List.length_map]
  rw [hl] at hS
  have hcl := cntTo_le xs xs.length
  obtain ⟨o, es, ep, t, ho, hex, hd, _, _, _, hf, hn⟩ := hS
  have I2 : Inv X pins σ H1 { s1 with heap := h', toks := tk } := I1.kept fun b o e => hk b o (Heap.lt_size e) e
  exact call_len_set ho hex hd hf (by rw [hn]; omega) ⟨.int (cntTo xs xs.length : Nat), H1, I2.tok _, ⟨_, by rw [hn]⟩, q1⟩
end
namespace KL
open PySem PySem.Spec PyProof.Rows L2
/-! functions that are handed on: what is called by a local name; cells told as they stand while a callee runs -/
abbrev Cs := List (Addr × Obj)
def anyO : HO := .ext fun _ => True
/-- the cells of cs told (as they stand) -/
def frzC (cs : Cs) (H : Hp) : Hp := fun b => match cs.lookup b with
  | some o => some (.frz o anyO)
  | none => H b
/-- .. no longer told -/
def thwC (cs : Cs) (H : Hp) : Hp := fun b => match cs.lookup b with
  | some _ => none
  | none => H b
theorem frz_some {cs : Cs} {H : Hp} {b : Addr} {o : Obj} (h : cs.lookup b = some o) : frzC cs H b = some (.frz o anyO) := by unfold frzC; rw [h]
theorem frz_none {cs : Cs} {H : Hp} {b : Addr} (h : cs.lookup b = none) : frzC cs H b = H b := by unfold frzC; rw [h]
theorem thw_some {cs : Cs} {H : Hp} {b : Addr} {o : Obj} (h : cs.lookup b = some o) : thwC cs H b = none := by unfold thwC; rw [h]
theorem thw_none {cs : Cs} {H : Hp} {b : Addr} (h : cs.lookup b = none) : thwC cs H b = H b := by unfold thwC; rw [h]
theorem any_ok {P : Program} {w : World} {H : Hp} {h : Heap} {a : Addr} {o : Obj} (e : h.get? a = some o) : ObjOk P w H h a (.frz o anyO) :=
  ⟨e, trivial, ⟨o, e⟩, fun _ _ _ _ => trivial⟩
/-- cs: cells that stand in h, not told of in H -/
def CsIn (cs : Cs) (h : Heap) (H : Hp) : Prop := ∀ c o, cs.lookup c = some o → H c = none ∧ h.get? c = some o
/-- cs: cells told of in H -/
def CsAt (cs : Cs) (H : Hp) : Prop := ∀ c o, cs.lookup c = some o → H c = some (.frz o anyO)
theorem csIn_none {cs : Cs} {h : Heap} {H : Hp} (c : CsIn cs h H) {b : Addr} {u : HO} (e : H b = some u) : cs.lookup b = none := by
  cases q : cs.lookup b with
  | none => rfl
  | some o => rw [(c b o q).1] at e; cases e
theorem csAt_none {cs : Cs} {H : Hp} (c : CsAt cs H) {b : Addr} {u : HO} (e : H b = some u) (n : ∀ o, u ≠ .frz o anyO) : cs.lookup b = none := by
  cases q : cs.lookup b with
  | none => rfl
  | some o => rw [c b o q] at e; cases e; exact absurd rfl (n o)
theorem csAt_frz (cs : Cs) (H : Hp) : CsAt cs (frzC cs H) := fun _ _ h => frz_some h
theorem frz_at {cs : Cs} {h : Heap} {H : Hp} (c : CsIn cs h H) {b : Addr} {u : HO} (e : H b = some u) : frzC cs H b = some u := (frz_none (csIn_none c e)).trans e
section
variable {P : Program} {w : World} {K : PySem.W.Frag} {mg : Str → Option Value} {base : Heap} {A : Around} {outer : List Env} {s : Shared} {H : Hp} {cs : Cs}
theorem env_frz (e0 : Env0 P w K mg base A outer s H) (c : CsIn cs s.heap H) (nb : ∀ a o, cs.lookup a = some o → base.get? a = none ∧ a ∉ frs outer) : Env0 P w K mg base A outer s (frzC cs H) := by
  refine ⟨e0.frames, e0.mod, fun b o e => ?_, e0.bsz, e0.funs, fun b hb => ?_, fun b u e => ?_, e0.bare⟩
  · obtain ⟨h1, h2⟩ := e0.bs b o e
    refine ⟨h1, ?_⟩
    cases q : cs.lookup b with
    | none => rw [frz_none q]; exact h2
    | some ob => rw [(nb b ob q).1] at e; cases e
  · cases q : cs.lookup b with
    | none => rw [frz_none q]; exact e0.frf b hb
    | some ob => exact absurd hb (nb b ob q).2
  · cases q : cs.lookup b with
    | some ob =>
      rw [frz_some q] at e
      cases e
      exact any_ok (c b ob q).2
    | none =>
      rw [frz_none q] at e
      refine (e0.hok b u e).stay (fun _ _ _ z => z) (fun d z => frz_at c z) fun d xs z => frz_at c z
theorem env_thw (e0 : Env0 P w K mg base A outer s H) (c : CsAt cs H) : Env0 P w K mg base A outer s (thwC cs H) := by
  refine ⟨e0.frames, e0.mod, fun b o e => ?_, e0.bsz, e0.funs, fun b hb => ?_, fun b u e => ?_, e0.bare⟩
  · obtain ⟨h1, h2⟩ := e0.bs b o e
    refine ⟨h1, ?_⟩
    cases q : cs.lookup b with
    | none => rw [thw_none q]; exact h2
    | some ob => exact thw_some q
  · cases q : cs.lookup b with
    | none => rw [thw_none q]; exact e0.frf b hb
    | some ob => exact thw_some q
  · cases q : cs.lookup b with
    | some ob => rw [thw_some q] at e; cases e
    | none =>
      rw [thw_none q] at e
      refine (e0.hok b u e).stay (fun _ _ _ z => z) (fun d z => ?_) fun d xs z => ?_
      · exact (thw_none (csAt_none c z fun o => by intro z; cases z)).trans z
      · exact (thw_none (csAt_none c z fun o => by intro z; cases z)).trans z
/-- behind a callee to which the cells were told -/
theorem ce_thw {Q : VK} {u : Value} {s' : Shared} (c : CsIn cs s.heap H) (nf : ∀ a o, cs.lookup a = some o → a ∉ frs outer) (h : CE outer P w (frzC cs H) s (fun v H' => Q v (thwC cs H')) u s') : CE outer P w H s Q u s' := by
  obtain ⟨v, H', os, bare, un, hok, r, q⟩ := h
  have atc : ∀ a o, cs.lookup a = some o → H' a = some (.frz o anyO) := fun a o e => un.frzs a o anyO (frz_some e)
  refine ⟨v, thwC cs H', os, bare, ⟨fun b o e n hb hx => ?_, fun b o e n hb hx => ?_, fun b o e n hx => ?_, fun b o e hx => un.there b o e hx, fun b xs e => ?_, fun b o x e => ?_, fun b ps e => ?_⟩, fun b x e => ?_, r, q⟩
  · cases z : cs.lookup b with
    | some ob =>
      have e2 := (c b ob z).2
      rw [e] at e2
      cases e2
      exact (hok b _ (atc b o z)).1
    | none => exact un.keep b o e ((frz_none z).trans n) hb hx
  · cases z : cs.lookup b with
    | some ob => exact absurd hb (nf b ob z)
    | none => exact un.slot b o e ((frz_none z).trans n) hb hx
  · cases z : cs.lookup b with
    | some ob => exact thw_some z
    | none => rw [thw_none z]; exact un.free b o e ((frz_none z).trans n) hx
  · have z := csIn_none c e
    rw [thw_none z]
    exact un.tups b xs ((frz_none z).trans e)
  · have z := csIn_none c e
    rw [thw_none z]
    exact un.frzs b o x ((frz_none z).trans e)
  · have z := csIn_none c e
    obtain ⟨m, e2⟩ := un.tbls b ps ((frz_none z).trans e)
    exact ⟨m, (thw_none z).trans e2⟩
  · cases z : cs.lookup b with
    | some ob => rw [thw_some z] at e; cases e
    | none =>
      rw [thw_none z] at e
      have ca : CsAt cs H' := atc
      refine (hok b x e).stay (fun _ _ _ k => k) (fun d k => ?_) fun d xs k => ?_
      · exact (thw_none (csAt_none ca k fun o => by intro y; cases y)).trans k
      · exact (thw_none (csAt_none ca k fun o => by intro y; cases y)).trans k
/-- behind a function's body in which the cells were its own -/
theorem ce_frz {Q : VK} {u : Value} {s' : Shared} (e0 : Env0 P w K mg base A outer s H) (c : CsAt cs H) (h : CE outer P w (thwC cs H) s (fun v H' => Q v (frzC cs H')) u s') : CE outer P w H s Q u s' := by
  obtain ⟨v, H', os, bare, un, hok, r, q⟩ := h
  have nn : ∀ {b : Addr}, H b = none → cs.lookup b = none := fun {b} n => by
    cases z : cs.lookup b with
    | none => rfl
    | some o => rw [c b o z] at n; cases n
  have nf : ∀ a o, cs.lookup a = some o → a ∉ frs outer := fun a o z hb => by
    have := e0.frf a hb
    rw [c a o z] at this; cases this
  have st : ∀ a o, cs.lookup a = some o → s'.heap.get? a = some o := fun a o z => by
    have e := (e0.hok a _ (c a o z)).1
    exact un.keep a o e (thw_some z) (nf a o z) (by simp)
  have fn : ∀ a o, cs.lookup a = some o → H' a = none := fun a o z => by
    have e := (e0.hok a _ (c a o z)).1
    exact un.free a o e (thw_some z) (by simp)
  refine ⟨v, frzC cs H', os, bare, ⟨fun b o e n hb hx => un.keep b o e ((thw_none (nn n)).trans n) hb hx, fun b o e n hb hx => un.slot b o e ((thw_none (nn n)).trans n) hb hx, fun b o e n hx => ?_, fun b o e hx => un.there b o e hx, fun b xs e => ?_, fun b o x e => ?_, fun b ps e => ?_⟩, fun b x e => ?_, r, q⟩
  · rw [frz_none (nn n)]
    exact un.free b o e ((thw_none (nn n)).trans n) hx
  · have z := csAt_none c e fun o => by intro y; cases y
    rw [frz_none z]
    exact un.tups b xs ((thw_none z).trans e)
  · cases z : cs.lookup b with
    | some ob =>
      rw [c b ob z] at e
      cases e
      exact frz_some z
    | none =>
      rw [frz_none z]
      exact un.frzs b o x ((thw_none z).trans e)
  · have z := csAt_none c e fun o => by intro y; cases y
    obtain ⟨m, e2⟩ := un.tbls b ps ((thw_none z).trans e)
    exact ⟨m, (frz_none z).trans e2⟩
  · cases z : cs.lookup b with
    | some ob =>
      rw [frz_some z] at e
      cases e
      exact any_ok (st b ob z)
    | none =>
      rw [frz_none z] at e
      have ca : ∀ {d : Addr} {y : HO}, H' d = some y → cs.lookup d = none := fun {d y} k => by
        cases z2 : cs.lookup d with
        | none => rfl
        | some o => rw [fn d o z2] at k; cases k
      exact (hok b x e).stay (fun _ _ _ k => k) (fun d k => (frz_none (ca k)).trans k) fun d xs k => (frz_none (ca k)).trans k
end
/-! ### what may be called -/
/-- the function at f may be called wherever G holds, and keeps the promise sp -/
structure LOk (P : Program) (w : World) (K : PySem.W.Frag) (mg : Str → Option Value) (base : Heap) (CX : CXT) (k : Nat) (f : Addr) (G : Hp → Prop) (sp : Sp) : Prop where
  fn : ∀ H h, HOk P w H h → G H → PySem.W.FnAt f h
  run : ∀ (A : Around) (outer : List Env) (s : Shared) (H : Hp) (us : List Value) (vs : List V) (Q : VK) (E : XK), Room k A → Env0 P w K mg base A outer s H → G H → Vals vs us → sp vs H Q E →
    codeAny (model P w) A (.call (.ref f) ⟨us, []⟩) (CR CX outer P w H s Q E) s
/-- x(e): x a local name that holds such a function -/
def tCallV (P : Program) (w : World) (K : PySem.W.Frag) (mg : Str → Option Value) (base : Heap) (CX : CXT) (k i : Nat) (E : XK) (t : TA) : TE := fun σ H Q => ∃ (f : Addr) (G : Hp → Prop) (sp : Sp), σ[i]? = some (some (.ref f)) ∧ LOk P w K mg base CX k f G sp ∧ G H ∧
  t σ H fun vs H1 => G H1 ∧ sp vs H1 Q E
section
variable {X : Cx} {CX : CXT} {i k : Nat} {x : Str} {E : XK} {t : TA} {e : Expr} {es : List Expr} {p pos : Pos}
theorem pe_callV (hr : Room k X.A) (hx : Passes CX X E) (hN : X.N[i]? = some x) (hv : Vis X.env.scope x) (ha : PA X (e :: es) t)
    (hd : (x == ("__debug__" : Str)) = false := by decide) (hcd : (x == ("__classdict__" : Str)) = false := by decide)
    (he : starEach (e :: es) X.env = (false, eval e X.env) :: starEach es X.env := by rfl) (hpl : (backTo pos (starEach es X.env)).any (·.1) = false := by rfl) :
    PE X (.Call (.Name x p) (e :: es) [] pos) (tCallV X.prog X.w X.K X.mg X.base CX k i E t) := by
  refine ⟨fun pins s σ H Q I h => ?_⟩
  obtain ⟨f, G, sp, hs, L, g0, ht⟩ := h
  refine wpAny_Call_Name_kw (thn ((pe_var (pos := p) hN hv hd hcd).run pins s σ H (fun v H1 => v = .ref f ∧ H1 = H) I ⟨.ref f, hs, rfl, rfl⟩) fun u s1 ⟨v, H1, I1, r1, q1⟩ => ?_)
  obtain ⟨ev, eH⟩ := q1
  subst ev
  rw [eH] at I1
  obtain rfl : u = Value.ref f := r1
  refine PySem.W.callWith_F (first := []) (L.fn _ _ I1.hok g0) (thn (ha.run pos pins s1 σ H _ I1 ht) fun us s2 ⟨vs, H2, I2, r, h1, q⟩ => ⟨L.fn _ _ I2.hok h1, ?_⟩) he hpl
  show wpAny _ _ (call (.ref f) us) _ _ _
  refine wpAny_call (codeAny_mono (L.run X.A X.stack s2 H2 us vs Q E hr I2.env0 h1 r q) fun r s' hq => ?_)
  cases r with
  | error e => exact hx pins σ H2 s2 e s' I2 hq
  | ok fl =>
    cases fl with
    | ret u => exact I2.after hq
    | next => exact False.elim hq
    | brk => exact False.elim hq
    | cont => exact False.elim hq
end
open NdefX LamX
/-- a nested function with its cells told of -/
def GN (f : Addr) (F : NF) (cs : Cs) (H : Hp) : Prop := H f = some (FnO f F) ∧ H F.c = some (CodeO F.c F.qual) ∧ CsAt cs H
/-- how the function's cells lie in cs -/
structure CsFn (cl : List (Str × Addr)) (fr : List Str) (ws : List (Option V)) (cs : Cs) : Prop where
  len : ws.length = fr.length
  all : ∀ y c, cl.lookup y = some c → ∃ o v, cs.lookup c = some o ∧ o.data = .cell v
  inj : ∀ x y c, cl.lookup x = some c → cl.lookup y = some c → x = y
  has : ∀ (i : Nat) (y : Str), fr[i]? = some y → ∃ c, cl.lookup y = some c ∧ ∀ v, ws[i]? = some (some v) → ∃ u o, L2.RelV v u ∧ cs.lookup c = some o ∧ o.data = .cell (some u)
section
variable {P : Program} {w : World} {K : PySem.W.Frag} {mg : Str → Option Value} {base : Heap} {k : Nat} {f : Addr} {F : NF} {ps fr : List Str} {sp : List (Option V) → Sp} {cs : Cs} {ws : List (Option V)}
theorem fnO_nf {f : Addr} {F : NF} (o : Obj) : FnO f F ≠ .frz o anyO := fun z => by unfold FnO at z; cases z
theorem codeO_nf {c : Addr} {q : Str} (o : Obj) : CodeO c q ≠ .frz o anyO := fun z => by unfold CodeO at z; cases z
theorem lok_of (Fn : NOk P w K mg base L2.CX0 k f F ps fr sp) (C : CsFn F.cl fr ws cs) :
    LOk P w K mg base L2.CX0 k f (GN f F cs) (fun vs H Q E => sp ws vs (thwC cs H) (fun v H' => Q v (frzC cs H')) E) := by
  refine ⟨fun H h hok g => ?_, fun A outer s H us vs Q E hr e0 g r hsp => ?_⟩
  · obtain ⟨od, sl, doc, pm, ctv, ho⟩ := fnO_at hok g.1
    exact ⟨_, od, _, sl, ho⟩
  obtain ⟨g1, g2, g3⟩ := g
  have e1 := env_thw e0 g3
  refine codeAny_mono (Fn.run A outer s (thwC cs H) us vs ws (fun v H' => Q v (frzC cs H')) E hr e1 ((thw_none (csAt_none g3 g1 fnO_nf)).trans g1) ((thw_none (csAt_none g3 g2 codeO_nf)).trans g2) ?_ r hsp) fun r s' hq => ?_
  · refine ⟨C.len, fun y c e => ?_, C.inj, fun i y e => ?_⟩
    · obtain ⟨o, v, h1, h2⟩ := C.all y c e
      exact ⟨thw_some h1, v, o, (e0.hok c _ (g3 c o h1)).1, h2⟩
    · obtain ⟨c, h1, h2⟩ := C.has i y e
      refine ⟨c, h1, fun v hv => ?_⟩
      obtain ⟨u, o, h3, h4, h5⟩ := h2 v hv
      exact ⟨u, h3, o, (e0.hok c _ (g3 c o h4)).1, h5⟩
  · cases r with
    | error e => exact hq
    | ok fl =>
      cases fl with
      | ret u => exact ce_frz e0 g3 hq
      | next => exact hq
      | brk => exact hq
      | cont => exact hq
end
end KL
namespace KD
open PySem PySem.Spec PyProof.Rows L2
/-! dicts whose keys are tuples of ints and texts: dict(d) of one with at most one key, {t: v}, == of alike ones, for v in d.values() -/
section
variable {prog : Program} {w : World} {K : Type} [DecidableEq K] {knd : HeapKind prog w K} {A : Around} {E : Value → Shared → Prop} {s : Shared}
theorem call_dictH {o : Addr} {more : List (K × Addr × Value)} {Q : Value → Shared → Prop} (hu : knd.room A.in1.in1) (hoS : (o == sysModules) = false) (ho : s.heap.DictOfH knd o more) (hsz : more.length ≤ sizeLine)
    (hk : ∀ x ∈ more, knd.is (s.heap.push { cls := .type "dict", data := .dict #[] }) x.1 x.2.1)
    (hty : ∀ x ∈ more, s.TypeIs (.ref x.2.1) "tuple") (hap : (more.map fun x => knd.hash x.1).Nodup)
    (h : ∀ h', h'.DictOfH knd s.heap.objs.size more → Heap.SameBut s.heap.objs.size (s.heap.push { cls := .type "dict", data := .dict #[] }) h' → Q (.ref s.heap.objs.size) { s with heap := h' }) :
    wpAny (model prog w) A (call (.type "dict") [.ref o]) Q E s := by
  refine callType_codes (Q₁ := fun obj s₁ => obj = .ref s.heap.objs.size ∧ s₁ = { s with heap := s.heap.push { cls := .type "dict", data := .dict #[] } }) F.kt_called_dict (F.kt_typeCall_dict_1 _) F.entry_dict_init (kt_code_dict_new _ ⟨rfl, rfl⟩) ?_
  rintro obj s₁ ⟨rfl, rfl⟩
  have hnew : (s.heap.push { cls := .type "dict", data := .dict #[] }).DictOfH knd s.heap.objs.size [] := Heap.DictOfH.new s.heap
  have ho' : (s.heap.push { cls := .type "dict", data := .dict #[] }).DictOfH knd o more := ho.at' (fun _ e => Heap.get?_push_of_some _ e) hk
  have hn : (more.map (·.1)).Nodup := ho.nodup
  have hdo : s.heap.objs.size ≠ o := fun e => absurd ho.lt_size (by rw [e]; exact Nat.lt_irrefl _)
  refine ⟨hnew.typeIs, F.args_dict_init_2 _ _, ?_⟩
  unfold Builtin.«dict.__init__»
  refine wpAny_bind ?_
  unfold Builtin.Dict.selfAndRest
  refine wpAny_bind (wpAny_notOrdered_dict hnew.typeIs ?_)
  show wpAny _ _ (pure (s.heap.objs.size, [Value.ref o])) _ _ _
  refine wpAny_pure ?_
  show wpAny _ _ (Builtin.Dict.updateFrom "dict.__init__" s.heap.objs.size (.ref o) [] .none) _ _ _
  unfold Builtin.Dict.updateFrom
  refine wpAny_bind (wpAny_typeOf ho'.typeIs ?_)
  rw [if_neg (by decide)]
  refine wpAny_bind ?_
  unfold Builtin.Dict.merge
  refine wpAny_bind ?_
  unfold Builtin.Dict.readDirectly
  refine wpAny_bind (wpAny_isInstance ho'.typeIs isSubtype_dict_dict ?_)
  simp only [Bool.not_true, Bool.false_eq_true, if_false]
  refine wpAny_bind (wpAny_specialOf ho'.typeIs F.slot_dict_iter.lookup (wpAny_pure ?_))
  simp only [beq_self_eq_true, if_true]
  refine wpAny_bind (wpAny_pure ?_)
  have hty' : ∀ x ∈ more, Shared.TypeIs { s with heap := s.heap.push { cls := .type "dict", data := .dict #[] } } (.ref x.2.1) "tuple" := fun x hx => by
    obtain ⟨ob, e1, e2⟩ := hty x hx
    exact ⟨ob, Heap.get?_push_of_some _ e1, e2⟩
  refine wpAny_mergeDict_heap (hsz := by simpa using hsz) hu hdo hoS hnew ho' (.inr ⟨hty', hap⟩) fun h' hd' _ hs' => ?_
  show wpAny _ _ (Builtin.Dict.addKeywords s.heap.objs.size [] >>= _) _ _ _
  rw [storedAllH_nil_of_nodup more hn] at hd'
  exact wpAny_bind (wpAny_pure (wpAny_pure ⟨rfl, h h' hd' hs'⟩))
/-- == of two dicts with the same keys, the values alike -/
theorem samePairsH {nm : String} {a b : Addr} {ka kb : List (K × Addr × Value)} {Q : Bool → Shared → Prop} (hu : knd.room A) (ha : (a == sysModules) = false) (hb : (b == sysModules) = false)
    (da : s.heap.DictOfH knd a ka) (db : s.heap.DictOfH knd b kb) (hl : ka.length = kb.length) (hits : ∀ x ∈ ka, ∃ p, (∃ j : Nat, kb[j]? = some (x.1, p)) ∧ SeqAt.EqAt A s x.2.2 p.2 true) (h : Q true s) :
    wpAny (model prog w) A (Builtin.Dict.samePairs nm a b) Q E s := by
  obtain ⟨oa, es, ep, hoa, _, hda, hea, hisa, hna⟩ := da
  obtain ⟨ob, es', ep', hob, _, hdb, heb, hisb, hnb⟩ := db
  have hla : es.size = ka.length := size_of_entries hea
  have hlb : es'.size = kb.length := size_of_entries heb
  unfold Builtin.Dict.samePairs Builtin.Dict.showsAll
  rw [if_neg (show ¬ (a == sysModules) = true by rw [ha]; exact Bool.false_ne_true), if_neg (show ¬ (b == sysModules) = true by rw [hb]; exact Bool.false_ne_true)]
  refine wpAny_bind (wpAny_pure (wpAny_bind (wpAny_pure ?_)))
  refine wpAny_bind (wpAny_dictEntries hoa hda ?_)
  dsimp only
  refine wpAny_bind (wpAny_dictEntries hob hdb ?_)
  have hsz : es.size = es'.size := by omega
  rw [if_neg (by rw [hsz]; simp)]
  refine wpAny_bind (wpAny_dictEpoch hoa hda ?_)
  refine wpAny_bind ?_
  rw [Std.Legacy.Range.forIn_eq_forIn_range']
  simp only [Std.Legacy.Range.size, Nat.sub_zero, Nat.add_sub_cancel, Nat.div_one]
  refine wpAny_forIn_list _
    (fun rest q s' => s' = s ∧ q = (none, ()) ∧ ∃ i, rest = List.range' i (es.size - i) ∧ i ≤ es.size)
    _ ?_ ?_ _ _ ⟨rfl, rfl, 0, by simp, Nat.zero_le _⟩
  · rintro x rest q s' ⟨rfl, rfl, i, hr, hi⟩
    have hlt : i < es.size := by
      rcases Nat.lt_or_ge i es.size with h | h
      · exact h
      · rw [Nat.sub_eq_zero_of_le h] at hr; simp at hr
    obtain ⟨rfl, hrest⟩ : x = i ∧ rest = List.range' (i + 1) (es.size - (i + 1)) := by
      have e : es.size - i = (es.size - (i + 1)) + 1 := by omega
      rw [e, List.range'_succ] at hr
      injection hr with h1 h2
      exact ⟨h1, h2⟩
    refine wpAny_bind (wpAny_dictEntries hoa hda ?_)
    obtain ⟨⟨k, qa, v⟩, hkv⟩ : ∃ kv, ka[x]? = some kv := ⟨ka[x]'(by omega), List.getElem?_eq_getElem _⟩
    rw [entry_at hea x, hkv]
    show wpAny _ _ (holding [.ref qa, v] _ >>= _) _ _ _
    obtain ⟨⟨pb, vb⟩, ⟨j, hj⟩, heq⟩ := hits _ (List.mem_of_getElem? hkv)
    refine wpAny_bind (wpAny_holding (wpAny_bind (wpAny_dictFind_heap hu (hisa _ (List.mem_of_getElem? hkv)) hob hdb heb hisb hnb (fun no => absurd hj (no j (pb, vb))) fun j' p' hj' => ?_)))
    obtain rfl := idxH_unique hnb hj hj'
    rw [hj] at hj'
    cases hj'
    refine wpAny_bind (wpAny_dictEntries hob hdb ?_)
    rw [entry_at heb j, hj]
    refine wpAny_holding (heq prog w _ _ ?_)
    show wpAny _ _ (if (!true) = true then _ else _) _ _ _
    rw [if_neg (by decide)]
    refine wpAny_bind (wpAny_dictEpoch hoa hda ?_)
    rw [if_neg (by simp)]
    exact wpAny_pure ⟨rfl, rfl, x + 1, hrest, hlt⟩
  · rintro q s' ⟨rfl, rfl, i, hr, hi⟩
    exact wpAny_pure h
theorem neH {a b : Addr} {ka kb : List (K × Addr × Value)} {Q : Value → Shared → Prop} (hr : knd.room A.in1) (ha : (a == sysModules) = false) (hb : (b == sysModules) = false)
    (da : s.heap.DictOfH knd a ka) (db : s.heap.DictOfH knd b kb) (hu : A.units < cLine) (hl : ka.length = kb.length) (hits : ∀ x ∈ ka, ∃ p, (∃ j : Nat, kb[j]? = some (x.1, p)) ∧ SeqAt.EqAt A.in1 s x.2.2 p.2 true) (h : Q (.bool false) s) :
    wpAny (model prog w) A (compareOp .NotEq (.ref a) (.ref b)) Q E s := by
  refine wpAny_richCompare_same_room (op := .NotEq) da.typeIs db.typeIs PySem.F.slot_dict_ne (wpAny_call_entry PySem.F.slot_dict_ne da.typeIs PySem.F.entry_dict_ne ?_ (PySem.F.args_dict_ne_2 _ _)) hu
  show wpAny _ _ (Builtin.Dict.dictSlotArgs "__ne__" ⟨[.ref a, .ref b], []⟩ >>= _) _ _ s
  refine wpAny_bind ?_
  unfold Builtin.Dict.dictSlotArgs
  refine wpAny_bind (wpAny_notOrdered_dict da.typeIs ?_)
  show wpAny _ _ (pure (Value.ref a, Value.ref b)) _ _ s
  refine wpAny_pure ?_
  refine wpAny_bind (wpAny_isInstance (T := "dict") db.typeIs PySem.F.sub_dict_dict ?_)
  simp only [Bool.not_true, Bool.false_eq_true, if_false]
  refine wpAny_bind (wpAny_pure (wpAny_bind (wpAny_pure ?_)))
  refine wpAny_bind (samePairsH hr ha hb da db hl hits ?_)
  refine wpAny_pure ⟨_, rfl, ?_, ?_⟩
  · exact fun x => nomatch x
  · exact h
end
/-! ### as rules -/
section
variable {X : Cx}
theorem tup_type {H : Hp} {P : Program} {w : World} {s : Shared} {a : Addr} {xs : List V} (ok : HOk P w H s.heap) (e : H a = some (.tup xs)) : s.TypeIs (.ref a) "tuple" := by
  obtain ⟨_, its, r, o, h1, h2, n⟩ := (show ObjOk P w H s.heap a (.tup xs) from ok a _ e)
  exact ⟨o, h1, h2⟩
theorem paired_mem {α β : Type} {G : α → β → Prop} : ∀ {l₁ : List α} {l₂ : List β}, Paired G l₁ l₂ → ∀ b ∈ l₂, ∃ a ∈ l₁, G a b
  | _, _, .nil, _, h => by cases h
  | _, _, .cons r t, b, h => by
    rcases List.mem_cons.mp h with e | h
    · rw [e]; exact ⟨_, List.mem_cons_self, r⟩
    · obtain ⟨a, ha, g⟩ := paired_mem t b h
      exact ⟨a, List.mem_cons_of_mem _ ha, g⟩
theorem nodup_le1 {α : Type} : ∀ {l : List α}, l.length ≤ 1 → l.Nodup
  | [], _ => List.nodup_nil
  | [x], _ => List.nodup_cons.mpr ⟨List.not_mem_nil, List.nodup_nil⟩
  | _ :: _ :: _, h => absurd h (by simp)
theorem call_dictT (hu : X.A.units + 64 < cLine) : CallR X (.type "dict") (fun xs H Q => ∃ (a : Addr) (kvs : List (List L2.Key × V)), xs = [.ref a] ∧ Rd H a (.dT kvs) ∧ kvs.length ≤ 1 ∧ ∀ p, H p = none → Q (.ref p) (upd H p (.dT kvs))) := by
  intro pins s σ H xs us Q I r h
  obtain ⟨a, kvs, rfl, ea, h1, q⟩ := h
  obtain ⟨u, rfl, rx⟩ := r.one
  cases rx
  obtain ⟨z, hd, ws, rel, dd⟩ := dt_rd I.hok ea
  have hl : ws.length ≤ 1 := by have := Paired.length rel; omega
  have hk : ∀ x ∈ ws, H x.2.1 = some (.tup (x.1.map kV)) := fun x hx => by
    obtain ⟨y, _, g⟩ := paired_mem rel x hx
    rw [← g.1]; exact g.2.1
  have I1 : Inv X pins σ H { s with heap := s.heap.push { cls := .type "dict", data := .dict #[] } } := I.kept (t' := s.toks) fun b ob q => Heap.get?_push_of_some _ q
  refine call_dictH (show X.A.units + 1 + 1 < cLine by omega) hd dd (by have := Paired.length rel; omega) (fun x hx => key_of I1.hok (hk x hx)) (fun x hx => tup_type I.hok (hk x hx)) ?_ fun h' dd' hs => ?_
  · exact nodup_le1 (by rw [List.length_map]; exact hl)
  obtain ⟨o, es, ep, g1, g2, g3, g4, _, g5⟩ := dd'
  refine ⟨.ref s.heap.objs.size, _, I.laid (a := s.heap.objs.size) (o := .dT kvs) (t' := s.toks) (fun b q hq => ?_) (Nat.le_refl _) ⟨z, beq_eq_false_iff_ne.mpr (Ne.symm (Nat.ne_of_lt I.big)), ws, rel.keeps fun c ys ec => ?_, o, es, ep, g1, g2, g3, g4, g5⟩, rfl, q _ (I.hok.fresh (Nat.le_refl _))⟩
  · exact (hs.2 b (Nat.ne_of_lt (Heap.lt_size hq))).trans (Heap.get?_push_of_some _ hq)
  · rw [upd_ne (ne_of_none ec (I.hok.fresh (Nat.le_refl _)))]
    exact ec
/-- x != y, dicts of one key each, the same one, with the same int or truth -/
theorem op_neDT (hu : X.A.units + 64 < cLine) : OpR X (compareOp .NotEq) (fun x y H Q => ∃ (a b : Addr) (k : List L2.Key) (v : V), x = .ref a ∧ y = .ref b ∧ H a = some (.dT [(k, v)]) ∧ H b = some (.dT [(k, v)]) ∧ flatB v = true ∧ Q (.bl false) H) := by
  intro pins s σ H x y v u Q I rx ry h
  obtain ⟨a, b, k, vv, rfl, rfl, ea, eb, fl, q⟩ := h
  obtain rfl : v = Value.ref a := rx
  obtain rfl : u = Value.ref b := ry
  obtain ⟨_, ya, ka, ra, da⟩ := dt_of I.hok ea
  obtain ⟨_, yb, kb, rb, db⟩ := dt_of I.hok eb
  refine neH (tupleKind_room_in1 (by omega)) ya yb da db (by omega) ((Paired.length ra).symm.trans (Paired.length rb)) (fun x hx => ?_) ⟨.bl false, H, I, rfl, q⟩
  cases ra with
  | @cons p pa ps qs ga ta =>
  cases ta
  cases rb with
  | @cons p' pb ps' qs' gb tb =>
  cases tb
  rw [List.mem_singleton.mp hx]
  obtain ⟨pk, pq⟩ := pb
  refine ⟨pq, ⟨0, ?_⟩, eqAt_same ga.2.2 gb.2.2 fl⟩
  show some (pk, pq) = some (pa.1, pq)
  have e1 : k = pa.1 := ga.1
  have e2 : k = pk := gb.1
  rw [← e1, ← e2]
end
/-! ### {t: v} -/
section
variable {prog : Program} {w : World} {K : Type} [DecidableEq K] {knd : HeapKind prog w K} {A : Around} {E : Value → Shared → Prop} {s : Shared}
theorem dict_pairsH {env : Env} {keys : List (Option Expr)} {values : List Expr} {pos : Pos} {pairs : List (Sem Value × Sem Value)} {Q : Value → Shared → Prop} (hu : knd.room A)
    (hshape : (evalEachOpt keys env).zip ((evalEach values env).map fun v => do let x ← v; standAt pos; pure x) = pairs.map fun p => (some p.1, p.2)) (h0 : pairs ≠ []) (hlen : pairs.length ≤ 15)
    (h : wpAny (model prog w) A (evalPairs pairs) (fun vs s₁ => ∃ ps, CarriesH knd s₁.heap vs ps ∧ s₁.heap.DictOfH knd s.heap.objs.size [] ∧
      ∀ h' tk, h'.DictOfH knd s.heap.objs.size (storedAllH [] ps) → Heap.SameBut s.heap.objs.size s₁.heap h' → Q (.ref s.heap.objs.size) { s₁ with heap := h', toks := tk }) E
      { s with heap := s.heap.push { cls := .type "dict", data := .dict #[] } }) :
    wpAny (model prog w) A (eval (.Dict keys values pos) env) Q E s := by
  rw [arm_eval_Dict, hshape, dictDisplay_pairs pairs h0 (by omega)]
  exact wpAny_bind (wpAny_standAt (wpAny_bind (wpAny_subDictH (knd := knd) (Q := fun d s' => wpAny (model prog w) A (pure (Value.ref d)) Q E s') hu hlen
    (wpAny_mono h (fun vs s₁ h₁ => by obtain ⟨ps, hc, hm, hq⟩ := h₁; exact ⟨ps, hc, hm, fun h' tk a b => wpAny_pure (hq h' tk a b)⟩) fun _ _ e => e))))
end
section
variable {X : Cx} {pos : Pos}
/-- {k: v}, k a tuple of ints and texts; the new dict stands empty while the pair is made -/
def tDisp1T (tk tv : TE) : TE := fun σ H Q => ∀ p, H p = none → tPairs [(tk, tv)] σ (upd H p (.dT [])) fun ps H2 => H2 p = some (.dT []) ∧ ∃ (b : Addr) (k : List L2.Key) (v : V), ps = [(.ref b, v)] ∧ H2 b = some (.tup (k.map kV)) ∧ Q (.ref p) (upd H2 p (.dT [(k, v)]))
theorem pe_disp1T (hu : X.A.units + 64 < cLine) {keys : List (Option Expr)} {values : List Expr} {tk tv : TE} (h : PPs X pos keys values [(tk, tv)]) (hall : keys.all (·.isSome) = true) (hl : keys.length = values.length) (h1 : keys.length = 1) : PE X (.Dict keys values pos) (tDisp1T tk tv) := by
  refine ⟨fun pins s σ H Q I q => ?_⟩
  have hn := I.hok.fresh (Nat.le_refl s.heap.objs.size)
  have I1 := I.laid (a := s.heap.objs.size) (o := .dT []) (h' := s.heap.push { cls := .type "dict", data := .dict #[] }) (t' := s.toks) (fun _ _ q => Heap.get?_push_of_some _ q) (Nat.le_refl _) (dt_empty s.heap I.big)
  have hln := pairTrees_length keys values X.env pos hall hl
  refine dict_pairsH (knd := tupleKind (mixKind X.prog X.w)) (show X.A.units < cLine by omega) (zip_pairTrees keys values X.env pos hall hl) (fun e => by rw [e, h1] at hln; cases hln) (by rw [hln, h1]; decide) (thn (h.run pins _ σ _ _ I1 (q _ hn)) fun ws s2 ⟨ps, H2, I2, rel, e, b, k, v, ep, eb, q2⟩ => ?_)
  subst ep
  cases rel with
  | @cons p0 pr as bs g t =>
  cases t
  obtain ⟨p1, p2⟩ := pr
  obtain rfl : p1 = Value.ref b := g.1
  obtain ⟨z, hd, xs0, r0, dd⟩ := dt_of I2.hok e
  cases r0
  refine ⟨[(k, b, p2)], ⟨rfl, rfl, key_of I2.hok eb, trivial⟩, dd, fun h' tk' dd' hs => ?_⟩
  have dd2 : h'.DictOfH (tupleKind (mixKind X.prog X.w)) s.heap.objs.size [(k, b, p2)] := dd'
  obtain ⟨o, es, epo, g1, g2, g3, g4, _, g5⟩ := dd2
  refine ⟨.ref s.heap.objs.size, _, ?_, rfl, q2⟩
  refine d_write I2 (by rw [e]; exact True.intro) hs ⟨o, g1⟩ ⟨by show 1 ≤ sizeLine; decide, hd, [(k, b, p2)], .cons ⟨rfl, ?_, g.2⟩ .nil, o, es, epo, g1, g2, g3, g4, g5⟩
  show upd H2 s.heap.objs.size _ b = _
  rw [upd_ne (ne_of eb e (fun z => nomatch z))]
  exact eb
end
/-! ### for v in d.values() -/
/-- the values of a locked dict whose keys are tuples -/
def ItvT (d : Addr) (o : Obj) (kvs : List (List L2.Key × V)) : It :=
  ⟨fun i H => H d = some (.frz o (.dT kvs)) ∧ i < kvs.length, fun i H x H' => H' = H ∧ ∃ k, kvs[i]? = some (k, x), fun i H => H d = some (.frz o (.dT kvs)) ∧ kvs.length ≤ i⟩
section
variable {X : Cx} {pins : List (Addr × Obj)} {σ : L2.St} {H : Hp} {s : Shared} {d : Addr} {o : Obj}
theorem frzTv {kvs : List (List L2.Key × V)} (I : Inv X pins σ H s) (h : H d = some (.frz o (.dT kvs))) :
    (d == sysModules) = false ∧ ∃ (es : Array DictEntry) (ep : Nat), s.heap.DictRaw d es ep ∧ o.data = .dict es ep ∧ es.size = kvs.length ∧
      ∀ (i : Nat) (k : List L2.Key) (v : V), kvs[i]? = some (k, v) → ∃ en : DictEntry, es[i]? = some en ∧ RelV v en.val := by
  obtain ⟨hd, z, hs, xs, pr, o', es, ep, ho, hx, hdt, he, _⟩ := I.hok d _ h
  rw [hd] at ho
  cases ho
  refine ⟨hs, es, ep, ⟨o, hd, hx, hdt⟩, hdt, ?_, fun i k v e => ?_⟩
  · have l1 : es.size = xs.length := size_of_entries he
    have l2 : kvs.length = xs.length := Paired.length pr
    omega
  · obtain ⟨b, hb, e1, e2, e3⟩ := paired_get pr e
    have q := entry_at he i
    rw [hb] at q
    exact ⟨_, q, e3⟩
end
section
variable {P : Program} {w : World} {K : PySem.W.Frag} {tg : Expr} {d : Addr} {o : Obj} {es : Array DictEntry} {ep : Nat}
theorem turn_valsT {kvs : List (List L2.Key × V)} (it : Addr) (hod : o.data = .dict es ep) : Turn P w K tg (ItvT d o kvs) [it] it (fun i h => h.IsValIter it d i kvs.length ep) where
  mem := by simp
  obj := fun i h st b hb => by
    have e : b = it := by simpa using hb
    subst e
    obtain ⟨oi, e, c, dd⟩ := st
    exact ⟨oi, e, fun v z => by rw [dd] at z; cases z⟩
  keep := fun i h h' st k => st.at fun oi e => k it (by simp) oi e
  item := by
    intro X hP hw hK hc i pins s σ H E I hf st hg
    subst hP hw hK
    obtain ⟨hd, hi⟩ := hg
    obtain ⟨f0, f1, f2, f3, f4, f5⟩ := hf it (by simp)
    obtain ⟨hs, es', ep', hm, hdt, hsz, ent⟩ := frzTv I hd
    obtain ⟨rfl, rfl⟩ := dict_ep hod hdt
    obtain ⟨⟨k, v⟩, hkv⟩ : ∃ p, kvs[i]? = some p := ⟨kvs[i], List.getElem?_eq_getElem hi⟩
    obtain ⟨en, hen, ru⟩ := ent i k v hkv
    have hi' : i < es'.size := by omega
    have een : es'[i] = en := by
      rw [Array.getElem?_eq_getElem hi'] at hen
      exact Option.some.inj hen
    rw [← hsz] at st
    refine wpAny_pyNext_values_item_raw st hm hi' fun h' st' sb => ?_
    have I1 : Inv X pins σ H { s with heap := h' } := I.turned (t' := s.toks) (fun b ob hb e => (sb.2 b hb).trans e) f0 f1 f3 f4 f5
    obtain ⟨oi, e, c, dd⟩ := id st'
    refine ⟨_, rfl, go_of (s := { s with heap := h' }) e c dd (by decide) ⟨v, H, I1, by rw [een]; exact ru, ⟨rfl, k, hkv⟩, ?_, fun b hb => (hf b hb).1⟩⟩
    show h'.IsValIter it d (i + 1) kvs.length _
    rw [← hsz]
    exact st'
  done := by
    intro X hP hw hK hc i pins s σ H E I hf st hg
    subst hP hw hK
    obtain ⟨hd, hi⟩ := hg
    obtain ⟨f0, f1, f2, f3, f4, f5⟩ := hf it (by simp)
    obtain ⟨hs, es', ep', hm, hdt, hsz, ent⟩ := frzTv I hd
    obtain ⟨rfl, rfl⟩ := dict_ep hod hdt
    rw [← hsz] at st
    exact wpAny_pyNext_values_end_raw (I.ok.hd hc) st hm (by omega) fun h' eb => ⟨rfl, I.turned (t' := s.toks) (fun b ob hb e => eb b ob hb e) f0 f1 f3 f4 f5⟩
  self := fun A i s Q E st h => wpAny_pyIter_valiter st h
end
def iValsT (td : TE) : TI := fun σ H R => td σ H fun x H1 => ∃ d o kvs, x = .ref d ∧ H1 d = some (.frz o (.dT kvs)) ∧ R (ItvT d o kvs) H1
section
variable {X : Cx} {tg e : Expr} {td : TE} {apos cpos : Pos}
theorem pi_valuesT (he : PE X e td) (hbase : attributeBase e "values" X.env (eval e X.env) = eval e X.env := by rfl) (hline : (apos.endLine == cpos.line) = true := by rfl) : PI X tg (.Call (.Attribute e "values" apos) [] [] cpos) (iValsT td) := by
  refine ⟨fun pins s σ H R I h => ?_⟩
  refine wpAny_Call_method (T := "dict") (id := "dict.values") hbase rfl hline F.plainAttrs_dict F.slot_dict_values F.type_dict_values (thn (he.run pins s σ H _ I h) fun u s1 ⟨x, H1, I1, rx, d, o, kvs, ex, hd, q⟩ => ?_)
  subst ex
  obtain rfl : u = Value.ref d := rx
  obtain ⟨hs, es, ep, hm, hdt, hsz, ent⟩ := frzTv I1 hd
  refine ⟨hm.typeIs, fun b eb => by cases eb; exact ⟨_, hm.choose_spec.1, hm.choose_spec.2.1.2.1⟩, ?_⟩
  have I2 : Inv X pins σ H1 { s1 with heap := s1.heap.push { cls := .type "dict_values", data := .fields #[.ref d] } } := I1.kept (t' := s1.toks) fun b ob q => Heap.get?_push_of_some _ q
  have fin : wpAny (model X.prog X.w) X.A (pyIter (.ref s1.heap.objs.size)) (PIE X pins σ tg R) X.xe { s1 with heap := s1.heap.push { cls := .type "dict_values", data := .fields #[.ref d] } } := by
    refine wpAny_pyIter_values_raw (d := d) ⟨_, Heap.get?_push_size _ rfl, rfl, rfl⟩ (hm.push _) (pi_one (tk := s1.toks) I2 _ (turn_valsT _ hdt) ⟨_, Heap.get?_push_size _ rfl, rfl, ?_⟩ q)
    rw [hsz] <;> rfl
  show wpAny _ _ (callWith cpos (.builtin "dict.values") [.ref d] [] []) _ X.xe s1
  exact method_meetsIn F.slot_dict_values F.entry_dict_values rfl (PySem.evalArgs_none ⟨rfl, hm.typeIs, F.args_dict_values_1 _, _, meets_dict_values_raw d hs, ⟨es, ep, hm⟩, fin⟩)
end
theorem walk_valuesT {d : Addr} {o : Obj} {kvs : List (List L2.Key × V)} : Walk (ItvT d o kvs) kvs.length (fun H => H d = some (.frz o (.dT kvs))) (fun i H x H' => H' = H ∧ ∃ k, kvs[i]? = some (k, x)) :=
  ⟨fun _ _ hi q => ⟨q, hi⟩, fun _ q => ⟨q, Nat.le_refl _⟩, fun _ _ _ _ _ _ y => y⟩
end KD
namespace ND
open PySem PySem.Spec PyProof.Rows L2
/-! dicts whose keys are tuples within tuples -/
mutual
/-- v is the key k, all its tuples told -/
inductive NK (H : Hp) : NestedKey → V → Prop
  | int (i : Int) : NK H (.num i) (.int i)
  | str (x : Str) : NK H (.text x) (.str x)
  | tup {a : Addr} {ks : List NestedKey} {vs : List V} : H a = some (.tup vs) → NKs H ks vs → NK H (.tup ks) (.ref a)
inductive NKs (H : Hp) : List NestedKey → List V → Prop
  | nil : NKs H [] []
  | cons {k : NestedKey} {ks : List NestedKey} {v : V} {vs : List V} : NK H k v → NKs H ks vs → NKs H (k :: ks) (v :: vs)
end
mutual
theorem NK.keep {H H' : Hp} (f : ∀ a vs, H a = some (.tup vs) → H' a = some (.tup vs)) : ∀ {k : NestedKey} {v : V}, NK H k v → NK H' k v
  | _, _, .int i => .int i
  | _, _, .str x => .str x
  | _, _, .tup e r => .tup (f _ _ e) (NKs.keep f r)
theorem NKs.keep {H H' : Hp} (f : ∀ a vs, H a = some (.tup vs) → H' a = some (.tup vs)) : ∀ {ks : List NestedKey} {vs : List V}, NKs H ks vs → NKs H' ks vs
  | _, _, .nil => .nil
  | _, _, .cons a b => .cons (NK.keep f a) (NKs.keep f b)
end
mutual
theorem nk_is {P : Program} {w : World} {H : Hp} {h : Heap} (ok : HOk P w H h) : ∀ {k : NestedKey} {v : V} {u : Value}, NK H k v → RelV v u → NestedIs h k u
  | _, _, u, .int i, r => by obtain ⟨t, rfl⟩ := r; exact .int i t
  | _, _, u, .str x, r => by obtain ⟨t, rfl⟩ := r; exact .text x t
  | _, _, u, .tup (a := a) (vs := vs) e rs, r => by
    obtain rfl : u = Value.ref a := r
    obtain ⟨_, its, rv, o, h1, h2, n, h3⟩ := (show ObjOk P w H h a (.tup vs) from ok a _ e)
    exact .tup h1 h2 h3 (by simpa using nks_is ok rs rv)
theorem nks_is {P : Program} {w : World} {H : Hp} {h : Heap} (ok : HOk P w H h) : ∀ {ks : List NestedKey} {vs : List V} {us : List Value}, NKs H ks vs → Vals vs us → NestedAll h ks us
  | _, _, _, .nil, .nil => .nil
  | _, _, _, .cons a b, .cons r rs => .cons (nk_is ok a r) (nks_is ok b rs)
end
section
variable (P : Program) (w : World)
/-- the dict at a has just the entries xs -/
def phi (a : Addr) (xs : List (NestedKey × Addr × Value)) : Heap → Prop := fun h => xs.length ≤ sizeLine ∧ ∃ o es ep, h.get? a = some o ∧ o.ExactDict ∧ o.data = .dict es ep ∧ es.toList = xs.map (entryOfKey (nestedKind P w)) ∧ (xs.map (·.1)).Nodup
def DN (a : Addr) (xs : List (NestedKey × Addr × Value)) : HO := .ext (phi P w a xs)
/-- the dict at a holds kvs -/
def NDict (H : Hp) (a : Addr) (kvs : List (NestedKey × V)) : Prop := ∃ xs, H a = some (DN P w a xs) ∧ (a == sysModules) = false ∧
  Paired (fun (p : NestedKey × V) (q : NestedKey × Addr × Value) => p.1 = q.1 ∧ (NK H p.1 (.ref q.2.1) ∧ p.1.depth ≤ 8) ∧ RelV p.2 q.2.2) kvs xs
end
theorem nd_val {H : Hp} (k : NestedKey) : ∀ {kvs : List (NestedKey × V)} {xs : List (NestedKey × Addr × Value)}, Paired (fun (p : NestedKey × V) (q : NestedKey × Addr × Value) => p.1 = q.1 ∧ (NK H p.1 (.ref q.2.1) ∧ p.1.depth ≤ 8) ∧ RelV p.2 q.2.2) kvs xs → RelO (valV kvs k) ((atKey xs k).map (·.2))
  | _, _, .nil => True.intro
  | p :: ps, q :: qs, .cons h t => by
    have ih := nd_val k t
    obtain ⟨q1, q2, q3⟩ := q
    have e1 : p.1 = q1 := h.1
    unfold atKey at ih ⊢
    rw [List.find?_cons]
    by_cases c : p.1 = k
    · rw [valV_pos c]
      simp only
      rw [decide_eq_true (by rw [← e1]; exact c)]
      exact h.2.2
    · rw [valV_neg c]
      simp only
      rw [decide_eq_false (fun z => c (by rw [e1]; exact z))]
      exact ih
theorem nd_at {P : Program} {w : World} {H : Hp} {h : Heap} {a : Addr} {kvs : List (NestedKey × V)} (ok : HOk P w H h) (D : NDict P w H a kvs) : (a == sysModules) = false ∧ ∃ xs, H a = some (DN P w a xs) ∧ xs.length ≤ sizeLine ∧
    Paired (fun (p : NestedKey × V) (q : NestedKey × Addr × Value) => p.1 = q.1 ∧ (NK H p.1 (.ref q.2.1) ∧ p.1.depth ≤ 8) ∧ RelV p.2 q.2.2) kvs xs ∧ h.DictOfH (nestedKind P w) a xs := by
  obtain ⟨xs, e, hs, r⟩ := D
  obtain ⟨⟨z, o, es, ep, h1, h2, h3, h4, h5⟩, _⟩ := (show ObjOk P w H h a (DN P w a xs) from ok a _ e)
  have all : ∀ {l : List (NestedKey × V)} {m : List (NestedKey × Addr × Value)}, Paired (fun (p : NestedKey × V) (q : NestedKey × Addr × Value) => p.1 = q.1 ∧ (NK H p.1 (.ref q.2.1) ∧ p.1.depth ≤ 8) ∧ RelV p.2 q.2.2) l m → ∀ x ∈ m, (nestedKind P w).is h x.1 x.2.1 := by
    intro l m q
    induction q with
    | nil => intro x hx; exact nomatch hx
    | @cons p q ps qs hq t ih =>
      intro x hx
      rcases List.mem_cons.mp hx with e | hx
      · subst e
        exact ⟨by rw [← hq.1]; exact nk_is ok hq.2.1.1 rfl, by rw [← hq.1]; exact hq.2.1.2⟩
      · exact ih x hx
  exact ⟨hs, xs, e, z, r, o, es, ep, h1, h2, h3, h4, all r, h5⟩
section
variable {X : Cx}
theorem op_inN (hu : X.A.units + 64 < cLine) : OpR X (compareOp .In) (fun x y H Q => ∃ (a d : Addr) (k : NestedKey) (kvs : List (NestedKey × V)), x = .ref a ∧ y = .ref d ∧ NK H k (.ref a) ∧ k.depth ≤ 8 ∧ NDict X.prog X.w H d kvs ∧ Q (.bl (valV kvs k).isSome) H) := by
  intro pins s σ H x y v u Q I rx ry h
  obtain ⟨a, d, k, kvs, rfl, rfl, nk, kd, D, q⟩ := h
  obtain rfl : v = Value.ref a := rx
  obtain rfl : u = Value.ref d := ry
  obtain ⟨hs, xs, e, z, r, dd⟩ := nd_at I.hok D
  refine wpAny_in_heap (knd := nestedKind X.prog X.w) (show X.A.units + 1 + 8 < cLine by omega) ⟨nk_is I.hok nk rfl, kd⟩ hs dd ⟨_, H, I.tok _, ?_, q⟩
  have hv := (nd_val k r).isSome_eq
  rw [Option.isSome_map] at hv
  rw [hv]; rfl
theorem op_notInN (hu : X.A.units + 64 < cLine) : OpR X (compareOp .NotIn) (fun x y H Q => ∃ (a d : Addr) (k : NestedKey) (kvs : List (NestedKey × V)), x = .ref a ∧ y = .ref d ∧ NK H k (.ref a) ∧ k.depth ≤ 8 ∧ NDict X.prog X.w H d kvs ∧ Q (.bl (!(valV kvs k).isSome)) H) := by
  intro pins s σ H x y v u Q I rx ry h
  obtain ⟨a, d, k, kvs, rfl, rfl, nk, kd, D, q⟩ := h
  obtain rfl : v = Value.ref a := rx
  obtain rfl : u = Value.ref d := ry
  obtain ⟨hs, xs, e, z, r, dd⟩ := nd_at I.hok D
  refine wpAny_notIn_heap (knd := nestedKind X.prog X.w) (show X.A.units + 1 + 8 < cLine by omega) ⟨nk_is I.hok nk rfl, kd⟩ hs dd ⟨_, H, I.tok _, ?_, q⟩
  have hv := (nd_val k r).isSome_eq
  rw [Option.isSome_map] at hv
  rw [hv]; rfl
end
/-! ### reading, putting, a new one -/
abbrev KN (H : Hp) : List (NestedKey × V) → List (NestedKey × Addr × Value) → Prop := Paired (fun (p : NestedKey × V) (q : NestedKey × Addr × Value) => p.1 = q.1 ∧ (NK H p.1 (.ref q.2.1) ∧ p.1.depth ≤ 8) ∧ RelV p.2 q.2.2)
theorem KN.keeps {H H' : Hp} {kvs : List (NestedKey × V)} {xs : List (NestedKey × Addr × Value)} (r : KN H kvs xs) (f : ∀ b ys, H b = some (.tup ys) → H' b = some (.tup ys)) : KN H' kvs xs :=
  Paired.mapP r fun _ _ z => ⟨z.1, ⟨z.2.1.1.keep f, z.2.1.2⟩, z.2.2⟩
theorem NDict.keep {P : Program} {w : World} {H H' : Hp} {a : Addr} {kvs : List (NestedKey × V)} (D : NDict P w H a kvs) (e : H' a = H a) (f : ∀ b ys, H b = some (.tup ys) → H' b = some (.tup ys)) : NDict P w H' a kvs := by
  obtain ⟨xs, h, hs, r⟩ := D
  exact ⟨xs, e.trans h, hs, KN.keeps r f⟩
theorem KN.repl {H : Hp} {kvs : List (NestedKey × V)} {xs : List (NestedKey × Addr × Value)} (r : KN H kvs xs) (k : NestedKey) {y : V} {u : Value} (ry : RelV y u) :
    KN H (kvs.map fun kv => if kv.1 = k then (kv.1, y) else kv) (xs.map (putAt k u)) := by
  induction r with
  | nil => exact .nil
  | @cons p q ps qs h t ih =>
    rw [List.map_cons, List.map_cons]
    refine .cons ?_ ih
    obtain ⟨h1, h2, h3⟩ := h
    unfold putAt
    by_cases e : p.1 = k
    · rw [if_pos e, if_pos (h1.symm.trans e)]; exact ⟨h1, h2, ry⟩
    · rw [if_neg e, if_neg (fun z => e (h1.trans z))]; exact ⟨h1, h2, h3⟩
theorem KN.put {H : Hp} {kvs : List (NestedKey × V)} {xs : List (NestedKey × Addr × Value)} (r : KN H kvs xs) (k : NestedKey) {b : Addr} {y : V} {u : Value} (hb : NK H k (.ref b)) (hd : k.depth ≤ 8) (ry : RelV y u) :
    KN H (putK kvs k y) (storedH xs k b u) := by
  have e : (kvs.any fun kv => decide (kv.1 = k)) = (atKey xs k).isSome := by
    rw [valV_any, (nd_val k r).isSome_eq, Option.isSome_map]
  unfold putK storedH
  rw [e]
  by_cases q : (atKey xs k).isSome = true
  · rw [if_pos q, if_pos q]; exact r.repl k ry
  · rw [if_neg q, if_neg q]; exact Paired.snoc r ⟨rfl, ⟨hb, hd⟩, ry⟩
theorem dn_ok {P : Program} {w : World} {H : Hp} {h : Heap} {a : Addr} {xs : List (NestedKey × Addr × Value)} (z : xs.length ≤ sizeLine) (dd : h.DictOfH (nestedKind P w) a xs) : ObjOk P w H h a (DN P w a xs) := by
  obtain ⟨o, es, ep, h1, h2, h3, h4, _, h5⟩ := dd
  exact ⟨⟨z, o, es, ep, h1, h2, h3, h4, h5⟩, ⟨o, h1⟩, fun g1 g2 ⟨z, o, es, ep, h1, h2, h3, h4, h5⟩ k => ⟨z, o, es, ep, k o h1, h2, h3, h4, h5⟩⟩
section
variable (P : Program) (w : World)
/-- d[y] -/
def tDGetN (td ty : TE) : TE := fun σ H Q => td σ H fun x H1 => ty σ H1 fun y H2 => ∃ (d a : Addr) (k : NestedKey) (kvs : List (NestedKey × V)) (v : V), x = .ref d ∧ y = .ref a ∧ NK H2 k (.ref a) ∧ k.depth ≤ 8 ∧ NDict P w H2 d kvs ∧ valV kvs k = some v ∧ Q v H2
/-- d[y] = v -/
def sDPutN (td ty tv : TE) : TS := fun D σ H => tv σ H fun v H1 => td σ H1 fun x H2 => ty σ H2 fun y H3 => ∃ (d a : Addr) (k : NestedKey) (kvs : List (NestedKey × V)), x = .ref d ∧ y = .ref a ∧ NK H3 k (.ref a) ∧ k.depth ≤ 8 ∧ NDict P w H3 d kvs ∧ kvs.length < sizeLine ∧
  ((∀ c q, H3 c = some (LamX.CodeO c q) → c ≠ d) → ∀ H4, (∃ φ, H4 = upd H3 d (.ext φ)) → (∀ b ys, H3 b = some (.tup ys) → H4 b = some (.tup ys)) → NDict P w H4 d (putK kvs k v) → D.nx σ H4)
/-- {}, to be a dict of this kind -/
def tDNewN : TE := fun _ H Q => ∀ p H', H p = none → (∃ φ, H' = upd H p (.ext φ)) → NDict P w H' p [] → Q (.ref p) H'
end
section
variable {X : Cx} {o i e value : Expr} {pos pos' tpos : Pos} {td ty tv : TE}
theorem pe_dgetN (hu : X.A.units + 64 < cLine) (ho : PE X o td) (hi : PE X i ty) (hs : NoSl i) : PE X (.Subscript o i pos) (tDGetN X.prog X.w td ty) := by
  refine ⟨fun pins s σ H Q I h => ?_⟩
  refine subD_of PySem.F.slot_dict_getitem.lookup hs (thn (ho.run pins s σ H _ I h) fun u s1 ⟨x, H1, I1, rx, q1⟩ => thn (hi.run pins s1 σ H1 _ I1 q1) fun iv s2 ⟨y, H2, I2, ry, d, a, k, kvs, v, ex, ey, nk, kd, D, hv, q2⟩ => ?_)
  subst ex; subst ey
  obtain rfl : u = Value.ref d := rx
  obtain rfl : iv = Value.ref a := ry
  obtain ⟨hs, xs, e, z, r, dd⟩ := nd_at I2.hok D
  have hv' := nd_val k r
  rw [hv] at hv'
  cases hp : atKey xs k with
  | none => rw [hp] at hv'; exact hv'.elim
  | some p =>
    rw [hp] at hv'
    exact ⟨dd.typeIs, wpAny_getItem_heap (knd := nestedKind X.prog X.w) (show X.A.units + 1 + 8 < cLine by omega) ⟨nk_is I2.hok nk rfl, kd⟩ dd hp ⟨v, H2, I2.tok _, hv', q2⟩⟩
theorem ps_dputN (hu : X.A.units + 64 < cLine) (ho : PE X o td) (hi : PE X i ty) (hv : PE X value tv) (hs : swapsWith value (some (.Subscript o i pos')) pos.line X.env = pure false) :
    PS X (.Assign [.Subscript o i pos'] value pos) (sDPutN X.prog X.w td ty tv) := by
  refine ⟨fun pins s σ H D I h => ?_⟩
  refine wpAny_Assign_Subscript (thn (hv.run pins s σ H _ I h) fun r s1 ⟨v, H1, I1, rv, q1⟩ => thn (ho.run pins s1 σ H1 _ I1 q1) fun u s2 ⟨x, H2, I2, rx, q2⟩ => thn (hi.run pins s2 σ H2 _ I2 q2) fun iv s3 ⟨y, H3, I3, ry, d, a, k, kvs, ex, ey, nk, kd, D, hl, q3⟩ => ?_) hs
  subst ex; subst ey
  obtain rfl : u = Value.ref d := rx
  obtain rfl : iv = Value.ref a := ry
  obtain ⟨hs, xs, e, z, r', dd⟩ := nd_at I3.hok D
  have hz : (storedH xs k a r).length ≤ sizeLine := by
    have h1 := Paired.length (KN.put r' k nk kd rv)
    have h2 := length_putK kvs k v
    omega
  have ncode : ∀ c q, H3 c = some (LamX.CodeO c q) → c ≠ d := fun c q ec z => by
    rw [z] at ec
    obtain ⟨⟨oc, vs, t, h1, h2, _⟩, _, _⟩ := I3.hok d _ ec
    obtain ⟨ob, es, ep, g1, _, g3, _⟩ := dd
    rw [h1] at g1
    cases g1
    rw [h2] at g3
    cases g3
  have keep : ∀ b ys, H3 b = some (.tup ys) → upd H3 d (DN X.prog X.w d (storedH xs k a r)) b = some (.tup ys) := fun b ys eb => by
    rw [upd_ne (ne_of eb e (fun z => nomatch z))]
    exact eb
  refine wpAny_setItem_heap (knd := nestedKind X.prog X.w) (hsz := z) (show X.A.units + 1 + 8 < cLine by omega) ⟨nk_is I3.hok nk rfl, kd⟩ dd fun h' dd' hs' => ?_
  have he : ∃ q, h'.get? d = some q := let ⟨q, _, _, hq, _⟩ := dd'; ⟨q, hq⟩
  exact ⟨σ, _, d_write I3 (by rw [e]; exact True.intro) hs' he (dn_ok hz dd'), q3 ncode _ ⟨_, rfl⟩ keep ⟨_, upd_same, hs, KN.keeps (KN.put r' k nk kd rv) keep⟩⟩
theorem pe_dnewN : PE X (.Dict [] [] pos) (tDNewN X.prog X.w) := ⟨fun pins s σ H Q I h => by
  have hs : (s.heap.objs.size == sysModules) = false := beq_eq_false_iff_ne.mpr (Ne.symm (Nat.ne_of_lt I.big))
  exact wpAny_Dict_empty ⟨.ref s.heap.objs.size, _, I.laid (a := s.heap.objs.size) (o := DN X.prog X.w s.heap.objs.size []) (t' := s.toks) (fun _ _ q => Heap.get?_push_of_some _ q) (Nat.le_refl _) (dn_ok (Nat.zero_le _) (Heap.DictOfH.new s.heap)), rfl, h _ _ (I.hok.fresh (Nat.le_refl _)) ⟨_, rfl⟩ ⟨[], upd_same, hs, .nil⟩⟩⟩
end
/-! ### d.get(y, x), d empty -/
/-- d.get(y, x), d an empty dict, y a tuple within tuples -/
def tDGet2N (td ty tx : TE) : TE := fun σ H Q => td σ H fun x H1 => ∃ d, x = .ref d ∧ H1 d = some (.dT []) ∧ ty σ H1 fun y H2 => tx σ H2 fun z H3 => ∃ a k, y = .ref a ∧ NK H3 k (.ref a) ∧ k.depth ≤ 8 ∧ H3 d = some (.dT []) ∧ Q z H3
theorem pe_dget2N {X : Cx} {o e f : Expr} {td ty tx : TE} {apos cpos : Pos} (hu : X.A.units + 64 < cLine) (ho : PE X o td) (he : PE X e ty) (hf : PE X f tx) (m : M2 X o "get" apos e f cpos) : PE X (.Call (.Attribute o "get" apos) [e, f] [] cpos) (tDGet2N td ty tx) := by
  refine ⟨fun pins s σ H Q I h => ?_⟩
  refine wpAny_Call_method m.base m.few m.line PySem.F.plainAttrs_dict PySem.F.slot_dict_get PySem.F.type_dict_get (thn (ho.run pins s σ H _ I h) fun u s1 ⟨x, H1, I1, rx, a, ex, d, q1⟩ => ?_)
  subst ex
  obtain rfl : u = Value.ref a := rx
  obtain ⟨t1, t2, _⟩ := isD_at I1 (.inr ⟨[], .inl d⟩)
  refine ⟨t1, t2, ?_⟩
  rw [m.trees]
  refine Calls.callWith_builtin rfl (Calls.evalArgs_plain (Calls.spliced_cons (thn (he.run pins s1 σ H1 _ I1 q1) fun iv s2 ⟨y, H2, I2, ry, q2⟩ =>
    Calls.spliced_cons (thn (hf.run pins s2 σ H2 _ I2 q2) fun fv s3 ⟨z, H3, I3, rz, b, k, ey, nk, kd, d3, q3⟩ => Calls.spliced_nil ?_))))
  subst ey
  obtain rfl : iv = Value.ref b := ry
  obtain ⟨_, hd, xs, r0, dd⟩ := dt_of I3.hok d3
  cases r0
  obtain ⟨ob, es, ep, h1, h2, h3, h4, _, _⟩ := dd
  have dd' : s3.heap.DictOfH (nestedKind X.prog X.w) a [] := ⟨ob, es, ep, h1, h2, h3, h4, (fun x hx => nomatch hx), List.nodup_nil⟩
  exact call_meetsIn PySem.F.slot_dict_get dd'.typeIs PySem.F.entry_dict_get (PySem.F.args_dict_get_3 _ _ _) (meetsH_dict_get_default (nestedKind X.prog X.w) a b hd fv) ⟨show X.A.units + 1 + 8 < cLine by omega, k, [], ⟨nk_is I3.hok nk rfl, kd⟩, dd', ⟨z, H3, I3.tok _, rz, q3⟩⟩
end ND
namespace KM
open PySem PySem.Spec PyProof.Rows L2 LamX NdefX KL
/-! a lambda with parameters, handed to a method -/
abbrev NF.lam (F : NF) (e : Expr) (pm ctv : Value) : FuncData := PySem.W.kla_fn F.name F.qual F.params e F.scope F.cl pm (.ref F.c) ctv
/-- the object at f is the lambda F of the body e -/
def FnL (f : Addr) (F : NF) (e : Expr) : HO := .ext fun h => ∃ (od : Option Addr) (sl : Array (Option Value)) (pm ctv : Value), h.get? f = some (⟨.type "function", od, .func (NF.lam F e pm ctv), sl⟩ : Obj)
theorem fnL_nf {f : Addr} {F : NF} {e : Expr} (o : Obj) : FnL f F e ≠ .frz o anyO := fun z => by unfold FnL at z; cases z
theorem fnL_at {P : Program} {w : World} {H : Hp} {h : Heap} {f : Addr} {F : NF} {e : Expr} (hok : HOk P w H h) (q : H f = some (FnL f F e)) : ∃ (od : Option Addr) (sl : Array (Option Value)) (pm ctv : Value), h.get? f = some (⟨.type "function", od, .func (NF.lam F e pm ctv), sl⟩ : Obj) := by
  obtain ⟨z, _, _⟩ := hok f _ q
  exact z
section
variable {X : Cx} {pins : List (Addr × Obj)} {σ : L2.St} {H : Hp} {s : Shared}
theorem inv_lam {F : NF} {e : Expr} {o : Obj} {t' : Nat} {pm ctv : Value} (I : Inv X pins σ H s) (ho : o = { cls := .type "function", data := .func (NF.lam F e pm ctv) }) :
    Inv X pins σ (upd H s.heap.objs.size (FnL s.heap.objs.size F e)) { s with heap := s.heap.push o, toks := t' } := by
  subst ho
  refine I.laid (a := s.heap.objs.size) (fun b u e => Heap.get?_push_of_some _ e) (Nat.le_refl _) ?_
  have e : (s.heap.push ({ cls := .type "function", data := .func (NF.lam F e pm ctv) } : Obj)).get? s.heap.objs.size = some ({ cls := .type "function", data := .func (NF.lam F e pm ctv) } : Obj) := Heap.get?_push_size _ rfl
  exact ⟨⟨_, _, pm, ctv, e⟩, ⟨_, e⟩, fun h1 h2 ⟨od, sl, p, t, z⟩ st => ⟨od, sl, p, t, st _ z⟩⟩
theorem lam_makeN {T : List NTab} {nm : Nat → Nat → Str} {c P : Addr} {params : Arguments} {body : Expr} {scope : Scope} {pos : Pos} {E : Value → Shared → Prop} {Q : Value → Shared → Prop} (I : Inv X pins σ H s) (TB : TabB X.base X.mg c P) (hcode : X.env.code = .ref c)
    (hm : (P, nm) ∈ T) (hn : nm pos.line pos.col = X.env.qual ++ "<lambda>") (hu : ∀ p ∈ T, p.1 = P → p.2 = nm) (hT : TabsN T H) (hdef : defaultsOf params X.env = ([], [])) (hfree : ∀ y ∈ scope.names, y.2 = .free → ∃ c, X.env.cells.lookup y.1 = some c)
    (h : ∀ (f c' : Addr) (H1 : Hp) (s' : Shared), Inv X pins σ H1 s' → ExtN H H1 → (∀ b, H1 b = Option.none → H b = Option.none) → TabsN T H1 → H f = none → H1 f = some (FnL f ⟨"<lambda>", X.env.qual ++ "<lambda>", params, [], scope, cloFrom X.env.cells scope.names [], c'⟩ body) → H1 c' = some (CodeO c' (X.env.qual ++ "<lambda>")) → Q (.ref f) s') :
    wpAny (model X.prog X.w) X.A (eval (.Lambda params body scope pos) X.env) Q E s := by
  obtain ⟨ps, hP, ht, ha⟩ := (show TabN H P nm from hT _ hm)
  refine PySem.W.kla_eval hdef ?_
  have bP : s.heap.BuiltinsAt X.mg P := TB.bm.keeps I.bk
  have hP' : s.heap.get? P = some { cls := .none, data := .fields ps } := I.hok P _ hP
  cases hc : codeAmong pos ps.toList with
  | none =>
    refine PySem.W.kla_makeFunction (mg := X.mg) (c := c) (P := P) (ps := ps) (closure_ok hfree) I.ok.glob (I.mod.glob.keeps I.bk) hcode (TB.code.keeps I.bk) hP' ht hc TB.gP bP fun c' ctv h' tk hx hge hlt hrec htb => ?_
    obtain ⟨c2, oc, vs, t, e2, hoc, hd, hv⟩ := hrec
    cases e2
    have nC : H c' = none := I.hok.fresh hge
    have I1 := inv_table (t' := tk) (more := #[rawInt pos.line, rawInt pos.col, .ref c']) (h' := h') I hP (fun b o hb e => hx b o hb e) htb hge ⟨oc, vs, t, hoc, hd, hv⟩
    have hE : ExtN H (upd (upd H P (.tbl (ps ++ #[rawInt pos.line, rawInt pos.col, .ref c']))) c' (CodeO c' (X.env.qual ++ "<lambda>"))) := fun b o e n => by
      rw [upd_ne (ne_of_none e nC), upd_ne (fun z => n ps (Option.some.inj (e.symm.trans (by rw [z]; exact hP))))]
      exact e
    have eL : (ps ++ #[rawInt pos.line, rawInt pos.col, .ref c']).toList = ps.toList ++ [rawInt pos.line, rawInt pos.col, .ref c'] := by simp
    have T1 : TabsN T (upd (upd H P (.tbl (ps ++ #[rawInt pos.line, rawInt pos.col, .ref c']))) c' (CodeO c' (X.env.qual ++ "<lambda>"))) := fun p hp => by
      by_cases hb : p.1 = P
      · rw [hu p hp hb, hb]
        refine ⟨_, by rw [upd_ne (ne_of_none hP nC), upd_same], by rw [eL]; exact PySem.TriplesOk_snoc _ _ _ _ ht, fun p' cv hcv => ?_⟩
        rw [eL] at hcv
        rcases among_app2 _ ht hcv with z | ⟨z, z1, z2⟩
        · obtain ⟨c0, e1, e2⟩ := ha p' cv z
          exact ⟨c0, e1, hE _ _ e2 codeO_ne⟩
        · refine ⟨c', z, ?_⟩
          rw [← z1, ← z2, hn]
          exact upd_same
      · obtain ⟨ps', a1, a2, a3⟩ := hT p hp
        refine ⟨ps', by rw [upd_ne (ne_of_none a1 nC), upd_ne hb]; exact a1, a2, fun p' cv hcv => ?_⟩
        obtain ⟨c0, e1, e2⟩ := a3 p' cv hcv
        exact ⟨c0, e1, hE _ _ e2 codeO_ne⟩
    have nF := I1.hok.fresh (Nat.le_refl _)
    have I2 := inv_lam (F := ⟨"<lambda>", X.env.qual ++ "<lambda>", params, [], scope, cloFrom X.env.cells scope.names [], c'⟩) (e := body) (t' := tk) (pm := (X.mg "__name__").getD .none) (ctv := ctv) I1 rfl
    refine h h'.objs.size c' _ _ I2 (fun b o e n => ?_) (fun b e => upd_none (upd_none (upd_none e))) (T1.ext fun b o e => ?_) (I.hok.fresh (Nat.le_trans hge (Nat.le_of_lt hlt))) upd_same ?_
    · have e1 := hE b o e n
      exact (upd_ne (ne_of_none e1 nF)).trans e1
    · exact (upd_ne (ne_of_none e nF)).trans e
    · exact (upd_ne (Nat.ne_of_lt hlt)).trans upd_same
  | some cv =>
    obtain ⟨c', e, hco⟩ := ha pos cv hc
    subst e
    rw [hn] at hco
    refine PySem.W.kla_makeFunctionHit (mg := X.mg) (c := c) (P := P) (ps := ps) (closure_ok hfree) I.ok.glob (I.mod.glob.keeps I.bk) hcode (TB.code.keeps I.bk) hP' ht hc bP fun ctv h' tk hx hsz => ?_
    have I1 : Inv X pins σ H { s with heap := h', toks := tk } := I.kept hx
    have nF : H h'.objs.size = none := I1.hok.fresh (Nat.le_refl _)
    have I2 := inv_lam (F := ⟨"<lambda>", X.env.qual ++ "<lambda>", params, [], scope, cloFrom X.env.cells scope.names [], c'⟩) (e := body) (t' := tk) (pm := (X.mg "__name__").getD .none) (ctv := ctv) I1 rfl
    refine h h'.objs.size c' _ _ I2 (fun b o e n => ?_) (fun b e => upd_none e) (hT.ext fun b o e => ?_) nF upd_same ?_
    · exact (upd_ne (ne_of_none e nF)).trans e
    · exact (upd_ne (ne_of_none e nF)).trans e
    · exact (upd_ne (ne_of_none hco nF)).trans hco
end
/-- the words of a lambda in the text -/
def LF (e : Expr) (qual : Str) (cl : List (Str × Addr)) (c : Addr) : NF := match e with
  | .Lambda params _ scope _ => ⟨"<lambda>", qual, params, [], scope, cl, c⟩
  | _ => ⟨"<lambda>", qual, C8.fnArgs (.Pass ⟨0, 0, 0, 0⟩), [], C8.fnScope (.Pass ⟨0, 0, 0, 0⟩), cl, c⟩
def lScope : Expr → Scope
  | .Lambda _ _ scope _ => scope
  | _ => C8.fnScope (.Pass ⟨0, 0, 0, 0⟩)
def lBody : Expr → Expr
  | .Lambda _ body _ _ => body
  | e => e
def lArgs : Expr → Arguments
  | .Lambda params _ _ _ => params
  | _ => C8.fnArgs (.Pass ⟨0, 0, 0, 0⟩)
def lPos : Expr → Pos
  | .Lambda _ _ _ p => p
  | _ => ⟨0, 0, 0, 0⟩
abbrev LFx (e : Expr) (qual : Str) (cl : List (Str × Addr)) (c : Addr) : NF := ⟨"<lambda>", qual, lArgs e, [], lScope e, cl, c⟩
/-! ### what it promises -/
structure LNOk (P : Program) (w : World) (K : PySem.W.Frag) (mg : Str → Option Value) (base : Heap) (k : Nat) (f : Addr) (F : NF) (e : Expr) (ps fr : List Str) (sp : List (Option V) → Sp) : Prop where
  len : ∀ ws vs H Q E, sp ws vs H Q E → vs.length = ps.length
  run : ∀ (A : Around) (outer : List Env) (s : Shared) (H : Hp) (us : List Value) (vs : List V) (ws : List (Option V)) (Q : VK) (E : XK), Room k A → Env0 P w K mg base A outer s H → H f = some (FnL f F e) → H F.c = some (CodeO F.c F.qual) →
    CellsAt F.cl fr ws s.heap H → Vals vs us → sp ws vs H Q E → codeAny (model P w) A (.call (.ref f) ⟨us, []⟩) (CR L2.CX0 outer P w H s Q E) s
section
variable {P : Program} {w : World} {K : PySem.W.Frag} {mg : Str → Option Value} {base : Heap} {N ps fr : List Str} {F : NF} {e : Expr} {f : Addr} {k j : Nat} {sp sp' : List (Option V) → Sp} {cs : Cs} {ws : List (Option V)}
theorem lnok_of (S : NScope N ps fr F.scope) (hb : ∀ (pm ctv : Value) (us : List Value), us.length = ps.length → bindArgs (NF.lam F e pm ctv) ⟨us, []⟩ = pure (ps.zip us)) (len : ∀ ws vs H Q E, sp ws vs H Q E → vs.length = ps.length)
    (hbody : ∀ (A : Around) (outer : List Env) (s : Shared) (H : Hp) (vs : List V) (ws : List (Option V)) (Q : VK) (E : XK), Room k (A.deeper (envF F f s.heap.objs.size)) → ws.length = fr.length → sp ws vs H Q E →
      ∃ t, PE (ncx L2.CX0 P w K mg base N F f A outer s H E) e t ∧ t (startF N vs ws) H Q) :
    LNOk P w K mg base (k + 1) f F e ps fr sp := by
  refine ⟨len, fun A outer s H us vs ws Q E hr e0 hf hc C r hsp => ?_⟩
  have hl := len _ _ _ _ _ hsp
  have lim : s.heap.NoLimit := e0.mod.nolimit.keeps fun b o e => (e0.bs b o e).1
  obtain ⟨od, sl, pm, ctv, ho⟩ := fnL_at e0.hok hf
  refine PySem.W.kla_callFunE hr.depth ho rfl S.co S.gen rfl (codeO_at e0.hok hc) ?_
  rw [hb pm ctv us (by rw [← r.length]; exact hl)]
  refine wpAny_pure (wpAny_newFunctionEnv S.nocell (fun ⟨n, _⟩ hy => S.par n (List.of_mem_zip hy).1) (fun h₁ hns hsb => ⟨lim.fresh _ hsb, ?_⟩) S.kind)
  show codeAny _ _ (.expr e (envF F f s.heap.objs.size)) _ _
  have kp : ∀ b o, s.heap.get? b = some o → h₁.get? b = some o := fun b o e => hsb.extBut b o (Nat.ne_of_lt (Heap.lt_size e)) (Heap.get?_push_of_some _ e)
  obtain ⟨t, ht, hq⟩ := hbody A outer s H vs ws Q E (hr.deeper _) C.len hsp
  have I : Inv (ncx L2.CX0 P w K mg base N F f A outer s H E) [] (startF N vs ws) H { s with heap := h₁, toks := s.toks + (ps.zip us).length } := inv_startN S hr.hd e0 hl r C hns kp
  refine PySem.W.kla_codeExpr (wpAny_mono (ht.run [] _ (startF N vs ws) H _ I hq) (fun v s' hq => ?_) fun e s' hq => hq)
  obtain ⟨w', H', J', rv, q⟩ := hq
  exact ⟨w', H', J'.os, J'.bare, J'.base, J'.hok, rv, q⟩
/-- a lambda with its cells told of -/
def GL (f : Addr) (F : NF) (e : Expr) (cs : Cs) (H : Hp) : Prop := H f = some (FnL f F e) ∧ H F.c = some (CodeO F.c F.qual) ∧ CsAt cs H
/-- cells that stand beside a running frame -/
def CsBy (X : Cx) (cs : Cs) : Prop := ∀ c o, cs.lookup c = some o → X.H_0 c = none ∧ X.s_0.heap.get? c = some o ∧ X.base.get? c = none ∧ c ∉ frs X.stack ∧ c ∉ X.ex ∧ c ∉ X.fs
theorem frz_thw {H : Hp} (c : CsAt cs H) : frzC cs (thwC cs H) = H := by
  funext b
  cases q : cs.lookup b with
  | none => rw [frz_none q, thw_none q]
  | some o => rw [frz_some q, c b o q]
theorem lokM_of (S : NScope N ps fr F.scope) (hb : ∀ (pm ctv : Value) (us : List Value), us.length = ps.length → bindArgs (NF.lam F e pm ctv) ⟨us, []⟩ = pure (ps.zip us)) (len : ∀ vs H Q E, sp ws vs H Q E → vs.length = ps.length) (C : CsFn F.cl fr ws cs)
    (hbody : ∀ (A : Around) (outer : List Env) (s : Shared) (H : Hp) (vs : List V) (Q : VK) (E : XK), Room k (A.deeper (envF F f s.heap.objs.size)) → CsBy (ncx L2.CX0 P w K mg base N F f A outer s H E) cs → sp ws vs (frzC cs H) (fun v H' => Q v (thwC cs H')) E →
      ∃ t, PE (ncx L2.CX0 P w K mg base N F f A outer s H E) e t ∧ t (startF N vs ws) H Q) :
    LOk P w K mg base L2.CX0 (k + 1) f (GL f F e cs) (fun vs H Q E => sp ws vs H (fun v H' => Q v (frzC cs (thwC cs H'))) E) := by
  refine ⟨fun H h hok g => ?_, fun A outer s H us vs Q E hr e0 g r hsp => ?_⟩
  · obtain ⟨od, sl, pm, ctv, ho⟩ := fnL_at hok g.1
    exact ⟨_, od, _, sl, ho⟩
  obtain ⟨g1, g2, g3⟩ := g
  have e1 := env_thw e0 g3
  have hl := len _ _ _ _ hsp
  have lim : s.heap.NoLimit := e0.mod.nolimit.keeps fun b o e => (e0.bs b o e).1
  obtain ⟨od, sl, pm, ctv, ho⟩ := fnL_at e0.hok g1
  have ca : CellsAt F.cl fr ws s.heap (thwC cs H) := by
    refine ⟨C.len, fun y c e => ?_, C.inj, fun i y e => ?_⟩
    · obtain ⟨o, v, h1, h2⟩ := C.all y c e
      exact ⟨thw_some h1, v, o, (e0.hok c _ (g3 c o h1)).1, h2⟩
    · obtain ⟨c, h1, h2⟩ := C.has i y e
      refine ⟨c, h1, fun v hv => ?_⟩
      obtain ⟨u, o, h3, h4, h5⟩ := h2 v hv
      exact ⟨u, h3, o, (e0.hok c _ (g3 c o h4)).1, h5⟩
  have run : codeAny (model P w) A (.call (.ref f) ⟨us, []⟩) (CR L2.CX0 outer P w (thwC cs H) s (fun v H' => Q v (frzC cs H')) E) s := by
    refine PySem.W.kla_callFunE hr.depth ho rfl S.co S.gen rfl (codeO_at e0.hok g2) ?_
    rw [hb pm ctv us (by rw [← r.length]; exact hl)]
    refine wpAny_pure (wpAny_newFunctionEnv S.nocell (fun ⟨n, _⟩ hy => S.par n (List.of_mem_zip hy).1) (fun h₁ hns hsb => ⟨lim.fresh _ hsb, ?_⟩) S.kind)
    show codeAny _ _ (.expr e (envF F f s.heap.objs.size)) _ _
    have kp : ∀ b o, s.heap.get? b = some o → h₁.get? b = some o := fun b o e => hsb.extBut b o (Nat.ne_of_lt (Heap.lt_size e)) (Heap.get?_push_of_some _ e)
    obtain ⟨t, ht, hq⟩ := hbody A outer s (thwC cs H) vs (fun v H' => Q v (frzC cs H')) E (hr.deeper _) (fun c o h => by
      have ho := (e0.hok c _ (g3 c o h)).1
      refine ⟨thw_some h, ho, ?_, ?_, (fun z => nomatch (show c ∈ ([] : List Addr) from z)), fun z => by
        have := e0.frf c z
        rw [g3 c o h] at this; cases this⟩
      · cases z : base.get? c with
        | none => exact z
        | some u =>
          have := (e0.bs c u z).2
          rw [g3 c o h] at this; cases this
      · intro z
        rcases List.mem_cons.mp (show c ∈ s.heap.objs.size :: frs outer from z) with z | z
        · exact absurd (Heap.lt_size ho) (by rw [z]; exact Nat.lt_irrefl _)
        · have := e0.frf c z
          rw [g3 c o h] at this; cases this) (by rw [frz_thw g3]; exact hsp)
    have I : Inv (ncx L2.CX0 P w K mg base N F f A outer s (thwC cs H) E) [] (startF N vs ws) (thwC cs H) { s with heap := h₁, toks := s.toks + (ps.zip us).length } := inv_startN S hr.hd e1 hl r ca hns kp
    refine PySem.W.kla_codeExpr (wpAny_mono (ht.run [] _ (startF N vs ws) (thwC cs H) _ I hq) (fun v s' hq => ?_) fun e s' hq => hq)
    obtain ⟨w', H', J', rv, q⟩ := hq
    exact ⟨w', H', J'.os, J'.bare, J'.base, J'.hok, rv, q⟩
  refine codeAny_mono run fun r s' hq => ?_
  cases r with
  | error e => exact hq
  | ok fl =>
    cases fl with
    | ret u => exact ce_frz e0 g3 hq
    | next => exact hq
    | brk => exact hq
    | cont => exact hq
end
/-- o.m(e, ..), the cells of cs told of while it runs -/
def tMethFZ (C : Addr) (sp : Sp) (m : Str) (cs : Cs) (E : XK) (ta : TE) (t : TA) : TE := fun σ H Q => ta σ H fun x H1 => ∃ a dx fs, x = .ref a ∧ H1 a = some (.ins C dx fs) ∧ fs.lookup m = none ∧ t σ H1 fun vs H2 => sp (x :: vs) (frzC cs H2) (fun v H' => Q v (thwC cs H')) E
theorem pe_methFZ {X : Cx} {k : Nat} {m : Str} {C f : Addr} {fd : FuncData} {ps : List Str} {sp : Sp} {cs : Cs} {E : XK} {e o : Expr} {es : List Expr} {ta : TE} {t : TA} {pos apos : Pos} {pl : Sem Bool} (hcs : CsBy X cs) (he : PE X o ta) (c : Cls X.K C) (hm : Meth X.K C m f)
    (F : FnOk X.prog X.w X.K X.mg X.base L2.CX0 k f fd ps sp) (hr : Room k X.A) (hb : Binds X.K fd ps []) (ha : PA X (e :: es) t)
    (hst : starEach (e :: es) X.env = (false, eval e X.env) :: starEach es X.env := by rfl) (hpl : (backTo pos (starEach es X.env)).any (·.1) = false := by rfl)
    (ht : eval (.Call (.Attribute o m apos) (e :: es) [] pos) X.env = (do
      let ov ← eval o X.env
      standAt apos.atName
      let (f, first) ← holding [ov] (getMethod ov m pl)
      callWith pos f first (backTo pos (starEach (e :: es) X.env)) (backToKw pos (keywordEach [] X.env))) := by rfl) :
    PE X (.Call (.Attribute o m apos) (e :: es) [] pos) (tMethFZ C sp m cs E ta t) := by
  refine ⟨fun pins s σ H Q I h => ?_⟩
  refine PySem.W.methodCall_KW (pl := pl) (thn (he.run pins s σ H _ I h) fun u s1 ⟨x, H1, I1, rx, a, dx, fs, ex, ea, l, q⟩ => ?_) ht
  subst ex
  obtain rfl : u = Value.ref a := rx
  refine getmeth_ok I1 ea c hm l ?_
  refine PySem.W.callWith_K (first := [.ref a]) (h₀ := X.base) I1.ok.mod.kin hm.kp (thn (ha.run pos pins s1 σ H1 _ I1 q) fun us s2 ⟨vs, H2, I2, r, q2⟩ => ⟨I2.kIn, ?_⟩) hst hpl
  have ci : CsIn cs s2.heap H2 := fun c o e => by
    obtain ⟨h1, h2, h3, h4, h5, h6⟩ := hcs c o e
    exact ⟨I2.base.free c o h2 h1 h5, I2.base.keep c o h2 h1 h6 h5⟩
  have nb : ∀ a o, cs.lookup a = some o → X.base.get? a = none ∧ a ∉ frs X.stack := fun a o e => ⟨(hcs a o e).2.2.1, (hcs a o e).2.2.2.1⟩
  have r2 : Vals (V.ref a :: vs) (.ref a :: us) := .cons rfl r
  have hl : (Value.ref a :: us).length = ps.length := by rw [← r2.length]; exact F.len _ _ _ _ q2
  have hbb := hb s2 (.ref a :: us) I2.kIn (by rw [List.append_nil]; exact hl)
  rw [List.append_nil] at hbb
  refine wpAny_call (codeAny_mono (F.run X.A X.stack s2 (frzC cs H2) ⟨.ref a :: us, []⟩ (.ref a :: us) _ _ E hr (env_frz I2.env0 ci nb) hbb r2 q2) fun r s' hq => ?_)
  cases r with
  | error e => exact (show False from hq).elim
  | ok fl =>
    cases fl with
    | ret u => exact I2.after (ce_thw ci (fun a o h => (nb a o h).2) hq)
    | next => exact False.elim hq
    | brk => exact False.elim hq
    | cont => exact False.elim hq
end KM

end K24
namespace K24
open PySem L2 TL

/-! ### words: values by their figures, names -/
def isLow (c : Nat) : Bool := decide (97 ≤ c) && decide (c ≤ 122)
def isDig (c : Nat) : Bool := decide (48 ≤ c) && decide (c ≤ 57)
theorem fig_mem (c : Nat) : decide (c ∈ (Str.ofString "0123456789").cps.toList) = isDig c := by
  have e : (Str.ofString "0123456789").cps.toList = [48, 49, 50, 51, 52, 53, 54, 55, 56, 57] := by decide +kernel
  rw [e]
  unfold isDig
  rw [Bool.eq_iff_iff]
  simp only [decide_eq_true_eq, Bool.and_eq_true, List.mem_cons, List.not_mem_nil, or_false]
  omega
theorem let_mem (c : Nat) : decide (c ∈ (Str.ofString "abcdefghijklmnopqrstuvwxyz").cps.toList) = isLow c := by
  have e : (Str.ofString "abcdefghijklmnopqrstuvwxyz").cps.toList = [97, 98, 99, 100, 101, 102, 103, 104, 105, 106, 107, 108, 109, 110, 111, 112, 113, 114, 115, 116, 117, 118, 119, 120, 121, 122] := by decide +kernel
  rw [e]
  unfold isLow
  rw [Bool.eq_iff_iff]
  simp only [decide_eq_true_eq, Bool.and_eq_true, List.mem_cons, List.not_mem_nil, or_false]
  omega
def PAIRW : List Str := ["plus", "minus", "times", "over", "rest", "less", "same"]
def ROWW : List Str := ["skip", "set", "put", "ask", "draw", "tell", "if", "while", "call"]
def OTHW : List Str := ["else", "end", "fun", "main", "give", "cell"]
def lenOk (s : Str) : Bool := decide (1 ≤ (tl s).length) && decide ((tl s).length ≤ 6)
def isValW (s : Str) : Bool := lenOk s && !((tl s).head? == some 48 && decide (s ≠ "0")) && (tl s).all isDig
def isNameW (s : Str) : Bool := lenOk s && !(decide (s ∈ PAIRW) || (decide (s ∈ ROWW) || decide (s ∈ OTHW))) && (tl s).all isLow
def valOf (s : Str) : Int := ((NumText.digitsVal (tl s) : Nat) : Int)
def numT (n : Int) : Str := Str.ofString (toString n)
theorem inV_str (s : Str) : ∀ l : List Str, inV (.str s) (l.map V.str) = decide (s ∈ l)
  | [] => by simp [inV]
  | x :: r => by
    have ih := inV_str s r
    unfold inV at ih ⊢
    rw [List.map_cons, List.any_cons, ih]
    have e : eqV (.str x) (.str s) = decide (s = x) := by
      show (x == s) = decide (s = x)
      by_cases h : s = x
      · subst h; simp
      · rw [decide_eq_false h]; exact beq_eq_false_iff_ne.mpr fun e => h e.symm
    rw [e]
    by_cases h : s = x <;> simp [h]
theorem digits_of_all {l : List Nat} (h : l.all isDig = true) : NumText.AllDigits l := fun c hc => by
  have := List.all_eq_true.mp h c hc
  unfold isDig at this
  simp only [Bool.and_eq_true, decide_eq_true_eq] at this
  exact this
theorem all_of_digits {l : List Nat} (h : NumText.AllDigits l) : l.all isDig = true := List.all_eq_true.mpr fun c hc => by
  have := h c hc
  unfold isDig
  simp only [Bool.and_eq_true, decide_eq_true_eq]
  exact this
theorem foldl_lt : ∀ (l : List Nat) (a : Nat), NumText.AllDigits l → l.foldl (fun acc c => acc * 10 + (c - 48)) a < (a + 1) * 10 ^ l.length
  | [], a, _ => by simp
  | c :: r, a, h => by
    have hc := h c List.mem_cons_self
    have ih := foldl_lt r (a * 10 + (c - 48)) fun d hd => h d (List.mem_cons_of_mem _ hd)
    have e : (a + 1) * 10 ^ (r.length + 1) = ((a + 1) * 10) * 10 ^ r.length := by rw [Nat.pow_succ, Nat.mul_comm (10 ^ r.length) 10, ← Nat.mul_assoc]
    rw [List.foldl_cons, List.length_cons, e]
    exact Nat.lt_of_lt_of_le ih (Nat.mul_le_mul_right _ (by omega))
theorem digitsVal_lt {l : List Nat} (h : NumText.AllDigits l) : NumText.digitsVal l < 10 ^ l.length := by
  have := foldl_lt l 0 h
  rw [Nat.zero_add, Nat.one_mul] at this
  exact this
theorem valW_parts {s : Str} (h : isValW s = true) : (1 ≤ (tl s).length ∧ (tl s).length ≤ 6) ∧ ((tl s).head? = some 48 → s = "0") ∧ NumText.AllDigits (tl s) := by
  unfold isValW lenOk at h
  simp only [Bool.and_eq_true, decide_eq_true_eq, Bool.not_eq_true', Bool.and_eq_false_iff, beq_eq_false_iff_ne, decide_eq_false_iff_not] at h
  obtain ⟨⟨⟨h1, h2⟩, h3⟩, h4⟩ := h
  refine ⟨⟨h1, h2⟩, fun e => ?_, digits_of_all h4⟩
  rcases h3 with h3 | h3
  · exact absurd e h3
  · exact Classical.not_not.mp h3
theorem valW_int {s : Str} (h : isValW s = true) : PySem.intText? s = some (valOf s) ∧ s.length ≤ 640 ∧ 0 ≤ valOf s ∧ valOf s < 1000000 := by
  obtain ⟨⟨h1, h2⟩, _, h4⟩ := valW_parts h
  have hl : s.length = (tl s).length := len_tl s
  refine ⟨PySem.intText_digits (x := s) h4 (fun e => ?_) (by omega), by omega, Int.natCast_nonneg _, ?_⟩
  · have e' : tl s = [] := e
    rw [e'] at h1; simp at h1
  · have := digitsVal_lt h4
    have p : 10 ^ (tl s).length ≤ 10 ^ 6 := Nat.pow_le_pow_right (by decide) h2
    unfold valOf
    omega
theorem numL_head : ∀ n : Nat, (numL n).head? = some 48 → n = 0 := by
  intro n
  induction n using Nat.strongRecOn with
  | _ n ih =>
    intro h
    by_cases c : n < 10
    · rw [numL_lt c] at h
      simp at h
      omega
    · rw [numL_step (by omega)] at h
      cases q : numL (n / 10) with
      | nil => exact absurd q (numL_ne _)
      | cons x r =>
        rw [q, List.cons_append, List.head?_cons] at h
        have := ih (n / 10) (by omega) (by rw [q, List.head?_cons]; exact h)
        omega
theorem tl_numT {n : Int} (h : 0 ≤ n) : tl (numT n) = numL n.toNat := by
  have e : n = ((n.toNat : Nat) : Int) := by omega
  unfold numT
  rw [e]
  exact tl_num _
theorem numT_valW {n : Int} (h0 : 0 ≤ n) (h1 : n < 1000000) : isValW (numT n) = true ∧ valOf (numT n) = n := by
  have et := tl_numT h0
  have hl : (numL n.toNat).length ≤ 6 := numL_len (by decide) (by omega)
  have hp : 1 ≤ (numL n.toNat).length := by
    cases q : numL n.toNat with
    | nil => exact absurd q (numL_ne _)
    | cons x r => simp
  refine ⟨?_, ?_⟩
  · unfold isValW lenOk
    rw [et]
    simp only [Bool.and_eq_true, decide_eq_true_eq, Bool.not_eq_true', Bool.and_eq_false_iff, beq_eq_false_iff_ne, decide_eq_false_iff_not]
    refine ⟨⟨⟨hp, hl⟩, ?_⟩, all_of_digits (numL_digits _)⟩
    by_cases c : (numL n.toNat).head? = some 48
    · have z := numL_head _ c
      right
      have : n = 0 := by omega
      subst this
      exact fun e => e (by decide +kernel)
    · exact .inl c
  · unfold valOf
    rw [et, numL_val]
    omega
theorem numT_inj {m n : Int} (hm : 0 ≤ m) (hn : 0 ≤ n) (e : numT m = numT n) : m = n := by
  have e' := congrArg tl e
  rw [tl_numT hm, tl_numT hn] at e'
  have := numL_inj e'
  omega
theorem toDigits_digitsVal' {l : List Nat} (h : NumText.AllDigits l) (h1 : 1 ≤ l.length) (c : ¬ l.head? = some 48) : numL (NumText.digitsVal l) = l := by
  unfold numL
  rw [NumText.toDigits_digitsVal (l.length - 1) l (by omega) h (Or.inr ?_), List.map_map]
  · conv => rhs; rw [← List.map_id l]
    refine List.map_congr_left fun d hd => ?_
    have hd' := h d hd
    show (Char.ofNat d).toNat = d
    obtain ⟨a, b⟩ := hd'
    have : ∀ k, k < 10 → (Char.ofNat (48 + k)).toNat = 48 + k := by decide
    have e : d = 48 + (d - 48) := by omega
    rw [e]
    exact this _ (by omega)
  · cases l with
    | nil => simp at h1
    | cons x r =>
      refine ⟨x, r, rfl, ?_⟩
      have := h x List.mem_cons_self
      have : x ≠ 48 := fun e => c (by rw [e]; rfl)
      omega
theorem valW_canon {s : Str} (h : isValW s = true) : numT (valOf s) = s := by
  obtain ⟨⟨h1, h2⟩, h3, h4⟩ := valW_parts h
  refine ext_tl ?_
  rw [tl_numT (valW_int h).2.2.1]
  show numL ((NumText.digitsVal (tl s) : Nat) : Int).toNat = tl s
  rw [Int.toNat_natCast]
  by_cases c : (tl s).head? = some 48
  · rw [h3 c]; decide +kernel
  · have key := toDigits_digitsVal' h4 h1 c
    exact key
theorem nameW_parts {s : Str} (h : isNameW s = true) : (1 ≤ (tl s).length ∧ (tl s).length ≤ 6) ∧ s ∉ PAIRW ∧ s ∉ ROWW ∧ s ∉ OTHW ∧ ∀ c ∈ tl s, 97 ≤ c ∧ c ≤ 122 := by
  unfold isNameW lenOk at h
  simp only [Bool.and_eq_true, decide_eq_true_eq, Bool.not_eq_true', Bool.or_eq_false_iff, decide_eq_false_iff_not] at h
  obtain ⟨⟨⟨h1, h2⟩, h3, h5, h6⟩, h4⟩ := h
  refine ⟨⟨h1, h2⟩, h3, h5, h6, fun c hc => ?_⟩
  have := List.all_eq_true.mp h4 c hc
  unfold isLow at this
  simp only [Bool.and_eq_true, decide_eq_true_eq] at this
  exact this
theorem name_not_val {s : Str} (h : isNameW s = true) : isValW s = false := by
  obtain ⟨⟨h1, _⟩, _, _, _, h4⟩ := nameW_parts h
  cases c : isValW s with
  | false => rfl
  | true =>
    obtain ⟨_, _, h5⟩ := valW_parts c
    cases q : tl s with
    | nil => rw [q] at h1; simp at h1
    | cons x r =>
      have a1 := h4 x (by rw [q]; exact List.mem_cons_self)
      have a2 := h5 x (by rw [q]; exact List.mem_cons_self)
      omega
theorem val_free {s : Str} {c : Nat} (h : isValW s = true) (hc : c < 48 ∨ 57 < c) : c ∉ tl s := fun hm => by
  obtain ⟨_, _, h5⟩ := valW_parts h
  have a2 := h5 c hm
  omega
theorem name_free {s : Str} {c : Nat} (h : isNameW s = true) (hc : c < 97 ∨ 122 < c) : c ∉ tl s := fun hm => by
  obtain ⟨_, _, _, _, h4⟩ := nameW_parts h
  have a1 := h4 c hm
  omega
theorem pair_free : ∀ s ∈ PAIRW, ∀ c ∈ tl s, 97 ≤ c ∧ c ≤ 122 := by decide +kernel
theorem pair_not_val : ∀ s ∈ PAIRW, isValW s = false ∧ isNameW s = false ∧ s ≠ "cell" ∧ (tl s).length ≤ 6 := by decide +kernel
theorem cell_not : isValW "cell" = false ∧ isNameW "cell" = false := by decide +kernel
/-! ### expressions -/
inductive Ex where
  | num (n : Int)
  | box (s : Str)
  | cell (e : Ex)
  | two (w : Str) (l r : Ex)
namespace Ex
def depth : Ex → Nat
  | num _ => 1
  | box _ => 1
  | cell e => e.depth + 1
  | two _ l r => max l.depth r.depth + 1
def parts : Ex → Nat
  | num _ => 1
  | box _ => 1
  | cell e => 1 + e.parts
  | two _ l r => 1 + l.parts + r.parts
def toks : Ex → List Str
  | num n => [numT n]
  | box s => [s]
  | cell e => "cell" :: e.toks
  | two w l r => w :: (l.toks ++ r.toks)
def Wf : Ex → Prop
  | num n => 0 ≤ n ∧ n < 1000000
  | box s => isNameW s = true
  | cell e => e.Wf
  | two w l r => w ∈ PAIRW ∧ l.Wf ∧ r.Wf
def told : Ex → PyData
  | num n => .tuple [.str "number", .int n]
  | box s => .tuple [.str "box", .str s]
  | cell e => .tuple [.str "cell", e.told]
  | two w l r => .tuple [.str w, l.told, r.told]
theorem depth_pos : ∀ e : Ex, 1 ≤ e.depth
  | num _ => Nat.le_refl 1
  | box _ => Nat.le_refl 1
  | cell _ => Nat.le_add_left _ _
  | two _ _ _ => Nat.le_add_left _ _
theorem parts_pos : ∀ e : Ex, 1 ≤ e.parts
  | num _ => Nat.le_refl 1
  | box _ => Nat.le_refl 1
  | cell _ => Nat.le_add_right _ _
  | two _ _ _ => Nat.le_trans (Nat.le_add_right 1 _) (Nat.le_add_right _ _)
theorem toks_len : ∀ e : Ex, e.toks.length = e.parts
  | num _ => rfl
  | box _ => rfl
  | cell e => by show e.toks.length + 1 = 1 + e.parts; rw [toks_len e]; omega
  | two w l r => by
    show (l.toks ++ r.toks).length + 1 = 1 + l.parts + r.parts
    rw [List.length_append, toks_len l, toks_len r]; omega
theorem parts_depth : ∀ e : Ex, e.depth ≤ e.parts
  | num _ => Nat.le_refl 1
  | box _ => Nat.le_refl 1
  | cell e => by have := parts_depth e; show e.depth + 1 ≤ 1 + e.parts; omega
  | two w l r => by have := parts_depth l; have := parts_depth r; show max l.depth r.depth + 1 ≤ 1 + l.parts + r.parts; omega
theorem toks_ok : ∀ {e : Ex}, e.Wf → ∀ s ∈ e.toks, (tl s).length ≤ 6 ∧ ∀ c ∈ tl s, (48 ≤ c ∧ c ≤ 57) ∨ (97 ≤ c ∧ c ≤ 122)
  | num n, h, s, hs => by
    rw [List.mem_singleton.mp hs]
    obtain ⟨⟨_, h2⟩, _, h4⟩ := valW_parts (numT_valW h.1 h.2).1
    exact ⟨h2, fun c hc => .inl (h4 c hc)⟩
  | box b, h, s, hs => by
    rw [List.mem_singleton.mp hs]
    obtain ⟨⟨_, h2⟩, _, _, _, h4⟩ := nameW_parts h
    exact ⟨h2, fun c hc => .inr (h4 c hc)⟩
  | cell e, h, s, hs => by
    rcases List.mem_cons.mp hs with rfl | hs
    · exact ⟨by decide +kernel, fun c hc => .inr ((by decide +kernel : ∀ c ∈ tl (Str.ofString "cell"), 97 ≤ c ∧ c ≤ 122) c hc)⟩
    · exact toks_ok (e := e) h s hs
  | two w l r, h, s, hs => by
    rcases List.mem_cons.mp hs with rfl | hs
    · exact ⟨(pair_not_val _ h.1).2.2.2, fun c hc => .inr (pair_free _ h.1 c hc)⟩
    · rcases List.mem_append.mp hs with hs | hs
      · exact toks_ok (e := l) h.2.1 s hs
      · exact toks_ok (e := r) h.2.2 s hs
end Ex
/-- the expression that begins the words, of at most so many parts within one another; what is behind it -/
def parseE : Nat → List Str → Option (Ex × List Str)
  | 0, _ => none
  | _ + 1, [] => none
  | d + 1, w :: r =>
    if isValW w = true then some (.num (valOf w), r)
    else if isNameW w = true then some (.box w, r)
    else if w = "cell" then (match parseE d r with
      | none => none
      | some (e, r1) => some (.cell e, r1))
    else if w ∈ PAIRW then (match parseE d r with
      | none => none
      | some (l, r1) => (match parseE d r1 with
        | none => none
        | some (e, r2) => some (.two w l e, r2)))
    else none
theorem parse_toks : ∀ {d : Nat} {e : Ex}, e.Wf → e.depth ≤ d → ∀ r, parseE d (e.toks ++ r) = some (e, r)
  | 0, e, _, hd, _ => absurd (e.depth_pos) (by omega)
  | d + 1, .num n, h, _, r => by
    have q := numT_valW h.1 h.2
    show parseE (d + 1) (numT n :: r) = _
    unfold parseE
    rw [if_pos q.1, q.2]
  | d + 1, .box s, h, _, r => by
    show parseE (d + 1) (s :: r) = _
    unfold parseE
    rw [if_neg (by rw [name_not_val h]; decide), if_pos (show isNameW s = true from h)]
  | d + 1, .cell e, h, hd, r => by
    show parseE (d + 1) ("cell" :: (e.toks ++ r)) = _
    unfold parseE
    rw [if_neg (by rw [cell_not.1]; decide), if_neg (by rw [cell_not.2]; decide), if_pos rfl, parse_toks (d := d) (e := e) h (by have : e.depth + 1 ≤ d + 1 := hd; omega) r]
  | d + 1, .two w l e, h, hd, r => by
    obtain ⟨hw, hl, he⟩ := h
    have hd' : max l.depth e.depth + 1 ≤ d + 1 := hd
    obtain ⟨q1, q2, q3, _⟩ := pair_not_val w hw
    show parseE (d + 1) (w :: ((l.toks ++ e.toks) ++ r)) = _
    unfold parseE
    rw [if_neg (by rw [q1]; decide), if_neg (by rw [q2]; decide), if_neg q3, if_pos hw, List.append_assoc, parse_toks (d := d) hl (by omega) (e.toks ++ r)]
    show (match parseE d (e.toks ++ r) with | none => none | some (e, r2) => some (Ex.two w l e, r2)) = _
    rw [parse_toks (d := d) he (by omega) r]
theorem parse_wf : ∀ {d : Nat} {ws : List Str} {e : Ex} {r : List Str}, parseE d ws = some (e, r) → e.Wf ∧ e.depth ≤ d ∧ ws = e.toks ++ r
  | 0, _, _, _, h => by simp [parseE] at h
  | _ + 1, [], _, _, h => by simp [parseE] at h
  | d + 1, w :: t, e, r, h => by
    unfold parseE at h
    by_cases c1 : isValW w = true
    · rw [if_pos c1] at h
      cases h
      obtain ⟨_, _, h3, h4⟩ := valW_int c1
      exact ⟨⟨h3, h4⟩, Nat.le_add_left _ _, by show w :: t = [numT (valOf w)] ++ t; rw [valW_canon c1]; rfl⟩
    rw [if_neg c1] at h
    by_cases c2 : isNameW w = true
    · rw [if_pos c2] at h
      cases h
      exact ⟨c2, Nat.le_add_left _ _, rfl⟩
    rw [if_neg c2] at h
    by_cases c3 : w = "cell"
    · rw [if_pos c3] at h
      cases q : parseE d t with
      | none => rw [q] at h; cases h
      | some p =>
        obtain ⟨e1, r1⟩ := p
        rw [q] at h
        cases h
        obtain ⟨a1, a2, a3⟩ := parse_wf q
        exact ⟨a1, Nat.succ_le_succ a2, by rw [c3, a3]; rfl⟩
    rw [if_neg c3] at h
    by_cases c4 : w ∈ PAIRW
    · rw [if_pos c4] at h
      cases q : parseE d t with
      | none => rw [q] at h; cases h
      | some p =>
        obtain ⟨e1, r1⟩ := p
        rw [q] at h
        simp only at h
        cases q2 : parseE d r1 with
        | none => rw [q2] at h; cases h
        | some p2 =>
          obtain ⟨e2, r2⟩ := p2
          rw [q2] at h
          cases h
          obtain ⟨a1, a2, a3⟩ := parse_wf q
          obtain ⟨b1, b2, b3⟩ := parse_wf q2
          exact ⟨⟨c4, a1, b1⟩, by show max e1.depth e2.depth + 1 ≤ d + 1; omega, by rw [a3, b3]; show _ = w :: (e1.toks ++ e2.toks) ++ r; rw [List.cons_append, List.append_assoc]⟩
    · rw [if_neg c4] at h; cases h
/-- all the expressions of a row of words -/
def parseAll : Nat → List Str → Option (List Ex)
  | _, [] => some []
  | 0, _ :: _ => none
  | n + 1, ws => match parseE 6 ws with
    | none => none
    | some (e, r) => if e.parts ≤ 15 then (match parseAll n r with
      | none => none
      | some es => some (e :: es)) else none

/-! ### objects -/
structure EC where
  num : Addr
  box : Addr
  cell : Addr
  two : Addr
def EC.Fam (c : EC) (C : Addr) : Prop := C = c.num ∨ C = c.box ∨ C = c.cell ∨ C = c.two
def EC.of (c : EC) : Ex → Addr
  | .num _ => c.num
  | .box _ => c.box
  | .cell _ => c.cell
  | .two _ _ _ => c.two
theorem EC.fam (c : EC) : ∀ e : Ex, c.Fam (c.of e)
  | .num _ => .inl rfl
  | .box _ => .inr (.inl rfl)
  | .cell _ => .inr (.inr (.inl rfl))
  | .two _ _ _ => .inr (.inr (.inr rfl))
def fNum (n : Int) : List (Str × V) := [("value", .int n)]
def fBox (s : Str) : List (Str × V) := [("name", .str s)]
def fCell (i : V) : List (Str × V) := [("inner", i)]
def fTwo (w : Str) (a b : V) : List (Str × V) := [("word", .str w), ("left", a), ("right", b)]
/-- v is an object of the expression e -/
def ObjE (c : EC) (H : Hp) : Ex → V → Prop
  | .num n, v => ∃ p dx, v = .ref p ∧ H p = some (.ins c.num dx (fNum n))
  | .box s, v => ∃ p dx, v = .ref p ∧ H p = some (.ins c.box dx (fBox s))
  | .cell e, v => ∃ p dx i, v = .ref p ∧ H p = some (.ins c.cell dx (fCell i)) ∧ ObjE c H e i
  | .two w l r, v => ∃ p dx a b, v = .ref p ∧ H p = some (.ins c.two dx (fTwo w a b)) ∧ ObjE c H l a ∧ ObjE c H r b
theorem ObjE.same {c : EC} {H H' : Hp} (s : Same H H') : ∀ {e : Ex} {v : V}, ObjE c H e v → ObjE c H' e v
  | .num n, v, ⟨p, dx, h1, h2⟩ => ⟨p, dx, h1, s _ _ h2⟩
  | .box n, v, ⟨p, dx, h1, h2⟩ => ⟨p, dx, h1, s _ _ h2⟩
  | .cell e, v, ⟨p, dx, i, h1, h2, h3⟩ => ⟨p, dx, i, h1, s _ _ h2, ObjE.same s h3⟩
  | .two w l r, v, ⟨p, dx, a, b, h1, h2, h3, h4⟩ => ⟨p, dx, a, b, h1, s _ _ h2, ObjE.same s h3, ObjE.same s h4⟩
abbrev exMeth (m : Str) : Prop := m ∈ (["told", "words", "parts", "levels", "reckon"] : List Str)
theorem look_none {m : Str} (h : exMeth m) : (∀ n, (fNum n).lookup m = none) ∧ (∀ s, (fBox s).lookup m = none) ∧ (∀ i, (fCell i).lookup m = none) ∧ (∀ w a b, (fTwo w a b).lookup m = none) := by
  have n : ∀ k ∈ (["value", "name", "inner", "word", "left", "right"] : List Str), (m == k) = false := by
    intro k hk
    have : ∀ x ∈ (["told", "words", "parts", "levels", "reckon"] : List Str), ∀ y ∈ (["value", "name", "inner", "word", "left", "right"] : List Str), (x == y) = false := by decide +kernel
    exact this m h k hk
  refine ⟨fun z => ?_, fun z => ?_, fun z => ?_, fun w a b => ?_⟩
  · show (match m == "value" with | true => some (V.int z) | false => none) = none
    rw [n "value" (by decide +kernel)]
  · show (match m == "name" with | true => some (V.str z) | false => none) = none
    rw [n "name" (by decide +kernel)]
  · show (match m == "inner" with | true => some z | false => none) = none
    rw [n "inner" (by decide +kernel)]
  · unfold fTwo
    rw [List.lookup_cons, n "word" (by decide +kernel)]
    simp only
    rw [List.lookup_cons, n "left" (by decide +kernel)]
    simp only
    rw [List.lookup_cons, n "right" (by decide +kernel)]
    rfl
theorem ObjE.at {c : EC} {H : Hp} {m : Str} (hm : exMeth m) : ∀ {e : Ex} {v : V}, ObjE c H e v → ∃ p dx fs, v = .ref p ∧ H p = some (.ins (c.of e) dx fs) ∧ fs.lookup m = none
  | .num n, v, ⟨p, dx, h1, h2⟩ => ⟨p, dx, _, h1, h2, (look_none hm).1 _⟩
  | .box n, v, ⟨p, dx, h1, h2⟩ => ⟨p, dx, _, h1, h2, (look_none hm).2.1 _⟩
  | .cell e, v, ⟨p, dx, i, h1, h2, h3⟩ => ⟨p, dx, _, h1, h2, (look_none hm).2.2.1 _⟩
  | .two w l r, v, ⟨p, dx, a, b, h1, h2, h3, h4⟩ => ⟨p, dx, _, h1, h2, (look_none hm).2.2.2 _ _ _⟩
/-! ### data told -/
theorem dp_same {K : PySem.W.Frag} {H H' : Hp} (s : Same H H') {v : V} {d : PyData} (h : Dp K H v d) : Dp K H' v d := by
  refine Dp.rec (motive_1 := fun v d _ => Dp K H' v d) (motive_2 := fun vs ds _ => DpAll K H' vs ds) ?_ ?_ ?_ ?_ ?_ ?_ ?_ ?_ h
  · exact .non
  · exact fun b => .bl b
  · exact fun i => .int i
  · exact fun x => .str x
  · exact fun h1 _ h2 => .lst (s.seq h1) h2
  · exact fun h1 _ h2 => .tup (same_tup s h1) h2
  · exact .nil
  · exact fun _ _ h1 h2 => .cons h1 h2
theorem dpAll_same {K : PySem.W.Frag} {H H' : Hp} (s : Same H H') : ∀ {vs : List V} {ds : List PyData}, DpAll K H vs ds → DpAll K H' vs ds
  | _, _, .nil => .nil
  | _, _, .cons a b => .cons (dp_same s a) (dpAll_same s b)
/-- v is told data, a tuple that stands by itself -/
def TupD (K : PySem.W.Frag) (H : Hp) (v : V) (ds : List PyData) : Prop := ∃ t xs, v = .ref t ∧ H t = some (.tup xs) ∧ DpAll K H xs ds
theorem TupD.dp {K : PySem.W.Frag} {H : Hp} {v : V} {ds : List PyData} (h : TupD K H v ds) : Dp K H v (.tuple ds) := by
  obtain ⟨t, xs, rfl, h1, h2⟩ := h
  exact .tup (SqT.of h1) h2
theorem TupD.same {K : PySem.W.Frag} {H H' : Hp} (s : Same H H') {v : V} {ds : List PyData} (h : TupD K H v ds) : TupD K H' v ds := by
  obtain ⟨t, xs, rfl, h1, h2⟩ := h
  exact ⟨t, xs, rfl, s _ _ h1, dpAll_same s h2⟩
def Ex.items : Ex → List PyData
  | .num n => [.str "number", .int n]
  | .box s => [.str "box", .str s]
  | .cell e => [.str "cell", e.told]
  | .two w l r => [.str w, l.told, r.told]
theorem Ex.told_items : ∀ e : Ex, e.told = .tuple e.items
  | .num _ => rfl
  | .box _ => rfl
  | .cell _ => rfl
  | .two _ _ _ => rfl
/-- v is the told tuple of e: each inner tuple stands by itself -/
def ToldE (K : PySem.W.Frag) (H : Hp) : Ex → V → Prop
  | .num n, v => ∃ t, v = .ref t ∧ H t = some (.tup [.str "number", .int n])
  | .box s, v => ∃ t, v = .ref t ∧ H t = some (.tup [.str "box", .str s])
  | .cell e, v => ∃ t i, v = .ref t ∧ H t = some (.tup [.str "cell", i]) ∧ ToldE K H e i
  | .two w l r, v => ∃ t a b, v = .ref t ∧ H t = some (.tup [.str w, a, b]) ∧ ToldE K H l a ∧ ToldE K H r b
theorem ToldE.same {K : PySem.W.Frag} {H H' : Hp} (s : Same H H') : ∀ {e : Ex} {v : V}, ToldE K H e v → ToldE K H' e v
  | .num n, v, ⟨p, h1, h2⟩ => ⟨p, h1, s _ _ h2⟩
  | .box n, v, ⟨p, h1, h2⟩ => ⟨p, h1, s _ _ h2⟩
  | .cell e, v, ⟨p, i, h1, h2, h3⟩ => ⟨p, i, h1, s _ _ h2, ToldE.same s h3⟩
  | .two w l r, v, ⟨p, a, b, h1, h2, h3, h4⟩ => ⟨p, a, b, h1, s _ _ h2, ToldE.same s h3, ToldE.same s h4⟩
theorem ToldE.dp {K : PySem.W.Frag} {H : Hp} : ∀ {e : Ex} {v : V}, ToldE K H e v → Dp K H v e.told
  | .num n, v, ⟨p, h1, h2⟩ => by rw [h1]; exact .tup (SqT.of h2) (.cons (.str _) (.cons (.int _) .nil))
  | .box n, v, ⟨p, h1, h2⟩ => by rw [h1]; exact .tup (SqT.of h2) (.cons (.str _) (.cons (.str _) .nil))
  | .cell e, v, ⟨p, i, h1, h2, h3⟩ => by rw [h1]; exact .tup (SqT.of h2) (.cons (.str _) (.cons (ToldE.dp h3) .nil))
  | .two w l r, v, ⟨p, a, b, h1, h2, h3, h4⟩ => by rw [h1]; exact .tup (SqT.of h2) (.cons (.str _) (.cons (ToldE.dp h3) (.cons (ToldE.dp h4) .nil)))
theorem ToldE.ref {K : PySem.W.Frag} {H : Hp} : ∀ {e : Ex} {v : V}, ToldE K H e v → ∃ t xs, v = .ref t ∧ H t = some (.tup xs)
  | .num n, v, ⟨p, h1, h2⟩ => ⟨p, _, h1, h2⟩
  | .box n, v, ⟨p, h1, h2⟩ => ⟨p, _, h1, h2⟩
  | .cell e, v, ⟨p, i, h1, h2, h3⟩ => ⟨p, _, h1, h2⟩
  | .two w l r, v, ⟨p, a, b, h1, h2, h3, h4⟩ => ⟨p, _, h1, h2⟩
theorem strOk_of {s : Str} (h : ∀ c ∈ tl s, c ≤ 122) : PyData.strOk s = true := by
  unfold PyData.strOk
  rw [← Array.all_toList]
  refine List.all_eq_true.mpr fun c hc => ?_
  have := h c hc
  simp only [decide_eq_true_eq]
  omega
theorem Ex.lay : ∀ {e : Ex}, e.Wf → e.told.canLay0 = true
  | .num n, _ => by
    show (PyData.strOk _ && (true && true)) = true
    rw [strOk_of (by decide +kernel)]; rfl
  | .box s, h => by
    obtain ⟨_, _, _, _, h4⟩ := nameW_parts (s := s) h
    show (PyData.strOk _ && (PyData.strOk s && true)) = true
    rw [strOk_of (by decide +kernel), strOk_of fun c hc => (h4 c hc).2]; rfl
  | .cell e, h => by
    have ih := Ex.lay (e := e) h
    show (PyData.strOk _ && (e.told.canLay0 && true)) = true
    rw [strOk_of (by decide +kernel), ih]; rfl
  | .two w l r, h => by
    have h1 := Ex.lay (e := l) h.2.1
    have h2 := Ex.lay (e := r) h.2.2
    show (PyData.strOk w && (l.told.canLay0 && (r.told.canLay0 && true))) = true
    rw [strOk_of fun c hc => (pair_free w h.1 c hc).2, h1, h2]; rfl
theorem Ex.told_depth : ∀ e : Ex, e.told.depth ≤ e.depth
  | .num _ => by show max 0 (max 0 0) + 1 ≤ 1; omega
  | .box _ => by show max 0 (max 0 0) + 1 ≤ 1; omega
  | .cell e => by
    have := Ex.told_depth e
    show max 0 (max e.told.depth 0) + 1 ≤ e.depth + 1; omega
  | .two w l r => by
    have := Ex.told_depth l
    have := Ex.told_depth r
    show max 0 (max l.told.depth (max r.told.depth 0)) + 1 ≤ max l.depth r.depth + 1; omega
theorem Ex.shaped {e : Ex} (h : e.Wf) (hd : e.depth ≤ 60) : SeqAt.shaped e.told = true := by
  have h1 := Ex.lay h
  have h2 := Ex.told_depth e
  show (e.told.canLay0 && decide (e.told.depth ≤ 64)) = true
  rw [h1, decide_eq_true (by omega)]; rfl
theorem Ex.eqv {e : Ex} (h : e.Wf) : PyData.eqv e.told e.told = true := SeqAt.eqv_refl _ (Ex.lay h)
/-! ### texts -/
def Ex.text : Ex → Str
  | .num n => numT n
  | .box s => s
  | .cell e => (Str.ofString "cell ") ++ e.text
  | .two w l r => Txt.join (Str.ofString " ") [w, l.text, r.text]
theorem Ex.text_len : ∀ {e : Ex}, e.Wf → e.text.length + 1 ≤ 7 * e.parts
  | .num n, h => by
    have := Ex.toks_ok (e := .num n) h (numT n) (List.mem_singleton.mpr rfl)
    show (numT n).length + 1 ≤ 7 * 1
    rw [len_tl]; omega
  | .box s, h => by
    have := Ex.toks_ok (e := .box s) h s (List.mem_singleton.mpr rfl)
    show s.length + 1 ≤ 7 * 1
    rw [len_tl]; omega
  | .cell e, h => by
    have ih := Ex.text_len (e := e) h
    show (Str.ofString "cell " ++ e.text).length + 1 ≤ 7 * (1 + e.parts)
    rw [len_tl, tl_append, List.length_append]
    have : (tl (Str.ofString "cell ")).length = 5 := by decide +kernel
    rw [len_tl] at ih
    omega
  | .two w l r, h => by
    have h1 := Ex.text_len (e := l) h.2.1
    have h2 := Ex.text_len (e := r) h.2.2
    have h3 := (pair_not_val w h.1).2.2.2
    have b : (tl (Str.ofString " ")).length = 1 := by decide +kernel
    show (Txt.join (Str.ofString " ") [w, l.text, r.text]).length + 1 ≤ 7 * (1 + l.parts + r.parts)
    rw [join_eq, len_tl, tl_join]
    rw [len_tl] at h1 h2
    simp only [List.map_cons, List.map_nil, joinL, List.length_append, b]
    omega
theorem Ex.text_toks : ∀ {e : Ex}, tl e.text = joinL [32] (e.toks.map tl)
  | .num n => rfl
  | .box s => rfl
  | .cell e => by
    have ih := Ex.text_toks (e := e)
    show tl (Str.ofString "cell " ++ e.text) = joinL [32] ((Str.ofString "cell" :: e.toks).map tl)
    rw [tl_append, ih]
    have c1 : tl (Str.ofString "cell ") = tl (Str.ofString "cell") ++ [32] := by decide +kernel
    rw [c1]
    cases q : e.toks with
    | nil => have := e.toks_len; rw [q] at this; have := e.parts_pos; simp at *; omega
    | cons x r =>
      show _ = tl (Str.ofString "cell") ++ ([32] ++ joinL [32] ((x :: r).map tl))
      rw [List.append_assoc]
  | .two w l r => by
    have h1 := Ex.text_toks (e := l)
    have h2 := Ex.text_toks (e := r)
    show tl (Txt.join (Str.ofString " ") [w, l.text, r.text]) = joinL [32] ((w :: (l.toks ++ r.toks)).map tl)
    have b : tl (Str.ofString " ") = [32] := by decide +kernel
    rw [join_eq, tl_join, b]
    show tl w ++ ([32] ++ (tl l.text ++ ([32] ++ tl r.text))) = _
    rw [h1, h2, List.map_cons, List.map_append]
    have key : ∀ (a b : List (List Nat)), a ≠ [] → b ≠ [] → joinL [32] a ++ ([32] ++ joinL [32] b) = joinL [32] (a ++ b) := by
      intro a
      induction a with
      | nil => intro b h; exact absurd rfl h
      | cons x a ih =>
        intro b _ hb
        cases a with
        | nil =>
          cases b with
          | nil => exact absurd rfl hb
          | cons y b => rfl
        | cons x2 a =>
          have := ih b (by simp) hb
          show (x ++ ([32] ++ joinL [32] (x2 :: a))) ++ _ = x ++ ([32] ++ joinL [32] ((x2 :: a) ++ b))
          rw [← this]
          simp only [List.append_assoc]
    have n1 : l.toks.map tl ≠ [] := fun e => by have := congrArg List.length e; rw [List.length_map, l.toks_len] at this; have := l.parts_pos; simp at *; omega
    have n2 : r.toks.map tl ≠ [] := fun e => by have := congrArg List.length e; rw [List.length_map, r.toks_len] at this; have := r.parts_pos; simp at *; omega
    rw [key _ _ n1 n2]
    cases q : (l.toks.map tl ++ r.toks.map tl) with
    | nil => exact absurd (List.append_eq_nil_iff.mp q).1 n1
    | cons x z => rfl
theorem Ex.split_text {e : Ex} (h : e.Wf) : Txt.split e.text (Str.ofString " ") = e.toks := by
  have b : tl (Str.ofString " ") = 32 :: [] := by decide +kernel
  have ej : e.text = Txt.join (Str.ofString " ") e.toks := by
    refine ext_tl ?_
    rw [join_eq, tl_join, b, Ex.text_toks]
  rw [ej]
  refine split_join b (by decide +kernel) (fun q => ?_) fun p hp => ?_
  · have := e.toks_len; rw [q] at this; have := e.parts_pos; simp at *; omega
  · intro hm
    rcases (Ex.toks_ok h p hp).2 32 hm with c | c <;> omega
/-! ### promises -/
/-- one text in, a truth out; nothing else is touched -/
def spTruthS (f : Str → Bool) : Sp := fun vs H Q _ => ∃ s : Str, vs = [.str s] ∧ s.length ≤ 100000 ∧ ∀ H', Same H H' → Q (.bl (f s)) H'
def spInit1 (C : Addr) (f : Str) : Sp := fun vs H Q _ => ∃ (p dx : Addr) (x : V), vs = [.ref p, x] ∧ H p = some (.ins C dx []) ∧ Q .non (upd H p (.ins C dx [(f, x)]))
def spTwoI (C : Addr) : Sp := fun vs H Q _ => ∃ (p dx : Addr) (w : Str) (a b : V), vs = [.ref p, .str w, a, b] ∧ H p = some (.ins C dx []) ∧ Q .non (upd H p (.ins C dx (fTwo w a b)))
def spTold (K : PySem.W.Frag) (c : EC) (n : Nat) (C : Addr) : Sp := fun vs H Q _ => ∃ (e : Ex) (v : V), vs = [v] ∧ ObjE c H e v ∧ c.of e = C ∧ e.depth ≤ n ∧ ∀ r H', Same H H' → ToldE K H' e r → Q r H'
def spWords (c : EC) (n : Nat) (C : Addr) : Sp := fun vs H Q _ => ∃ (e : Ex) (v : V), vs = [v] ∧ ObjE c H e v ∧ c.of e = C ∧ e.depth ≤ n ∧ e.Wf ∧ e.parts ≤ 1000 ∧ ∀ H', Same H H' → Q (.str e.text) H'
def spParts (c : EC) (n : Nat) (C : Addr) : Sp := fun vs H Q _ => ∃ (e : Ex) (v : V), vs = [v] ∧ ObjE c H e v ∧ c.of e = C ∧ e.depth ≤ n ∧ Q (.int e.parts) H
def spExprAt (K : PySem.W.Frag) (c : EC) (N : Addr) (n : Nat) : Sp := fun vs H Q E => ∃ (a : Addr) (ws : List Str) (i d : Nat), vs = [.ref a, .int i, .int (7 - (d : Int))] ∧ SqL K H a (ws.map V.str) ∧ ws.length ≤ 100000 ∧ (∀ s ∈ ws, s.length ≤ 100000) ∧ d < n ∧ d ≤ 7 ∧
  (∀ e r, parseE d (ws.drop i) = some (e, r) → ∀ t H' v, Same H H' → H' t = some (.tup [v, .int ((ws.length - r.length : Nat) : Int)]) → ObjE c H' e v → Q (.ref t) H') ∧
  (parseE d (ws.drop i) = none → ∀ H', Same H H' → E (.ref N) none H')
inductive AllE (c : EC) (H : Hp) : List Ex → List V → Prop where
  | nil : AllE c H [] []
  | cons {e : Ex} {v : V} {es : List Ex} {vs : List V} : ObjE c H e v → AllE c H es vs → AllE c H (e :: es) (v :: vs)
theorem AllE.same {c : EC} {H H' : Hp} (s : Same H H') : ∀ {es : List Ex} {vs : List V}, AllE c H es vs → AllE c H' es vs
  | _, _, .nil => .nil
  | _, _, .cons a b => .cons (a.same s) (b.same s)
theorem AllE.snoc {c : EC} {H : Hp} {e : Ex} {v : V} (h : ObjE c H e v) : ∀ {es : List Ex} {vs : List V}, AllE c H es vs → AllE c H (es ++ [e]) (vs ++ [v])
  | _, _, .nil => .cons h .nil
  | _, _, .cons a b => .cons a (b.snoc h)
theorem AllE.length {c : EC} {H : Hp} : ∀ {es : List Ex} {vs : List V}, AllE c H es vs → es.length = vs.length
  | _, _, .nil => rfl
  | _, _, .cons _ b => congrArg (· + 1) b.length
def spExprs (K : PySem.W.Frag) (c : EC) (N : Addr) : Sp := fun vs H Q E => ∃ (a : Addr) (ws : List Str), vs = [.ref a] ∧ SqL K H a (ws.map V.str) ∧ ws.length ≤ 100000 ∧ (∀ s ∈ ws, s.length ≤ 100000) ∧
  (∀ es, parseAll ws.length ws = some es → ∀ l H' os, Same H H' → H l = none → H' l = some (.lst os) → AllE c H' es os → Q (.ref l) H') ∧ (parseAll ws.length ws = none → ∀ H', Same H H' → E (.ref N) none H')
def spReadE (c : EC) (N : Addr) : Sp := fun vs H Q E => ∃ (s : Str), vs = [.str s] ∧ s.length ≤ 99999 ∧
  (∀ e, parseAll (Txt.split s " ").length (Txt.split s " ") = some [e] → ∀ v H', Same H H' → ObjE c H' e v → Q v H') ∧
  ((∀ e, parseAll (Txt.split s " ").length (Txt.split s " ") ≠ some [e]) → ∀ H', Same H H' → E (.ref N) none H')
def spReadAny (K : PySem.W.Frag) (c : EC) (N : Addr) : Sp := fun vs H Q E => ∃ x : V, vs = [x] ∧ ((∃ (s : Str), x = .str s ∧ s.length ≤ 99999 ∧
  (∀ e, parseAll (Txt.split s " ").length (Txt.split s " ") = some [e] → ∀ v H', Same H H' → ObjE c H' e v → Q v H') ∧
  ((∀ e, parseAll (Txt.split s " ").length (Txt.split s " ") ≠ some [e]) → ∀ H', Same H H' → E (.ref N) none H')) ∨
  (∃ t, TyX K H x t ∧ PySem.W.kitOne K t (.type "str") = some false ∧ E (.ref N) none H))

theorem valW_false1 {s : Str} (h : ¬ 1 ≤ (tl s).length ∨ ¬ (tl s).length ≤ 6) : isValW s = false := by
  unfold isValW lenOk
  rcases h with h | h
  · rw [decide_eq_false h]; rfl
  · rw [decide_eq_false h, Bool.and_false]; rfl
theorem valW_false2 {s : Str} (h : (tl s).head? = some 48) (h2 : s ≠ "0") : isValW s = false := by
  unfold isValW
  have e : ((tl s).head? == some 48) = true := by rw [h]; rfl
  rw [e, decide_eq_true h2]
  simp
theorem valW_true {s : Str} (h1 : 1 ≤ (tl s).length) (h2 : (tl s).length ≤ 6) (h3 : (tl s).head? = some 48 → s = "0") : isValW s = (tl s).all isDig := by
  unfold isValW lenOk
  rw [decide_eq_true h1, decide_eq_true h2]
  by_cases c : (tl s).head? = some 48
  · rw [h3 c, decide_eq_false (fun e => e rfl)]; simp
  · have e : ((tl s).head? == some 48) = false := beq_eq_false_iff_ne.mpr c
    rw [e]; simp
theorem nameW_false1 {s : Str} (h : ¬ 1 ≤ (tl s).length ∨ ¬ (tl s).length ≤ 6) : isNameW s = false := by
  unfold isNameW lenOk
  rcases h with h | h
  · rw [decide_eq_false h]; rfl
  · rw [decide_eq_false h, Bool.and_false]; rfl
theorem nameW_false2 {s : Str} (h : s ∈ PAIRW ∨ s ∈ ROWW ∨ s ∈ OTHW) : isNameW s = false := by
  unfold isNameW
  have e : (decide (s ∈ PAIRW) || (decide (s ∈ ROWW) || decide (s ∈ OTHW))) = true := by
    rcases h with h | h | h <;> simp [h]
  rw [e]; simp
theorem nameW_true {s : Str} (h1 : 1 ≤ (tl s).length) (h2 : (tl s).length ≤ 6) (h3 : s ∉ PAIRW) (h4 : s ∉ ROWW) (h5 : s ∉ OTHW) : isNameW s = (tl s).all isLow := by
  unfold isNameW lenOk
  rw [decide_eq_true h1, decide_eq_true h2, decide_eq_false h3, decide_eq_false h4, decide_eq_false h5]; simp
theorem len_line {s : Str} (h : s.length ≤ 100000) : s.length ≤ sizeLine := Nat.le_trans h (by decide)

theorem log_small {n : Nat} (h : n < 2 ^ 20) : n.log2 < 1920 := by
  by_cases h0 : n = 0
  · subst h0; decide
  · exact Nat.lt_of_lt_of_le ((Nat.log2_lt h0).mpr h) (by decide)

theorem while_m {c : TT} {tb : TS} {D : Ends} {σ : St} {H : Hp} (Pv : Nat → St → Hp → Prop) (m0 : Nat) (h0 : Pv m0 σ H)
    (hs : ∀ m σ H, Pv m σ H → c σ H fun b H1 => if b = true then ∃ N : St → Hp → Prop, (∀ σ' H', N σ' H' → ∃ m', m' < m ∧ Pv m' σ' H') ∧ tb { D with nx := N, ct := N, bk := D.nx } σ H1 else D.nx σ H1) : tWhile c tb D σ H := ⟨Pv, ⟨m0, h0⟩, hs⟩
theorem made_same {H : Hp} {x dx : Addr} {o o1 o2 : HO} (hx : H x = none) (hd : H dx = none) : Same H (upd (upd (upd H dx o) x o1) x o2) := fun b u e => by
  have n1 : b ≠ x := ne_of_none e hx
  rw [upd_ne n1, upd_ne n1, upd_ne (ne_of_none e hd)]
  exact e
theorem mk_init {C : Addr} {f : Str} {H : Hp} {v : V} {Q : Hp → Prop} {E : XK} {x dx : Addr} (hx : H x = none) (hd : H dx = none) (k : ∀ H', Same H H' → H' x = some (.ins C dx [(f, v)]) → Q H') :
    spInit1 C f [.ref x, v] (upd (upd H dx (.own x)) x (.ins C dx [])) (fun v H2 => v = .non ∧ Q H2) E :=
  ⟨x, dx, v, rfl, upd_same, rfl, k _ (made_same hx hd) upd_same⟩
theorem mk_two {C : Addr} {H : Hp} {wd : Str} {a b : V} {Q : Hp → Prop} {E : XK} {x dx : Addr} (hx : H x = none) (hd : H dx = none) (k : ∀ H', Same H H' → H' x = some (.ins C dx (fTwo wd a b)) → Q H') :
    spTwoI C [.ref x, .str wd, a, b] (upd (upd H dx (.own x)) x (.ins C dx [])) (fun v H2 => v = .non ∧ Q H2) E :=
  ⟨x, dx, wd, a, b, rfl, upd_same, rfl, k _ (made_same hx hd) upd_same⟩
theorem parse_len {d : Nat} {ws : List Str} {e : Ex} {r : List Str} (h : parseE d ws = some (e, r)) : r.length < ws.length ∧ ws.drop (ws.length - r.length) = r := by
  obtain ⟨_, _, h3⟩ := parse_wf h
  have n1 := e.toks_len
  have n2 := e.parts_pos
  have hl : ws.length = e.toks.length + r.length := by rw [h3, List.length_append]
  refine ⟨by omega, ?_⟩
  have e1 : ws.length - r.length = e.toks.length := by omega
  rw [e1, h3, List.drop_left]
theorem parse_at {d i : Nat} {ws : List Str} {e : Ex} {r : List Str} (h : parseE d (ws.drop i) = some (e, r)) : i < ws.length - r.length ∧ ws.length - r.length ≤ ws.length ∧ ws.drop (ws.length - r.length) = r := by
  obtain ⟨_, _, h3⟩ := parse_wf h
  have n1 := e.toks_len
  have n2 := e.parts_pos
  have hl : (ws.drop i).length = e.toks.length + r.length := by rw [h3, List.length_append]
  rw [List.length_drop] at hl
  refine ⟨by omega, Nat.sub_le _ _, ?_⟩
  have e1 : ws.length - r.length = i + e.toks.length := by omega
  rw [e1, ← List.drop_drop, h3, List.drop_left]
theorem at_str {ws : List Str} {i : Nat} {s : Str} {r : List Str} (h : ws.drop i = s :: r) : i < ws.length ∧ atI (ws.map V.str) (i : Int) = some (.str s) ∧ ws.drop (i + 1) = r ∧ r.length = ws.length - (i + 1) ∧ s ∈ ws := by
  have hl : (ws.drop i).length = r.length + 1 := by rw [h]; rfl
  rw [List.length_drop] at hl
  have hi : i < ws.length := by omega
  have e1 : ws.drop i = ws[i] :: ws.drop (i + 1) := List.drop_eq_getElem_cons hi
  rw [h, List.cons.injEq] at e1
  refine ⟨hi, atI_nat (by rw [List.getElem?_map, List.getElem?_eq_getElem hi, ← e1.1]; rfl), e1.2.symm, by omega, ?_⟩
  rw [e1.1]; exact List.getElem_mem hi
theorem parseE_cons {d : Nat} {w : Str} {r : List Str} : parseE (d + 1) (w :: r) = (if isValW w = true then some (.num (valOf w), r)
    else if isNameW w = true then some (.box w, r)
    else if w = "cell" then (match parseE d r with
      | none => none
      | some (e, r1) => some (.cell e, r1))
    else if w ∈ PAIRW then (match parseE d r with
      | none => none
      | some (l, r1) => (match parseE d r1 with
        | none => none
        | some (e, r2) => some (.two w l e, r2)))
    else none) := rfl
theorem parseAll_fuel : ∀ (n : Nat) (ws : List Str), ws.length ≤ n → parseAll n ws = parseAll ws.length ws := by
  intro n
  induction n using Nat.strongRecOn with
  | _ n ih =>
    intro ws h
    cases ws with
    | nil => cases n <;> rfl
    | cons x t =>
      cases n with
      | zero => simp at h
      | succ n =>
        show (match parseE 6 (x :: t) with | none => none | some (e, r) => if e.parts ≤ 15 then (match parseAll n r with | none => none | some es => some (e :: es)) else none) = parseAll (t.length + 1) (x :: t)
        show _ = (match parseE 6 (x :: t) with | none => none | some (e, r) => if e.parts ≤ 15 then (match parseAll t.length r with | none => none | some es => some (e :: es)) else none)
        cases q : parseE 6 (x :: t) with
        | none => rfl
        | some p =>
          obtain ⟨e, r⟩ := p
          have hr := (parse_len q).1
          have hr' : r.length < t.length + 1 := hr
          have ht : t.length + 1 ≤ n + 1 := h
          show (if e.parts ≤ 15 then (match parseAll n r with | none => none | some es => some (e :: es)) else none) = (if e.parts ≤ 15 then (match parseAll t.length r with | none => none | some es => some (e :: es)) else none)
          rw [ih n (by omega) r (by omega)]
          by_cases c : t.length = n
          · rw [c, ih n (by omega) r (by omega)]
          · rw [ih t.length (by omega) r (by omega)]
/-- the words from here on, in one step -/
theorem parseAll_step {x : Str} {t : List Str} : parseAll (x :: t).length (x :: t) = (match parseE 6 (x :: t) with | none => none | some (e, r) => if e.parts ≤ 15 then (match parseAll r.length r with | none => none | some es => some (e :: es)) else none) := by
  show (match parseE 6 (x :: t) with | none => none | some (e, r) => if e.parts ≤ 15 then (match parseAll t.length r with | none => none | some es => some (e :: es)) else none) = _
  cases q : parseE 6 (x :: t) with
  | none => rfl
  | some p =>
    obtain ⟨e, r⟩ := p
    have hr := (parse_len q).1
    have hr' : r.length < t.length + 1 := hr
    show (if e.parts ≤ 15 then (match parseAll t.length r with | none => none | some es => some (e :: es)) else none) = (if e.parts ≤ 15 then (match parseAll r.length r with | none => none | some es => some (e :: es)) else none)
    rw [parseAll_fuel t.length r (by omega)]
def after (es : List Ex) : Option (List Ex) → Option (List Ex)
  | none => none
  | some fs => some (es ++ fs)

theorem objE_upd {c : EC} {H : Hp} {l : Addr} {xs ys : List V} (h : H l = some (.lst xs)) : ∀ {e : Ex} {v : V}, ObjE c H e v → ObjE c (upd H l (.lst ys)) e v
  | .num n, v, ⟨p, dx, h1, h2⟩ => ⟨p, dx, h1, by rw [upd_ne (ne_of h2 h (by intro z; cases z))]; exact h2⟩
  | .box n, v, ⟨p, dx, h1, h2⟩ => ⟨p, dx, h1, by rw [upd_ne (ne_of h2 h (by intro z; cases z))]; exact h2⟩
  | .cell e, v, ⟨p, dx, i, h1, h2, h3⟩ => ⟨p, dx, i, h1, by rw [upd_ne (ne_of h2 h (by intro z; cases z))]; exact h2, objE_upd h h3⟩
  | .two w l r, v, ⟨p, dx, a, b, h1, h2, h3, h4⟩ => ⟨p, dx, a, b, h1, by rw [upd_ne (ne_of h2 h (by intro z; cases z))]; exact h2, objE_upd h h3, objE_upd h h4⟩
theorem allE_upd {c : EC} {H : Hp} {l : Addr} {xs ys : List V} (h : H l = some (.lst xs)) : ∀ {es : List Ex} {vs : List V}, AllE c H es vs → AllE c (upd H l (.lst ys)) es vs
  | _, _, .nil => .nil
  | _, _, .cons a b => .cons (objE_upd h a) (allE_upd h b)
theorem allE_snoc_upd {c : EC} {H : Hp} {l : Addr} {xs ys : List V} {e : Ex} {v : V} {es : List Ex} {vs : List V} (h : H l = some (.lst xs)) (a : AllE c H es vs) (o : ObjE c H e v) : AllE c (upd H l (.lst ys)) (es ++ [e]) (vs ++ [v]) := (allE_upd h a).snoc (objE_upd h o)

theorem joinL_len : ∀ L : List (List Nat), L.length ≤ (joinL [32] L).length + 1 ∧ ∀ p ∈ L, p.length ≤ (joinL [32] L).length
  | [] => ⟨Nat.zero_le _, fun _ h => by cases h⟩
  | [x] => ⟨by simp, fun p h => by rw [List.mem_singleton.mp h]; exact Nat.le_refl _⟩
  | x :: y :: r => by
    have ih := joinL_len (y :: r)
    have e : joinL [32] (x :: y :: r) = x ++ ([32] ++ joinL [32] (y :: r)) := rfl
    rw [e, List.length_append, List.length_append]
    refine ⟨by have := ih.1; simp only [List.length_cons, List.length_nil] at this ⊢; omega, fun p h => ?_⟩
    rcases List.mem_cons.mp h with rfl | h
    · omega
    · have := ih.2 p h; omega
theorem split_small {s : Str} (h : s.length ≤ 100000 - 1) : (Txt.split s " ").length ≤ 100000 ∧ ∀ p ∈ Txt.split s " ", p.length ≤ 100000 := by
  have e := PySem.StrLaws.join_split s (Str.ofString " ")
  have e2 := congrArg tl e
  have b : tl (Str.ofString " ") = [32] := by decide +kernel
  rw [tl_join, b] at e2
  have q := joinL_len ((Txt.split s (Str.ofString " ")).map tl)
  rw [e2, List.length_map, ← len_tl s] at q
  refine ⟨by have := q.1; omega, fun p hp => ?_⟩
  have := q.2 (tl p) (List.mem_map.mpr ⟨p, hp, rfl⟩)
  rw [← len_tl p] at this
  omega

/-- all([sign in F for sign in s]) -/
theorem rd_all {K : PySem.W.Frag} {σ : St} {H : Hp} {s F : Str} {f : Nat → Bool} {Q : VK} {i j : Nat} (hi : σ[i]? = some (some (.str s))) (hj : j < σ.length) (hn : j ≠ i) (hl : s.length ≤ 16000000) (hf : ∀ c, decide (c ∈ F.cps.toList) = f c)
    (q : ∀ H', Same H H' → Q (.bl ((tl s).all f)) H') :
    tCB (rAll K) (tCons (tLc (iStr (tVar i)) (gName j) tYes (tOp (fun x y H Q => ∃ (c : Nat) (z : Str), x = .str ⟨#[c]⟩ ∧ y = .str z ∧ Q (.bl (decide (c ∈ z.cps.toList))) H) (tVar j) (tC (.str F))) [j]) tNil) σ H Q := by
  refine ⟨_, hi, s, rfl, fun D hD => lc_it walk_str (fun k H' => H' D = some (.lst ((((tl s).take k).map f).map V.bl)) ∧ Same H H') ⟨by rw [upd_same]; rfl, same_new hD⟩ (fun _ _ _ _ => trivial) ?_ ?_⟩
  · rintro k x H1 H2 hk ⟨h1, h2⟩ ⟨rfl, c, hc, rfl⟩
    have hjl : (wipe σ [j]).length = σ.length := wipe_length _ _
    refine ⟨by show ((σ.set j none).set j _).set j none = _; simp [wipe], ?_⟩
    refine ⟨_, by rw [List.getElem?_set_self (by rw [hjl]; exact hj)], c, F, rfl, rfl, ?_⟩
    have hs : k < (tl s).length := by
      have : s.cps.size = (tl s).length := by simp [tl]
      omega
    refine ⟨_, h1, ?_, ?_⟩
    · rw [List.length_map, List.length_map]
      have : s.length = (tl s).length := len_tl s
      refine Nat.lt_of_le_of_lt (List.length_take_le _ _) (by show k < 16777216; omega)
    · refine ⟨?_, fun b o e => ?_⟩
      · rw [upd_same]
        have e1 : (tl s)[k]? = some c := by rw [← hc]; simp [tl]
        rw [List.take_add_one, e1, hf c]
        simp
      · rw [upd_ne (ne_of_none e hD)]
        exact h2 b o e
  · rintro H' ⟨h1, h2⟩
    have hs : s.cps.size = (tl s).length := by simp [tl]
    rw [hs, List.take_length] at h1
    refine ⟨D, _, rfl, SqL.of h1, ?_⟩
    have e : ((tl s).map f).all id = (tl s).all f := by rw [List.all_map]; rfl
    rw [e]
    exact q H' h2

def spCell (K : PySem.W.Frag) : Sp := fun vs H Q _ => ∃ (a : Addr) (ns : List Int) (k : Int), vs = [.ref a, .int k] ∧ SqL K H a (ns.map V.int) ∧ 0 ≤ k ∧ ∀ n : Int, Q (.int n) H
/-- two ints go in, some int comes out -/
def spI2 : Sp := fun vs H Q _ => ∃ (a b : Int), vs = [.int a, .int b] ∧ ∀ n : Int, Q (.int n) H
def WellAt (H : Hp) (p : Addr) : Prop := ∃ a b c d : Int, H p = some (.lst [.int a, .int b, .int c, .int d])
def spWell (K : PySem.W.Frag) : Sp := fun vs H Q _ => ∃ (a : Addr) (ns : List Int) (k : Int), vs = [.ref a, .int k] ∧ SqL K H a (ns.map V.int) ∧ 0 ≤ k ∧ ∀ p H', H p = none → Same H H' → WellAt H' p → Q (.ref p) H'
def spDraw : Sp := fun vs H Q _ => ∃ (p : Addr) (m : Int), vs = [.ref p, .int m] ∧ WellAt H p ∧ 0 < m ∧ m ≤ 1000000 ∧ ∀ (n : Int) H', 0 ≤ n → n < m → KeepX p H H' → WellAt H' p → Q (.int n) H'
theorem at_int {ns : List Int} {k : Int} (h0 : 0 ≤ k) (h : k < (ns.length : Int)) : ∃ v : Int, atI (ns.map V.int) k = some (.int v) := by
  have hk : k.toNat < ns.length := by omega
  have ek : k = ((k.toNat : Nat) : Int) := by omega
  have q : atI (ns.map V.int) ((k.toNat : Nat) : Int) = some (.int ns[k.toNat]) := atI_nat (by rw [List.getElem?_map, List.getElem?_eq_getElem hk] <;> rfl)
  rw [← ek] at q
  exact ⟨_, q⟩
theorem mod64 {x y : Int} : CMul (x % 2147483647) y := Or.inl ⟨by omega, by omega⟩
theorem WellAt.ne {H : Hp} {p t : Addr} (W : WellAt H p) {o : HO} (h : H t = some o) (no : ∀ xs, o ≠ .lst xs) : t ≠ p := fun e => by
  obtain ⟨a, b, c, d, w⟩ := W
  rw [e, w] at h
  exact no _ (Option.some.inj h).symm
theorem KeepX.tup {p : Addr} {H H' : Hp} (k : KeepX p H H') (W : WellAt H p) {t : Addr} {xs : List V} (h : H t = some (.tup xs)) : H' t = some (.tup xs) := k _ _ (W.ne h (by intro _ e; cases e)) h
theorem WellAt.fresh {H : Hp} {p q : Addr} (W : WellAt H p) (h : H q = none) : q ≠ p := fun e => by
  obtain ⟨_, _, _, _, w⟩ := W
  rw [← e, h] at w; cases w
theorem WellAt.same {H H' : Hp} {p : Addr} (s : Same H H') : WellAt H p → WellAt H' p := fun ⟨a, b, c, d, w⟩ => ⟨a, b, c, d, s _ _ w⟩
/-- f i for all i below n -/
def seqV (f : Nat → V) (n : Nat) : List V := (List.range n).map f
theorem seqV_succ (f : Nat → V) (n : Nat) : seqV f (n + 1) = seqV f n ++ [f n] := by
  unfold seqV
  rw [List.range_succ, List.map_append]; rfl
theorem seqV_length (f : Nat → V) (n : Nat) : (seqV f n).length = n := by unfold seqV; rw [List.length_map, List.length_range]
/-- [e(x) for x in w]: each e gives a value that is known ahead -/
theorem lc_map {J : It} {n : Nat} {G : Hp → Prop} {Y : Nat → Hp → V → Hp → Prop} (w : Walk J n G Y) (f : Nat → V) {j : Nat} {te : TE} {σ : St} {H1 : Hp} {D : Addr} {Qd : Hp → Prop} (hD : H1 D = none) (hn : n < 16777216) (hj : j < σ.length)
    (hG : ∀ H, Same H1 H → G H) (hY : ∀ i H x H', Y i H x H' → H' = H)
    (step : ∀ i x H (Z : VK), i < n → Same H1 H → Y i H x H → (∀ H', Same H H' → Z (f i) H') → te ((σ.set j none).set j (some x)) H Z)
    (hd : ∀ H, Same H1 H → H D = some (.lst (seqV f n)) → Qd H) :
    ∃ W : Nat → Nat → Hp → Prop, (∃ m, W 0 m (upd H1 D (.lst []))) ∧ ∀ i m H, W i m H →
      (J.stop i H ∧ Qd H) ∨ (J.go i H ∧ ∃ Nx : Hp → Prop, (∀ H', Nx H' → ∃ m', m' < m ∧ W (i + 1) m' H') ∧ ∀ x H', J.yld i H x H' → gName j x (wipe σ [j]) H' fun σ2 H2 => wipe σ2 [j] = wipe σ [j] ∧ tYes σ2 H2 fun b H3 =>
        if b = true then te σ2 H3 fun y H4 => ∃ acc, H4 D = some (.lst acc) ∧ acc.length < sizeLine ∧ Nx (upd H4 D (.lst (acc ++ [y]))) else Nx H3) := by
  refine lc_it w (fun i H => H D = some (.lst (seqV f i)) ∧ Same H1 H) ⟨upd_same, same_new hD⟩ (fun i H _ h => hG H h.2) ?_ fun H h => hd H h.2 h.1
  rintro i x H H2 hi ⟨h1, h2⟩ y
  have e := hY _ _ _ _ y
  subst e
  have hw : wipe ((wipe σ [j]).set j (some x)) [j] = wipe σ [j] := by
    show ((σ.set j none).set j (some x)).set j none = σ.set j none
    simp
  refine ⟨hw, ?_⟩
  refine step i x _ _ hi h2 y fun H3 s3 => ⟨_, s3 _ _ h1, ?_, ?_⟩
  · rw [seqV_length]; exact Nat.lt_of_lt_of_le (Nat.lt_trans hi hn) (by decide)
  · refine ⟨by rw [upd_same, seqV_succ], fun b o hb => ?_⟩
    rw [upd_ne (ne_of_none hb hD)]
    exact s3 _ _ (h2 b o hb)
theorem at_strs {ss : List Str} {n : Int} (h0 : 0 ≤ n) (h1 : n < (ss.length : Int)) : ∃ s ∈ ss, atI (ss.map V.str) n = some (.str s) := by
  have hk : n.toNat < ss.length := by omega
  have ek : n = ((n.toNat : Nat) : Int) := by omega
  have q : atI (ss.map V.str) ((n.toNat : Nat) : Int) = some (.str ss[n.toNat]) := atI_nat (by rw [List.getElem?_map, List.getElem?_eq_getElem hk] <;> rfl)
  rw [← ek] at q
  exact ⟨_, List.getElem_mem hk, q⟩
/-- one proof for a goal that is asked more than once -/
theorem twice_asked {A B : Prop} (b : B) (f : B → A) : A := f b
def spValue : Sp := fun vs H Q _ => ∃ (p : Addr), vs = [.ref p] ∧ WellAt H p ∧ ∀ (n : Int) H', 0 ≤ n → n < 1000000 → KeepX p H H' → WellAt H' p → Q (.int n) H'
def spName : Sp := fun vs H Q _ => ∃ (p : Addr), vs = [.ref p] ∧ WellAt H p ∧ ∀ (s : Str) H', isNameW s = true → KeepX p H H' → WellAt H' p → Q (.str s) H'

/-! ### lists that go together -/
inductive All2 {α β : Type} (R : α → β → Prop) : List α → List β → Prop where
  | nil : All2 R [] []
  | cons {a : α} {b : β} {as : List α} {bs : List β} : R a b → All2 R as bs → All2 R (a :: as) (b :: bs)
theorem All2.length {α β : Type} {R : α → β → Prop} : ∀ {as : List α} {bs : List β}, All2 R as bs → as.length = bs.length
  | _, _, .nil => rfl
  | _, _, .cons _ h => congrArg (· + 1) h.length
theorem All2.mono {α β : Type} {R S : α → β → Prop} (f : ∀ a b, R a b → S a b) : ∀ {as : List α} {bs : List β}, All2 R as bs → All2 S as bs
  | _, _, .nil => .nil
  | _, _, .cons h t => .cons (f _ _ h) (t.mono f)
theorem All2.mono_mem {α β : Type} {R S : α → β → Prop} : ∀ {as : List α} {bs : List β}, (∀ a b, a ∈ as → b ∈ bs → R a b → S a b) → All2 R as bs → All2 S as bs
  | _, _, _, .nil => .nil
  | _, _, f, .cons h t => .cons (f _ _ List.mem_cons_self List.mem_cons_self h) (t.mono_mem fun a b ha hb => f a b (List.mem_cons_of_mem _ ha) (List.mem_cons_of_mem _ hb))
theorem All2.snoc {α β : Type} {R : α → β → Prop} {a : α} {b : β} (h : R a b) : ∀ {as : List α} {bs : List β}, All2 R as bs → All2 R (as ++ [a]) (bs ++ [b])
  | _, _, .nil => .cons h .nil
  | _, _, .cons g t => .cons g (t.snoc h)
theorem All2.at {α β : Type} {R : α → β → Prop} : ∀ {as : List α} {bs : List β} {i : Nat} {b : β}, All2 R as bs → bs[i]? = some b → ∃ a, as[i]? = some a ∧ R a b
  | _, _, 0, _, .cons h _, e => ⟨_, rfl, by cases e; exact h⟩
  | _, _, i + 1, _, .cons _ t, e => t.at (i := i) e
  | _, _, _, _, .nil, e => by simp at e
theorem All2.at2 {α β : Type} {R : α → β → Prop} : ∀ {as : List α} {bs : List β} {i : Nat} {a : α}, All2 R as bs → as[i]? = some a → ∃ b, bs[i]? = some b ∧ R a b
  | _, _, 0, _, .cons h _, e => ⟨_, rfl, by cases e; exact h⟩
  | _, _, i + 1, _, .cons _ t, e => t.at2 (i := i) e
  | _, _, _, _, .nil, e => by simp at e
theorem ints_of : ∀ {ys : List V} {P : Int → Prop}, (∀ y ∈ ys, ∃ n, y = V.int n ∧ P n) → ∃ ns : List Int, ys = ns.map V.int ∧ (∀ n ∈ ns, P n) ∧ ns.length = ys.length
  | [], _, _ => ⟨[], rfl, (fun _ h => by cases h), rfl⟩
  | y :: r, P, h => by
    obtain ⟨n, e, hn⟩ := h y List.mem_cons_self
    obtain ⟨ns, e2, hs, hl⟩ := ints_of (ys := r) fun z hz => h z (List.mem_cons_of_mem _ hz)
    refine ⟨n :: ns, by rw [e, e2]; rfl, fun z hz => ?_, congrArg (· + 1) hl⟩
    rcases List.mem_cons.mp hz with rfl | hz
    · exact hn
    · exact hs z hz
theorem strs_of : ∀ {ys : List V} {P : Str → Prop}, (∀ y ∈ ys, ∃ n, y = V.str n ∧ P n) → ∃ ns : List Str, ys = ns.map V.str ∧ (∀ n ∈ ns, P n) ∧ ns.length = ys.length
  | [], _, _ => ⟨[], rfl, (fun _ h => by cases h), rfl⟩
  | y :: r, P, h => by
    obtain ⟨n, e, hn⟩ := h y List.mem_cons_self
    obtain ⟨ns, e2, hs, hl⟩ := strs_of (ys := r) fun z hz => h z (List.mem_cons_of_mem _ hz)
    refine ⟨n :: ns, by rw [e, e2]; rfl, fun z hz => ?_, congrArg (· + 1) hl⟩
    rcases List.mem_cons.mp hz with rfl | hz
    · exact hn
    · exact hs z hz
/-- where a list may go on being written: nothing else moves -/
def LcGoal (J : It) (D : Addr) (te : TE) (j : Nat) (σ : St) (H1 : Hp) (Qd : Hp → Prop) : Prop :=
    ∃ W : Nat → Nat → Hp → Prop, (∃ m, W 0 m (upd H1 D (.lst []))) ∧ ∀ i m H, W i m H →
      (J.stop i H ∧ Qd H) ∨ (J.go i H ∧ ∃ Nx : Hp → Prop, (∀ H', Nx H' → ∃ m', m' < m ∧ W (i + 1) m' H') ∧ ∀ x H', J.yld i H x H' → gName j x (wipe σ [j]) H' fun σ2 H2 => wipe σ2 [j] = wipe σ [j] ∧ tYes σ2 H2 fun b H3 =>
        if b = true then te σ2 H3 fun y H4 => ∃ acc, H4 D = some (.lst acc) ∧ acc.length < sizeLine ∧ Nx (upd H4 D (.lst (acc ++ [y]))) else Nx H3)
theorem seqV_map {α : Type} (f : α → V) (d : α) (xs : List α) : seqV (fun i => f (xs.getD i d)) xs.length = xs.map f := by
  unfold seqV
  refine List.ext_getElem (by rw [List.length_map, List.length_map, List.length_range]) fun i h1 h2 => ?_
  rw [List.getElem_map, List.getElem_map, List.getElem_range]
  have : i < xs.length := by rw [List.length_map] at h2; exact h2
  rw [List.getD_eq_getElem?_getD, List.getElem?_eq_getElem this]
  rfl
/-- [f(x) for x in xs], known ahead -/
theorem lc_mapA {α : Type} (xs : List α) (g f : α → V) (d : α) {J : It} {G : Hp → Prop} {j : Nat} {te : TE} {σ : St} {H1 : Hp} {D : Addr} {Qd : Hp → Prop} (w : Walk J (xs.map g).length G (YAt (xs.map g))) (hD : H1 D = none) (hn : xs.length < 16777216) (hj : j < σ.length)
    (hG : ∀ H, Same H1 H → G H)
    (step : ∀ a ∈ xs, ∀ H (Z : VK), Same H1 H → (∀ H', Same H H' → Z (f a) H') → te ((σ.set j none).set j (some (g a))) H Z)
    (hd : ∀ H, Same H1 H → H D = some (.lst (xs.map f)) → Qd H) : LcGoal J D te j σ H1 Qd := by
  refine lc_map w (fun i => f (xs.getD i d)) hD (by rw [List.length_map]; exact hn) hj hG (fun _ _ _ _ y => y.1) ?_ fun H s h => hd H s ?_
  · rintro i x H Z hi s ⟨_, hx⟩ z
    rw [List.length_map] at hi
    have e : xs[i]? = some (xs.getD i d) := by rw [List.getD_eq_getElem?_getD, List.getElem?_eq_getElem hi]; rfl
    rw [List.getElem?_map, e] at hx
    cases hx
    exact step _ (List.mem_of_getElem? e) H Z s z
  · rw [h, List.length_map, seqV_map]
/-- [e for x in xs]: what each gives stands in R to its x -/
theorem lc_rel {H1 : Hp} {D : Addr} {α : Type} (xs : List α) {β : α → V → Prop} (R : Hp → α → V → Prop) {ws : List V} (hw : All2 β xs ws) (mono : ∀ H H' a y, Same H H' → R H a y → R H' a y) (lst : ∀ H a y ys ys', R H a y → H D = some (.lst ys) → R (upd H D (.lst ys')) a y) {J : It} {G : Hp → Prop} {j : Nat} {te : TE} {σ : St} {Qd : Hp → Prop} (w : Walk J ws.length G (YAt ws)) (hD : H1 D = none) (hn : xs.length < 16777216) (hj : j < σ.length)
    (hG : ∀ H, Same H1 H → G H)
    (step : ∀ a v, a ∈ xs → v ∈ ws → β a v → ∀ H (Z : VK), Same H1 H → (∃ ys, H D = some (.lst ys)) → (∀ H' y, Same H H' → R H' a y → Z y H') → te ((σ.set j none).set j (some v)) H Z)
    (hd : ∀ H ys, Same H1 H → All2 (R H) xs ys → H D = some (.lst ys) → Qd H) : LcGoal J D te j σ H1 Qd := by
  refine lc_it w (fun i H => ∃ ys, H D = some (.lst ys) ∧ Same H1 H ∧ All2 (R H) (xs.take i) ys) ⟨[], upd_same, same_new hD, by rw [List.take_zero]; exact .nil⟩ (fun i H _ h => hG H h.choose_spec.2.1) ?_ fun H ⟨ys, h1, h2, h3⟩ => hd H ys h2 (by rw [← hw.length, List.take_length] at h3; exact h3) h1
  rintro i v H H2 hi ⟨ys, h1, h2, h3⟩ ⟨e, hv⟩
  subst e
  have hw2 : wipe ((wipe σ [j]).set j (some v)) [j] = wipe σ [j] := by
    show ((σ.set j none).set j (some v)).set j none = σ.set j none
    simp
  refine ⟨hw2, ?_⟩
  obtain ⟨a, ha, hb⟩ := hw.at hv
  have hl := h3.length
  have hi' : i < xs.length := by rw [hw.length]; exact hi
  rw [List.length_take] at hl
  refine step a v (List.mem_of_getElem? ha) (List.mem_of_getElem? hv) hb _ _ h2 ⟨ys, h1⟩ fun H3 y s3 r3 => ⟨ys, s3 _ _ h1, ?_, ?_⟩
  · exact Nat.lt_of_lt_of_le (show ys.length < 16777216 by omega) (by decide)
  · refine ⟨ys ++ [y], upd_same, fun b o hb => ?_, ?_⟩
    · rw [upd_ne (ne_of_none hb hD)]
      exact s3 _ _ (h2 b o hb)
    · rw [List.take_add_one, ha]
      show All2 _ (xs.take i ++ [a]) _
      exact (h3.mono fun a' y' h => lst _ _ _ _ _ (mono _ _ _ _ s3 h) (s3 _ _ h1)).snoc (lst _ _ _ _ _ r3 (s3 _ _ h1))
/-- [e for k in ..], each e drawn at the well p: what each gives is P -/
theorem lc_drawn {J : It} {n : Nat} {G : Hp → Prop} {Y : Nat → Hp → V → Hp → Prop} (w : Walk J n G Y) (P : V → Prop) {p : Addr} {j : Nat} {te : TE} {σ : St} {H1 : Hp} {D : Addr} {Qd : Hp → Prop} (W : WellAt H1 p) (hD : H1 D = none) (hn : n < 16777216) (hj : j < σ.length)
    (hG : ∀ H, G H) (hY : ∀ i H x H', Y i H x H' → H' = H)
    (step : ∀ i x H (Z : VK), i < n → KeepX p H1 H → WellAt H p → Y i H x H → (∀ H' y, KeepX p H H' → WellAt H' p → P y → Z y H') → te ((σ.set j none).set j (some x)) H Z)
    (hd : ∀ H ys, KeepX p H1 H → WellAt H p → ys.length = n → (∀ y ∈ ys, P y) → H D = some (.lst ys) → Qd H) : LcGoal J D te j σ H1 Qd := by
  have npD : D ≠ p := fun e => by obtain ⟨_, _, _, _, w⟩ := W; rw [← e, hD] at w; cases w
  refine lc_it w (fun i H => ∃ ys, H D = some (.lst ys) ∧ KeepX p H1 H ∧ WellAt H p ∧ ys.length = i ∧ ∀ y ∈ ys, P y) ⟨[], upd_same, keepX_of (same_new hD), W.same (same_new hD), rfl, fun _ h => by cases h⟩ (fun i H _ _ => hG H) ?_ fun H ⟨ys, h1, h2, h3, h4, h5⟩ => hd H ys h2 h3 h4 h5 h1
  rintro i v H H2 hi ⟨ys, h1, h2, h3, h4, h5⟩ y
  have e := hY _ _ _ _ y
  subst e
  have hw2 : wipe ((wipe σ [j]).set j (some v)) [j] = wipe σ [j] := by
    show ((σ.set j none).set j (some v)).set j none = σ.set j none
    simp
  refine ⟨hw2, ?_⟩
  refine step i v _ _ hi h2 h3 y fun H3 z k3 W3 pz => ⟨ys, k3 _ _ npD h1, ?_, ?_⟩
  · exact Nat.lt_of_lt_of_le (show ys.length < 16777216 by omega) (by decide)
  · refine ⟨ys ++ [z], upd_same, fun b o nb hb => ?_, ?_, by rw [List.length_append, h4]; rfl, fun y hy => ?_⟩
    · rw [upd_ne (ne_of_none hb hD)]
      exact k3 _ _ nb (h2 b o nb hb)
    · obtain ⟨a, b, c, d, w⟩ := W3
      exact ⟨a, b, c, d, by rw [upd_ne npD.symm]; exact w⟩
    · rcases List.mem_append.mp hy with h | h
      · exact h5 y h
      · rw [List.mem_singleton.mp h]; exact pz

def SOMEN : List Str := ["a", "b", "i", "zz", "iff", "en", "cells", "giver", "mainly", "lesss", "sets", "whil"]
def BAD1 : List Str := ["if", "end", "ask", "set", "put", "fun", "main", "else", "skip", "draw", "tell", "call", "give"]
def BAD2 : List Str := ["cell", "plus", "over", "rest", "less", "same", "while", "minus", "times"]
theorem someN_ok : ∀ s ∈ SOMEN, isNameW s = true := by decide +kernel
theorem bad1_ok : ∀ s ∈ BAD1, isNameW (s ++ Str.ofString "x") = true ∧ s.length ≤ 6 := by decide +kernel
theorem bad2_ok : ∀ s ∈ BAD2, isNameW (Str.ofString "x" ++ s) = true ∧ s.length ≤ 6 := by decide +kernel
theorem words_bad : ∀ s ∈ PAIRW ++ (ROWW ++ OTHW), s ∈ BAD1 ∨ s ∈ BAD2 := by decide +kernel
/-- the k-th letter -/
theorem letter_at {n : Int} (h0 : 0 ≤ n) (h1 : n < 26) : ∃ c : Nat, atI (tl (Str.ofString "abcdefghijklmnopqrstuvwxyz")) n = some c ∧ 97 ≤ c ∧ c ≤ 122 := by
  have e : tl (Str.ofString "abcdefghijklmnopqrstuvwxyz") = (List.range 26).map (97 + ·) := by decide +kernel
  have hk : n.toNat < 26 := by omega
  have ek : n = ((n.toNat : Nat) : Int) := by omega
  rw [e, ek]
  refine ⟨97 + n.toNat, atI_nat ?_, by omega, by omega⟩
  rw [List.getElem?_map, List.getElem?_range hk]
  rfl
theorem name_of {s : Str} (h1 : 1 ≤ (tl s).length) (h2 : (tl s).length ≤ 6) (h3 : ∀ c ∈ tl s, 97 ≤ c ∧ c ≤ 122) (h4 : s ∉ BAD1) (h5 : s ∉ BAD2) : isNameW s = true := by
  have no : ∀ l : List Str, (∀ x ∈ l, x ∈ PAIRW ++ (ROWW ++ OTHW)) → s ∉ l := fun l hl hs => by
    rcases words_bad s (hl s hs) with h | h
    · exact h4 h
    · exact h5 h
  rw [nameW_true h1 h2 (no _ fun x hx => List.mem_append_left _ hx) (no _ fun x hx => List.mem_append_right _ (List.mem_append_left _ hx)) (no _ fun x hx => List.mem_append_right _ (List.mem_append_right _ hx))]
  refine List.all_eq_true.mpr fun c hc => ?_
  have := h3 c hc
  unfold isLow
  simp only [Bool.and_eq_true, decide_eq_true_eq]
  exact this

/-! ### told tuples of the law -/
theorem ToldE.keep {K : PySem.W.Frag} {p : Addr} {H H' : Hp} (k : KeepX p H H') (W : WellAt H p) : ∀ {e : Ex} {v : V}, ToldE K H e v → ToldE K H' e v
  | .num n, v, ⟨t, h1, h2⟩ => ⟨t, h1, k.tup W h2⟩
  | .box n, v, ⟨t, h1, h2⟩ => ⟨t, h1, k.tup W h2⟩
  | .cell e, v, ⟨t, i, h1, h2, h3⟩ => ⟨t, i, h1, k.tup W h2, ToldE.keep k W h3⟩
  | .two w l r, v, ⟨t, a, b, h1, h2, h3, h4⟩ => ⟨t, a, b, h1, k.tup W h2, ToldE.keep k W h3, ToldE.keep k W h4⟩
theorem in_num : inV (.str "number") [.str "number", .str "box"] = true := by decide +kernel
theorem in_box : inV (.str "box") [.str "number", .str "box"] = true := by decide +kernel
theorem in_cell : inV (.str "cell") [.str "number", .str "box"] = false := by decide +kernel
theorem in_pair {w : Str} (h : w ∈ PAIRW) : inV (.str w) [.str "number", .str "box"] = false := by
  have : ∀ w ∈ PAIRW, inV (.str w) [.str "number", .str "box"] = false := by decide +kernel
  exact this w h
theorem pair_ne {w : Str} (h : w ∈ PAIRW) : w ≠ "number" ∧ w ≠ "box" ∧ w ≠ "cell" := by
  have : ∀ w ∈ PAIRW, w ≠ "number" ∧ w ≠ "box" ∧ w ≠ "cell" := by decide +kernel
  exact this w h
def rStrAny : List V → Hp → VK → Prop := fun xs H Q => (∃ i, xs = [.int i] ∧ i.natAbs.log2 < 1920 ∧ Q (.str (toString i)) H) ∨ (∃ a, xs = [.str a] ∧ Q (.str a) H)
theorem call_str_any {X : Cx} : CallR X (.type "str") rStrAny := by
  intro pins s σ H xs us Q I r h
  rcases h with h | h
  · exact call_str_int pins s σ H xs us Q I r h
  · exact SkE.call_str_str pins s σ H xs us Q I r h
theorem sizeL2 {n : Nat} (h : n ≤ 16777216) : n ≤ sizeLine := Nat.le_trans h (by decide)
def spLParts (K : PySem.W.Frag) (n : Nat) : Sp := fun vs H Q _ => ∃ (e : Ex) (v : V), vs = [v] ∧ ToldE K H e v ∧ e.Wf ∧ e.depth ≤ n ∧ ∀ H', Same H H' → Q (.int e.parts) H'
def spLWords (K : PySem.W.Frag) (n : Nat) : Sp := fun vs H Q _ => ∃ (e : Ex) (v : V), vs = [v] ∧ ToldE K H e v ∧ e.Wf ∧ e.parts ≤ 1000 ∧ e.depth ≤ n ∧ ∀ H', Same H H' → Q (.str e.text) H'
def spLExpr (K : PySem.W.Frag) (n : Nat) : Sp := fun vs H Q _ => ∃ (p : Addr) (d m : Int), vs = [.ref p, .int d, .int m] ∧ WellAt H p ∧ 1 ≤ d ∧ d ≤ n ∧ n ≤ 8 ∧ 1 ≤ m ∧ ∀ e v H', e.Wf → (e.depth : Int) ≤ d → (e.parts : Int) ≤ m → ToldE K H' e v → KeepX p H H' → WellAt H' p → Q v H'
theorem text_cell (e : Ex) : Txt.join (Str.ofString " ") [Str.ofString "cell", e.text] = (Ex.cell e).text := by
  refine ext_tl ?_
  have b : tl (Str.ofString " ") = [32] := by decide +kernel
  have c1 : tl (Str.ofString "cell ") = tl (Str.ofString "cell") ++ [32] := by decide +kernel
  show _ = tl (Str.ofString "cell " ++ e.text)
  rw [join_eq, tl_join, b, tl_append, c1, List.append_assoc]
  rfl

/-- some lists move, all else stands -/
def KeepL (av : List Addr) (H H' : Hp) : Prop := ∀ q o, q ∉ av → H q = some o → H' q = some o

/-! ### rows -/
inductive RT where
  | skip
  | set (b : Str) (e : Ex)
  | put (a b : Ex)
  | ask (b w : Str) (e : Ex)
  | draw (b w : Str)
  | tell (e : Ex)
  | ifr (e : Ex)
  | loop (e : Ex)
  | call (b f : Str) (es : List Ex)
  | give (e : Ex)
structure RC where
  skip : Addr
  set : Addr
  put : Addr
  ask : Addr
  draw : Addr
  tell : Addr
  ifr : Addr
  loop : Addr
  call : Addr
  give : Addr
def RC.of (c : RC) : RT → Addr
  | .skip => c.skip
  | .set _ _ => c.set
  | .put _ _ => c.put
  | .ask _ _ _ => c.ask
  | .draw _ _ => c.draw
  | .tell _ => c.tell
  | .ifr _ => c.ifr
  | .loop _ => c.loop
  | .call _ _ _ => c.call
  | .give _ => c.give
def RC.Fam (c : RC) (C : Addr) : Prop := ∃ rt, c.of rt = C
def RT.exs : RT → List Ex
  | .skip => []
  | .set _ e => [e]
  | .put a b => [a, b]
  | .ask _ _ e => [e]
  | .draw _ _ => []
  | .tell e => [e]
  | .ifr e => [e]
  | .loop e => [e]
  | .call _ _ es => es
  | .give e => [e]
/-- v is the object of the row rt at line n; the list of what a call gives lies where N says -/
def RowO (c : RC) (ec : EC) (N : Addr → Prop) (H : Hp) (n : Int) : RT → V → Prop
  | .skip, v => ∃ p dx, v = .ref p ∧ H p = some (.ins c.skip dx [("number", .int n)])
  | .set b e, v => ∃ p dx x, v = .ref p ∧ H p = some (.ins c.set dx [("number", .int n), ("box", .str b), ("expr", x)]) ∧ ObjE ec H e x
  | .put a b, v => ∃ p dx x y, v = .ref p ∧ H p = some (.ins c.put dx [("number", .int n), ("first", x), ("second", y)]) ∧ ObjE ec H a x ∧ ObjE ec H b y
  | .ask b w e, v => ∃ p dx x, v = .ref p ∧ H p = some (.ins c.ask dx [("number", .int n), ("box", .str b), ("word", .str w), ("expr", x)]) ∧ ObjE ec H e x
  | .draw b w, v => ∃ p dx, v = .ref p ∧ H p = some (.ins c.draw dx [("number", .int n), ("box", .str b), ("word", .str w)])
  | .tell e, v => ∃ p dx x, v = .ref p ∧ H p = some (.ins c.tell dx [("number", .int n), ("expr", x)]) ∧ ObjE ec H e x
  | .ifr e, v => ∃ p dx x y z, v = .ref p ∧ H p = some (.ins c.ifr dx [("number", .int n), ("test", x), ("first", y), ("second", z)]) ∧ ObjE ec H e x
  | .loop e, v => ∃ p dx x y, v = .ref p ∧ H p = some (.ins c.loop dx [("number", .int n), ("test", x), ("body", y)]) ∧ ObjE ec H e x
  | .call b f es, v => ∃ p dx l os, v = .ref p ∧ H p = some (.ins c.call dx [("number", .int n), ("box", .str b), ("fun", .str f), ("given", .ref l)]) ∧ N l ∧ H l = some (.lst os) ∧ AllE ec H es os
  | .give e, v => ∃ p dx x, v = .ref p ∧ H p = some (.ins c.give dx [("number", .int n), ("expr", x)]) ∧ ObjE ec H e x
theorem RowO.at {c : RC} {ec : EC} {N : Addr → Prop} {H : Hp} {n : Int} : ∀ {rt : RT} {v : V}, RowO c ec N H n rt v → ∃ p dx fs, v = .ref p ∧ H p = some (.ins (c.of rt) dx fs) ∧ List.lookup ("told" : Str) fs = none ∧ List.lookup ("number" : Str) fs = some (V.int n)
  | .skip, v, ⟨p, dx, h1, h2⟩ => ⟨p, dx, _, h1, h2, rfl, rfl⟩
  | .set _ _, v, ⟨p, dx, _, h1, h2, _⟩ => ⟨p, dx, _, h1, h2, rfl, rfl⟩
  | .put _ _, v, ⟨p, dx, _, _, h1, h2, _⟩ => ⟨p, dx, _, h1, h2, rfl, rfl⟩
  | .ask _ _ _, v, ⟨p, dx, _, h1, h2, _⟩ => ⟨p, dx, _, h1, h2, rfl, rfl⟩
  | .draw _ _, v, ⟨p, dx, h1, h2⟩ => ⟨p, dx, _, h1, h2, rfl, rfl⟩
  | .tell _, v, ⟨p, dx, _, h1, h2, _⟩ => ⟨p, dx, _, h1, h2, rfl, rfl⟩
  | .ifr _, v, ⟨p, dx, _, _, _, h1, h2, _⟩ => ⟨p, dx, _, h1, h2, rfl, rfl⟩
  | .loop _, v, ⟨p, dx, _, _, h1, h2, _⟩ => ⟨p, dx, _, h1, h2, rfl, rfl⟩
  | .call _ _ _, v, ⟨p, dx, _, _, h1, h2, _⟩ => ⟨p, dx, _, h1, h2, rfl, rfl⟩
  | .give _, v, ⟨p, dx, _, h1, h2, _⟩ => ⟨p, dx, _, h1, h2, rfl, rfl⟩
/-- a move of the heap that leaves objects of the expressions' and rows' classes, and the lists that N tells -/
def KeepI (cs : Addr → Prop) (N : Addr → Prop) (H H' : Hp) : Prop := (∀ q C dx fs, cs C → H q = some (.ins C dx fs) → H' q = some (.ins C dx fs)) ∧ ∀ l xs, N l → H l = some (.lst xs) → H' l = some (.lst xs)
theorem ObjE.keepI {c : EC} {cs N : Addr → Prop} {H H' : Hp} (k : KeepI cs N H H') (hc : ∀ C, c.Fam C → cs C) : ∀ {e : Ex} {v : V}, ObjE c H e v → ObjE c H' e v
  | .num n, v, ⟨p, dx, h1, h2⟩ => ⟨p, dx, h1, k.1 _ _ _ _ (hc _ (.inl rfl)) h2⟩
  | .box n, v, ⟨p, dx, h1, h2⟩ => ⟨p, dx, h1, k.1 _ _ _ _ (hc _ (.inr (.inl rfl))) h2⟩
  | .cell e, v, ⟨p, dx, i, h1, h2, h3⟩ => ⟨p, dx, i, h1, k.1 _ _ _ _ (hc _ (.inr (.inr (.inl rfl)))) h2, ObjE.keepI k hc h3⟩
  | .two w l r, v, ⟨p, dx, a, b, h1, h2, h3, h4⟩ => ⟨p, dx, a, b, h1, k.1 _ _ _ _ (hc _ (.inr (.inr (.inr rfl)))) h2, ObjE.keepI k hc h3, ObjE.keepI k hc h4⟩
theorem AllE.keepI {c : EC} {cs N : Addr → Prop} {H H' : Hp} (k : KeepI cs N H H') (hc : ∀ C, c.Fam C → cs C) : ∀ {es : List Ex} {vs : List V}, AllE c H es vs → AllE c H' es vs
  | _, _, .nil => .nil
  | _, _, .cons a b => .cons (a.keepI k hc) (b.keepI k hc)
theorem RowO.keepI {c : RC} {ec : EC} {cs N : Addr → Prop} {H H' : Hp} (k : KeepI cs N H H') (hc : ∀ C, ec.Fam C → cs C) (hr : ∀ C, c.Fam C → cs C) {n : Int} : ∀ {rt : RT} {v : V}, RowO c ec N H n rt v → RowO c ec N H' n rt v
  | .skip, v, ⟨p, dx, h1, h2⟩ => ⟨p, dx, h1, k.1 _ _ _ _ (hr _ ⟨.skip, rfl⟩) h2⟩
  | .set b e, v, ⟨p, dx, x, h1, h2, h3⟩ => ⟨p, dx, x, h1, k.1 _ _ _ _ (hr _ ⟨.set b e, rfl⟩) h2, h3.keepI k hc⟩
  | .put a b, v, ⟨p, dx, x, y, h1, h2, h3, h4⟩ => ⟨p, dx, x, y, h1, k.1 _ _ _ _ (hr _ ⟨.put a b, rfl⟩) h2, h3.keepI k hc, h4.keepI k hc⟩
  | .ask b w e, v, ⟨p, dx, x, h1, h2, h3⟩ => ⟨p, dx, x, h1, k.1 _ _ _ _ (hr _ ⟨.ask b w e, rfl⟩) h2, h3.keepI k hc⟩
  | .draw b w, v, ⟨p, dx, h1, h2⟩ => ⟨p, dx, h1, k.1 _ _ _ _ (hr _ ⟨.draw b w, rfl⟩) h2⟩
  | .tell e, v, ⟨p, dx, x, h1, h2, h3⟩ => ⟨p, dx, x, h1, k.1 _ _ _ _ (hr _ ⟨.tell e, rfl⟩) h2, h3.keepI k hc⟩
  | .ifr e, v, ⟨p, dx, x, y, z, h1, h2, h3⟩ => ⟨p, dx, x, y, z, h1, k.1 _ _ _ _ (hr _ ⟨.ifr e, rfl⟩) h2, h3.keepI k hc⟩
  | .loop e, v, ⟨p, dx, x, y, h1, h2, h3⟩ => ⟨p, dx, x, y, h1, k.1 _ _ _ _ (hr _ ⟨.loop e, rfl⟩) h2, h3.keepI k hc⟩
  | .call b f es, v, ⟨p, dx, l, os, h1, h2, h3, h4, h5⟩ => ⟨p, dx, l, os, h1, k.1 _ _ _ _ (hr _ ⟨.call b f es, rfl⟩) h2, h3, k.2 _ _ h3 h4, h5.keepI k hc⟩
  | .give e, v, ⟨p, dx, x, h1, h2, h3⟩ => ⟨p, dx, x, h1, k.1 _ _ _ _ (hr _ ⟨.give e, rfl⟩) h2, h3.keepI k hc⟩
theorem keepI_same {cs N : Addr → Prop} {H H' : Hp} (s : Same H H') : KeepI cs N H H' := ⟨fun _ _ _ _ _ h => s _ _ h, fun _ _ _ h => s _ _ h⟩
theorem RowO.same {c : RC} {ec : EC} {N : Addr → Prop} {H H' : Hp} (s : Same H H') {n : Int} {rt : RT} {v : V} (h : RowO c ec N H n rt v) : RowO c ec N H' n rt v :=
  h.keepI (cs := fun _ => True) (keepI_same s) (fun _ _ => trivial) fun _ _ => trivial
theorem RowO.weak {c : RC} {ec : EC} {N M : Addr → Prop} {H : Hp} (f : ∀ l, (∃ o, H l = some o) → N l → M l) {n : Int} : ∀ {rt : RT} {v : V}, RowO c ec N H n rt v → RowO c ec M H n rt v
  | .skip, v, h => h
  | .set _ _, v, h => h
  | .put _ _, v, h => h
  | .ask _ _ _, v, h => h
  | .draw _ _, v, h => h
  | .tell _, v, h => h
  | .ifr _, v, h => h
  | .loop _, v, h => h
  | .call b g es, v, ⟨p, dx, l, os, h1, h2, h3, h4, h5⟩ => ⟨p, dx, l, os, h1, h2, f l ⟨_, h4⟩ h3, h4, h5⟩
  | .give _, v, h => h
def RT.data : RT → PyData
  | .skip => .tuple [.str "skip"]
  | .set b e => .tuple [.str "set", .str b, e.told]
  | .put a b => .tuple [.str "put", a.told, b.told]
  | .ask b w e => .tuple [.str "ask", .str b, .str w, e.told]
  | .draw b w => .tuple [.str "draw", .str b, .str w]
  | .tell e => .tuple [.str "tell", e.told]
  | .ifr e => .tuple [.str "if", e.told]
  | .loop e => .tuple [.str "while", e.told]
  | .call b f es => .tuple (.str "call" :: .str b :: .str f :: es.map Ex.told)
  | .give e => .tuple [.str "give", e.told]
/-- r is what a row's told gives -/
def RTold (K : PySem.W.Frag) (H : Hp) : RT → V → Prop
  | .skip, r => ∃ t, r = .ref t ∧ H t = some (.tup [.str "skip"])
  | .set b e, r => ∃ t x, r = .ref t ∧ H t = some (.tup [.str "set", .str b, x]) ∧ ToldE K H e x
  | .put a b, r => ∃ t x y, r = .ref t ∧ H t = some (.tup [.str "put", x, y]) ∧ ToldE K H a x ∧ ToldE K H b y
  | .ask b w e, r => ∃ t x, r = .ref t ∧ H t = some (.tup [.str "ask", .str b, .str w, x]) ∧ ToldE K H e x
  | .draw b w, r => ∃ t, r = .ref t ∧ H t = some (.tup [.str "draw", .str b, .str w])
  | .tell e, r => ∃ t x, r = .ref t ∧ H t = some (.tup [.str "tell", x]) ∧ ToldE K H e x
  | .ifr e, r => ∃ t x, r = .ref t ∧ H t = some (.tup [.str "if", x]) ∧ ToldE K H e x
  | .loop e, r => ∃ t x, r = .ref t ∧ H t = some (.tup [.str "while", x]) ∧ ToldE K H e x
  | .call b f es, r => ∃ t xs, r = .ref t ∧ H t = some (.tup (.str "call" :: .str b :: .str f :: xs)) ∧ All2 (ToldE K H) es xs
  | .give e, r => ∃ t x, r = .ref t ∧ H t = some (.tup [.str "give", x]) ∧ ToldE K H e x
theorem dps_told {K : PySem.W.Frag} {H : Hp} : ∀ {es : List Ex} {xs : List V}, All2 (ToldE K H) es xs → DpAll K H xs (es.map Ex.told)
  | _, _, .nil => .nil
  | _, _, .cons h t => .cons h.dp (dps_told t)
theorem RTold.dp {K : PySem.W.Frag} {H : Hp} : ∀ {rt : RT} {r : V}, RTold K H rt r → Dp K H r rt.data
  | .skip, r, ⟨t, h1, h2⟩ => by rw [h1]; exact .tup (SqT.of h2) (.cons (.str _) .nil)
  | .set _ _, r, ⟨t, x, h1, h2, h3⟩ => by rw [h1]; exact .tup (SqT.of h2) (.cons (.str _) (.cons (.str _) (.cons h3.dp .nil)))
  | .put _ _, r, ⟨t, x, y, h1, h2, h3, h4⟩ => by rw [h1]; exact .tup (SqT.of h2) (.cons (.str _) (.cons h3.dp (.cons h4.dp .nil)))
  | .ask _ _ _, r, ⟨t, x, h1, h2, h3⟩ => by rw [h1]; exact .tup (SqT.of h2) (.cons (.str _) (.cons (.str _) (.cons (.str _) (.cons h3.dp .nil))))
  | .draw _ _, r, ⟨t, h1, h2⟩ => by rw [h1]; exact .tup (SqT.of h2) (.cons (.str _) (.cons (.str _) (.cons (.str _) .nil)))
  | .tell _, r, ⟨t, x, h1, h2, h3⟩ => by rw [h1]; exact .tup (SqT.of h2) (.cons (.str _) (.cons h3.dp .nil))
  | .ifr _, r, ⟨t, x, h1, h2, h3⟩ => by rw [h1]; exact .tup (SqT.of h2) (.cons (.str _) (.cons h3.dp .nil))
  | .loop _, r, ⟨t, x, h1, h2, h3⟩ => by rw [h1]; exact .tup (SqT.of h2) (.cons (.str _) (.cons h3.dp .nil))
  | .call _ _ _, r, ⟨t, xs, h1, h2, h3⟩ => by rw [h1]; exact .tup (SqT.of h2) (.cons (.str _) (.cons (.str _) (.cons (.str _) (dps_told h3))))
  | .give _, r, ⟨t, x, h1, h2, h3⟩ => by rw [h1]; exact .tup (SqT.of h2) (.cons (.str _) (.cons h3.dp .nil))
/-! ### promises -/
def spRowInit (K : PySem.W.Frag) : Sp := fun vs H Q _ => ∃ (p C dx : Addr) (n : V), vs = [.ref p, n] ∧ H p = some (.ins C dx []) ∧ Cls K C ∧ NoAttr K C "number" ∧ Q .non (upd H p (.ins C dx [("number", n)]))
/-- __init__ of a row's class: number, then these -/
def spRI (C : Addr) (fs : List Str) : Sp := fun vs H Q _ => ∃ (p dx : Addr) (xs : List V), vs = .ref p :: xs ∧ xs.length = fs.length ∧ H p = some (.ins C dx []) ∧ Q .non (upd H p (.ins C dx (fs.zip xs)))
def spRTold (K : PySem.W.Frag) (c : RC) (ec : EC) (C : Addr) : Sp := fun vs H Q _ => ∃ (n : Int) (rt : RT) (v : V) (N : Addr → Prop), vs = [v] ∧ RowO c ec N H n rt v ∧ c.of rt = C ∧ (∀ e ∈ rt.exs, e.depth ≤ 7) ∧ rt.exs.length ≤ 1000 ∧ ∀ r H', Same H H' → RTold K H' rt r → Q r H'
theorem allE_all2 {c : EC} {H : Hp} : ∀ {es : List Ex} {vs : List V}, AllE c H es vs → All2 (ObjE c H) es vs
  | _, _, .nil => .nil
  | _, _, .cons a b => .cons a (allE_all2 b)
theorem mk_row {C : Addr} {fs : List Str} {H : Hp} {xs : List V} {Q : Hp → Prop} {E : XK} {x dx : Addr} (hx : H x = none) (hd : H dx = none) (hl : xs.length = fs.length) (k : ∀ H', Same H H' → H' x = some (.ins C dx (fs.zip xs)) → Q H') :
    spRI C fs (.ref x :: xs) (upd (upd H dx (.own x)) x (.ins C dx [])) (fun v H2 => v = .non ∧ Q H2) E :=
  ⟨x, dx, xs, rfl, hl, upd_same, rfl, k _ (made_same hx hd) upd_same⟩

theorem ToldE.keepU {K : PySem.W.Frag} {H : Hp} {D : Addr} {ys ys' : List V} (hD : H D = some (.lst ys)) : ∀ {e : Ex} {v : V}, ToldE K H e v → ToldE K (upd H D (.lst ys')) e v
  | .num n, v, ⟨p, h1, h2⟩ => ⟨p, h1, by rw [upd_ne (ne_of h2 hD (by intro z; cases z))]; exact h2⟩
  | .box n, v, ⟨p, h1, h2⟩ => ⟨p, h1, by rw [upd_ne (ne_of h2 hD (by intro z; cases z))]; exact h2⟩
  | .cell e, v, ⟨p, i, h1, h2, h3⟩ => ⟨p, i, h1, by rw [upd_ne (ne_of h2 hD (by intro z; cases z))]; exact h2, ToldE.keepU hD h3⟩
  | .two w l r, v, ⟨p, a, b, h1, h2, h3, h4⟩ => ⟨p, a, b, h1, by rw [upd_ne (ne_of h2 hD (by intro z; cases z))]; exact h2, ToldE.keepU hD h3, ToldE.keepU hD h4⟩

/-! ### programs: what the reader reads -/
structure RS where
  at_ : Nat
  num : List (Nat × RT)
  calls : List (Str × Nat)
def putN (l : List (Nat × RT)) (n : Nat) (r : RT) : List (Nat × RT) :=
  if (l.any fun x => decide (x.1 = n)) = true then l.map (fun x => if x.1 = n then (x.1, r) else x) else l ++ [(n, r)]
def wordsAt (ts : List Str) (i : Nat) : List Str := Txt.split (ts.getD i (Str.ofString "")) (Str.ofString " ")
def hd0 (ws : List Str) : Str := ws.headD (Str.ofString "")
def wd (ws : List Str) (i : Nat) : Str := ws.getD i (Str.ofString "")
def headAt (ts : List Str) (i : Nat) : Option Str := if i < ts.length then some (hd0 (wordsAt ts i)) else none
def exL (ws : List Str) : Option (List Ex) := parseAll ws.length ws
def namesOk (ws : List Str) (k : Nat) : Bool := decide (ws.length = k) && ws.all isNameW
def only1 : Option (List Ex) → Option Ex
  | some [e] => some e
  | _ => none
def simpleF (ws : List Str) : Option RT :=
  if hd0 ws = "set" then (if namesOk ((ws.drop 1).take 1) 1 = true then (only1 (exL (ws.drop 2))).map (RT.set (wd ws 1)) else none)
  else if hd0 ws = "put" then (match exL (ws.drop 1) with
    | some [a, b] => some (.put a b)
    | _ => none)
  else if hd0 ws = "ask" then (if namesOk ((ws.drop 1).take 2) 2 = true then (only1 (exL (ws.drop 3))).map (RT.ask (wd ws 1) (wd ws 2)) else none)
  else if hd0 ws = "draw" then (if namesOk (ws.drop 1) 2 = true then some (.draw (wd ws 1) (wd ws 2)) else none)
  else if hd0 ws = "tell" then (only1 (exL (ws.drop 1))).map RT.tell
  else if ws = [Str.ofString "skip"] then some .skip else none
def callF (ws : List Str) : Option (Str × Str × List Ex) := if namesOk ((ws.drop 1).take 2) 2 = true then (exL (ws.drop 3)).map fun es => (wd ws 1, wd ws 2, es) else none
def passF (ts : List Str) (t : Str) (st : RS) : Option RS := if st.at_ < ts.length ∧ ts.getD st.at_ (Str.ofString "") = t then some { st with at_ := st.at_ + 1 } else none
def rowsF (ts : List Str) (blk : RS → Option RS) (ok : Bool) (ws : List Str) (st : RS) : Option (RT × RS) :=
  if ok = true then (match only1 (exL (ws.drop 1)) with
    | none => none
    | some e => match blk st with
      | none => none
      | some st2 => if hd0 ws = "while" then (match passF ts "end" st2 with
          | none => none
          | some st3 => some (.loop e, st3))
        else match passF ts "else" st2 with
          | none => none
          | some st3 => match blk st3 with
            | none => none
            | some st4 => match passF ts "end" st4 with
              | none => none
              | some st5 => some (.ifr e, st5)) else none
def oneF (ts : List Str) (rows : List Str → RS → Option (RT × RS)) (st : RS) : Option (RT × RS) :=
  if hd0 (wordsAt ts st.at_) = "if" ∨ hd0 (wordsAt ts st.at_) = "while" then rows (wordsAt ts st.at_) { st with at_ := st.at_ + 1 }
  else if hd0 (wordsAt ts st.at_) = "call" then (match callF (wordsAt ts st.at_) with
    | none => none
    | some (b, f, es) => some (.call b f es, ⟨st.at_ + 1, st.num, st.calls ++ [(f, es.length)]⟩))
  else (simpleF (wordsAt ts st.at_)).map fun rt => (rt, ⟨st.at_ + 1, st.num, st.calls⟩)
def blkF (ts : List Str) (one : RS → Option (RT × RS)) : Nat → RS → Option RS
  | 0, _ => none
  | n + 1, st => match headAt ts st.at_ with
    | none => some st
    | some w => if w ∈ ROWW then (match one st with
        | none => none
        | some (rt, st2) => blkF ts one n ⟨st2.at_, putN st2.num st.at_ rt, st2.calls⟩) else some st
/-- a block; n: how many levels may stand within one another from here on, and one more -/
def blockF (ts : List Str) : Nat → RS → Option RS
  | 0, _ => none
  | n + 1, st => blkF ts (oneF ts (rowsF ts (blockF ts n) (decide (0 < n)))) (ts.length + 1) st
def functionF (ts : List Str) (st : RS) : Option ((Str × Nat) × RS) :=
  if ((wordsAt ts st.at_).drop 1).all isNameW = true ∧ 2 ≤ (wordsAt ts st.at_).length ∧ ((wordsAt ts st.at_).drop 2).length ≤ 3 ∧ cntTo ((wordsAt ts st.at_).drop 2) ((wordsAt ts st.at_).drop 2).length = ((wordsAt ts st.at_).drop 2).length then
    (match blockF ts 6 { st with at_ := st.at_ + 1 } with
    | none => none
    | some st2 => if headAt ts st2.at_ = some "give" then (match only1 (exL ((wordsAt ts st2.at_).drop 1)) with
        | none => none
        | some e => some ((wd (wordsAt ts st.at_) 1, ((wordsAt ts st.at_).drop 2).length), ⟨st2.at_ + 1, putN st2.num st2.at_ (.give e), st2.calls⟩)) else none) else none
def funsF (ts : List Str) : Nat → List (Str × Nat) → RS → Option (List (Str × Nat) × RS)
  | 0, _, _ => none
  | n + 1, fs, st => if headAt ts st.at_ = some "fun" then (match functionF ts st with
      | none => none
      | some (f, st2) => if (fs.any fun g => decide (g.1 = f.1)) = true ∨ fs.length = 4 then none else funsF ts n (fs ++ [f]) st2)
    else some (fs, st)
def callOk (fs : List (Str × Nat)) (c : Str × Nat) : Bool := match fs.find? fun f => decide (f.1 = c.1) with
  | some f => decide (f.2 = c.2)
  | none => false
def readF (ts : List Str) : Option (List (Nat × RT)) :=
  if ts.length ≤ 60 then (match funsF ts (ts.length + 1) [] ⟨0, [], []⟩ with
    | none => none
    | some (fs, st) => match passF ts "main" st with
      | none => none
      | some st1 => match blockF ts 6 st1 with
        | none => none
        | some st2 => if st2.at_ = ts.length ∧ st2.calls.all (callOk fs) = true then some st2.num else none) else none
/-! ### where it stands behind each -/
theorem passF_at {ts : List Str} {t : Str} {st st' : RS} (h : passF ts t st = some st') : st'.at_ = st.at_ + 1 ∧ st'.at_ ≤ ts.length ∧ st'.num = st.num ∧ st'.calls = st.calls := by
  unfold passF at h
  by_cases c : st.at_ < ts.length ∧ ts.getD st.at_ (Str.ofString "") = t
  · rw [if_pos c] at h
    cases h
    exact ⟨rfl, c.1, rfl, rfl⟩
  · rw [if_neg c] at h; cases h
theorem rowsF_at {ts : List Str} {blk : RS → Option RS} (hb : ∀ st st', st.at_ ≤ ts.length → blk st = some st' → st.at_ ≤ st'.at_ ∧ st'.at_ ≤ ts.length) {ok : Bool} {ws : List Str} {st st' : RS} {rt : RT} (hs : st.at_ ≤ ts.length) (h : rowsF ts blk ok ws st = some (rt, st')) : st.at_ ≤ st'.at_ ∧ st'.at_ ≤ ts.length := by
  unfold rowsF at h
  cases ok with
  | false => cases h
  | true =>
    rw [if_pos rfl] at h
    cases q1 : only1 (exL (ws.drop 1)) with
    | none => rw [q1] at h; cases h
    | some e =>
      rw [q1] at h
      simp only at h
      cases q2 : blk st with
      | none => rw [q2] at h; cases h
      | some st2 =>
        rw [q2] at h
        simp only at h
        have b1 := hb st st2 hs q2
        by_cases c : hd0 ws = "while"
        · rw [if_pos c] at h
          cases q3 : passF ts "end" st2 with
          | none => rw [q3] at h; cases h
          | some st3 =>
            rw [q3] at h
            cases h
            have := passF_at q3
            omega
        · rw [if_neg c] at h
          cases q3 : passF ts "else" st2 with
          | none => rw [q3] at h; cases h
          | some st3 =>
            rw [q3] at h
            simp only at h
            have p3 := passF_at q3
            cases q4 : blk st3 with
            | none => rw [q4] at h; cases h
            | some st4 =>
              rw [q4] at h
              simp only at h
              have b4 := hb st3 st4 p3.2.1 q4
              cases q5 : passF ts "end" st4 with
              | none => rw [q5] at h; cases h
              | some st5 =>
                rw [q5] at h
                cases h
                have := passF_at q5
                omega
theorem oneF_at {ts : List Str} {rows : List Str → RS → Option (RT × RS)} (hr : ∀ ws st rt st', st.at_ ≤ ts.length → rows ws st = some (rt, st') → st.at_ ≤ st'.at_ ∧ st'.at_ ≤ ts.length) {st st' : RS} {rt : RT} (hs : st.at_ < ts.length) (h : oneF ts rows st = some (rt, st')) : st.at_ < st'.at_ ∧ st'.at_ ≤ ts.length := by
  unfold oneF at h
  by_cases c1 : hd0 (wordsAt ts st.at_) = "if" ∨ hd0 (wordsAt ts st.at_) = "while"
  · rw [if_pos c1] at h
    have := hr _ _ _ _ (by show st.at_ + 1 ≤ ts.length; omega) h
    have h2 : st.at_ + 1 ≤ st'.at_ := this.1
    omega
  rw [if_neg c1] at h
  by_cases c2 : hd0 (wordsAt ts st.at_) = "call"
  · rw [if_pos c2] at h
    cases q : callF (wordsAt ts st.at_) with
    | none => rw [q] at h; cases h
    | some r =>
      obtain ⟨b, f, es⟩ := r
      rw [q] at h
      cases h
      exact ⟨Nat.lt_succ_self _, hs⟩
  · rw [if_neg c2] at h
    cases q : simpleF (wordsAt ts st.at_) with
    | none => rw [q] at h; cases h
    | some r => rw [q] at h; cases h; exact ⟨Nat.lt_succ_self _, hs⟩
theorem headAt_lt {ts : List Str} {i : Nat} {w : Str} (h : headAt ts i = some w) : i < ts.length ∧ w = hd0 (wordsAt ts i) := by
  unfold headAt at h
  by_cases c : i < ts.length
  · rw [if_pos c] at h; exact ⟨c, (Option.some.inj h).symm⟩
  · rw [if_neg c] at h; cases h
theorem blkF_at {ts : List Str} {one : RS → Option (RT × RS)} (ho : ∀ st rt st', st.at_ < ts.length → one st = some (rt, st') → st.at_ < st'.at_ ∧ st'.at_ ≤ ts.length) : ∀ {m : Nat} {st st' : RS}, st.at_ ≤ ts.length → blkF ts one m st = some st' → st.at_ ≤ st'.at_ ∧ st'.at_ ≤ ts.length
  | 0, _, _, _, h => by cases h
  | m + 1, st, st', hs, h => by
    unfold blkF at h
    cases q : headAt ts st.at_ with
    | none => rw [q] at h; cases h; exact ⟨Nat.le_refl _, hs⟩
    | some w =>
      rw [q] at h
      simp only at h
      by_cases c : w ∈ ROWW
      · rw [if_pos c] at h
        cases q2 : one st with
        | none => rw [q2] at h; cases h
        | some r =>
          obtain ⟨rt, st2⟩ := r
          rw [q2] at h
          simp only at h
          have o := ho _ _ _ (headAt_lt q).1 q2
          have := blkF_at ho (st := ⟨st2.at_, putN st2.num st.at_ rt, st2.calls⟩) o.2 h
          have h3 : st2.at_ ≤ st'.at_ := this.1
          omega
      · rw [if_neg c] at h; cases h; exact ⟨Nat.le_refl _, hs⟩
theorem blockF_at {ts : List Str} : ∀ {n : Nat} {st st' : RS}, st.at_ ≤ ts.length → blockF ts n st = some st' → st.at_ ≤ st'.at_ ∧ st'.at_ ≤ ts.length
  | 0, _, _, _, h => by cases h
  | n + 1, st, st', hs, h => blkF_at (fun st rt st' hs h => oneF_at (fun ws st rt st' hs h => rowsF_at (fun st st' hs h => blockF_at hs h) hs h) hs h) hs h
/-! ### how many rows are put -/
theorem putN_len (l : List (Nat × RT)) (n : Nat) (r : RT) : (putN l n r).length ≤ l.length + 1 := by
  unfold putN
  split
  · rw [List.length_map]; omega
  · rw [List.length_append, List.length_singleton]; exact Nat.le_refl _
theorem rowsF_gr {ts : List Str} {blk : RS → Option RS} (hb : ∀ st st', blk st = some st' → st'.num.length + st.at_ ≤ st.num.length + st'.at_) {ok : Bool} {ws : List Str} {st st' : RS} {rt : RT} (h : rowsF ts blk ok ws st = some (rt, st')) : st'.num.length + st.at_ ≤ st.num.length + st'.at_ := by
  unfold rowsF at h
  cases ok with
  | false => cases h
  | true =>
    rw [if_pos rfl] at h
    cases q1 : only1 (exL (ws.drop 1)) with
    | none => rw [q1] at h; cases h
    | some e =>
      rw [q1] at h
      simp only at h
      cases q2 : blk st with
      | none => rw [q2] at h; cases h
      | some st2 =>
        rw [q2] at h
        simp only at h
        have b1 := hb st st2 q2
        by_cases c : hd0 ws = "while"
        · rw [if_pos c] at h
          cases q3 : passF ts "end" st2 with
          | none => rw [q3] at h; cases h
          | some st3 =>
            rw [q3] at h
            cases h
            have p3 := passF_at q3
            rw [p3.2.2.1, p3.1]
            omega
        · rw [if_neg c] at h
          cases q3 : passF ts "else" st2 with
          | none => rw [q3] at h; cases h
          | some st3 =>
            rw [q3] at h
            simp only at h
            have p3 := passF_at q3
            cases q4 : blk st3 with
            | none => rw [q4] at h; cases h
            | some st4 =>
              rw [q4] at h
              simp only at h
              have b4 := hb st3 st4 q4
              cases q5 : passF ts "end" st4 with
              | none => rw [q5] at h; cases h
              | some st5 =>
                rw [q5] at h
                cases h
                have p5 := passF_at q5
                rw [p5.2.2.1, p5.1]
                rw [p3.2.2.1, p3.1] at b4
                omega
theorem oneF_gr {ts : List Str} {rows : List Str → RS → Option (RT × RS)} (hr : ∀ ws st rt st', rows ws st = some (rt, st') → st'.num.length + st.at_ ≤ st.num.length + st'.at_) {st st' : RS} {rt : RT} (h : oneF ts rows st = some (rt, st')) : st'.num.length + st.at_ + 1 ≤ st.num.length + st'.at_ := by
  unfold oneF at h
  by_cases c1 : hd0 (wordsAt ts st.at_) = "if" ∨ hd0 (wordsAt ts st.at_) = "while"
  · rw [if_pos c1] at h
    have h2 : st'.num.length + (st.at_ + 1) ≤ st.num.length + st'.at_ := hr _ _ _ _ h
    omega
  rw [if_neg c1] at h
  by_cases c2 : hd0 (wordsAt ts st.at_) = "call"
  · rw [if_pos c2] at h
    cases q : callF (wordsAt ts st.at_) with
    | none => rw [q] at h; cases h
    | some r =>
      obtain ⟨b, f, es⟩ := r
      rw [q] at h
      cases h
      show st.num.length + st.at_ + 1 ≤ st.num.length + (st.at_ + 1)
      omega
  · rw [if_neg c2] at h
    cases q : simpleF (wordsAt ts st.at_) with
    | none => rw [q] at h; cases h
    | some r =>
      rw [q] at h; cases h
      show st.num.length + st.at_ + 1 ≤ st.num.length + (st.at_ + 1)
      omega
theorem blkF_gr {ts : List Str} {one : RS → Option (RT × RS)} (ho : ∀ st rt st', one st = some (rt, st') → st'.num.length + st.at_ + 1 ≤ st.num.length + st'.at_) : ∀ {m : Nat} {st st' : RS}, blkF ts one m st = some st' → st'.num.length + st.at_ ≤ st.num.length + st'.at_
  | 0, _, _, h => by cases h
  | m + 1, st, st', h => by
    unfold blkF at h
    cases q : headAt ts st.at_ with
    | none => rw [q] at h; cases h; exact Nat.le_refl _
    | some w =>
      rw [q] at h
      simp only at h
      by_cases c : w ∈ ROWW
      · rw [if_pos c] at h
        cases q2 : one st with
        | none => rw [q2] at h; cases h
        | some r =>
          obtain ⟨rt, st2⟩ := r
          rw [q2] at h
          simp only at h
          have o := ho _ _ _ q2
          have b : st'.num.length + st2.at_ ≤ (putN st2.num st.at_ rt).length + st'.at_ := blkF_gr ho (st := ⟨st2.at_, putN st2.num st.at_ rt, st2.calls⟩) h
          have := putN_len st2.num st.at_ rt
          omega
      · rw [if_neg c] at h; cases h; exact Nat.le_refl _
theorem blockF_gr {ts : List Str} : ∀ {n : Nat} {st st' : RS}, blockF ts n st = some st' → st'.num.length + st.at_ ≤ st.num.length + st'.at_
  | 0, _, _, h => by cases h
  | n + 1, st, st', h => blkF_gr (fun st rt st' h => oneF_gr (fun ws st rt st' h => rowsF_gr (fun st st' h => blockF_gr h) h) h) h
/-! ### the reader's object -/
structure Rd where
  p : Addr
  d : Addr
  cl : Addr
  a : Addr
  ts : List Str
  /-- lists that grow by themselves -/
  av : List Addr
def Rd.N (X : Rd) (l : Addr) : Prop := l ≠ X.cl ∧ l ∉ X.av
def NumO (c : RC) (ec : EC) (N : Addr → Prop) (H : Hp) (x : Nat × RT) (kv : Key × V) : Prop := kv.1 = .inl ((x.1 : Nat) : Int) ∧ RowO c ec N H ((x.1 : Nat) : Int) x.2 kv.2
def CallO (c : RC) (ec : EC) (N : Addr → Prop) (H : Hp) (f : Str × Nat) (v : V) : Prop := ∃ (n : Int) (b : Str) (es : List Ex), es.length = f.2 ∧ RowO c ec N H n (.call b f.1 es) v
def rdF (X : Rd) (st : RS) : List (Str × V) := [("texts", .ref X.a), ("at", .int ((st.at_ : Nat) : Int)), ("by_number", .ref X.d), ("calls", .ref X.cl)]
structure RdH (K : PySem.W.Frag) (c : RC) (ec : EC) (R : Addr) (X : Rd) (H : Hp) (st : RS) : Prop where
  obj : ∃ dx, H X.p = some (.ins R dx (rdF X st))
  dict : ∃ kvs, H X.d = some (.dK kvs) ∧ All2 (NumO c ec X.N H) st.num kvs
  calls : ∃ os, H X.cl = some (.lst os) ∧ All2 (CallO c ec X.N H) st.calls os
  txts : H X.a = some (.lst (X.ts.map V.str))
  ne : X.a ≠ X.cl
  sm : X.ts.length ≤ 60 ∧ ∀ t ∈ X.ts, t.length ≤ 99999
  cod : ∀ t ∈ X.ts, PyData.strOk t = true
  at_ : st.at_ ≤ X.ts.length
  lists : ∀ a ∈ X.av, a ≠ X.cl ∧ a ≠ X.a ∧ ∃ xs, H a = some (.lst xs)
  cn : st.calls.length ≤ st.at_
  nn : st.num.length ≤ st.at_
theorem allE_same {c : EC} {H H' : Hp} (s : Same H H') {es : List Ex} {vs : List V} (h : AllE c H es vs) : AllE c H' es vs := h.same s
/-- all stands but the reader, its dict, its calls -/
def Mv (X : Rd) (H H' : Hp) : Prop := KeepL [X.p, X.d, X.cl] H H'
theorem Mv.trans {X : Rd} {H H1 H2 : Hp} (a : Mv X H H1) (b : Mv X H1 H2) : Mv X H H2 := fun q o n h => b q o n (a q o n h)
theorem mv_same {X : Rd} {H H' : Hp} (s : Same H H') : Mv X H H' := fun q o _ h => s q o h
section
variable {K : PySem.W.Frag} {c : RC} {ec : EC} {R : Addr} {X : Rd} {H H' : Hp} {st : RS}
theorem RdH.keepI (h : RdH K c ec R X H st) (k : Mv X H H') : KeepI (fun C => C ≠ R) X.N H H' := by
  obtain ⟨dx, h1⟩ := h.obj
  obtain ⟨kvs, h2, _⟩ := h.dict
  obtain ⟨os, h3, _⟩ := h.calls
  constructor
  · intro q C dx' fs hC hq
    refine k q _ (fun hm => ?_) hq
    simp only [List.mem_cons, List.not_mem_nil, or_false] at hm
    rcases hm with rfl | rfl | rfl
    · rw [h1] at hq; cases hq; exact hC rfl
    · rw [h2] at hq; cases hq
    · rw [h3] at hq; cases hq
  · intro l xs hl hq
    refine k l _ (fun hm => ?_) hq
    simp only [List.mem_cons, List.not_mem_nil, or_false] at hm
    rcases hm with rfl | rfl | rfl
    · rw [h1] at hq; cases hq
    · rw [h2] at hq; cases hq
    · exact hl.1 rfl
theorem RdH.keepList (h : RdH K c ec R X H st) (k : Mv X H H') {a : Addr} {xs : List V} (n : a ≠ X.cl) (e : H a = some (.lst xs)) : H' a = some (.lst xs) := by
  obtain ⟨dx, h1⟩ := h.obj
  obtain ⟨kvs, h2, _⟩ := h.dict
  refine k a _ (fun hm => ?_) e
  simp only [List.mem_cons, List.not_mem_nil, or_false] at hm
  rcases hm with rfl | rfl | rfl
  · rw [h1] at e; cases e
  · rw [h2] at e; cases e
  · exact n rfl
theorem RdH.keepLists (h : RdH K c ec R X H st) (k : Mv X H H') : ∀ a ∈ X.av, a ≠ X.cl ∧ a ≠ X.a ∧ ∃ xs, H' a = some (.lst xs) := fun a ha => by
  obtain ⟨n, n2, xs, e⟩ := h.lists a ha
  exact ⟨n, n2, xs, h.keepList k n e⟩
theorem RdH.seq (h : RdH K c ec R X H st) (k : Mv X H H') {a : Addr} {xs : List V} (n : a ≠ X.cl) (s : SqL K H a xs) : SqL K H' a xs := by
  obtain ⟨dx, h1⟩ := h.obj
  obtain ⟨kvs, h2, _⟩ := h.dict
  have ok : ∀ o, H a = some o → (o = .lst xs ∨ ∃ ob, o = .frz ob (.lst xs)) → H' a = some o := fun o ha ho => k a o (fun hm => by
    simp only [List.mem_cons, List.not_mem_nil, or_false] at hm
    rcases hm with rfl | rfl | rfl
    · rw [h1] at ha; rcases ho with rfl | ⟨_, rfl⟩ <;> cases ha
    · rw [h2] at ha; rcases ho with rfl | ⟨_, rfl⟩ <;> cases ha
    · exact n rfl) ha
  rcases s with (s | ⟨o, s⟩) | s
  · exact .inl (.inl (ok _ s (.inl rfl)))
  · exact .inl (.inr ⟨o, ok _ s (.inr ⟨o, rfl⟩)⟩)
  · exact .inr s
theorem RdH.same (h : RdH K c ec R X H st) (s : Same H H') : RdH K c ec R X H' st := by
  obtain ⟨dx, h1⟩ := h.obj
  obtain ⟨kvs, h2, h3⟩ := h.dict
  obtain ⟨os, h4, h5⟩ := h.calls
  exact ⟨⟨dx, s _ _ h1⟩, ⟨kvs, s _ _ h2, h3.mono fun a b h => ⟨h.1, h.2.same s⟩⟩, ⟨os, s _ _ h4, h5.mono fun a b ⟨n, b, es, h1, h2⟩ => ⟨n, b, es, h1, h2.same s⟩⟩, s _ _ h.txts, h.ne, h.sm, h.cod, h.at_, fun a ha => ⟨(h.lists a ha).1, (h.lists a ha).2.1, (h.lists a ha).2.2.elim fun xs e => ⟨xs, s _ _ e⟩⟩, h.cn, h.nn⟩
theorem RdH.ats (h : RdH K c ec R X H st) (hc : ∀ C, ec.Fam C → C ≠ R) (hr : ∀ C, c.Fam C → C ≠ R) (k : Mv X H H') {dx : Addr} {st' : RS} (h1 : H' X.p = some (.ins R dx (rdF X st'))) {kvs : List (Key × V)} (h2 : H' X.d = some (.dK kvs)) (h3 : All2 (NumO c ec X.N H') st'.num kvs) {os : List V} (h4 : H' X.cl = some (.lst os)) (h5 : All2 (CallO c ec X.N H') st'.calls os) (h6 : st'.at_ ≤ X.ts.length) (h7 : st'.calls.length ≤ st'.at_) (h8 : st'.num.length ≤ st'.at_) : RdH K c ec R X H' st' :=
  ⟨⟨dx, h1⟩, ⟨kvs, h2, h3⟩, ⟨os, h4, h5⟩, h.keepList k h.ne h.txts, h.ne, h.sm, h.cod, h6, h.keepLists k, h7, h8⟩
theorem numO_put {N : Addr → Prop} {n : Nat} {rt : RT} {v : V} (hv : RowO c ec N H (n : Int) rt v) : ∀ {num : List (Nat × RT)} {kvs : List (Key × V)}, All2 (NumO c ec N H) num kvs → All2 (NumO c ec N H) (putN num n rt) (putK kvs (.inl (n : Int)) v) := by
  intro num kvs h
  have e1 : (num.any fun x => decide (x.1 = n)) = kvs.any fun kv => decide (kv.1 = (.inl (n : Int) : Key)) := by
    induction h with
    | nil => rfl
    | @cons a b as bs hab _ ih =>
      rw [List.any_cons, List.any_cons, ih, hab.1]
      congr 1
      by_cases q : a.1 = n
      · rw [decide_eq_true q, q, decide_eq_true rfl]
      · rw [decide_eq_false q, decide_eq_false (fun e => q (Int.ofNat.inj (Sum.inl.inj e)) : ¬ ((.inl ((a.1 : Nat) : Int) : Key) = .inl ((n : Nat) : Int)))]
  unfold putN putK
  rw [e1]
  by_cases c1 : (kvs.any fun kv => decide (kv.1 = (.inl (n : Int) : Key))) = true
  · rw [if_pos c1, if_pos c1]
    clear c1 e1
    induction h with
    | nil => exact .nil
    | @cons a b as bs hab _ ih =>
      rw [List.map_cons, List.map_cons]
      refine .cons ?_ ih
      by_cases q : a.1 = n
      · have q2 : b.1 = (.inl (n : Int) : Key) := by rw [hab.1, q]
        rw [if_pos q, if_pos q2]
        exact ⟨hab.1, by show RowO c ec N H ((a.1 : Nat) : Int) rt v; rw [q]; exact hv⟩
      · have q2 : ¬ b.1 = (.inl (n : Int) : Key) := fun e => q (by rw [hab.1] at e; exact Int.ofNat.inj (Sum.inl.inj e))
        rw [if_neg q, if_neg q2]
        exact hab
  · rw [if_neg c1, if_neg c1]
    exact h.snoc ⟨rfl, hv⟩
theorem RdH.step (h : RdH K c ec R X H st) (hc : ∀ C, ec.Fam C → C ≠ R) (hr : ∀ C, c.Fam C → C ≠ R) (hlt : st.at_ < X.ts.length) {dx : Addr} (h1 : H X.p = some (.ins R dx (rdF X st))) :
    Mv X H (upd H X.p (.ins R dx (putF "at" (V.int (((st.at_ : Nat) : Int) + 1)) (rdF X st)))) ∧ RdH K c ec R X (upd H X.p (.ins R dx (putF "at" (V.int (((st.at_ : Nat) : Int) + 1)) (rdF X st)))) ⟨st.at_ + 1, st.num, st.calls⟩ := by
  have e2 : putF "at" (V.int (((st.at_ : Nat) : Int) + 1)) (rdF X st) = rdF X ⟨st.at_ + 1, st.num, st.calls⟩ := by
    show [_, (_, V.int (((st.at_ : Nat) : Int) + 1)), _, _] = [_, (_, V.int ((st.at_ + 1 : Nat) : Int)), _, _]
    rw [show ((st.at_ + 1 : Nat) : Int) = ((st.at_ : Nat) : Int) + 1 from by omega]
  rw [e2]
  have mv : Mv X H (upd H X.p (.ins R dx (rdF X ⟨st.at_ + 1, st.num, st.calls⟩))) := fun z o n h => by rw [upd_ne (fun e => n (by rw [e]; exact List.mem_cons_self))]; exact h
  obtain ⟨kvs, k1, k2⟩ := h.dict
  obtain ⟨os, k3, k4⟩ := h.calls
  have ki := h.keepI mv
  exact ⟨mv, h.ats hc hr mv upd_same (by rw [upd_ne (ne_of k1 h1 (by intro z; cases z))]; exact k1) (k2.mono fun x kv h => ⟨h.1, h.2.keepI ki hc hr⟩) (by rw [upd_ne (ne_of k3 h1 (by intro z; cases z))]; exact k3) (k4.mono fun f v ⟨n, b, es, z1, z2⟩ => ⟨n, b, es, z1, z2.keepI ki hc hr⟩) (show st.at_ + 1 ≤ X.ts.length by omega) (show st.calls.length ≤ st.at_ + 1 by have := h.cn; omega) (show st.num.length ≤ st.at_ + 1 by have := h.nn; omega)⟩
theorem RdH.put (h : RdH K c ec R X H st) (hc : ∀ C, ec.Fam C → C ≠ R) (hr : ∀ C, c.Fam C → C ≠ R) {n : Nat} {rt : RT} {v : V} (hv : RowO c ec X.N H (n : Int) rt v) (hn : (putN st.num n rt).length ≤ st.at_) :
    ∃ kvs, H X.d = some (.dK kvs) ∧ kvs.length ≤ 60 ∧ Mv X H (upd H X.d (.dK (putK kvs (.inl (n : Int)) v))) ∧ RdH K c ec R X (upd H X.d (.dK (putK kvs (.inl (n : Int)) v))) ⟨st.at_, putN st.num n rt, st.calls⟩ := by
  obtain ⟨dx, h1⟩ := h.obj
  obtain ⟨kvs, k1, k2⟩ := h.dict
  obtain ⟨os, k3, k4⟩ := h.calls
  have mv : Mv X H (upd H X.d (.dK (putK kvs (.inl (n : Int)) v))) := fun z o n h => by rw [upd_ne (fun e => n (by rw [e]; simp))]; exact h
  have ki := h.keepI mv
  refine ⟨kvs, k1, ?_, mv, ?_⟩
  · have := k2.length
    have := h.nn
    have := h.at_
    have := h.sm.1
    omega
  · exact h.ats hc hr mv (st' := ⟨st.at_, putN st.num n rt, st.calls⟩) (by rw [upd_ne (ne_of h1 k1 (by intro z; cases z))]; exact h1) upd_same (numO_put (hv.keepI ki hc hr) (k2.mono fun x kv h => ⟨h.1, h.2.keepI ki hc hr⟩)) (by rw [upd_ne (ne_of k3 k1 (by intro z; cases z))]; exact k3) (k4.mono fun f v ⟨n, b, es, z1, z2⟩ => ⟨n, b, es, z1, z2.keepI ki hc hr⟩) h.at_ h.cn hn
/-- with one list more that grows by itself -/
def Rd.add (X : Rd) (l : Addr) : Rd := ⟨X.p, X.d, X.cl, X.a, X.ts, l :: X.av⟩
theorem RdH.add (h : RdH K c ec R X H st) {l : Addr} (hl : H l = none) : RdH K c ec R (X.add l) (upd H l (.lst [])) st := by
  have s := same_new (o := .lst ([] : List V)) hl
  obtain ⟨dx, h1⟩ := h.obj
  obtain ⟨kvs, k1, k2⟩ := h.dict
  obtain ⟨os, k3, k4⟩ := h.calls
  have ncl : l ≠ X.cl := fun e => by rw [e, k3] at hl; cases hl
  have wk : ∀ a, (∃ o, H a = some o) → X.N a → (X.add l).N a := fun a ho hn => ⟨hn.1, fun hm => by
    rcases List.mem_cons.mp hm with rfl | hm
    · obtain ⟨o, e⟩ := ho; rw [hl] at e; cases e
    · exact hn.2 hm⟩
  refine ⟨⟨dx, s _ _ h1⟩, ⟨kvs, s _ _ k1, k2.mono fun x kv z => ⟨z.1, (z.2.weak wk).same s⟩⟩, ⟨os, s _ _ k3, k4.mono fun f v ⟨n, b, es, z1, z2⟩ => ⟨n, b, es, z1, (z2.weak wk).same s⟩⟩, s _ _ h.txts, h.ne, h.sm, h.cod, h.at_, ?_, h.cn, h.nn⟩
  intro a ha
  rcases List.mem_cons.mp ha with rfl | ha
  · exact ⟨ncl, fun e => (by have e' : a = X.a := e; rw [e', h.txts] at hl; cases hl), [], upd_same⟩
  · obtain ⟨n, n2, xs, e⟩ := h.lists a ha
    exact ⟨n, n2, xs, s _ _ e⟩
theorem RowO.drop {l : Addr} {n : Int} {rt : RT} {v : V} (h : RowO c ec (X.add l).N H n rt v) : RowO c ec X.N H n rt v := h.weak fun a _ hn => ⟨hn.1, fun hm => hn.2 (List.mem_cons_of_mem _ hm)⟩
theorem RdH.drop {l : Addr} (h : RdH K c ec R (X.add l) H st) : RdH K c ec R X H st := by
  obtain ⟨kvs, k1, k2⟩ := h.dict
  obtain ⟨os, k3, k4⟩ := h.calls
  exact ⟨h.obj, ⟨kvs, k1, k2.mono fun x kv z => ⟨z.1, z.2.drop⟩⟩, ⟨os, k3, k4.mono fun f v ⟨n, b, es, z1, z2⟩ => ⟨n, b, es, z1, z2.drop⟩⟩, h.txts, h.ne, h.sm, h.cod, h.at_, fun a ha => h.lists a (List.mem_cons_of_mem _ ha), h.cn, h.nn⟩
/-- the newest such list grows -/
theorem RdH.grow {l : Addr} (h : RdH K c ec R (X.add l) H st) {xs ys : List V} (e : H l = some (.lst xs)) : RdH K c ec R (X.add l) (upd H l (.lst ys)) st := by
  obtain ⟨dx, h1⟩ := h.obj
  obtain ⟨kvs, k1, k2⟩ := h.dict
  obtain ⟨os, k3, k4⟩ := h.calls
  have ncl : l ≠ X.cl := (h.lists l List.mem_cons_self).1
  have ki : KeepI (fun _ => True) (X.add l).N H (upd H l (.lst ys)) := ⟨fun q C dx fs _ hq => by rw [upd_ne (ne_of hq e (by intro z; cases z))]; exact hq, fun q zs hn hq => by
    have nq : q ≠ l := fun z => hn.2 (by rw [z]; exact List.mem_cons_self)
    rw [upd_ne nq]; exact hq⟩
  refine ⟨⟨dx, (upd_ne (ne_of h1 e (by intro z; cases z))).trans h1⟩, ⟨kvs, (upd_ne (ne_of k1 e (by intro z; cases z))).trans k1, k2.mono fun x kv z => ⟨z.1, z.2.keepI ki (fun _ _ => trivial) fun _ _ => trivial⟩⟩,
    ⟨os, (upd_ne (Ne.symm ncl)).trans k3, k4.mono fun f v ⟨n, b, es, z1, z2⟩ => ⟨n, b, es, z1, z2.keepI ki (fun _ _ => trivial) fun _ _ => trivial⟩⟩, ?_, h.ne, h.sm, h.cod, h.at_, ?_, h.cn, h.nn⟩
  · exact (upd_ne (Ne.symm (h.lists l List.mem_cons_self).2.1)).trans h.txts
  · intro a ha
    obtain ⟨n, n2, zs, e2⟩ := h.lists a ha
    refine ⟨n, n2, ?_⟩
    by_cases q : a = l
    · exact ⟨ys, by rw [q]; exact upd_same⟩
    · exact ⟨zs, by rw [upd_ne q]; exact e2⟩
end

section
variable (K : PySem.W.Frag) (c : RC) (ec : EC) (R N : Addr)
def headV (ts : List Str) (i : Nat) : V := match headAt ts i with
  | some w => .str w
  | none => .non
def Small (ws : List Str) : Prop := ws.length ≤ 100000 ∧ ∀ s ∈ ws, s.length ≤ 100000
def spHead : Sp := fun vs H Q _ => ∃ (X : Rd) (st : RS), vs = [.ref X.p] ∧ RdH K c ec R X H st ∧ ∀ H', Same H H' → Q (headV X.ts st.at_) H'
def spPass : Sp := fun vs H Q E => ∃ (X : Rd) (st : RS) (t : Str), vs = [.ref X.p, .str t] ∧ RdH K c ec R X H st ∧ (∀ st' H', passF X.ts t st = some st' → Mv X H H' → RdH K c ec R X H' st' → Q .non H') ∧ (passF X.ts t st = none → ∀ H', Mv X H H' → E (.ref N) none H')
def spBlk (n : Nat) : Sp := fun vs H Q E => ∃ (X : Rd) (st : RS), vs = [.ref X.p, .int (6 - (n : Int))] ∧ RdH K c ec R X H st ∧ 1 ≤ n ∧ (∀ st' l H', blockF X.ts n st = some st' → Mv X H H' → RdH K c ec R X H' st' → Q l H') ∧ (blockF X.ts n st = none → ∀ H', Mv X H H' → E (.ref N) none H')
def spRows (m : Nat) : Sp := fun vs H Q E => ∃ (X : Rd) (st : RS) (num : Nat) (w : Addr) (ws : List Str), vs = [.ref X.p, .int (num : Int), .ref w, .int (6 - (m : Int))] ∧ RdH K c ec R X H st ∧ SqL K H w (ws.map V.str) ∧ w ≠ X.cl ∧ ws ≠ [] ∧ Small ws ∧
  (∀ rt st' v H', rowsF X.ts (blockF X.ts m) (decide (0 < m)) ws st = some (rt, st') → Mv X H H' → RdH K c ec R X H' st' → RowO c ec X.N H' (num : Int) rt v → Q v H') ∧ (rowsF X.ts (blockF X.ts m) (decide (0 < m)) ws st = none → ∀ H', Mv X H H' → E (.ref N) none H')
def spOne (m : Nat) : Sp := fun vs H Q E => ∃ (X : Rd) (st : RS), vs = [.ref X.p, .int (5 - (m : Int))] ∧ RdH K c ec R X H st ∧ st.at_ < X.ts.length ∧
  (∀ rt st' v H', oneF X.ts (rowsF X.ts (blockF X.ts m) (decide (0 < m))) st = some (rt, st') → Mv X H H' → RdH K c ec R X H' st' → RowO c ec X.N H' (st.at_ : Int) rt v → Q v H') ∧ (oneF X.ts (rowsF X.ts (blockF X.ts m) (decide (0 < m))) st = none → ∀ H', Mv X H H' → E (.ref N) none H')
def spCallRow : Sp := fun vs H Q E => ∃ (X : Rd) (st : RS) (num : Nat) (w : Addr) (ws : List Str), vs = [.ref X.p, .int (num : Int), .ref w] ∧ RdH K c ec R X H st ∧ SqL K H w (ws.map V.str) ∧ w ≠ X.cl ∧ ws ≠ [] ∧ Small ws ∧ st.calls.length < st.at_ ∧
  (∀ b f es v H', callF ws = some (b, f, es) → Mv X H H' → RdH K c ec R X H' ⟨st.at_, st.num, st.calls ++ [(f, es.length)]⟩ → RowO c ec X.N H' (num : Int) (.call b f es) v → Q v H') ∧ (callF ws = none → ∀ H', Mv X H H' → E (.ref N) none H')
def Codes (ws : List Str) : Prop := ∀ s ∈ ws, PyData.strOk s = true
def spSimple : Sp := fun vs H Q E => ∃ (num : Nat) (w : Addr) (ws : List Str), vs = [.int (num : Int), .ref w] ∧ SqL K H w (ws.map V.str) ∧ ws ≠ [] ∧ Small ws ∧ Codes ws ∧
  (∀ rt v H', simpleF ws = some rt → Same H H' → (∀ M, RowO c ec M H' (num : Int) rt v) → Q v H') ∧ (simpleF ws = none → ∀ H', Same H H' → E (.ref N) none H')
def spNames : Sp := fun vs H Q E => ∃ (l : Addr) (ws : List Str) (k : Nat), vs = [.ref l, .int (k : Int)] ∧ SqL K H l (ws.map V.str) ∧ Small ws ∧ (namesOk ws k = true → ∀ H', Same H H' → Q .non H') ∧ (namesOk ws k = false → ∀ H', Same H H' → E (.ref N) none H')
def spOnly : Sp := fun vs H Q E => ∃ (l : Addr) (os : List V), vs = [.ref l] ∧ H l = some (.lst os) ∧ (∀ v, os = [v] → Q v H) ∧ (os.length ≠ 1 → E (.ref N) none H)
end
theorem cut_mid {ws : List Str} {i j : Nat} : cutV (ws.map V.str) (some (i : Int)) (some (j : Int)) = ((ws.drop i).take (j - i)).map V.str := by
  unfold cutV
  rw [HT.sIx_nat, HT.sIx_nat, List.length_map, ← List.map_drop, ← List.map_take]
  congr 1
  by_cases h : i ≤ ws.length
  · rw [Nat.min_eq_left h]
    by_cases h2 : j ≤ ws.length
    · rw [Nat.min_eq_left h2]
    · rw [Nat.min_eq_right (by omega), List.take_of_length_le (by rw [List.length_drop]; exact Nat.le_refl _), List.take_of_length_le (by rw [List.length_drop]; omega)]
  · have e1 : min i ws.length = ws.length := Nat.min_eq_right (by omega)
    rw [e1, List.drop_eq_nil_of_le (Nat.le_refl _), List.drop_eq_nil_of_le (by omega : ws.length ≤ i)]
    simp
theorem cut_drop {ws : List Str} {i : Nat} : cutV (ws.map V.str) (some (i : Int)) none = (ws.drop i).map V.str := by
  unfold cutV
  rw [HT.sIx_nat, HT.sIx_none, List.length_map, ← List.map_drop, ← List.map_take]
  congr 1
  by_cases h : i ≤ ws.length
  · rw [Nat.min_eq_left h, List.take_of_length_le (by rw [List.length_drop]; exact Nat.le_refl _)]
  · rw [Nat.min_eq_right (by omega), List.drop_eq_nil_of_le (Nat.le_refl _), List.drop_eq_nil_of_le (by omega : ws.length ≤ i)]
    simp
theorem cut_take {ws : List Str} {i : Nat} : cutV (ws.map V.str) none (some (i : Int)) = (ws.take i).map V.str := by
  unfold cutV
  rw [HT.sIx_nat, HT.sIx_none, List.length_map, List.drop_zero, ← List.map_take, Nat.sub_zero]
  congr 1
  by_cases h : i ≤ ws.length
  · rw [Nat.min_eq_left h]
  · rw [Nat.min_eq_right (by omega), List.take_of_length_le (Nat.le_refl _), List.take_of_length_le (by omega)]
theorem Small.drop {ws : List Str} (h : Small ws) (i : Nat) : Small (ws.drop i) := ⟨by rw [List.length_drop]; have := h.1; omega, fun s hs => h.2 s (List.mem_of_mem_drop hs)⟩
theorem Small.take {ws : List Str} (h : Small ws) (i : Nat) : Small (ws.take i) := ⟨by rw [List.length_take]; have := h.1; omega, fun s hs => h.2 s (List.mem_of_mem_take hs)⟩
theorem at_hd {ws : List Str} (h : ws ≠ []) : atI (ws.map V.str) 0 = some (.str (hd0 ws)) := by
  cases ws with
  | nil => exact absurd rfl h
  | cons x r => exact atI_nat (xs := (x :: r).map V.str) (j := 0) rfl
theorem at_wd {ws : List Str} {i : Nat} (h : i < ws.length) : atI (ws.map V.str) (i : Int) = some (.str (wd ws i)) :=
  atI_nat (by rw [List.getElem?_map, List.getElem?_eq_getElem h]; unfold wd; rw [List.getD_eq_getElem?_getD, List.getElem?_eq_getElem h]; rfl)
theorem allE_one {ec : EC} {H : Hp} {es : List Ex} {os : List V} (h : AllE ec H es os) : (∀ v, os = [v] → ∃ e, es = [e] ∧ ObjE ec H e v) ∧ (os.length ≠ 1 → only1 (some es) = none) := by
  constructor
  · rintro v rfl
    cases h with
    | cons a b => cases b; exact ⟨_, rfl, a⟩
  · intro hl
    cases h with
    | nil => rfl
    | cons a b =>
      cases b with
      | nil => exact absurd rfl hl
      | cons a2 b2 => rfl
theorem names_len {ws : List Str} {k : Nat} (h : namesOk ws k = true) : ws.length = k ∧ ∀ s ∈ ws, isNameW s = true := by
  unfold namesOk at h
  simp only [Bool.and_eq_true, decide_eq_true_eq, List.all_eq_true] at h
  exact h

def strsD (ws : List Str) : PyData := .list (ws.map PyData.str)
theorem dp_strs {K : PySem.W.Frag} {H : Hp} : ∀ ws : List Str, DpAll K H (ws.map V.str) (ws.map PyData.str)
  | [] => .nil
  | s :: r => .cons (.str s) (dp_strs r)
theorem strs_shaped {ws : List Str} (h : Codes ws) : SeqAt.shaped (strsD ws) = true := by
  have h1 : ∀ {ws : List Str}, Codes ws → PyData.canLayAll0 (ws.map PyData.str) = true := by
    intro ws
    induction ws with
    | nil => intro _; rfl
    | cons s r ih =>
      intro h
      show (PyData.strOk s && PyData.canLayAll0 (r.map PyData.str)) = true
      rw [h s List.mem_cons_self, ih fun z hz => h z (List.mem_cons_of_mem _ hz)]; rfl
  have h2 : ∀ ws : List Str, PyData.depthAll (ws.map PyData.str) = 0 := by
    intro ws
    induction ws with
    | nil => rfl
    | cons s r ih => show max 0 (PyData.depthAll (r.map PyData.str)) = 0; rw [ih]; rfl
  show (PyData.canLayAll0 _ && decide (PyData.depthAll _ + 1 ≤ 64)) = true
  rw [h1 h, h2]; rfl
theorem strs_eqv : ∀ a b : List Str, PyData.eqv (strsD a) (strsD b) = decide (a = b)
  | [], [] => rfl
  | [], _ :: _ => rfl
  | _ :: _, [] => rfl
  | x :: a, y :: b => by
    have ih := strs_eqv a b
    have ih' : PyData.eqvAll (a.map PyData.str) (b.map PyData.str) = decide (a = b) := ih
    show ((x == y) && PyData.eqvAll (a.map PyData.str) (b.map PyData.str)) = _
    rw [ih']
    by_cases h1 : x = y
    · subst h1
      by_cases h2 : a = b
      · subst h2; simp
      · rw [decide_eq_false h2, decide_eq_false (fun e => h2 (List.cons.inj e).2), Bool.and_false]
    · rw [decide_eq_false (fun e => h1 (List.cons.inj e).1), (beq_eq_false_iff_ne.mpr h1 : (x == y) = false), Bool.false_and]

section
variable (K : PySem.W.Frag) (c : RC) (ec : EC) (R N : Addr)
def spRdInit : Sp := fun vs H Q _ => ∃ (p dx a : Addr) (ts : List Str), vs = [.ref p, .ref a] ∧ H p = some (.ins R dx []) ∧ H a = some (.lst (ts.map V.str)) ∧ ts.length ≤ 60 ∧ (∀ t ∈ ts, t.length ≤ 99999) ∧ (∀ t ∈ ts, PyData.strOk t = true) ∧
  ∀ d cl H', H d = none → H cl = none → KeepL [p] H H' → RdH K c ec R ⟨p, d, cl, a, ts, []⟩ H' ⟨0, [], []⟩ → Q .non H'
end
theorem split_ne (x y : Str) : Txt.split x y ≠ [] := by
  unfold Txt.split
  split
  · simp
  · split
    · simp
    · intro e
      have := congrArg List.length e
      rw [length_partsBetween] at this
      simp at this
theorem wordsAt_ok {ts : List Str} (h : ∀ t ∈ ts, t.length ≤ 99999) (i : Nat) : Small (wordsAt ts i) ∧ wordsAt ts i ≠ [] := by
  have hs : (ts.getD i (Str.ofString "")).length ≤ 99999 := by
    rw [List.getD_eq_getElem?_getD]
    by_cases hi : i < ts.length
    · rw [List.getElem?_eq_getElem hi]; exact h _ (List.getElem_mem hi)
    · rw [List.getElem?_eq_none (by omega)]; decide
  refine ⟨split_small (s := ts.getD i (Str.ofString "")) hs, fun e => ?_⟩
  have e2 := congrArg List.length e
  unfold wordsAt at e2
  have := split_ne (ts.getD i (Str.ofString "")) (Str.ofString " ")
  exact this (List.eq_nil_of_length_eq_zero e2)

section
variable (K : PySem.W.Frag) (c : RC) (ec : EC) (R N F PC : Addr)
/-- v is a function's object: its name, so many parameters -/
def FunO (M : Addr → Prop) (H : Hp) (f : Str × Nat) (v : V) : Prop := ∃ (p dx l : Addr) (ps : List Str) (b g : V), v = .ref p ∧ H p = some (.ins F dx [("name", .str f.1), ("params", .ref l), ("body", b), ("give", g)]) ∧ M l ∧ H l = some (.lst (ps.map V.str)) ∧ ps.length = f.2
def FunK (M : Addr → Prop) (H : Hp) (f : Str × Nat) (kv : Key × V) : Prop := kv.1 = .inr f.1 ∧ FunO F M H f kv.2
def spFunction : Sp := fun vs H Q E => ∃ (X : Rd) (st : RS), vs = [.ref X.p] ∧ RdH K c ec R X H st ∧ headAt X.ts st.at_ = some "fun" ∧
  (∀ f st' v H', functionF X.ts st = some (f, st') → Mv X H H' → RdH K c ec R X H' st' → FunO F X.N H' f v → Q v H') ∧ (functionF X.ts st = none → ∀ H', Mv X H H' → E (.ref N) none H')
def spCalls : Sp := fun vs H Q E => ∃ (a d : Addr) (os : List V) (kvs : List (Key × V)) (M : Addr → Prop) (cs fs : List (Str × Nat)), vs = [.ref a, .ref d] ∧ H a = some (.lst os) ∧ H d = some (.dK kvs) ∧ All2 (CallO c ec M H) cs os ∧ All2 (FunK F M H) fs kvs ∧
  (cs.all (callOk fs) = true → Q .non H) ∧ (cs.all (callOk fs) = false → E (.ref N) none H)
/-- v is a program read from the lines ts, with these rows -/
def ProgO (H : Hp) (ts : List Str) (num : List (Nat × RT)) (v : V) : Prop := ∃ (p dx a d : Addr) (m f : V) (kvs : List (Key × V)), v = .ref p ∧ H p = some (.ins PC dx [("texts", .ref a), ("main", m), ("functions", f), ("by_number", .ref d)]) ∧ SqL K H a (ts.map V.str) ∧ H d = some (.dK kvs) ∧ All2 (NumO c ec (fun _ => True) H) num kvs
def TextOk (s : Str) : Prop := s.length ≤ 1000000 ∧ (∀ t ∈ Txt.split s "\n", t.length ≤ 99999) ∧ PyData.strOk s = true
def spRead : Sp := fun vs H Q E => ∃ x : V, vs = [x] ∧ ((∃ (s : Str), x = .str s ∧ TextOk s ∧
  (∀ num v H', readF (Txt.split s "\n") = some num → Same H H' → ProgO K c ec PC H' (Txt.split s "\n") num v → Q v H') ∧ (readF (Txt.split s "\n") = none → ∀ H', Same H H' → E (.ref N) none H')) ∨
  (∃ t, TyX K H x t ∧ PySem.W.kitOne K t (.type "str") = some false ∧ E (.ref N) none H))
def spPText : Sp := fun vs H Q _ => ∃ (v : V) (ts : List Str) (num : List (Nat × RT)), vs = [v] ∧ ProgO K c ec PC H ts num v ∧ ts.length ≤ 100 ∧ (∀ t ∈ ts, t.length ≤ 99999) ∧ Q (.str (Txt.join "\n" ts)) H
def spPLines : Sp := fun vs H Q _ => ∃ (v : V) (ts : List Str) (num : List (Nat × RT)), vs = [v] ∧ ProgO K c ec PC H ts num v ∧ ∀ l, H l = none → Q (.ref l) (upd H l (.lst (ts.map V.str)))
def rowOf (num : List (Nat × RT)) (n : Int) : Option RT := (num.find? fun x => decide ((x.1 : Int) = n)).map (·.2)
def spPRow : Sp := fun vs H Q _ => ∃ (v : V) (ts : List Str) (num : List (Nat × RT)) (n : Int), vs = [v, .int n] ∧ ProgO K c ec PC H ts num v ∧ (∀ rt, rowOf num n = some rt → (∀ e ∈ rt.exs, e.depth ≤ 7) ∧ rt.exs.length ≤ 1000) ∧
  (rowOf num n = none → Q .non H) ∧ (∀ rt, rowOf num n = some rt → ∀ r H', Same H H' → RTold K H' rt r → Q r H')
end


def IsVal (n : Int) : Prop := 0 ≤ n ∧ n < 1000000
/-! ### what an expression comes to -/
/-- what the seven words come to -/
def bothV (w : Str) (a b : Int) : V :=
  if w = "plus" then .int ((a + b) % 1000000)
  else if w = "minus" then .int ((a - b) % 1000000)
  else if w = "times" then .int (a * b % 1000000)
  else if w = "less" then .int (if decide (a < b) then 1 else 0)
  else if w = "same" then .int (if decide (V.int a = V.int b) then 1 else 0)
  else if b = 0 then .non
  else if w = "over" then .int (a.fdiv b)
  else .int (a.fmod b)
def bothO (w : Str) (a b : Int) : Option Int :=
  if w = "plus" then some ((a + b) % 1000000)
  else if w = "minus" then some ((a - b) % 1000000)
  else if w = "times" then some (a * b % 1000000)
  else if w = "less" then some (if decide (a < b) then 1 else 0)
  else if w = "same" then some (if decide (V.int a = V.int b) then 1 else 0)
  else if b = 0 then none
  else if w = "over" then some (a.fdiv b)
  else some (a.fmod b)
def optV : Option Int → V
  | none => .non
  | some n => .int n
theorem both_eq (w : Str) (a b : Int) : bothV w a b = optV (bothO w a b) := by
  unfold bothV bothO
  by_cases h1 : w = "plus"
  · rw [if_pos h1, if_pos h1]; rfl
  rw [if_neg h1, if_neg h1]
  by_cases h2 : w = "minus"
  · rw [if_pos h2, if_pos h2]; rfl
  rw [if_neg h2, if_neg h2]
  by_cases h3 : w = "times"
  · rw [if_pos h3, if_pos h3]; rfl
  rw [if_neg h3, if_neg h3]
  by_cases h4 : w = "less"
  · rw [if_pos h4, if_pos h4]; rfl
  rw [if_neg h4, if_neg h4]
  by_cases h5 : w = "same"
  · rw [if_pos h5, if_pos h5]; rfl
  rw [if_neg h5, if_neg h5]
  by_cases h6 : b = 0
  · rw [if_pos h6, if_pos h6]; rfl
  rw [if_neg h6, if_neg h6]
  by_cases h7 : w = "over"
  · rw [if_pos h7, if_pos h7]; rfl
  · rw [if_neg h7, if_neg h7]; rfl
theorem both_val {w : Str} {a b n : Int} (ha : IsVal a) (hb : IsVal b) (h : bothO w a b = some n) : IsVal n := by
  have m : ∀ x : Int, IsVal (x % 1000000) := fun x => ⟨Int.emod_nonneg _ (by decide), Int.emod_lt_of_pos _ (by decide)⟩
  unfold bothO at h
  split at h
  · cases h; exact m _
  split at h
  · cases h; exact m _
  split at h
  · cases h; exact m _
  split at h
  · cases h; split <;> exact ⟨by decide, by decide⟩
  split at h
  · cases h; split <;> exact ⟨by decide, by decide⟩
  split at h
  · cases h
  rename_i hb0
  split at h
  · cases h
    rw [Int.fdiv_eq_ediv_of_nonneg _ hb.1]
    have h1 := Int.ediv_nonneg ha.1 hb.1
    have h2 := Int.ediv_le_self (a := a) b ha.1
    exact ⟨h1, by have := ha.2; omega⟩
  · cases h
    rw [Int.fmod_eq_emod_of_nonneg _ hb.1]
    have h1 := Int.emod_nonneg a (show b ≠ 0 from hb0)
    have h2 := Int.emod_lt_of_pos a (show 0 < b by have := hb.1; omega)
    exact ⟨h1, by have := hb.2; omega⟩
/-- what is looked at -/
inductive Th where
  | box (s : Str) | cell (n : Int)
deriving DecidableEq
def Th.Wf : Th → Prop
  | .box s => isNameW s = true
  | .cell n => IsVal n
def ThH (H : Hp) : Th → V → Prop
  | .box s, v => ∃ t, v = .ref t ∧ H t = some (.tup [.str "box", .str s])
  | .cell n, v => ∃ t, v = .ref t ∧ H t = some (.tup [.str "cell", .int n])
theorem ThH.same {H H' : Hp} (s : Same H H') {v : V} : ∀ {th : Th}, ThH H th v → ThH H' th v
  | .box _, ⟨t, h1, h2⟩ => ⟨t, h1, s _ _ h2⟩
  | .cell _, ⟨t, h1, h2⟩ => ⟨t, h1, s _ _ h2⟩
def evC {S : Type} (lk : Th → S → Int × S) : Option Int × S → Option Int × S
  | (none, s1) => (none, s1)
  | (some n, s1) => (some (lk (.cell n) s1).1, (lk (.cell n) s1).2)
def evB {S : Type} (w : Str) (a : Int) : Option Int × S → Option Int × S
  | (none, s2) => (none, s2)
  | (some b, s2) => (bothO w a b, s2)
def evA {S : Type} (w : Str) (k : S → Option Int × S) : Option Int × S → Option Int × S
  | (none, s1) => (none, s1)
  | (some a, s1) => evB w a (k s1)
def ev {S : Type} (lk : Th → S → Int × S) : Ex → S → Option Int × S
  | .num n, s => (some n, s)
  | .box z, s => (some (lk (.box z) s).1, (lk (.box z) s).2)
  | .cell e, s => evC lk (ev lk e s)
  | .two w l r, s => evA w (ev lk r) (ev lk l s)
theorem ev_val {S : Type} {lk : Th → S → Int × S} (hl : ∀ th s, IsVal (lk th s).1) : ∀ {e : Ex}, e.Wf → ∀ {s : S} {n : Int}, (ev lk e s).1 = some n → IsVal n
  | .num m, h, s, n, e1 => by cases e1; exact h
  | .box z, h, s, n, e1 => by cases e1; exact hl _ _
  | .cell e, h, s, n, e1 => by
    have e1 : (evC lk (ev lk e s)).1 = some n := e1
    generalize ev lk e s = x at e1
    obtain ⟨x1, x2⟩ := x
    cases x1 with
    | none => cases e1
    | some m => cases e1; exact hl _ _
  | .two w l r, h, s, n, e1 => by
    have e1 : (evA w (ev lk r) (ev lk l s)).1 = some n := e1
    have i1 := fun m (q : (ev lk l s).1 = some m) => ev_val hl (e := l) h.2.1 (s := s) q
    generalize ev lk l s = x at e1 i1
    obtain ⟨x1, x2⟩ := x
    cases x1 with
    | none => cases e1
    | some a =>
      have e1 : (evB w a (ev lk r x2)).1 = some n := e1
      have i2 := fun m (q : (ev lk r x2).1 = some m) => ev_val hl (e := r) h.2.2 (s := x2) q
      generalize ev lk r x2 = y at e1 i2
      obtain ⟨y1, y2⟩ := y
      cases y1 with
      | none => cases e1
      | some b => exact both_val (i1 a rfl) (i2 b rfl) e1
/-- how a look's promise lies to its plain mirror lk: R n s H, the heap H bears the state s, n looks are still free -/
structure LkOk {S : Type} (lk : Th → S → Int × S) (R : Nat → S → Hp → Prop) (HE : Hp) (G : Hp → Prop) (spL : Sp) : Prop where
  objs : ∀ n s H, R n s H → Same HE H
  g : ∀ n s H, R n s H → G H
  same : ∀ n s H H', R n s H → Same H H' → R n s H'
  down : ∀ m n s H, m ≤ n → R n s H → R m s H
  val : ∀ th s, IsVal (lk th s).1
  look : ∀ n s H th t (Q : VK), R (n + 1) s H → ThH H th t → th.Wf → (∀ H', R n (lk th s).2 H' → Q (.int (lk th s).1) H') → spL [t] H Q E0
def spBoth : Sp := fun vs H Q _ => ∃ (wd : Str) (a b : Int), vs = [.str wd, .int a, .int b] ∧ IsVal a ∧ IsVal b ∧ Q (bothV wd a b) H
def spReckon (P : Program) (w : World) (K : PySem.W.Frag) (mg : Str → Option Value) (base : Heap) (J : Nat) (c : EC) (n : Nat) (C : Addr) : Sp := fun vs H Q _ => ∃ (e : Ex) (v : V) (f : Addr) (S : Type) (lk : Th → S → Int × S) (R : Nat → S → Hp → Prop) (HE : Hp) (G : Hp → Prop) (spL : Sp) (s : S) (m : Nat),
  vs = [v, .ref f] ∧ ObjE c HE e v ∧ c.of e = C ∧ e.depth ≤ n ∧ e.Wf ∧ KL.LOk P w K mg base CX0 J f G spL ∧ LkOk lk R HE G spL ∧ R (e.parts + m) s H ∧ ∀ H', R m (ev lk e s).2 H' → Q (optV (ev lk e s).1) H'

/-! ### a method that gets a nested function -/
open NdefX LamX KL in
def tMethZ (P : Program) (w : World) (K : PySem.W.Frag) (mg : Str → Option Value) (base : Heap) (k : Nat) (Fam : Addr → Prop) (SP : Addr → Sp) (m : Str) (E : XK) (mk : Addr → NF) (js : List Nat) (spN : Addr → Addr → List (Option V) → Sp) (ta : TE) (t : TA) : TE := fun σ H Q => ta σ H fun x H1 => ∃ a C dx fs, x = .ref a ∧ H1 a = some (.ins C dx fs) ∧ fs.lookup m = none ∧ Fam C ∧
  t σ H1 fun vs H2 => ∃ f c', vs = [.ref f] ∧ H2 f = some (FnO f (mk c')) ∧ H2 (mk c').c = some (CodeO (mk c').c (mk c').qual) ∧ ∀ cs : Cs, (∀ c o, cs.lookup c = some o → H2 c = none) →
    LOk P w K mg base CX0 k f (GN f (mk c') cs) (fun vs H Q E => spN f c' (js.map (slotAt σ)) vs (thwC cs H) (fun v H' => Q v (frzC cs H')) E) → SP C [.ref a, .ref f] (frzC cs H2) (fun v H' => Q v (thwC cs H')) E
section
open NdefX LamX KL
theorem fm_lookup {fr : List Str} {g : Str → Option (Addr × Obj)} {c : Addr} {o : Obj} (h : (fr.filterMap g).lookup c = some o) : ∃ y ∈ fr, g y = some (c, o) := by
  have m := He.lookup_mem h
  obtain ⟨y, hy, e⟩ := List.mem_filterMap.mp m
  exact ⟨y, hy, e⟩
theorem lookup_has {c : Addr} {o : Obj} : ∀ {l : List (Addr × Obj)}, (c, o) ∈ l → (∀ o', (c, o') ∈ l → o' = o) → l.lookup c = some o
  | [], h, _ => by cases h
  | (b, u) :: r, h, all => by
    rw [List.lookup_cons]
    by_cases q : c = b
    · subst q
      rw [beq_self_eq_true]
      exact congrArg some (all u List.mem_cons_self)
    · rw [beq_false_of_ne q]
      rcases List.mem_cons.mp h with e | h
      · cases e; exact absurd rfl q
      · exact lookup_has h fun o' ho => all o' (List.mem_cons_of_mem _ ho)
variable {X : Cx} {pins : List (Addr × Obj)} {σ : St} {H : Hp} {s : Shared} {cl : List (Str × Addr)} {fr : List Str} {js : List Nat}
/-- the running frame's cells, as a list of what they hold -/
theorem cs_made (I : Inv X pins σ H s) (cp : Caps X cl fr js) (hcl : ∀ y c, cl.lookup y = some c → y ∈ fr) (hfn : ∀ y ∈ fr, X.fn y = true) :
    ∃ cs : Cs, CsIn cs s.heap H ∧ (∀ a o, cs.lookup a = some o → X.base.get? a = none ∧ a ∉ frs X.stack) ∧ CsFn cl fr (js.map (slotAt σ)) cs := by
  obtain ⟨g, hg⟩ : ∃ g : Str → Option (Addr × Obj), g = fun y => (cl.lookup y).bind fun c => (s.heap.get? c).map fun o => (c, o) := ⟨_, rfl⟩
  have gv : ∀ {y c o}, g y = some (c, o) → cl.lookup y = some c ∧ s.heap.get? c = some o := fun {y c o} h => by
    rw [hg] at h
    have h : (cl.lookup y).bind (fun c => (s.heap.get? c).map fun o => (c, o)) = some (c, o) := h
    cases e : cl.lookup y with
    | none => rw [e] at h; cases h
    | some c1 =>
      rw [e] at h
      have h : (s.heap.get? c1).map (fun o => (c1, o)) = some (c, o) := h
      cases e2 : s.heap.get? c1 with
      | none => rw [e2] at h; cases h
      | some o1 =>
        rw [e2] at h
        cases h
        exact ⟨rfl, e2⟩
  have gi : ∀ {y c o}, cl.lookup y = some c → s.heap.get? c = some o → g y = some (c, o) := fun {y c o} h1 h2 => by
    rw [hg]
    show (cl.lookup y).bind _ = _
    rw [h1]
    show (s.heap.get? c).map _ = _
    rw [h2]; rfl
  have at_ : ∀ {y c o}, cl.lookup y = some c → s.heap.get? c = some o → (fr.filterMap g).lookup c = some o := fun {y c o} h1 h2 => by
    refine lookup_has (List.mem_filterMap.mpr ⟨y, hcl y c h1, gi h1 h2⟩) fun o' ho => ?_
    obtain ⟨z, _, hz⟩ := List.mem_filterMap.mp ho
    have e := (gv hz).2
    rw [h2] at e
    exact (Option.some.inj e).symm
  have CA := cells_of I cp
  refine ⟨fr.filterMap g, fun c o h => ?_, fun c o h => ?_, ⟨CA.len, fun y c h => ?_, CA.inj, fun i y h => ?_⟩⟩
  · obtain ⟨y, _, hy⟩ := fm_lookup h
    obtain ⟨h1, h2⟩ := gv hy
    exact ⟨(CA.all y c h1).1, h2⟩
  · obtain ⟨y, my, hy⟩ := fm_lookup h
    obtain ⟨h1, h2⟩ := gv hy
    have hc := cp.sub y c h1
    have ge := I.ok.cab y c (hfn y my) hc
    refine ⟨?_, fun hb => ?_⟩
    · cases e : X.base.get? c with
      | none => rfl
      | some u => exact absurd (Nat.lt_of_lt_of_le (Heap.lt_size e) (Nat.le_trans I.ok.bsz ge)) (Nat.lt_irrefl _)
    · rcases List.mem_cons.mp (I.stkSub c hb) with e | e
      · exact I.cne y c hc e
      · obtain ⟨_, u, hu, _⟩ := I.ok.funs.mem e
        exact absurd (Nat.lt_of_lt_of_le (Heap.lt_size hu) ge) (Nat.lt_irrefl _)
  · obtain ⟨n, v, o, ho, hd⟩ := CA.all y c h
    exact ⟨o, v, at_ h ho, hd⟩
  · obtain ⟨c, hc, hv⟩ := CA.has i y h
    refine ⟨c, hc, fun v hw => ?_⟩
    obtain ⟨u, r, o, ho, hd⟩ := hv v hw
    exact ⟨u, o, r, at_ hc ho, hd⟩
variable {k j : Nat} {m : Str} {Fam : Addr → Prop} {SP : Addr → Sp} {E : XK} {e o : Expr} {es : List Expr} {ta : TE} {t : TA} {pos apos : Pos} {mk : Addr → NF} {ps : List Str} {spN : Addr → Addr → List (Option V) → Sp}
theorem pe_methZ {pl : Sem Bool} (he : PE X o ta) (D : ∀ C, Fam C → Disp X.prog X.w X.K X.mg X.base CX0 m j C (SP C)) (hr : Room j X.A) (Fn : ∀ f c', NOk X.prog X.w X.K X.mg X.base CX0 k f (mk c') ps fr (spN f c')) (hmk : ∀ c', (mk c').cl = cl)
    (cp : X.Ok → Caps X cl fr js) (hcl : ∀ y c, cl.lookup y = some c → y ∈ fr) (hfn : ∀ y ∈ fr, X.fn y = true) (ha : PA X (e :: es) t)
    (hst : starEach (e :: es) X.env = (false, eval e X.env) :: starEach es X.env := by rfl) (hpl : (backTo pos (starEach es X.env)).any (·.1) = false := by rfl)
    (ht : eval (.Call (.Attribute o m apos) (e :: es) [] pos) X.env = (do
      let ov ← eval o X.env
      standAt apos.atName
      let (f, first) ← holding [ov] (getMethod ov m pl)
      callWith pos f first (backTo pos (starEach (e :: es) X.env)) (backToKw pos (keywordEach [] X.env))) := by rfl) :
    PE X (.Call (.Attribute o m apos) (e :: es) [] pos) (tMethZ X.prog X.w X.K X.mg X.base k Fam SP m E mk js spN ta t) := by
  refine ⟨fun pins s σ H Q I h => ?_⟩
  refine PySem.W.methodCall_KW (pl := pl) (thn (he.run pins s σ H _ I h) fun u s1 ⟨x, H1, I1, rx, a, C, dx, fs, ex, ea, l, fam, q⟩ => ?_) ht
  subst ex
  obtain rfl : u = Value.ref a := rx
  obtain ⟨f, fd, pz, c, hm, F, hb⟩ := D C fam
  refine getmeth_ok I1 ea c hm l ?_
  refine PySem.W.callWith_K (first := [.ref a]) (h₀ := X.base) I1.ok.mod.kin hm.kp (thn (ha.run pos pins s1 σ H1 _ I1 q) fun us s2 ⟨vs, H2, I2, r, g, c', ev, g1, g2, q2⟩ => ⟨I2.kIn, ?_⟩) hst hpl
  subst ev
  obtain ⟨cs, c1, c2, c3⟩ := cs_made I2 (cp I2.ok) hcl hfn
  have L := lok_of (Fn g c') (cs := cs) (ws := js.map (slotAt σ)) (by rw [hmk c']; exact c3)
  have q3 := q2 cs (fun c o h => (c1 c o h).1) L
  have r2 : Vals [V.ref a, V.ref g] (.ref a :: us) := .cons rfl r
  have hl : (Value.ref a :: us).length = pz.length := by rw [← r2.length]; exact F.len _ _ _ _ q3
  have hbb := hb s2 (.ref a :: us) I2.kIn (by rw [List.append_nil]; exact hl)
  rw [List.append_nil] at hbb
  refine wpAny_call (codeAny_mono (F.run X.A X.stack s2 (frzC cs H2) ⟨.ref a :: us, []⟩ (.ref a :: us) _ _ E hr (env_frz I2.env0 c1 c2) hbb r2 q3) fun r s' hq => ?_)
  cases r with
  | error e => exact (show False from hq).elim
  | ok fl =>
    cases fl with
    | ret u => exact I2.after (ce_thw c1 (fun a o h => (c2 a o h).2) hq)
    | next => exact False.elim hq
    | brk => exact False.elim hq
    | cont => exact False.elim hq
end

/-! ### a method that gets a lambda -/
open NdefX LamX KL KM in
def tLamE (P : Program) (w : World) (T : List NTab) (mk : Addr → NF) (body : Expr) : TE := fun σ H Q => TabsN T H ∧ ∀ (f c' : Addr) (H1 : Hp), ExtN H H1 → (∀ b, H1 b = Option.none → H b = Option.none) → TabsN T H1 → H f = none → H1 f = some (FnL f (mk c') body) → H1 c' = some (CodeO c' (mk c').qual) → (∀ d xs, H1 d = some (ND.DN P w d xs) → c' ≠ d) → Q (.ref f) H1
open NdefX LamX KL KM in
def tMethL (P : Program) (w : World) (K : PySem.W.Frag) (mg : Str → Option Value) (base : Heap) (k : Nat) (Fam : Addr → Prop) (SP : Addr → Sp) (m : Str) (E : XK) (mk : Addr → NF) (body : Expr) (js : List Nat) (spN : List (Option V) → Sp) (ta : TE) (t : TA) : TE := fun σ H Q => ta σ H fun x H1 => ∃ a C dx fs, x = .ref a ∧ H1 a = some (.ins C dx fs) ∧ fs.lookup m = none ∧ Fam C ∧
  t σ H1 fun vs H2 => ∃ f c', vs = [.ref f] ∧ H2 f = some (FnL f (mk c') body) ∧ H2 (mk c').c = some (CodeO (mk c').c (mk c').qual) ∧ ∀ cs : Cs, (∀ c o, cs.lookup c = some o → H2 c = none) →
    LOk P w K mg base CX0 k f (GL f (mk c') body cs) (fun vs H Q E => spN (js.map (slotAt σ)) vs H (fun v H' => Q v (frzC cs (thwC cs H'))) E) → SP C [.ref a, .ref f] (frzC cs H2) (fun v H' => Q v (thwC cs H')) E
section
open NdefX LamX KL KM
variable {X : Cx} {pins : List (Addr × Obj)} {σ : St} {H : Hp} {s : Shared} {cl : List (Str × Addr)} {fr : List Str} {js : List Nat}
theorem pe_lamS {T : List NTab} {nm : Nat → Nat → Str} {c P : Addr} {e : Expr} (he : e = .Lambda (lArgs e) (lBody e) (lScope e) (lPos e)) (TB : TabB X.base X.mg c P) (hcode : X.env.code = .ref c) (hm : (P, nm) ∈ T) (hn : nm (lPos e).line (lPos e).col = X.env.qual ++ "<lambda>")
    (hu : ∀ p ∈ T, p.1 = P → p.2 = nm) (hdef : defaultsOf (lArgs e) X.env = ([], [])) (hfree : ∀ y ∈ (lScope e).names, y.2 = .free → X.env.scope.names.lookup y.1 = some .cell ∨ X.env.scope.names.lookup y.1 = some .free) :
    PE X e (tLamE X.prog X.w T (LFx e (X.env.qual ++ "<lambda>") (cloFrom X.env.cells (lScope e).names [])) (lBody e)) := by
  have q : PE X (.Lambda (lArgs e) (lBody e) (lScope e) (lPos e)) (tLamE X.prog X.w T (LFx e (X.env.qual ++ "<lambda>") (cloFrom X.env.cells (lScope e).names [])) (lBody e)) := by
    refine ⟨fun pins s σ H Q I h => ?_⟩
    obtain ⟨hT, h⟩ := h
    have hfr : ∀ y ∈ (lScope e).names, y.2 = .free → ∃ c, X.env.cells.lookup y.1 = some c := fun y hy e => (hfree y hy e).elim (fun z => I.ok.has _ (.inl z)) fun z => I.ok.has _ (.inr z)
    refine lam_makeN I TB hcode hm hn hu hT hdef hfr fun f c' H1 s' I1 eN nn T1 f0 f1 c1 => ⟨.ref f, H1, I1, rfl, h f c' H1 eN nn T1 f0 f1 c1 fun d xs hd z => ?_⟩
    subst z
    obtain ⟨⟨oc, vs, t, h1, h2, _⟩, _, _⟩ := I1.hok _ _ c1
    obtain ⟨⟨_, ob, es, ep, g1, _, g3, _⟩, _⟩ := (show ObjOk X.prog X.w H1 s'.heap c' (ND.DN X.prog X.w c' xs) from I1.hok c' _ hd)
    rw [h1] at g1
    cases g1
    rw [h2] at g3
    cases g3
  rw [← he] at q
  exact q
variable {k j : Nat} {m : Str} {Fam : Addr → Prop} {SP : Addr → Sp} {E : XK} {e o body : Expr} {es : List Expr} {ta : TE} {t : TA} {pos apos : Pos} {mk : Addr → NF} {ps : List Str} {spN : List (Option V) → Sp}
theorem pe_methL {pl : Sem Bool} (he : PE X o ta) (D : ∀ C, Fam C → Disp X.prog X.w X.K X.mg X.base CX0 m j C (SP C)) (hr : Room j X.A) (Fn : ∀ f c' cs ws, CsFn cl fr ws cs → LOk X.prog X.w X.K X.mg X.base CX0 k f (GL f (mk c') body cs) (fun vs H Q E => spN ws vs H (fun v H' => Q v (frzC cs (thwC cs H'))) E)) 
    (cp : X.Ok → Caps X cl fr js) (hcl : ∀ y c, cl.lookup y = some c → y ∈ fr) (hfn : ∀ y ∈ fr, X.fn y = true) (ha : PA X (e :: es) t)
    (hst : starEach (e :: es) X.env = (false, eval e X.env) :: starEach es X.env := by rfl) (hpl : (backTo pos (starEach es X.env)).any (·.1) = false := by rfl)
    (ht : eval (.Call (.Attribute o m apos) (e :: es) [] pos) X.env = (do
      let ov ← eval o X.env
      standAt apos.atName
      let (f, first) ← holding [ov] (getMethod ov m pl)
      callWith pos f first (backTo pos (starEach (e :: es) X.env)) (backToKw pos (keywordEach [] X.env))) := by rfl) :
    PE X (.Call (.Attribute o m apos) (e :: es) [] pos) (tMethL X.prog X.w X.K X.mg X.base k Fam SP m E mk body js spN ta t) := by
  refine ⟨fun pins s σ H Q I h => ?_⟩
  refine PySem.W.methodCall_KW (pl := pl) (thn (he.run pins s σ H _ I h) fun u s1 ⟨x, H1, I1, rx, a, C, dx, fs, ex, ea, l, fam, q⟩ => ?_) ht
  subst ex
  obtain rfl : u = Value.ref a := rx
  obtain ⟨f, fd, pz, c, hm, F, hb⟩ := D C fam
  refine getmeth_ok I1 ea c hm l ?_
  refine PySem.W.callWith_K (first := [.ref a]) (h₀ := X.base) I1.ok.mod.kin hm.kp (thn (ha.run pos pins s1 σ H1 _ I1 q) fun us s2 ⟨vs, H2, I2, r, g, c', ev, g1, g2, q2⟩ => ⟨I2.kIn, ?_⟩) hst hpl
  subst ev
  obtain ⟨cs, c1, c2, c3⟩ := cs_made I2 (cp I2.ok) hcl hfn
  have L := Fn g c' cs (js.map (slotAt σ)) c3
  have q3 := q2 cs (fun c o h => (c1 c o h).1) L
  have r2 : Vals [V.ref a, V.ref g] (.ref a :: us) := .cons rfl r
  have hl : (Value.ref a :: us).length = pz.length := by rw [← r2.length]; exact F.len _ _ _ _ q3
  have hbb := hb s2 (.ref a :: us) I2.kIn (by rw [List.append_nil]; exact hl)
  rw [List.append_nil] at hbb
  refine wpAny_call (codeAny_mono (F.run X.A X.stack s2 (frzC cs H2) ⟨.ref a :: us, []⟩ (.ref a :: us) _ _ E hr (env_frz I2.env0 c1 c2) hbb r2 q3) fun r s' hq => ?_)
  cases r with
  | error e => exact (show False from hq).elim
  | ok fl =>
    cases fl with
    | ret u => exact I2.after (ce_thw c1 (fun a o h => (c2 a o h).2) hq)
    | next => exact False.elim hq
    | brk => exact False.elim hq
    | cont => exact False.elim hq
end

/-! ### the walker, as a function -/
inductive Tr where
  | leaf (rt : RT)
  | ifr (e : Ex) (a b : List (Nat × Tr))
inductive Pl where
  | box (frame : List Int) (name : Str)
  | cell (n : Int)
deriving DecidableEq
structure Mo where
  adr : List Int
  reads : List (Pl × Int)
  makes : List (Pl × Int)
  said : Option Int
  goes : Option Bool
  fell : Option Str
inductive Ed where
  | ended
  | tired
  | fell (x : Str) (adr : List Int)
structure WS where
  held : List (Pl × Int)
  kept : List Mo
  ended : Option Ed
structure WP where
  fn : Str
  params : List Str
  body : List (Nat × Tr)
  gno : Nat
  give : Ex
def putP (l : List (Pl × Int)) (k : Pl) (v : Int) : List (Pl × Int) :=
  if (l.any fun x => decide (x.1 = k)) = true then l.map (fun x => if x.1 = k then (x.1, v) else x) else l ++ [(k, v)]
def getP (l : List (Pl × Int)) (k : Pl) : Option Int := (l.find? fun x => decide (x.1 = k)).map (·.2)
def plOf (frame : List Int) : Th → Pl
  | .box s => .box frame s
  | .cell n => .cell n
/-- Scene.read: what is held, 0 else; it is told once -/
def heldP (held : List (Pl × Int)) (p : Pl) : Int := (getP held p).getD 0
def rdW (held : List (Pl × Int)) (p : Pl) (rd : List (Pl × Int)) : List (Pl × Int) := if (rd.any fun x => decide (x.1 = p)) = true then rd else rd ++ [(p, heldP held p)]
def lookW (held : List (Pl × Int)) (frame : List Int) (th : Th) (rd : List (Pl × Int)) : Int × List (Pl × Int) := (heldP held (plOf frame th), rdW held (plOf frame th) rd)
/-- the values of some expressions, up to where one falls -/
def evs (held : List (Pl × Int)) (frame : List Int) : List Ex → List (Pl × Int) → Option (List Int) × List (Pl × Int)
  | [], rd => (some [], rd)
  | e :: es, rd => match ev (lookW held frame) e rd with
    | (none, rd1) => (none, rd1)
    | (some v, rd1) => match evs held frame es rd1 with
      | (none, rd2) => (none, rd2)
      | (some vs, rd2) => (some (v :: vs), rd2)
def deepest : Nat := 6
/-- what a row does -/
def moW (params : List Str) (held : List (Pl × Int)) (adr frame : List Int) (deep : Nat) (back : Pl) : RT → Mo
  | .set b e => match ev (lookW held frame) e [] with
    | (none, rd) => ⟨adr, rd, [], none, none, some "nought"⟩
    | (some v, rd) => ⟨adr, rd, [(.box frame b, v)], none, none, none⟩
  | .tell e => match ev (lookW held frame) e [] with
    | (none, rd) => ⟨adr, rd, [], none, none, some "nought"⟩
    | (some v, rd) => ⟨adr, rd, [], some v, none, none⟩
  | .ifr e => match ev (lookW held frame) e [] with
    | (none, rd) => ⟨adr, rd, [], none, none, some "nought"⟩
    | (some v, rd) => ⟨adr, rd, [], none, some (decide (v ≠ 0)), none⟩
  | .call _ _ es => match evs held frame es [] with
    | (none, rd) => ⟨adr, rd, [], none, none, some "nought"⟩
    | (some vs, rd) => if deepest ≤ deep then ⟨adr, rd, [], none, none, some "deep"⟩ else ⟨adr, rd, (params.zip vs).map (fun x => (.box adr x.1, x.2)), none, none, none⟩
  | .give e => match ev (lookW held frame) e [] with
    | (none, rd) => ⟨adr, rd, [], none, none, some "nought"⟩
    | (some v, rd) => ⟨adr, rd, [(back, v)], none, none, none⟩
  | _ => ⟨adr, [], [], none, none, none⟩
def putAll (held : List (Pl × Int)) : List (Pl × Int) → List (Pl × Int)
  | [] => held
  | (k, v) :: r => putAll (putP held k v) r
/-- Walker.go_moment, by a bound of sixty -/
def goMo (st : WS) (m : Mo) : Bool × WS :=
  if 60 ≤ st.kept.length then (false, ⟨st.held, st.kept, some .tired⟩)
  else match m.fell with
    | some x => (false, ⟨putAll st.held m.makes, st.kept ++ [m], some (.fell x m.adr)⟩)
    | none => (true, ⟨putAll st.held m.makes, st.kept ++ [m], st.ended⟩)
def noBack : Pl := .cell 0
/-- Walker.go_row; rec: the blocks within -/
def rowW (P : WP) (rec : List (Nat × Tr) → List Int → List Int → Nat → WS → Option (Bool × WS)) (adr frame : List Int) (deep : Nat) : Tr → WS → Option (Bool × WS)
  | .ifr e a b, st => match goMo st (moW P.params st.held adr frame deep noBack (.ifr e)) with
    | (false, st1) => some (false, st1)
    | (true, st1) => if (moW P.params st.held adr frame deep noBack (.ifr e)).goes = some true then rec a (adr ++ [0]) frame deep st1 else rec b (adr ++ [1]) frame deep st1
  | .leaf (.call b f es), st => match goMo st (moW P.params st.held adr frame deep noBack (.call b f es)) with
    | (false, st1) => some (false, st1)
    | (true, st1) => match rec P.body (adr ++ [0]) adr (deep + 1) st1 with
      | none => none
      | some (false, st2) => some (false, st2)
      | some (true, st2) => some (goMo st2 (moW P.params st2.held (adr ++ [0] ++ [(P.gno : Int)]) adr (deep + 1) (.box frame b) (.give P.give)))
  | .leaf rt, st => some (goMo st (moW P.params st.held adr frame deep noBack rt))
def rowsW (row : Nat → Tr → WS → Option (Bool × WS)) : List (Nat × Tr) → WS → Option (Bool × WS)
  | [], st => some (true, st)
  | (k, t) :: r, st => match row k t st with
    | none => none
    | some (false, st1) => some (false, st1)
    | some (true, st1) => rowsW row r st1
/-- Walker.go_block -/
def walkW (P : WP) : Nat → List (Nat × Tr) → List Int → List Int → Nat → WS → Option (Bool × WS)
  | 0, _, _, _, _, _ => none
  | n + 1, rows, adr, frame, deep, st => rowsW (fun k t st => rowW P (walkW P n) (adr ++ [(k : Int)]) frame deep t st) rows st

/-! ### the reader, with the rows that it gives -/
/-- what by_number is told of a row -/
def Tr.rt : Tr → RT
  | .leaf rt => rt
  | .ifr e _ _ => .ifr e
def rowsT (ts : List Str) (blk : RS → Option (List (Nat × Tr) × RS)) (ok : Bool) (ws : List Str) (st : RS) : Option (Tr × RS) :=
  if ok = true then (match only1 (exL (ws.drop 1)) with
    | none => none
    | some e => match blk st with
      | none => none
      | some (b1, st2) => if hd0 ws = "while" then (match passF ts "end" st2 with
          | none => none
          | some st3 => some (.leaf (.loop e), st3))
        else match passF ts "else" st2 with
          | none => none
          | some st3 => match blk st3 with
            | none => none
            | some (b2, st4) => match passF ts "end" st4 with
              | none => none
              | some st5 => some (.ifr e b1 b2, st5)) else none
def oneT (ts : List Str) (rows : List Str → RS → Option (Tr × RS)) (st : RS) : Option (Tr × RS) :=
  if hd0 (wordsAt ts st.at_) = "if" ∨ hd0 (wordsAt ts st.at_) = "while" then rows (wordsAt ts st.at_) { st with at_ := st.at_ + 1 }
  else if hd0 (wordsAt ts st.at_) = "call" then (match callF (wordsAt ts st.at_) with
    | none => none
    | some (b, f, es) => some (.leaf (.call b f es), ⟨st.at_ + 1, st.num, st.calls ++ [(f, es.length)]⟩))
  else (simpleF (wordsAt ts st.at_)).map fun rt => (.leaf rt, ⟨st.at_ + 1, st.num, st.calls⟩)
def blkT (ts : List Str) (one : RS → Option (Tr × RS)) : Nat → RS → Option (List (Nat × Tr) × RS)
  | 0, _ => none
  | n + 1, st => match headAt ts st.at_ with
    | none => some ([], st)
    | some w => if w ∈ ROWW then (match one st with
        | none => none
        | some (t, st2) => match blkT ts one n ⟨st2.at_, putN st2.num st.at_ t.rt, st2.calls⟩ with
          | none => none
          | some (bs, st3) => some ((st.at_, t) :: bs, st3)) else some ([], st)
def blockT (ts : List Str) : Nat → RS → Option (List (Nat × Tr) × RS)
  | 0, _ => none
  | n + 1, st => blkT ts (oneT ts (rowsT ts (blockT ts n) (decide (0 < n)))) (ts.length + 1) st
def unT : Option (Tr × RS) → Option (RT × RS) := Option.map fun x => (x.1.rt, x.2)
theorem rowsT_F {ts : List Str} {blk : RS → Option (List (Nat × Tr) × RS)} {blk' : RS → Option RS} (hb : ∀ st, blk' st = (blk st).map (·.2)) {ok : Bool} {ws : List Str} {st : RS} : rowsF ts blk' ok ws st = unT (rowsT ts blk ok ws st) := by
  unfold rowsF rowsT unT
  cases ok with
  | false => rfl
  | true =>
    rw [if_pos rfl, if_pos rfl]
    cases only1 (exL (ws.drop 1)) with
    | none => rfl
    | some e =>
      simp only
      rw [hb st]
      cases blk st with
      | none => rfl
      | some x =>
        obtain ⟨b1, st2⟩ := x
        simp only [Option.map_some]
        by_cases c : hd0 ws = "while"
        · rw [if_pos c, if_pos c]
          cases passF ts "end" st2 <;> rfl
        · rw [if_neg c, if_neg c]
          cases passF ts "else" st2 with
          | none => rfl
          | some st3 =>
            simp only
            rw [hb st3]
            cases blk st3 with
            | none => rfl
            | some y =>
              obtain ⟨b2, st4⟩ := y
              simp only [Option.map_some]
              cases passF ts "end" st4 <;> rfl
theorem oneT_F {ts : List Str} {rows : List Str → RS → Option (Tr × RS)} {rows' : List Str → RS → Option (RT × RS)} (hr : ∀ ws st, rows' ws st = unT (rows ws st)) {st : RS} : oneF ts rows' st = unT (oneT ts rows st) := by
  unfold oneF oneT
  by_cases c1 : hd0 (wordsAt ts st.at_) = "if" ∨ hd0 (wordsAt ts st.at_) = "while"
  · rw [if_pos c1, if_pos c1]; exact hr _ _
  rw [if_neg c1, if_neg c1]
  by_cases c2 : hd0 (wordsAt ts st.at_) = "call"
  · rw [if_pos c2, if_pos c2]
    cases callF (wordsAt ts st.at_) with
    | none => rfl
    | some x => obtain ⟨b, f, es⟩ := x; rfl
  · rw [if_neg c2, if_neg c2]
    cases simpleF (wordsAt ts st.at_) <;> rfl
theorem blkT_F {ts : List Str} {one : RS → Option (Tr × RS)} {one' : RS → Option (RT × RS)} (ho : ∀ st, one' st = unT (one st)) : ∀ {n : Nat} {st : RS}, blkF ts one' n st = (blkT ts one n st).map (·.2)
  | 0, _ => rfl
  | n + 1, st => by
    unfold blkF blkT
    cases headAt ts st.at_ with
    | none => rfl
    | some w =>
      simp only
      by_cases c : w ∈ ROWW
      · rw [if_pos c, if_pos c, ho st]
        cases one st with
        | none => rfl
        | some x =>
          obtain ⟨t, st2⟩ := x
          show blkF ts one' n ⟨st2.at_, putN st2.num st.at_ t.rt, st2.calls⟩ = _
          rw [blkT_F ho]
          simp only
          cases blkT ts one n ⟨st2.at_, putN st2.num st.at_ t.rt, st2.calls⟩ <;> rfl
      · rw [if_neg c, if_neg c]; rfl
theorem blockT_F {ts : List Str} : ∀ {n : Nat} {st : RS}, blockF ts n st = (blockT ts n st).map (·.2)
  | 0, _ => rfl
  | n + 1, st => by
    unfold blockF blockT
    exact blkT_F fun st => oneT_F fun ws st => rowsT_F fun st => blockT_F

/-- a function, as it was read -/
structure FnD where
  name : Str
  params : List Str
  body : List (Nat × Tr)
  gno : Nat
  give : Ex
def nmF (f : FnD) : Str × Nat := (f.name, f.params.length)
def functionT (ts : List Str) (st : RS) : Option (FnD × RS) :=
  if ((wordsAt ts st.at_).drop 1).all isNameW = true ∧ 2 ≤ (wordsAt ts st.at_).length ∧ ((wordsAt ts st.at_).drop 2).length ≤ 3 ∧ cntTo ((wordsAt ts st.at_).drop 2) ((wordsAt ts st.at_).drop 2).length = ((wordsAt ts st.at_).drop 2).length then
    (match blockT ts 6 { st with at_ := st.at_ + 1 } with
    | none => none
    | some (bs, st2) => if headAt ts st2.at_ = some "give" then (match only1 (exL ((wordsAt ts st2.at_).drop 1)) with
        | none => none
        | some e => some (⟨wd (wordsAt ts st.at_) 1, (wordsAt ts st.at_).drop 2, bs, st2.at_, e⟩, ⟨st2.at_ + 1, putN st2.num st2.at_ (.give e), st2.calls⟩)) else none) else none
theorem functionT_F {ts : List Str} {st : RS} : functionF ts st = (functionT ts st).map fun x => (nmF x.1, x.2) := by
  unfold functionF functionT
  split
  · rw [blockT_F]
    cases blockT ts 6 { st with at_ := st.at_ + 1 } with
    | none => rfl
    | some x =>
      obtain ⟨bs, st2⟩ := x
      simp only [Option.map_some]
      split
      · cases only1 (exL ((wordsAt ts st2.at_).drop 1)) <;> rfl
      · rfl
  · rfl
def funsT (ts : List Str) : Nat → List FnD → RS → Option (List FnD × RS)
  | 0, _, _ => none
  | n + 1, fs, st => if headAt ts st.at_ = some "fun" then (match functionT ts st with
      | none => none
      | some (f, st2) => if (fs.any fun g => decide (g.name = f.name)) = true ∨ fs.length = 4 then none else funsT ts n (fs ++ [f]) st2)
    else some (fs, st)
/-- the functions, and main's rows -/
def readT (ts : List Str) : Option (List FnD × List (Nat × Tr)) :=
  if ts.length ≤ 60 then (match funsT ts (ts.length + 1) [] ⟨0, [], []⟩ with
    | none => none
    | some (fs, st) => match passF ts "main" st with
      | none => none
      | some st1 => match blockT ts 6 st1 with
        | none => none
        | some (bs, st2) => if st2.at_ = ts.length ∧ st2.calls.all (callOk (fs.map nmF)) = true then some (fs, bs) else none) else none

mutual
/-- v is the object of the tree at line n; its lists lie where N says -/
inductive TrO (c : RC) (ec : EC) (N : Addr → Prop) (H : Hp) : Nat → Tr → V → Prop
  | leaf {n : Nat} {rt : RT} {v : V} : RowO c ec N H ((n : Nat) : Int) rt v → TrO c ec N H n (.leaf rt) v
  | ifr {n : Nat} {e : Ex} {a b : List (Nat × Tr)} {p dx y z : Addr} {x : V} {ys zs : List V} : H p = some (.ins c.ifr dx [("number", .int ((n : Nat) : Int)), ("test", x), ("first", .ref y), ("second", .ref z)]) → ObjE ec H e x →
      N y → H y = some (.lst ys) → BlkO c ec N H a ys → N z → H z = some (.lst zs) → BlkO c ec N H b zs → TrO c ec N H n (.ifr e a b) (.ref p)
inductive BlkO (c : RC) (ec : EC) (N : Addr → Prop) (H : Hp) : List (Nat × Tr) → List V → Prop
  | nil : BlkO c ec N H [] []
  | cons {n : Nat} {t : Tr} {r : List (Nat × Tr)} {v : V} {vs : List V} : TrO c ec N H n t v → BlkO c ec N H r vs → BlkO c ec N H ((n, t) :: r) (v :: vs)
end
mutual
theorem TrO.keepI {c : RC} {ec : EC} {cs N : Addr → Prop} {H H' : Hp} (k : KeepI cs N H H') (hc : ∀ C, ec.Fam C → cs C) (hr : ∀ C, c.Fam C → cs C) : ∀ {n : Nat} {t : Tr} {v : V}, TrO c ec N H n t v → TrO c ec N H' n t v
  | _, _, _, .leaf h => .leaf (h.keepI k hc hr)
  | _, _, _, .ifr (e := e) h1 h2 h3 h4 h5 h6 h7 h8 => .ifr (k.1 _ _ _ _ (hr _ ⟨.ifr e, rfl⟩) h1) (h2.keepI k hc) h3 (k.2 _ _ h3 h4) (BlkO.keepI k hc hr h5) h6 (k.2 _ _ h6 h7) (BlkO.keepI k hc hr h8)
theorem BlkO.keepI {c : RC} {ec : EC} {cs N : Addr → Prop} {H H' : Hp} (k : KeepI cs N H H') (hc : ∀ C, ec.Fam C → cs C) (hr : ∀ C, c.Fam C → cs C) : ∀ {l : List (Nat × Tr)} {vs : List V}, BlkO c ec N H l vs → BlkO c ec N H' l vs
  | _, _, .nil => .nil
  | _, _, .cons h t => .cons (TrO.keepI k hc hr h) (BlkO.keepI k hc hr t)
end
mutual
theorem TrO.weak {c : RC} {ec : EC} {N M : Addr → Prop} {H : Hp} (f : ∀ l, (∃ o, H l = some o) → N l → M l) : ∀ {n : Nat} {t : Tr} {v : V}, TrO c ec N H n t v → TrO c ec M H n t v
  | _, _, _, .leaf h => .leaf (h.weak f)
  | _, _, _, .ifr h1 h2 h3 h4 h5 h6 h7 h8 => .ifr h1 h2 (f _ ⟨_, h4⟩ h3) h4 (BlkO.weak f h5) (f _ ⟨_, h7⟩ h6) h7 (BlkO.weak f h8)
theorem BlkO.weak {c : RC} {ec : EC} {N M : Addr → Prop} {H : Hp} (f : ∀ l, (∃ o, H l = some o) → N l → M l) : ∀ {l : List (Nat × Tr)} {vs : List V}, BlkO c ec N H l vs → BlkO c ec M H l vs
  | _, _, .nil => .nil
  | _, _, .cons h t => .cons (TrO.weak f h) (BlkO.weak f t)
end
theorem TrO.same {c : RC} {ec : EC} {N : Addr → Prop} {H H' : Hp} (s : Same H H') {n : Nat} {t : Tr} {v : V} (h : TrO c ec N H n t v) : TrO c ec N H' n t v := h.keepI (cs := fun _ => True) (keepI_same s) (fun _ _ => trivial) fun _ _ => trivial
theorem BlkO.same {c : RC} {ec : EC} {N : Addr → Prop} {H H' : Hp} (s : Same H H') {l : List (Nat × Tr)} {vs : List V} (h : BlkO c ec N H l vs) : BlkO c ec N H' l vs := h.keepI (cs := fun _ => True) (keepI_same s) (fun _ _ => trivial) fun _ _ => trivial
/-- the row, as by_number is told of it -/
theorem TrO.row {c : RC} {ec : EC} {N : Addr → Prop} {H : Hp} : ∀ {n : Nat} {t : Tr} {v : V}, TrO c ec N H n t v → RowO c ec N H ((n : Nat) : Int) t.rt v
  | _, _, _, .leaf h => h
  | _, _, _, .ifr (p := p) (dx := dx) (x := x) h1 h2 _ _ _ _ _ _ => ⟨p, dx, x, _, _, rfl, h1, h2⟩
theorem BlkO.snoc {c : RC} {ec : EC} {N : Addr → Prop} {H : Hp} {n : Nat} {t : Tr} {v : V} (h : TrO c ec N H n t v) : ∀ {l : List (Nat × Tr)} {vs : List V}, BlkO c ec N H l vs → BlkO c ec N H (l ++ [(n, t)]) (vs ++ [v])
  | _, _, .nil => .cons h .nil
  | _, _, .cons a b => .cons a (BlkO.snoc h b)

section
variable (K : PySem.W.Frag) (c : RC) (ec : EC) (R N : Addr)
def spBlkT (n : Nat) : Sp := fun vs H Q E => ∃ (X : Rd) (st : RS), vs = [.ref X.p, .int (6 - (n : Int))] ∧ RdH K c ec R X H st ∧ 1 ≤ n ∧
  (∀ bs st' l os H', blockT X.ts n st = some (bs, st') → Mv X H H' → RdH K c ec R X H' st' → X.N l → H' l = some (.lst os) → BlkO c ec X.N H' bs os → Q (.ref l) H') ∧ (blockT X.ts n st = none → ∀ H', Mv X H H' → E (.ref N) none H')
def spRowsT (m : Nat) : Sp := fun vs H Q E => ∃ (X : Rd) (st : RS) (num : Nat) (w : Addr) (ws : List Str), vs = [.ref X.p, .int (num : Int), .ref w, .int (6 - (m : Int))] ∧ RdH K c ec R X H st ∧ SqL K H w (ws.map V.str) ∧ w ≠ X.cl ∧ ws ≠ [] ∧ Small ws ∧
  (∀ t st' v H', rowsT X.ts (blockT X.ts m) (decide (0 < m)) ws st = some (t, st') → Mv X H H' → RdH K c ec R X H' st' → TrO c ec X.N H' num t v → Q v H') ∧ (rowsT X.ts (blockT X.ts m) (decide (0 < m)) ws st = none → ∀ H', Mv X H H' → E (.ref N) none H')
def spOneT (m : Nat) : Sp := fun vs H Q E => ∃ (X : Rd) (st : RS), vs = [.ref X.p, .int (5 - (m : Int))] ∧ RdH K c ec R X H st ∧ st.at_ < X.ts.length ∧
  (∀ t st' v H', oneT X.ts (rowsT X.ts (blockT X.ts m) (decide (0 < m))) st = some (t, st') → Mv X H H' → RdH K c ec R X H' st' → TrO c ec X.N H' st.at_ t v → Q v H') ∧ (oneT X.ts (rowsT X.ts (blockT X.ts m) (decide (0 < m))) st = none → ∀ H', Mv X H H' → E (.ref N) none H')
end

section
variable (K : PySem.W.Frag) (c : RC) (ec : EC) (R N F PC : Addr)
/-- v is a function's object -/
def FunTO (M : Addr → Prop) (H : Hp) (f : FnD) (v : V) : Prop := ∃ (p dx l lb : Addr) (g : V) (os : List V), v = .ref p ∧ H p = some (.ins F dx [("name", .str f.name), ("params", .ref l), ("body", .ref lb), ("give", g)]) ∧ M l ∧ H l = some (.lst (f.params.map V.str)) ∧ M lb ∧ H lb = some (.lst os) ∧ BlkO c ec M H f.body os ∧ RowO c ec M H ((f.gno : Nat) : Int) (.give f.give) g
def FunTK (M : Addr → Prop) (H : Hp) (f : FnD) (kv : Key × V) : Prop := kv.1 = .inr f.name ∧ FunTO c ec F M H f kv.2
def spFunctionT : Sp := fun vs H Q E => ∃ (X : Rd) (st : RS), vs = [.ref X.p] ∧ RdH K c ec R X H st ∧ headAt X.ts st.at_ = some "fun" ∧
  (∀ f st' v H', functionT X.ts st = some (f, st') → Mv X H H' → RdH K c ec R X H' st' → FunTO c ec F X.N H' f v → Q v H') ∧ (functionT X.ts st = none → ∀ H', Mv X H H' → E (.ref N) none H')
/-- v is a program read, its functions gs, main's rows bs -/
def ProgTO (H : Hp) (gs : List FnD) (bs : List (Nat × Tr)) (v : V) : Prop := ∃ (p dx m d : Addr) (tx num : V) (os : List V) (kvs : List (Key × V)), v = .ref p ∧ H p = some (.ins PC dx [("texts", tx), ("main", .ref m), ("functions", .ref d), ("by_number", num)]) ∧ H m = some (.lst os) ∧ BlkO c ec (fun _ => True) H bs os ∧ H d = some (.dK kvs) ∧ All2 (FunTK c ec F (fun _ => True) H) gs kvs
def spReadT : Sp := fun vs H Q E => ∃ s : Str, vs = [.str s] ∧ TextOk s ∧
  (∀ gs bs v H', readT (Txt.split s "\n") = some (gs, bs) → Same H H' → ProgTO c ec F PC H' gs bs v → Q v H') ∧ (readT (Txt.split s "\n") = none → ∀ H', Same H H' → E (.ref N) none H')
variable {c ec F}
theorem FunTO.keepI {cs N : Addr → Prop} {H H' : Hp} (k : KeepI cs N H H') (hc : ∀ C, ec.Fam C → cs C) (hr : ∀ C, c.Fam C → cs C) (hF : cs F) {f : FnD} {v : V} (h : FunTO c ec F N H f v) : FunTO c ec F N H' f v := by
  obtain ⟨p, dx, l, lb, g, os, h1, h2, h3, h4, h5, h6, h7, h8⟩ := h
  exact ⟨p, dx, l, lb, g, os, h1, k.1 _ _ _ _ hF h2, h3, k.2 _ _ h3 h4, h5, k.2 _ _ h5 h6, h7.keepI k hc hr, h8.keepI k hc hr⟩
theorem FunTK.keepI {cs N : Addr → Prop} {H H' : Hp} {f : FnD} {kv : Key × V} (h : FunTK c ec F N H f kv) (k : KeepI cs N H H') (hc : ∀ C, ec.Fam C → cs C) (hr : ∀ C, c.Fam C → cs C) (hF : cs F) : FunTK c ec F N H' f kv := ⟨h.1, h.2.keepI k hc hr hF⟩
theorem FunTK.same {N : Addr → Prop} {H H' : Hp} {f : FnD} {kv : Key × V} (h : FunTK c ec F N H f kv) (s : Same H H') : FunTK c ec F N H' f kv := ⟨h.1, h.2.keepI (cs := fun _ => True) (keepI_same s) (fun _ _ => trivial) (fun _ _ => trivial) trivial⟩
theorem FunTO.weak {N M : Addr → Prop} {H : Hp} (f : ∀ l, (∃ o, H l = some o) → N l → M l) {fd : FnD} {v : V} (h : FunTO c ec F N H fd v) : FunTO c ec F M H fd v := by
  obtain ⟨p, dx, l, lb, g, os, h1, h2, h3, h4, h5, h6, h7, h8⟩ := h
  exact ⟨p, dx, l, lb, g, os, h1, h2, f _ ⟨_, h4⟩ h3, h4, f _ ⟨_, h6⟩ h5, h6, h7.weak f, h8.weak f⟩
theorem FunTK.fk {N : Addr → Prop} {H : Hp} {fd : FnD} {kv : Key × V} (h : FunTK c ec F N H fd kv) : FunK F N H (nmF fd) kv := by
  obtain ⟨p, dx, l, lb, g, os, h1, h2, h3, h4, h5, h6, h7, h8⟩ := h.2
  exact ⟨h.1, p, dx, l, fd.params, _, _, h1, h2, h3, h4, rfl⟩
theorem funK_map {N : Addr → Prop} {H : Hp} : ∀ {gs : List FnD} {kvs : List (Key × V)}, All2 (FunTK c ec F N H) gs kvs → All2 (FunK F N H) (gs.map nmF) kvs
  | _, _, .nil => .nil
  | _, _, .cons a b => .cons a.fk (funK_map b)
end

/-! ### the law's program, walked -/
def wp24 (one two fn : Str) (many : Nat) (start : Int) : WP :=
  ⟨fn, [one], [(1, .ifr (.two "less" (.box one) (.num many)) [(2, .leaf (.call two fn [.two "plus" (.box one) (.num 1)]))] [(4, .leaf (.set two (.num start)))])], 6, .two "plus" (.two "times" (.box two) (.num 3)) (.box one)⟩
def main24 (two fn : Str) : List (Nat × Tr) := [(8, .leaf (.call two fn [.num 0])), (9, .leaf (.tell (.box two)))]
def run24 (one two fn : Str) (many : Nat) (start : Int) : Option (Bool × WS) := walkW (wp24 one two fn many start) 40 (main24 two fn) [] [] 0 ⟨[], [], none⟩
def val24 : Nat → Int → Int
  | 0, v => (v * 3 % 1000000 + 0) % 1000000
  | n + 1, v => val24 n ((v * 3 % 1000000 + ((n + 1 : Nat) : Int)) % 1000000)
def spLaw (K : PySem.W.Frag) (T : List NdefX.NTab) : Sp := fun vs H Q _ => ∃ (a : Addr) (ns : List Int), vs = [.ref a] ∧ SqL K H a (ns.map V.int) ∧ ns.length ≤ 63 ∧ NdefX.TabsN T H ∧ ∀ H', Q (.bl true) H'

end K24
namespace K24
open PySem L2 TL
abbrev N_is_name : List Str := ["thing", "sign"]
theorem sc_is_name : FnScope ["thing", "sign"] ["thing"] (defScope s_is_name) := ⟨rfl, rfl, rfl, by decide +kernel, rfl, by decide +kernel, by decide +kernel⟩
abbrev N_is_value_word : List Str := ["word", "sign"]
theorem sc_is_value_word : FnScope ["word", "sign"] ["word"] (defScope s_is_value_word) := ⟨rfl, rfl, rfl, by decide +kernel, rfl, by decide +kernel, by decide +kernel⟩
abbrev N_Number_init : List Str := ["self", "value"]
theorem sc_Number_init : FnScope ["self", "value"] ["self", "value"] (defScope s_Number_init) := ⟨rfl, rfl, rfl, by decide +kernel, rfl, by decide +kernel, by decide +kernel⟩
abbrev N_Box_init : List Str := ["self", "name"]
theorem sc_Box_init : FnScope ["self", "name"] ["self", "name"] (defScope s_Box_init) := ⟨rfl, rfl, rfl, by decide +kernel, rfl, by decide +kernel, by decide +kernel⟩
abbrev N_Cell_init : List Str := ["self", "inner"]
theorem sc_Cell_init : FnScope ["self", "inner"] ["self", "inner"] (defScope s_Cell_init) := ⟨rfl, rfl, rfl, by decide +kernel, rfl, by decide +kernel, by decide +kernel⟩
abbrev N_Two_init : List Str := ["self", "word", "left", "right"]
theorem sc_Two_init : FnScope ["self", "word", "left", "right"] ["self", "word", "left", "right"] (defScope s_Two_init) := ⟨rfl, rfl, rfl, by decide +kernel, rfl, by decide +kernel, by decide +kernel⟩
abbrev N_Expr_parts : List Str := ["self"]
theorem sc_Expr_parts : FnScope ["self"] ["self"] (defScope s_Expr_parts) := ⟨rfl, rfl, rfl, by decide +kernel, rfl, by decide +kernel, by decide +kernel⟩
abbrev N_Cell_parts : List Str := ["self"]
theorem sc_Cell_parts : FnScope ["self"] ["self"] (defScope s_Cell_parts) := ⟨rfl, rfl, rfl, by decide +kernel, rfl, by decide +kernel, by decide +kernel⟩
abbrev N_Two_parts : List Str := ["self"]
theorem sc_Two_parts : FnScope ["self"] ["self"] (defScope s_Two_parts) := ⟨rfl, rfl, rfl, by decide +kernel, rfl, by decide +kernel, by decide +kernel⟩
abbrev N_expr_at : List Str := ["row", "at", "deep", "word", "inner", "behind", "left", "middle", "right"]
theorem sc_expr_at : FnScope ["row", "at", "deep", "word", "inner", "behind", "left", "middle", "right"] ["row", "at", "deep"] (defScope s_expr_at) := ⟨rfl, rfl, rfl, by decide +kernel, rfl, by decide +kernel, by decide +kernel⟩
abbrev N_exprs_of : List Str := ["row", "found", "at", "one"]
theorem sc_exprs_of : FnScope ["row", "found", "at", "one"] ["row"] (defScope s_exprs_of) := ⟨rfl, rfl, rfl, by decide +kernel, rfl, by decide +kernel, by decide +kernel⟩
abbrev N_Row_init : List Str := ["self", "number"]
theorem sc_Row_init : FnScope ["self", "number"] ["self", "number"] (defScope s_Row_init) := ⟨rfl, rfl, rfl, by decide +kernel, rfl, by decide +kernel, by decide +kernel⟩
abbrev N_Set_init : List Str := ["self", "number", "box", "expr"]
theorem sc_Set_init : FnScope ["self", "number", "box", "expr"] ["self", "number", "box", "expr"] (defScope s_Set_init) := ⟨rfl, rfl, rfl, by decide +kernel, rfl, by decide +kernel, by decide +kernel⟩
abbrev N_Put_init : List Str := ["self", "number", "first", "second"]
theorem sc_Put_init : FnScope ["self", "number", "first", "second"] ["self", "number", "first", "second"] (defScope s_Put_init) := ⟨rfl, rfl, rfl, by decide +kernel, rfl, by decide +kernel, by decide +kernel⟩
abbrev N_Ask_init : List Str := ["self", "number", "box", "word", "expr"]
theorem sc_Ask_init : FnScope ["self", "number", "box", "word", "expr"] ["self", "number", "box", "word", "expr"] (defScope s_Ask_init) := ⟨rfl, rfl, rfl, by decide +kernel, rfl, by decide +kernel, by decide +kernel⟩
abbrev N_Draw_init : List Str := ["self", "number", "box", "word"]
theorem sc_Draw_init : FnScope ["self", "number", "box", "word"] ["self", "number", "box", "word"] (defScope s_Draw_init) := ⟨rfl, rfl, rfl, by decide +kernel, rfl, by decide +kernel, by decide +kernel⟩
abbrev N_Tell_init : List Str := ["self", "number", "expr"]
theorem sc_Tell_init : FnScope ["self", "number", "expr"] ["self", "number", "expr"] (defScope s_Tell_init) := ⟨rfl, rfl, rfl, by decide +kernel, rfl, by decide +kernel, by decide +kernel⟩
abbrev N_Choice_init : List Str := ["self", "number", "test", "first", "second"]
theorem sc_Choice_init : FnScope ["self", "number", "test", "first", "second"] ["self", "number", "test", "first", "second"] (defScope s_Choice_init) := ⟨rfl, rfl, rfl, by decide +kernel, rfl, by decide +kernel, by decide +kernel⟩
abbrev N_Loop_init : List Str := ["self", "number", "test", "body"]
theorem sc_Loop_init : FnScope ["self", "number", "test", "body"] ["self", "number", "test", "body"] (defScope s_Loop_init) := ⟨rfl, rfl, rfl, by decide +kernel, rfl, by decide +kernel, by decide +kernel⟩
abbrev N_Call_init : List Str := ["self", "number", "box", "fun", "given"]
theorem sc_Call_init : FnScope ["self", "number", "box", "fun", "given"] ["self", "number", "box", "fun", "given"] (defScope s_Call_init) := ⟨rfl, rfl, rfl, by decide +kernel, rfl, by decide +kernel, by decide +kernel⟩
abbrev N_Give_init : List Str := ["self", "number", "expr"]
theorem sc_Give_init : FnScope ["self", "number", "expr"] ["self", "number", "expr"] (defScope s_Give_init) := ⟨rfl, rfl, rfl, by decide +kernel, rfl, by decide +kernel, by decide +kernel⟩
abbrev N_check_names : List Str := ["words", "many", "word"]
theorem sc_check_names : FnScope ["words", "many", "word"] ["words", "many"] (defScope s_check_names) := ⟨rfl, rfl, rfl, by decide +kernel, rfl, by decide +kernel, by decide +kernel⟩
abbrev N_only : List Str := ["found"]
theorem sc_only : FnScope ["found"] ["found"] (defScope s_only) := ⟨rfl, rfl, rfl, by decide +kernel, rfl, by decide +kernel, by decide +kernel⟩
abbrev N_simple_row : List Str := ["number", "words", "found"]
theorem sc_simple_row : FnScope ["number", "words", "found"] ["number", "words"] (defScope s_simple_row) := ⟨rfl, rfl, rfl, by decide +kernel, rfl, by decide +kernel, by decide +kernel⟩
abbrev N_Reader_head : List Str := ["self"]
theorem sc_Reader_head : FnScope ["self"] ["self"] (defScope s_Reader_head) := ⟨rfl, rfl, rfl, by decide +kernel, rfl, by decide +kernel, by decide +kernel⟩
abbrev N_Reader_init : List Str := ["self", "texts"]
theorem sc_Reader_init : FnScope ["self", "texts"] ["self", "texts"] (defScope s_Reader_init) := ⟨rfl, rfl, rfl, by decide +kernel, rfl, by decide +kernel, by decide +kernel⟩
abbrev N_Reader_pass_line : List Str := ["self", "text"]
theorem sc_Reader_pass_line : FnScope ["self", "text"] ["self", "text"] (defScope s_Reader_pass_line) := ⟨rfl, rfl, rfl, by decide +kernel, rfl, by decide +kernel, by decide +kernel⟩
abbrev N_Reader_call_row : List Str := ["self", "number", "words", "found"]
theorem sc_Reader_call_row : FnScope ["self", "number", "words", "found"] ["self", "number", "words"] (defScope s_Reader_call_row) := ⟨rfl, rfl, rfl, by decide +kernel, rfl, by decide +kernel, by decide +kernel⟩
abbrev N_Reader_row_with_rows : List Str := ["self", "number", "words", "within", "test", "first", "second"]
theorem sc_Reader_row_with_rows : FnScope ["self", "number", "words", "within", "test", "first", "second"] ["self", "number", "words", "within"] (defScope s_Reader_row_with_rows) := ⟨rfl, rfl, rfl, by decide +kernel, rfl, by decide +kernel, by decide +kernel⟩
abbrev N_Reader_block : List Str := ["self", "within", "found", "row"]
theorem sc_Reader_block : FnScope ["self", "within", "found", "row"] ["self", "within"] (defScope s_Reader_block) := ⟨rfl, rfl, rfl, by decide +kernel, rfl, by decide +kernel, by decide +kernel⟩
abbrev N_Reader_one_row : List Str := ["self", "within", "number", "words"]
theorem sc_Reader_one_row : FnScope ["self", "within", "number", "words"] ["self", "within"] (defScope s_Reader_one_row) := ⟨rfl, rfl, rfl, by decide +kernel, rfl, by decide +kernel, by decide +kernel⟩
abbrev N_Function_init : List Str := ["self", "name", "params", "body", "give"]
theorem sc_Function_init : FnScope ["self", "name", "params", "body", "give"] ["self", "name", "params", "body", "give"] (defScope s_Function_init) := ⟨rfl, rfl, rfl, by decide +kernel, rfl, by decide +kernel, by decide +kernel⟩
abbrev N_Reader_function : List Str := ["self", "words", "params", "body", "give"]
theorem sc_Reader_function : FnScope ["self", "words", "params", "body", "give"] ["self"] (defScope s_Reader_function) := ⟨rfl, rfl, rfl, by decide +kernel, rfl, by decide +kernel, by decide +kernel⟩
abbrev N_check_calls : List Str := ["calls", "functions", "one"]
theorem sc_check_calls : FnScope ["calls", "functions", "one"] ["calls", "functions"] (defScope s_check_calls) := ⟨rfl, rfl, rfl, by decide +kernel, rfl, by decide +kernel, by decide +kernel⟩
abbrev N_Program_init : List Str := ["self", "texts", "main", "functions", "by_number"]
theorem sc_Program_init : FnScope ["self", "texts", "main", "functions", "by_number"] ["self", "texts", "main", "functions", "by_number"] (defScope s_Program_init) := ⟨rfl, rfl, rfl, by decide +kernel, rfl, by decide +kernel, by decide +kernel⟩
abbrev N_read_program : List Str := ["text", "texts", "reader", "functions", "found", "main"]
theorem sc_read_program : FnScope ["text", "texts", "reader", "functions", "found", "main"] ["text"] (defScope s_read_program) := ⟨rfl, rfl, rfl, by decide +kernel, rfl, by decide +kernel, by decide +kernel⟩
abbrev N_both : List Str := ["word", "one", "other"]
theorem sc_both : FnScope ["word", "one", "other"] ["word", "one", "other"] (defScope s_both) := ⟨rfl, rfl, rfl, by decide +kernel, rfl, by decide +kernel, by decide +kernel⟩
abbrev N_Number_reckon : List Str := ["self", "look"]
theorem sc_Number_reckon : FnScope ["self", "look"] ["self", "look"] (defScope s_Number_reckon) := ⟨rfl, rfl, rfl, by decide +kernel, rfl, by decide +kernel, by decide +kernel⟩
abbrev N_Box_reckon : List Str := ["self", "look"]
theorem sc_Box_reckon : FnScope ["self", "look"] ["self", "look"] (defScope s_Box_reckon) := ⟨rfl, rfl, rfl, by decide +kernel, rfl, by decide +kernel, by decide +kernel⟩
abbrev N_Cell_reckon : List Str := ["self", "look", "number"]
theorem sc_Cell_reckon : FnScope ["self", "look", "number"] ["self", "look"] (defScope s_Cell_reckon) := ⟨rfl, rfl, rfl, by decide +kernel, rfl, by decide +kernel, by decide +kernel⟩
abbrev N_Two_reckon : List Str := ["self", "look", "one", "other"]
theorem sc_Two_reckon : FnScope ["self", "look", "one", "other"] ["self", "look"] (defScope s_Two_reckon) := ⟨rfl, rfl, rfl, by decide +kernel, rfl, by decide +kernel, by decide +kernel⟩
abbrev N_Walker_whole : List Str := ["self", "address"]
theorem sc_Walker_whole : FnScope ["self", "address"] ["self", "address"] (defScope s_Walker_whole) := ⟨rfl, rfl, rfl, by decide +kernel, rfl, by decide +kernel, by decide +kernel⟩
abbrev N_Setting_holds : List Str := ["self", "place"]
theorem sc_Setting_holds : FnScope ["self", "place"] ["self", "place"] (defScope s_Setting_holds) := ⟨rfl, rfl, rfl, by decide +kernel, rfl, by decide +kernel, by decide +kernel⟩
abbrev N_Setting_forced_at : List Str := ["self", "address"]
theorem sc_Setting_forced_at : FnScope ["self", "address"] ["self", "address"] (defScope s_Setting_forced_at) := ⟨rfl, rfl, rfl, by decide +kernel, rfl, by decide +kernel, by decide +kernel⟩
abbrev N_Walker_holds : List Str := ["self", "place"]
theorem sc_Walker_holds : FnScope ["self", "place"] ["self", "place"] (defScope s_Walker_holds) := ⟨rfl, rfl, rfl, by decide +kernel, rfl, by decide +kernel, by decide +kernel⟩
abbrev N_Walker_goes_now : List Str := ["self", "address", "looked", "forced"]
theorem sc_Walker_goes_now : FnScope ["self", "address", "looked", "forced"] ["self", "address", "looked"] (defScope s_Walker_goes_now) := ⟨rfl, rfl, rfl, by decide +kernel, rfl, by decide +kernel, by decide +kernel⟩
abbrev N_Moment_init : List Str := ["self", "address", "numbers"]
theorem sc_Moment_init : FnScope ["self", "address", "numbers"] ["self", "address", "numbers"] (defScope s_Moment_init) := ⟨rfl, rfl, rfl, by decide +kernel, rfl, by decide +kernel, by decide +kernel⟩
abbrev N_Moment_told : List Str := ["self", "reads"]
theorem sc_Moment_told : FnScope ["self", "reads"] ["self"] (defScope s_Moment_told) := ⟨rfl, rfl, rfl, by decide +kernel, rfl, by decide +kernel, by decide +kernel⟩
abbrev N_Spot_init : List Str := ["self", "address", "frame", "deep", "back"]
theorem sc_Spot_init : FnScope ["self", "address", "frame", "deep", "back"] ["self", "address", "frame", "deep", "back"] (defScope s_Spot_init) := ⟨rfl, rfl, rfl, by decide +kernel, rfl, by decide +kernel, by decide +kernel⟩
abbrev N_Scene_init : List Str := ["self", "walker", "row", "spot", "numbers"]
theorem sc_Scene_init : FnScope ["self", "walker", "row", "spot", "numbers"] ["self", "walker", "row", "spot"] (defScope s_Scene_init) := ⟨rfl, rfl, rfl, by decide +kernel, rfl, by decide +kernel, by decide +kernel⟩
abbrev N_Scene_place_of : List Str := ["self", "name"]
theorem sc_Scene_place_of : FnScope ["self", "name"] ["self", "name"] (defScope s_Scene_place_of) := ⟨rfl, rfl, rfl, by decide +kernel, rfl, by decide +kernel, by decide +kernel⟩
abbrev N_Scene_read : List Str := ["self", "place", "value"]
theorem sc_Scene_read : FnScope ["self", "place", "value"] ["self", "place"] (defScope s_Scene_read) := ⟨rfl, rfl, rfl, by decide +kernel, rfl, by decide +kernel, by decide +kernel⟩
abbrev N_Scene_look_at : List Str := ["self", "thing"]
theorem sc_Scene_look_at : FnScope ["self", "thing"] ["self", "thing"] (defScope s_Scene_look_at) := ⟨rfl, rfl, rfl, by decide +kernel, rfl, by decide +kernel, by decide +kernel⟩
abbrev N_Scene_reckon : List Str := ["self", "expr", "value"]
theorem sc_Scene_reckon : FnScope ["self", "expr", "value"] ["self", "expr"] (defScope s_Scene_reckon) := ⟨rfl, rfl, rfl, by decide +kernel, rfl, by decide +kernel, by decide +kernel⟩
abbrev N_Scene_make : List Str := ["self", "place", "value"]
theorem sc_Scene_make : FnScope ["self", "place", "value"] ["self", "place", "value"] (defScope s_Scene_make) := ⟨rfl, rfl, rfl, by decide +kernel, rfl, by decide +kernel, by decide +kernel⟩
abbrev N_Scene_say : List Str := ["self", "value"]
theorem sc_Scene_say : FnScope ["self", "value"] ["self", "value"] (defScope s_Scene_say) := ⟨rfl, rfl, rfl, by decide +kernel, rfl, by decide +kernel, by decide +kernel⟩
abbrev N_Scene_look : List Str := ["self", "truth"]
theorem sc_Scene_look : FnScope ["self", "truth"] ["self", "truth"] (defScope s_Scene_look) := ⟨rfl, rfl, rfl, by decide +kernel, rfl, by decide +kernel, by decide +kernel⟩
abbrev N_Scene_enter : List Str := ["self", "values", "names", "name", "value"]
theorem sc_Scene_enter : FnScope ["self", "values", "names", "name", "value"] ["self", "values"] (defScope s_Scene_enter) := ⟨rfl, rfl, rfl, by decide +kernel, rfl, by decide +kernel, by decide +kernel⟩
abbrev N_Scene_give_back : List Str := ["self", "value"]
theorem sc_Scene_give_back : FnScope ["self", "value"] ["self", "value"] (defScope s_Scene_give_back) := ⟨rfl, rfl, rfl, by decide +kernel, rfl, by decide +kernel, by decide +kernel⟩
abbrev N_Set_act : List Str := ["self", "scene", "value"]
theorem sc_Set_act : FnScope ["self", "scene", "value"] ["self", "scene"] (defScope s_Set_act) := ⟨rfl, rfl, rfl, by decide +kernel, rfl, by decide +kernel, by decide +kernel⟩
abbrev N_Tell_act : List Str := ["self", "scene", "value"]
theorem sc_Tell_act : FnScope ["self", "scene", "value"] ["self", "scene"] (defScope s_Tell_act) := ⟨rfl, rfl, rfl, by decide +kernel, rfl, by decide +kernel, by decide +kernel⟩
abbrev N_Choice_act : List Str := ["self", "scene", "value"]
theorem sc_Choice_act : FnScope ["self", "scene", "value"] ["self", "scene"] (defScope s_Choice_act) := ⟨rfl, rfl, rfl, by decide +kernel, rfl, by decide +kernel, by decide +kernel⟩
abbrev N_Call_act : List Str := ["self", "scene", "values", "one", "value"]
theorem sc_Call_act : FnScope ["self", "scene", "values", "one", "value"] ["self", "scene"] (defScope s_Call_act) := ⟨rfl, rfl, rfl, by decide +kernel, rfl, by decide +kernel, by decide +kernel⟩
abbrev N_Give_act : List Str := ["self", "scene", "value"]
theorem sc_Give_act : FnScope ["self", "scene", "value"] ["self", "scene"] (defScope s_Give_act) := ⟨rfl, rfl, rfl, by decide +kernel, rfl, by decide +kernel, by decide +kernel⟩
abbrev N_Walker_happening : List Str := ["self", "row", "spot", "scene"]
theorem sc_Walker_happening : FnScope ["self", "row", "spot", "scene"] ["self", "row", "spot"] (defScope s_Walker_happening) := ⟨rfl, rfl, rfl, by decide +kernel, rfl, by decide +kernel, by decide +kernel⟩
abbrev N_Walker_take_in : List Str := ["self", "moments", "moment", "place", "value"]
theorem sc_Walker_take_in : FnScope ["self", "moments", "moment", "place", "value"] ["self", "moments"] (defScope s_Walker_take_in) := ⟨rfl, rfl, rfl, by decide +kernel, rfl, by decide +kernel, by decide +kernel⟩
abbrev N_Walker_go_moment : List Str := ["self", "row", "spot", "made"]
theorem sc_Walker_go_moment : FnScope ["self", "row", "spot", "made"] ["self", "row", "spot"] (defScope s_Walker_go_moment) := ⟨rfl, rfl, rfl, by decide +kernel, rfl, by decide +kernel, by decide +kernel⟩
abbrev N_Walker_go_choice : List Str := ["self", "row", "spot"]
theorem sc_Walker_go_choice : FnScope ["self", "row", "spot"] ["self", "row", "spot"] (defScope s_Walker_go_choice) := ⟨rfl, rfl, rfl, by decide +kernel, rfl, by decide +kernel, by decide +kernel⟩
abbrev N_Walker_go_block : List Str := ["self", "rows", "address", "frame", "deep", "row"]
theorem sc_Walker_go_block : FnScope ["self", "rows", "address", "frame", "deep", "row"] ["self", "rows", "address", "frame", "deep"] (defScope s_Walker_go_block) := ⟨rfl, rfl, rfl, by decide +kernel, rfl, by decide +kernel, by decide +kernel⟩
abbrev N_Walker_go_loop : List Str := ["self", "row", "spot", "turn", "look"]
theorem sc_Walker_go_loop : FnScope ["self", "row", "spot", "turn", "look"] ["self", "row", "spot"] (defScope s_Walker_go_loop) := ⟨rfl, rfl, rfl, by decide +kernel, rfl, by decide +kernel, by decide +kernel⟩
abbrev N_Walker_go_call : List Str := ["self", "row", "spot", "called", "inner", "back"]
theorem sc_Walker_go_call : FnScope ["self", "row", "spot", "called", "inner", "back"] ["self", "row", "spot"] (defScope s_Walker_go_call) := ⟨rfl, rfl, rfl, by decide +kernel, rfl, by decide +kernel, by decide +kernel⟩
abbrev N_Walker_go_row : List Str := ["self", "row", "spot"]
theorem sc_Walker_go_row : FnScope ["self", "row", "spot"] ["self", "row", "spot"] (defScope s_Walker_go_row) := ⟨rfl, rfl, rfl, by decide +kernel, rfl, by decide +kernel, by decide +kernel⟩
abbrev N_Walker_init : List Str := ["self", "setting"]
theorem sc_Walker_init : FnScope ["self", "setting"] ["self", "setting"] (defScope s_Walker_init) := ⟨rfl, rfl, rfl, by decide +kernel, rfl, by decide +kernel, by decide +kernel⟩
abbrev N_Walker_walk : List Str := ["self"]
theorem sc_Walker_walk : FnScope ["self"] ["self"] (defScope s_Walker_walk) := ⟨rfl, rfl, rfl, by decide +kernel, rfl, by decide +kernel, by decide +kernel⟩
abbrev N_Run_init : List Str := ["self", "setting", "kept", "ended", "number", "moment"]
theorem sc_Run_init : FnScope ["self", "setting", "kept", "ended", "number", "moment"] ["self", "setting", "kept", "ended"] (defScope s_Run_init) := ⟨rfl, rfl, rfl, by decide +kernel, rfl, by decide +kernel, by decide +kernel⟩
abbrev N_Run_moments : List Str := ["self", "moment"]
theorem sc_Run_moments : FnScope ["self", "moment"] ["self"] (defScope s_Run_moments) := ⟨rfl, rfl, rfl, by decide +kernel, rfl, by decide +kernel, by decide +kernel⟩
abbrev N_Run_end : List Str := ["self"]
theorem sc_Run_end : FnScope ["self"] ["self"] (defScope s_Run_end) := ⟨rfl, rfl, rfl, by decide +kernel, rfl, by decide +kernel, by decide +kernel⟩
abbrev N_Run_tells : List Str := ["self", "moment"]
theorem sc_Run_tells : FnScope ["self", "moment"] ["self"] (defScope s_Run_tells) := ⟨rfl, rfl, rfl, by decide +kernel, rfl, by decide +kernel, by decide +kernel⟩
abbrev N_is_given : List Str := ["thing"]
theorem sc_is_given : FnScope ["thing"] ["thing"] (defScope s_is_given) := ⟨rfl, rfl, rfl, by decide +kernel, rfl, by decide +kernel, by decide +kernel⟩
abbrev N_is_value : List Str := ["thing"]
theorem sc_is_value : FnScope ["thing"] ["thing"] (defScope s_is_value) := ⟨rfl, rfl, rfl, by decide +kernel, rfl, by decide +kernel, by decide +kernel⟩
abbrev N_Setting_init : List Str := ["self", "program", "start", "bound", "forced", "place", "value"]
theorem sc_Setting_init : FnScope ["self", "program", "start", "bound", "forced", "place", "value"] ["self", "program", "start", "bound", "forced"] (defScope s_Setting_init) := ⟨rfl, rfl, rfl, by decide +kernel, rfl, by decide +kernel, by decide +kernel⟩
abbrev N_run_of : List Str := ["setting", "walker"]
theorem sc_run_of : FnScope ["setting", "walker"] ["setting"] (defScope s_run_of) := ⟨rfl, rfl, rfl, by decide +kernel, rfl, by decide +kernel, by decide +kernel⟩
abbrev N_l_cell_at : List Str := ["_law_script", "_law_k"]
theorem sc_l_cell_at : FnScope ["_law_script", "_law_k"] ["_law_script", "_law_k"] (defScope s_l_cell_at) := ⟨rfl, rfl, rfl, by decide +kernel, rfl, by decide +kernel, by decide +kernel⟩
abbrev N_l_well : List Str := ["_law_script", "_law_k", "_law_cell"]
theorem sc_l_well : FnScope ["_law_script", "_law_k", "_law_cell"] ["_law_script", "_law_k"] (defScope s_l_well) := ⟨rfl, rfl, rfl, by decide +kernel, rfl, by decide +kernel, by decide +kernel⟩
abbrev N_l_draw : List Str := ["_law_well_here", "_law_most", "_law_number"]
theorem sc_l_draw : FnScope ["_law_well_here", "_law_most", "_law_number"] ["_law_well_here", "_law_most"] (defScope s_l_draw) := ⟨rfl, rfl, rfl, by decide +kernel, rfl, by decide +kernel, by decide +kernel⟩
abbrev N_l_lines : List Str := ["_law_one", "_law_two", "_law_fun", "_law_many", "_law_start", "_law_lines_here"]
theorem sc_l_lines : FnScope ["_law_one", "_law_two", "_law_fun", "_law_many", "_law_start", "_law_lines_here"] ["_law_one", "_law_two", "_law_fun", "_law_many", "_law_start"] (defScope s_l_lines) := ⟨rfl, rfl, rfl, by decide +kernel, rfl, by decide +kernel, by decide +kernel⟩
abbrev N_law : List Str := ["_law_script", "_law_well_here", "_law_stem", "_law_one", "_law_two", "_law_fun", "_law_many", "_law_start", "_law_run", "_law_moments", "_law_at", "_law_pair", "_law_due", "_law_value", "_law_k", "_law_given", "_law_sign", "_law_told"]
theorem sc_law : FnScope ["_law_script", "_law_well_here", "_law_stem", "_law_one", "_law_two", "_law_fun", "_law_many", "_law_start", "_law_run", "_law_moments", "_law_at", "_law_pair", "_law_due", "_law_value", "_law_k", "_law_given", "_law_sign", "_law_told"] ["_law_script"] (defScope s_law) := ⟨rfl, rfl, rfl, by decide +kernel, rfl, by decide +kernel, by decide +kernel⟩
structure Ads where
  is_name : Addr
  is_name_d : FuncData
  is_value_word : Addr
  is_value_word_d : FuncData
  Number_init : Addr
  Number_init_d : FuncData
  Box_init : Addr
  Box_init_d : FuncData
  Cell_init : Addr
  Cell_init_d : FuncData
  Two_init : Addr
  Two_init_d : FuncData
  Expr_parts : Addr
  Expr_parts_d : FuncData
  Cell_parts : Addr
  Cell_parts_d : FuncData
  Two_parts : Addr
  Two_parts_d : FuncData
  expr_at : Addr
  expr_at_d : FuncData
  exprs_of : Addr
  exprs_of_d : FuncData
  Row_init : Addr
  Row_init_d : FuncData
  Set_init : Addr
  Set_init_d : FuncData
  Put_init : Addr
  Put_init_d : FuncData
  Ask_init : Addr
  Ask_init_d : FuncData
  Draw_init : Addr
  Draw_init_d : FuncData
  Tell_init : Addr
  Tell_init_d : FuncData
  Choice_init : Addr
  Choice_init_d : FuncData
  Loop_init : Addr
  Loop_init_d : FuncData
  Call_init : Addr
  Call_init_d : FuncData
  Give_init : Addr
  Give_init_d : FuncData
  check_names : Addr
  check_names_d : FuncData
  only : Addr
  only_d : FuncData
  simple_row : Addr
  simple_row_d : FuncData
  Reader_head : Addr
  Reader_head_d : FuncData
  Reader_init : Addr
  Reader_init_d : FuncData
  Reader_pass_line : Addr
  Reader_pass_line_d : FuncData
  Reader_call_row : Addr
  Reader_call_row_d : FuncData
  Reader_row_with_rows : Addr
  Reader_row_with_rows_d : FuncData
  Reader_block : Addr
  Reader_block_d : FuncData
  Reader_one_row : Addr
  Reader_one_row_d : FuncData
  Function_init : Addr
  Function_init_d : FuncData
  Reader_function : Addr
  Reader_function_d : FuncData
  check_calls : Addr
  check_calls_d : FuncData
  Program_init : Addr
  Program_init_d : FuncData
  read_program : Addr
  read_program_d : FuncData
  both : Addr
  both_d : FuncData
  Number_reckon : Addr
  Number_reckon_d : FuncData
  Box_reckon : Addr
  Box_reckon_d : FuncData
  Cell_reckon : Addr
  Cell_reckon_d : FuncData
  Two_reckon : Addr
  Two_reckon_d : FuncData
  Walker_whole : Addr
  Walker_whole_d : FuncData
  Setting_holds : Addr
  Setting_holds_d : FuncData
  Setting_forced_at : Addr
  Setting_forced_at_d : FuncData
  Walker_holds : Addr
  Walker_holds_d : FuncData
  Walker_goes_now : Addr
  Walker_goes_now_d : FuncData
  Moment_init : Addr
  Moment_init_d : FuncData
  Moment_told : Addr
  Moment_told_d : FuncData
  Spot_init : Addr
  Spot_init_d : FuncData
  Scene_init : Addr
  Scene_init_d : FuncData
  Scene_place_of : Addr
  Scene_place_of_d : FuncData
  Scene_read : Addr
  Scene_read_d : FuncData
  Scene_look_at : Addr
  Scene_look_at_d : FuncData
  Scene_reckon : Addr
  Scene_reckon_d : FuncData
  Scene_make : Addr
  Scene_make_d : FuncData
  Scene_say : Addr
  Scene_say_d : FuncData
  Scene_look : Addr
  Scene_look_d : FuncData
  Scene_enter : Addr
  Scene_enter_d : FuncData
  Scene_give_back : Addr
  Scene_give_back_d : FuncData
  Set_act : Addr
  Set_act_d : FuncData
  Tell_act : Addr
  Tell_act_d : FuncData
  Choice_act : Addr
  Choice_act_d : FuncData
  Call_act : Addr
  Call_act_d : FuncData
  Give_act : Addr
  Give_act_d : FuncData
  Walker_happening : Addr
  Walker_happening_d : FuncData
  Walker_take_in : Addr
  Walker_take_in_d : FuncData
  Walker_go_moment : Addr
  Walker_go_moment_d : FuncData
  Walker_go_choice : Addr
  Walker_go_choice_d : FuncData
  Walker_go_block : Addr
  Walker_go_block_d : FuncData
  Walker_go_loop : Addr
  Walker_go_loop_d : FuncData
  Walker_go_call : Addr
  Walker_go_call_d : FuncData
  Walker_go_row : Addr
  Walker_go_row_d : FuncData
  Walker_init : Addr
  Walker_init_d : FuncData
  Walker_walk : Addr
  Walker_walk_d : FuncData
  Run_init : Addr
  Run_init_d : FuncData
  Run_moments : Addr
  Run_moments_d : FuncData
  Run_end : Addr
  Run_end_d : FuncData
  Run_tells : Addr
  Run_tells_d : FuncData
  is_given : Addr
  is_given_d : FuncData
  is_value : Addr
  is_value_d : FuncData
  Setting_init : Addr
  Setting_init_d : FuncData
  run_of : Addr
  run_of_d : FuncData
  l_cell_at : Addr
  l_cell_at_d : FuncData
  l_well : Addr
  l_well_d : FuncData
  l_draw : Addr
  l_draw_d : FuncData
  l_lines : Addr
  l_lines_d : FuncData
  law : Addr
  law_d : FuncData
  c_Scene_reckon : Addr
  t_Scene_reckon : Addr
  Reader : Addr
  Function : Addr
  Program : Addr
  Number : Addr
  Expr : Addr
  Box : Addr
  Cell : Addr
  Two : Addr
  Row : Addr
  Set : Addr
  Put : Addr
  Ask : Addr
  Draw : Addr
  Tell : Addr
  Skip : Addr
  Call : Addr
  Loop : Addr
  Choice : Addr
  Give : Addr
  Setting : Addr
  Moment : Addr
  Walker : Addr
  Scene : Addr
  Spot : Addr
  Run : Addr
  PAIRS : Addr
  ROWS : Addr
  OTHERS : Addr
  NoProgram : Addr
structure Txt (K : PySem.W.Frag) (mg : Str → Option Value) (A : Ads) : Prop where
  F_is_name : Fun K "is_name" "is_name" s_is_name A.is_name A.is_name_d
  b_is_name : Binds K A.is_name_d ["thing"] []
  m_is_name : mg "is_name" = some (.ref A.is_name)
  F_is_value_word : Fun K "is_value_word" "is_value_word" s_is_value_word A.is_value_word A.is_value_word_d
  b_is_value_word : Binds K A.is_value_word_d ["word"] []
  m_is_value_word : mg "is_value_word" = some (.ref A.is_value_word)
  F_Number_init : Fun K "__init__" "Number.__init__" s_Number_init A.Number_init A.Number_init_d
  b_Number_init : Binds K A.Number_init_d ["self", "value"] []
  F_Box_init : Fun K "__init__" "Box.__init__" s_Box_init A.Box_init A.Box_init_d
  b_Box_init : Binds K A.Box_init_d ["self", "name"] []
  F_Cell_init : Fun K "__init__" "Cell.__init__" s_Cell_init A.Cell_init A.Cell_init_d
  b_Cell_init : Binds K A.Cell_init_d ["self", "inner"] []
  F_Two_init : Fun K "__init__" "Two.__init__" s_Two_init A.Two_init A.Two_init_d
  b_Two_init : Binds K A.Two_init_d ["self", "word", "left", "right"] []
  F_Expr_parts : Fun K "parts" "Expr.parts" s_Expr_parts A.Expr_parts A.Expr_parts_d
  b_Expr_parts : Binds K A.Expr_parts_d ["self"] []
  F_Cell_parts : Fun K "parts" "Cell.parts" s_Cell_parts A.Cell_parts A.Cell_parts_d
  b_Cell_parts : Binds K A.Cell_parts_d ["self"] []
  F_Two_parts : Fun K "parts" "Two.parts" s_Two_parts A.Two_parts A.Two_parts_d
  b_Two_parts : Binds K A.Two_parts_d ["self"] []
  F_expr_at : Fun K "expr_at" "expr_at" s_expr_at A.expr_at A.expr_at_d
  b_expr_at : Binds K A.expr_at_d ["row", "at", "deep"] []
  m_expr_at : mg "expr_at" = some (.ref A.expr_at)
  F_exprs_of : Fun K "exprs_of" "exprs_of" s_exprs_of A.exprs_of A.exprs_of_d
  b_exprs_of : Binds K A.exprs_of_d ["row"] []
  m_exprs_of : mg "exprs_of" = some (.ref A.exprs_of)
  F_Row_init : Fun K "__init__" "Row.__init__" s_Row_init A.Row_init A.Row_init_d
  b_Row_init : Binds K A.Row_init_d ["self", "number"] []
  F_Set_init : Fun K "__init__" "Set.__init__" s_Set_init A.Set_init A.Set_init_d
  b_Set_init : Binds K A.Set_init_d ["self", "number", "box", "expr"] []
  F_Put_init : Fun K "__init__" "Put.__init__" s_Put_init A.Put_init A.Put_init_d
  b_Put_init : Binds K A.Put_init_d ["self", "number", "first", "second"] []
  F_Ask_init : Fun K "__init__" "Ask.__init__" s_Ask_init A.Ask_init A.Ask_init_d
  b_Ask_init : Binds K A.Ask_init_d ["self", "number", "box", "word", "expr"] []
  F_Draw_init : Fun K "__init__" "Draw.__init__" s_Draw_init A.Draw_init A.Draw_init_d
  b_Draw_init : Binds K A.Draw_init_d ["self", "number", "box", "word"] []
  F_Tell_init : Fun K "__init__" "Tell.__init__" s_Tell_init A.Tell_init A.Tell_init_d
  b_Tell_init : Binds K A.Tell_init_d ["self", "number", "expr"] []
  F_Choice_init : Fun K "__init__" "Choice.__init__" s_Choice_init A.Choice_init A.Choice_init_d
  b_Choice_init : Binds K A.Choice_init_d ["self", "number", "test", "first", "second"] []
  F_Loop_init : Fun K "__init__" "Loop.__init__" s_Loop_init A.Loop_init A.Loop_init_d
  b_Loop_init : Binds K A.Loop_init_d ["self", "number", "test", "body"] []
  F_Call_init : Fun K "__init__" "Call.__init__" s_Call_init A.Call_init A.Call_init_d
  b_Call_init : Binds K A.Call_init_d ["self", "number", "box", "fun", "given"] []
  F_Give_init : Fun K "__init__" "Give.__init__" s_Give_init A.Give_init A.Give_init_d
  b_Give_init : Binds K A.Give_init_d ["self", "number", "expr"] []
  F_check_names : Fun K "check_names" "check_names" s_check_names A.check_names A.check_names_d
  b_check_names : Binds K A.check_names_d ["words", "many"] []
  m_check_names : mg "check_names" = some (.ref A.check_names)
  F_only : Fun K "only" "only" s_only A.only A.only_d
  b_only : Binds K A.only_d ["found"] []
  m_only : mg "only" = some (.ref A.only)
  F_simple_row : Fun K "simple_row" "simple_row" s_simple_row A.simple_row A.simple_row_d
  b_simple_row : Binds K A.simple_row_d ["number", "words"] []
  m_simple_row : mg "simple_row" = some (.ref A.simple_row)
  F_Reader_head : Fun K "head" "Reader.head" s_Reader_head A.Reader_head A.Reader_head_d
  b_Reader_head : Binds K A.Reader_head_d ["self"] []
  F_Reader_init : Fun K "__init__" "Reader.__init__" s_Reader_init A.Reader_init A.Reader_init_d
  b_Reader_init : Binds K A.Reader_init_d ["self", "texts"] []
  F_Reader_pass_line : Fun K "pass_line" "Reader.pass_line" s_Reader_pass_line A.Reader_pass_line A.Reader_pass_line_d
  b_Reader_pass_line : Binds K A.Reader_pass_line_d ["self", "text"] []
  F_Reader_call_row : Fun K "call_row" "Reader.call_row" s_Reader_call_row A.Reader_call_row A.Reader_call_row_d
  b_Reader_call_row : Binds K A.Reader_call_row_d ["self", "number", "words"] []
  F_Reader_row_with_rows : Fun K "row_with_rows" "Reader.row_with_rows" s_Reader_row_with_rows A.Reader_row_with_rows A.Reader_row_with_rows_d
  b_Reader_row_with_rows : Binds K A.Reader_row_with_rows_d ["self", "number", "words", "within"] []
  F_Reader_block : Fun K "block" "Reader.block" s_Reader_block A.Reader_block A.Reader_block_d
  b_Reader_block : Binds K A.Reader_block_d ["self", "within"] []
  F_Reader_one_row : Fun K "one_row" "Reader.one_row" s_Reader_one_row A.Reader_one_row A.Reader_one_row_d
  b_Reader_one_row : Binds K A.Reader_one_row_d ["self", "within"] []
  F_Function_init : Fun K "__init__" "Function.__init__" s_Function_init A.Function_init A.Function_init_d
  b_Function_init : Binds K A.Function_init_d ["self", "name", "params", "body", "give"] []
  F_Reader_function : Fun K "function" "Reader.function" s_Reader_function A.Reader_function A.Reader_function_d
  b_Reader_function : Binds K A.Reader_function_d ["self"] []
  F_check_calls : Fun K "check_calls" "check_calls" s_check_calls A.check_calls A.check_calls_d
  b_check_calls : Binds K A.check_calls_d ["calls", "functions"] []
  m_check_calls : mg "check_calls" = some (.ref A.check_calls)
  F_Program_init : Fun K "__init__" "Program.__init__" s_Program_init A.Program_init A.Program_init_d
  b_Program_init : Binds K A.Program_init_d ["self", "texts", "main", "functions", "by_number"] []
  F_read_program : Fun K "read_program" "read_program" s_read_program A.read_program A.read_program_d
  b_read_program : Binds K A.read_program_d ["text"] []
  m_read_program : mg "read_program" = some (.ref A.read_program)
  F_both : Fun K "both" "both" s_both A.both A.both_d
  b_both : Binds K A.both_d ["word", "one", "other"] []
  m_both : mg "both" = some (.ref A.both)
  F_Number_reckon : Fun K "reckon" "Number.reckon" s_Number_reckon A.Number_reckon A.Number_reckon_d
  b_Number_reckon : Binds K A.Number_reckon_d ["self", "look"] []
  F_Box_reckon : Fun K "reckon" "Box.reckon" s_Box_reckon A.Box_reckon A.Box_reckon_d
  b_Box_reckon : Binds K A.Box_reckon_d ["self", "look"] []
  F_Cell_reckon : Fun K "reckon" "Cell.reckon" s_Cell_reckon A.Cell_reckon A.Cell_reckon_d
  b_Cell_reckon : Binds K A.Cell_reckon_d ["self", "look"] []
  F_Two_reckon : Fun K "reckon" "Two.reckon" s_Two_reckon A.Two_reckon A.Two_reckon_d
  b_Two_reckon : Binds K A.Two_reckon_d ["self", "look"] []
  F_Walker_whole : Fun K "whole" "Walker.whole" s_Walker_whole A.Walker_whole A.Walker_whole_d
  b_Walker_whole : Binds K A.Walker_whole_d ["self", "address"] []
  F_Setting_holds : Fun K "holds" "Setting.holds" s_Setting_holds A.Setting_holds A.Setting_holds_d
  b_Setting_holds : Binds K A.Setting_holds_d ["self", "place"] []
  F_Setting_forced_at : Fun K "forced_at" "Setting.forced_at" s_Setting_forced_at A.Setting_forced_at A.Setting_forced_at_d
  b_Setting_forced_at : Binds K A.Setting_forced_at_d ["self", "address"] []
  F_Walker_holds : Fun K "holds" "Walker.holds" s_Walker_holds A.Walker_holds A.Walker_holds_d
  b_Walker_holds : Binds K A.Walker_holds_d ["self", "place"] []
  F_Walker_goes_now : Fun K "goes_now" "Walker.goes_now" s_Walker_goes_now A.Walker_goes_now A.Walker_goes_now_d
  b_Walker_goes_now : Binds K A.Walker_goes_now_d ["self", "address", "looked"] []
  F_Moment_init : Fun K "__init__" "Moment.__init__" s_Moment_init A.Moment_init A.Moment_init_d
  b_Moment_init : Binds K A.Moment_init_d ["self", "address", "numbers"] []
  F_Moment_told : Fun K "told" "Moment.told" s_Moment_told A.Moment_told A.Moment_told_d
  b_Moment_told : Binds K A.Moment_told_d ["self"] []
  F_Spot_init : FunD K "__init__" "Spot.__init__" (defArgs s_Spot_init) (defBody s_Spot_init) (defScope s_Spot_init) [.non] [] A.Spot_init A.Spot_init_d
  b_Spot_init : Binds K A.Spot_init_d ["self", "address", "frame", "deep", "back"] []
  bd_Spot_init : ∃ ds, Vals [.non] ds ∧ Binds K A.Spot_init_d ["self", "address", "frame", "deep", "back"] ds
  F_Scene_init : Fun K "__init__" "Scene.__init__" s_Scene_init A.Scene_init A.Scene_init_d
  b_Scene_init : Binds K A.Scene_init_d ["self", "walker", "row", "spot"] []
  F_Scene_place_of : Fun K "place_of" "Scene.place_of" s_Scene_place_of A.Scene_place_of A.Scene_place_of_d
  b_Scene_place_of : Binds K A.Scene_place_of_d ["self", "name"] []
  F_Scene_read : Fun K "read" "Scene.read" s_Scene_read A.Scene_read A.Scene_read_d
  b_Scene_read : Binds K A.Scene_read_d ["self", "place"] []
  F_Scene_look_at : Fun K "look_at" "Scene.look_at" s_Scene_look_at A.Scene_look_at A.Scene_look_at_d
  b_Scene_look_at : Binds K A.Scene_look_at_d ["self", "thing"] []
  F_Scene_reckon : Fun K "reckon" "Scene.reckon" s_Scene_reckon A.Scene_reckon A.Scene_reckon_d
  b_Scene_reckon : Binds K A.Scene_reckon_d ["self", "expr"] []
  F_Scene_make : Fun K "make" "Scene.make" s_Scene_make A.Scene_make A.Scene_make_d
  b_Scene_make : Binds K A.Scene_make_d ["self", "place", "value"] []
  F_Scene_say : Fun K "say" "Scene.say" s_Scene_say A.Scene_say A.Scene_say_d
  b_Scene_say : Binds K A.Scene_say_d ["self", "value"] []
  F_Scene_look : Fun K "look" "Scene.look" s_Scene_look A.Scene_look A.Scene_look_d
  b_Scene_look : Binds K A.Scene_look_d ["self", "truth"] []
  F_Scene_enter : Fun K "enter" "Scene.enter" s_Scene_enter A.Scene_enter A.Scene_enter_d
  b_Scene_enter : Binds K A.Scene_enter_d ["self", "values"] []
  F_Scene_give_back : Fun K "give_back" "Scene.give_back" s_Scene_give_back A.Scene_give_back A.Scene_give_back_d
  b_Scene_give_back : Binds K A.Scene_give_back_d ["self", "value"] []
  F_Set_act : Fun K "act" "Set.act" s_Set_act A.Set_act A.Set_act_d
  b_Set_act : Binds K A.Set_act_d ["self", "scene"] []
  F_Tell_act : Fun K "act" "Tell.act" s_Tell_act A.Tell_act A.Tell_act_d
  b_Tell_act : Binds K A.Tell_act_d ["self", "scene"] []
  F_Choice_act : Fun K "act" "Choice.act" s_Choice_act A.Choice_act A.Choice_act_d
  b_Choice_act : Binds K A.Choice_act_d ["self", "scene"] []
  F_Call_act : Fun K "act" "Call.act" s_Call_act A.Call_act A.Call_act_d
  b_Call_act : Binds K A.Call_act_d ["self", "scene"] []
  F_Give_act : Fun K "act" "Give.act" s_Give_act A.Give_act A.Give_act_d
  b_Give_act : Binds K A.Give_act_d ["self", "scene"] []
  F_Walker_happening : Fun K "happening" "Walker.happening" s_Walker_happening A.Walker_happening A.Walker_happening_d
  b_Walker_happening : Binds K A.Walker_happening_d ["self", "row", "spot"] []
  F_Walker_take_in : Fun K "take_in" "Walker.take_in" s_Walker_take_in A.Walker_take_in A.Walker_take_in_d
  b_Walker_take_in : Binds K A.Walker_take_in_d ["self", "moments"] []
  F_Walker_go_moment : Fun K "go_moment" "Walker.go_moment" s_Walker_go_moment A.Walker_go_moment A.Walker_go_moment_d
  b_Walker_go_moment : Binds K A.Walker_go_moment_d ["self", "row", "spot"] []
  F_Walker_go_choice : Fun K "go_choice" "Walker.go_choice" s_Walker_go_choice A.Walker_go_choice A.Walker_go_choice_d
  b_Walker_go_choice : Binds K A.Walker_go_choice_d ["self", "row", "spot"] []
  F_Walker_go_block : Fun K "go_block" "Walker.go_block" s_Walker_go_block A.Walker_go_block A.Walker_go_block_d
  b_Walker_go_block : Binds K A.Walker_go_block_d ["self", "rows", "address", "frame", "deep"] []
  F_Walker_go_loop : Fun K "go_loop" "Walker.go_loop" s_Walker_go_loop A.Walker_go_loop A.Walker_go_loop_d
  b_Walker_go_loop : Binds K A.Walker_go_loop_d ["self", "row", "spot"] []
  F_Walker_go_call : Fun K "go_call" "Walker.go_call" s_Walker_go_call A.Walker_go_call A.Walker_go_call_d
  b_Walker_go_call : Binds K A.Walker_go_call_d ["self", "row", "spot"] []
  F_Walker_go_row : Fun K "go_row" "Walker.go_row" s_Walker_go_row A.Walker_go_row A.Walker_go_row_d
  b_Walker_go_row : Binds K A.Walker_go_row_d ["self", "row", "spot"] []
  F_Walker_init : Fun K "__init__" "Walker.__init__" s_Walker_init A.Walker_init A.Walker_init_d
  b_Walker_init : Binds K A.Walker_init_d ["self", "setting"] []
  F_Walker_walk : Fun K "walk" "Walker.walk" s_Walker_walk A.Walker_walk A.Walker_walk_d
  b_Walker_walk : Binds K A.Walker_walk_d ["self"] []
  F_Run_init : Fun K "__init__" "Run.__init__" s_Run_init A.Run_init A.Run_init_d
  b_Run_init : Binds K A.Run_init_d ["self", "setting", "kept", "ended"] []
  F_Run_moments : Fun K "moments" "Run.moments" s_Run_moments A.Run_moments A.Run_moments_d
  b_Run_moments : Binds K A.Run_moments_d ["self"] []
  F_Run_end : Fun K "end" "Run.end" s_Run_end A.Run_end A.Run_end_d
  b_Run_end : Binds K A.Run_end_d ["self"] []
  F_Run_tells : Fun K "tells" "Run.tells" s_Run_tells A.Run_tells A.Run_tells_d
  b_Run_tells : Binds K A.Run_tells_d ["self"] []
  F_is_given : Fun K "is_given" "is_given" s_is_given A.is_given A.is_given_d
  b_is_given : Binds K A.is_given_d ["thing"] []
  m_is_given : mg "is_given" = some (.ref A.is_given)
  F_is_value : Fun K "is_value" "is_value" s_is_value A.is_value A.is_value_d
  b_is_value : Binds K A.is_value_d ["thing"] []
  m_is_value : mg "is_value" = some (.ref A.is_value)
  F_Setting_init : FunD K "__init__" "Setting.__init__" (defArgs s_Setting_init) (defBody s_Setting_init) (defScope s_Setting_init) [.int 400, .non] [] A.Setting_init A.Setting_init_d
  b_Setting_init : Binds K A.Setting_init_d ["self", "program", "start", "bound", "forced"] []
  bd_Setting_init : ∃ ds, Vals [.non] ds ∧ Binds K A.Setting_init_d ["self", "program", "start", "bound", "forced"] ds
  F_run_of : Fun K "run_of" "run_of" s_run_of A.run_of A.run_of_d
  b_run_of : Binds K A.run_of_d ["setting"] []
  m_run_of : mg "run_of" = some (.ref A.run_of)
  F_l_cell_at : Fun K "_law_cell_at" "_law_cell_at" s_l_cell_at A.l_cell_at A.l_cell_at_d
  b_l_cell_at : Binds K A.l_cell_at_d ["_law_script", "_law_k"] []
  m_l_cell_at : mg "_law_cell_at" = some (.ref A.l_cell_at)
  F_l_well : Fun K "_law_well" "_law_well" s_l_well A.l_well A.l_well_d
  b_l_well : Binds K A.l_well_d ["_law_script", "_law_k"] []
  m_l_well : mg "_law_well" = some (.ref A.l_well)
  F_l_draw : Fun K "_law_draw" "_law_draw" s_l_draw A.l_draw A.l_draw_d
  b_l_draw : Binds K A.l_draw_d ["_law_well_here", "_law_most"] []
  m_l_draw : mg "_law_draw" = some (.ref A.l_draw)
  F_l_lines : Fun K "_law_lines" "_law_lines" s_l_lines A.l_lines A.l_lines_d
  b_l_lines : Binds K A.l_lines_d ["_law_one", "_law_two", "_law_fun", "_law_many", "_law_start"] []
  m_l_lines : mg "_law_lines" = some (.ref A.l_lines)
  F_law : Fun K "law" "law" s_law A.law A.law_d
  b_law : Binds K A.law_d ["_law_script"] []
  m_law : mg "law" = some (.ref A.law)
  cd_Scene_reckon : A.Scene_reckon_d.code = .ref A.c_Scene_reckon
  m_Reader : mg "Reader" = some (.ref A.Reader)
  cl_Reader : Cls K A.Reader
  mk_Reader : PySem.W.makesIn K A.Reader = true
  n_Reader_texts : NoAttr K A.Reader "texts"
  n_Reader_at : NoAttr K A.Reader "at"
  n_Reader_by_number : NoAttr K A.Reader "by_number"
  n_Reader_calls : NoAttr K A.Reader "calls"
  k_Reader : Mk K A.Reader A.Reader_init
  m_Function : mg "Function" = some (.ref A.Function)
  cl_Function : Cls K A.Function
  mk_Function : PySem.W.makesIn K A.Function = true
  n_Function_name : NoAttr K A.Function "name"
  n_Function_params : NoAttr K A.Function "params"
  n_Function_body : NoAttr K A.Function "body"
  n_Function_give : NoAttr K A.Function "give"
  k_Function : Mk K A.Function A.Function_init
  m_Program : mg "Program" = some (.ref A.Program)
  cl_Program : Cls K A.Program
  mk_Program : PySem.W.makesIn K A.Program = true
  n_Program_texts : NoAttr K A.Program "texts"
  n_Program_main : NoAttr K A.Program "main"
  n_Program_functions : NoAttr K A.Program "functions"
  n_Program_by_number : NoAttr K A.Program "by_number"
  k_Program : Mk K A.Program A.Program_init
  m_Number : mg "Number" = some (.ref A.Number)
  cl_Number : Cls K A.Number
  mk_Number : PySem.W.makesIn K A.Number = true
  n_Number_value : NoAttr K A.Number "value"
  k_Number : Mk K A.Number A.Number_init
  m_Expr : mg "Expr" = some (.ref A.Expr)
  cl_Expr : Cls K A.Expr
  mk_Expr : PySem.W.makesIn K A.Expr = true
  m_Box : mg "Box" = some (.ref A.Box)
  cl_Box : Cls K A.Box
  mk_Box : PySem.W.makesIn K A.Box = true
  n_Box_name : NoAttr K A.Box "name"
  k_Box : Mk K A.Box A.Box_init
  m_Cell : mg "Cell" = some (.ref A.Cell)
  cl_Cell : Cls K A.Cell
  mk_Cell : PySem.W.makesIn K A.Cell = true
  n_Cell_inner : NoAttr K A.Cell "inner"
  k_Cell : Mk K A.Cell A.Cell_init
  m_Two : mg "Two" = some (.ref A.Two)
  cl_Two : Cls K A.Two
  mk_Two : PySem.W.makesIn K A.Two = true
  n_Two_word : NoAttr K A.Two "word"
  n_Two_left : NoAttr K A.Two "left"
  n_Two_right : NoAttr K A.Two "right"
  k_Two : Mk K A.Two A.Two_init
  m_Row : mg "Row" = some (.ref A.Row)
  cl_Row : Cls K A.Row
  mk_Row : PySem.W.makesIn K A.Row = true
  k_Row : Mk K A.Row A.Row_init
  m_Set : mg "Set" = some (.ref A.Set)
  cl_Set : Cls K A.Set
  mk_Set : PySem.W.makesIn K A.Set = true
  n_Set_number : NoAttr K A.Set "number"
  n_Set_box : NoAttr K A.Set "box"
  n_Set_expr : NoAttr K A.Set "expr"
  k_Set : Mk K A.Set A.Set_init
  m_Put : mg "Put" = some (.ref A.Put)
  cl_Put : Cls K A.Put
  mk_Put : PySem.W.makesIn K A.Put = true
  n_Put_number : NoAttr K A.Put "number"
  n_Put_first : NoAttr K A.Put "first"
  n_Put_second : NoAttr K A.Put "second"
  k_Put : Mk K A.Put A.Put_init
  m_Ask : mg "Ask" = some (.ref A.Ask)
  cl_Ask : Cls K A.Ask
  mk_Ask : PySem.W.makesIn K A.Ask = true
  n_Ask_number : NoAttr K A.Ask "number"
  n_Ask_box : NoAttr K A.Ask "box"
  n_Ask_word : NoAttr K A.Ask "word"
  n_Ask_expr : NoAttr K A.Ask "expr"
  k_Ask : Mk K A.Ask A.Ask_init
  m_Draw : mg "Draw" = some (.ref A.Draw)
  cl_Draw : Cls K A.Draw
  mk_Draw : PySem.W.makesIn K A.Draw = true
  n_Draw_number : NoAttr K A.Draw "number"
  n_Draw_box : NoAttr K A.Draw "box"
  n_Draw_word : NoAttr K A.Draw "word"
  k_Draw : Mk K A.Draw A.Draw_init
  m_Tell : mg "Tell" = some (.ref A.Tell)
  cl_Tell : Cls K A.Tell
  mk_Tell : PySem.W.makesIn K A.Tell = true
  n_Tell_number : NoAttr K A.Tell "number"
  n_Tell_expr : NoAttr K A.Tell "expr"
  k_Tell : Mk K A.Tell A.Tell_init
  m_Skip : mg "Skip" = some (.ref A.Skip)
  cl_Skip : Cls K A.Skip
  mk_Skip : PySem.W.makesIn K A.Skip = true
  n_Skip_number : NoAttr K A.Skip "number"
  k_Skip : Mk K A.Skip A.Row_init
  m_Call : mg "Call" = some (.ref A.Call)
  cl_Call : Cls K A.Call
  mk_Call : PySem.W.makesIn K A.Call = true
  n_Call_number : NoAttr K A.Call "number"
  n_Call_box : NoAttr K A.Call "box"
  n_Call_fun : NoAttr K A.Call "fun"
  n_Call_given : NoAttr K A.Call "given"
  k_Call : Mk K A.Call A.Call_init
  m_Loop : mg "Loop" = some (.ref A.Loop)
  cl_Loop : Cls K A.Loop
  mk_Loop : PySem.W.makesIn K A.Loop = true
  n_Loop_number : NoAttr K A.Loop "number"
  n_Loop_test : NoAttr K A.Loop "test"
  n_Loop_body : NoAttr K A.Loop "body"
  k_Loop : Mk K A.Loop A.Loop_init
  m_Choice : mg "Choice" = some (.ref A.Choice)
  cl_Choice : Cls K A.Choice
  mk_Choice : PySem.W.makesIn K A.Choice = true
  n_Choice_number : NoAttr K A.Choice "number"
  n_Choice_test : NoAttr K A.Choice "test"
  n_Choice_first : NoAttr K A.Choice "first"
  n_Choice_second : NoAttr K A.Choice "second"
  k_Choice : Mk K A.Choice A.Choice_init
  m_Give : mg "Give" = some (.ref A.Give)
  cl_Give : Cls K A.Give
  mk_Give : PySem.W.makesIn K A.Give = true
  n_Give_number : NoAttr K A.Give "number"
  n_Give_expr : NoAttr K A.Give "expr"
  k_Give : Mk K A.Give A.Give_init
  m_Setting : mg "Setting" = some (.ref A.Setting)
  cl_Setting : Cls K A.Setting
  mk_Setting : PySem.W.makesIn K A.Setting = true
  n_Setting_program : NoAttr K A.Setting "program"
  n_Setting_bound : NoAttr K A.Setting "bound"
  n_Setting_given : NoAttr K A.Setting "given"
  n_Setting_goings : NoAttr K A.Setting "goings"
  k_Setting : Mk K A.Setting A.Setting_init
  m_Moment : mg "Moment" = some (.ref A.Moment)
  cl_Moment : Cls K A.Moment
  mk_Moment : PySem.W.makesIn K A.Moment = true
  n_Moment_address : NoAttr K A.Moment "address"
  n_Moment_numbers : NoAttr K A.Moment "numbers"
  n_Moment_reads : NoAttr K A.Moment "reads"
  n_Moment_makes : NoAttr K A.Moment "makes"
  n_Moment_said : NoAttr K A.Moment "said"
  n_Moment_looked : NoAttr K A.Moment "looked"
  n_Moment_goes : NoAttr K A.Moment "goes"
  n_Moment_fell : NoAttr K A.Moment "fell"
  k_Moment : Mk K A.Moment A.Moment_init
  m_Walker : mg "Walker" = some (.ref A.Walker)
  cl_Walker : Cls K A.Walker
  mk_Walker : PySem.W.makesIn K A.Walker = true
  n_Walker_setting : NoAttr K A.Walker "setting"
  n_Walker_held : NoAttr K A.Walker "held"
  n_Walker_kept : NoAttr K A.Walker "kept"
  n_Walker_ended : NoAttr K A.Walker "ended"
  k_Walker : Mk K A.Walker A.Walker_init
  m_Scene : mg "Scene" = some (.ref A.Scene)
  cl_Scene : Cls K A.Scene
  mk_Scene : PySem.W.makesIn K A.Scene = true
  n_Scene_walker : NoAttr K A.Scene "walker"
  n_Scene_here : NoAttr K A.Scene "here"
  n_Scene_spot : NoAttr K A.Scene "spot"
  n_Scene_found : NoAttr K A.Scene "found"
  n_Scene_met : NoAttr K A.Scene "met"
  k_Scene : Mk K A.Scene A.Scene_init
  m_Spot : mg "Spot" = some (.ref A.Spot)
  cl_Spot : Cls K A.Spot
  mk_Spot : PySem.W.makesIn K A.Spot = true
  n_Spot_address : NoAttr K A.Spot "address"
  n_Spot_frame : NoAttr K A.Spot "frame"
  n_Spot_deep : NoAttr K A.Spot "deep"
  n_Spot_back : NoAttr K A.Spot "back"
  k_Spot : Mk K A.Spot A.Spot_init
  m_Run : mg "Run" = some (.ref A.Run)
  cl_Run : Cls K A.Run
  mk_Run : PySem.W.makesIn K A.Run = true
  n_Run_setting : NoAttr K A.Run "setting"
  n_Run_kept : NoAttr K A.Run "kept"
  n_Run_ended : NoAttr K A.Run "ended"
  n_Run_by_address : NoAttr K A.Run "by_address"
  k_Run : Mk K A.Run A.Run_init
  me_Number_parts : Meth K A.Number "parts" A.Expr_parts
  me_Box_parts : Meth K A.Box "parts" A.Expr_parts
  me_Cell_parts : Meth K A.Cell "parts" A.Cell_parts
  me_Two_parts : Meth K A.Two "parts" A.Two_parts
  me_Reader_block : Meth K A.Reader "block" A.Reader_block
  me_Reader_pass_line : Meth K A.Reader "pass_line" A.Reader_pass_line
  me_Reader_row_with_rows : Meth K A.Reader "row_with_rows" A.Reader_row_with_rows
  me_Reader_call_row : Meth K A.Reader "call_row" A.Reader_call_row
  me_Reader_head : Meth K A.Reader "head" A.Reader_head
  me_Reader_one_row : Meth K A.Reader "one_row" A.Reader_one_row
  me_Reader_function : Meth K A.Reader "function" A.Reader_function
  me_Number_reckon : Meth K A.Number "reckon" A.Number_reckon
  me_Box_reckon : Meth K A.Box "reckon" A.Box_reckon
  me_Cell_reckon : Meth K A.Cell "reckon" A.Cell_reckon
  me_Two_reckon : Meth K A.Two "reckon" A.Two_reckon
  me_Setting_holds : Meth K A.Setting "holds" A.Setting_holds
  me_Setting_forced_at : Meth K A.Setting "forced_at" A.Setting_forced_at
  me_Walker_holds : Meth K A.Walker "holds" A.Walker_holds
  me_Scene_place_of : Meth K A.Scene "place_of" A.Scene_place_of
  me_Scene_read : Meth K A.Scene "read" A.Scene_read
  me_Scene_look_at : Meth K A.Scene "look_at" A.Scene_look_at
  me_Walker_goes_now : Meth K A.Walker "goes_now" A.Walker_goes_now
  me_Scene_make : Meth K A.Scene "make" A.Scene_make
  me_Scene_reckon : Meth K A.Scene "reckon" A.Scene_reckon
  me_Scene_say : Meth K A.Scene "say" A.Scene_say
  me_Scene_look : Meth K A.Scene "look" A.Scene_look
  me_Scene_enter : Meth K A.Scene "enter" A.Scene_enter
  me_Scene_give_back : Meth K A.Scene "give_back" A.Scene_give_back
  me_Set_act : Meth K A.Set "act" A.Set_act
  me_Tell_act : Meth K A.Tell "act" A.Tell_act
  me_Choice_act : Meth K A.Choice "act" A.Choice_act
  me_Call_act : Meth K A.Call "act" A.Call_act
  me_Give_act : Meth K A.Give "act" A.Give_act
  me_Walker_happening : Meth K A.Walker "happening" A.Walker_happening
  me_Walker_take_in : Meth K A.Walker "take_in" A.Walker_take_in
  me_Walker_whole : Meth K A.Walker "whole" A.Walker_whole
  me_Walker_go_moment : Meth K A.Walker "go_moment" A.Walker_go_moment
  me_Walker_go_block : Meth K A.Walker "go_block" A.Walker_go_block
  me_Walker_go_choice : Meth K A.Walker "go_choice" A.Walker_go_choice
  me_Walker_go_loop : Meth K A.Walker "go_loop" A.Walker_go_loop
  me_Walker_go_call : Meth K A.Walker "go_call" A.Walker_go_call
  me_Walker_go_row : Meth K A.Walker "go_row" A.Walker_go_row
  me_Moment_told : Meth K A.Moment "told" A.Moment_told
  me_Walker_walk : Meth K A.Walker "walk" A.Walker_walk
  me_Run_moments : Meth K A.Run "moments" A.Run_moments
  me_Run_end : Meth K A.Run "end" A.Run_end
  me_Run_tells : Meth K A.Run "tells" A.Run_tells
  cf_Row_init : CFn K A.Row "__init__" A.Row_init
  m_PAIRS : mg "PAIRS" = some (.ref A.PAIRS)
  q_PAIRS : ∀ H, SqT K H A.PAIRS [V.str "plus", V.str "minus", V.str "times", V.str "over", V.str "rest", V.str "less", V.str "same"]
  m_ROWS : mg "ROWS" = some (.ref A.ROWS)
  q_ROWS : ∀ H, SqT K H A.ROWS [V.str "skip", V.str "set", V.str "put", V.str "ask", V.str "draw", V.str "tell", V.str "if", V.str "while", V.str "call"]
  m_OTHERS : mg "OTHERS" = some (.ref A.OTHERS)
  q_OTHERS : ∀ H, SqT K H A.OTHERS [V.str "else", V.str "end", V.str "fun", V.str "main", V.str "give", V.str "cell"]
  m_NoProgram : mg "NoProgram" = some (.ref A.NoProgram)
  x_NoProgram : PySem.W.excIn K A.NoProgram [.type "ValueError", .type "Exception", .type "BaseException", .type "object"] "ValueError.__new__" = true
  kk_NoProgram : PySem.W.keepIn K (.ref A.NoProgram) = true
  bb_NoProgram : PySem.W.subIn K (.ref A.NoProgram) (.type "BaseException") = some true
  tt_NoProgram : PySem.W.typeIn K (.ref A.NoProgram) = some (.type "type")
  ne_num_box : A.Number ≠ A.Box
  ne_num_cell : A.Number ≠ A.Cell
  ne_num_two : A.Number ≠ A.Two
  ne_box_num : A.Box ≠ A.Number
  ne_box_cell : A.Box ≠ A.Cell
  ne_box_two : A.Box ≠ A.Two
  ne_cell_num : A.Cell ≠ A.Number
  ne_cell_box : A.Cell ≠ A.Box
  ne_cell_two : A.Cell ≠ A.Two
  ne_two_num : A.Two ≠ A.Number
  ne_two_box : A.Two ≠ A.Box
  ne_two_cell : A.Two ≠ A.Cell
  ne_Skip_Set : A.Skip ≠ A.Set
  ne_Skip_Put : A.Skip ≠ A.Put
  ne_Skip_Ask : A.Skip ≠ A.Ask
  ne_Skip_Draw : A.Skip ≠ A.Draw
  ne_Skip_Tell : A.Skip ≠ A.Tell
  ne_Skip_Choice : A.Skip ≠ A.Choice
  ne_Skip_Loop : A.Skip ≠ A.Loop
  ne_Skip_Call : A.Skip ≠ A.Call
  ne_Skip_Give : A.Skip ≠ A.Give
  ne_Set_Skip : A.Set ≠ A.Skip
  ne_Set_Put : A.Set ≠ A.Put
  ne_Set_Ask : A.Set ≠ A.Ask
  ne_Set_Draw : A.Set ≠ A.Draw
  ne_Set_Tell : A.Set ≠ A.Tell
  ne_Set_Choice : A.Set ≠ A.Choice
  ne_Set_Loop : A.Set ≠ A.Loop
  ne_Set_Call : A.Set ≠ A.Call
  ne_Set_Give : A.Set ≠ A.Give
  ne_Put_Skip : A.Put ≠ A.Skip
  ne_Put_Set : A.Put ≠ A.Set
  ne_Put_Ask : A.Put ≠ A.Ask
  ne_Put_Draw : A.Put ≠ A.Draw
  ne_Put_Tell : A.Put ≠ A.Tell
  ne_Put_Choice : A.Put ≠ A.Choice
  ne_Put_Loop : A.Put ≠ A.Loop
  ne_Put_Call : A.Put ≠ A.Call
  ne_Put_Give : A.Put ≠ A.Give
  ne_Ask_Skip : A.Ask ≠ A.Skip
  ne_Ask_Set : A.Ask ≠ A.Set
  ne_Ask_Put : A.Ask ≠ A.Put
  ne_Ask_Draw : A.Ask ≠ A.Draw
  ne_Ask_Tell : A.Ask ≠ A.Tell
  ne_Ask_Choice : A.Ask ≠ A.Choice
  ne_Ask_Loop : A.Ask ≠ A.Loop
  ne_Ask_Call : A.Ask ≠ A.Call
  ne_Ask_Give : A.Ask ≠ A.Give
  ne_Draw_Skip : A.Draw ≠ A.Skip
  ne_Draw_Set : A.Draw ≠ A.Set
  ne_Draw_Put : A.Draw ≠ A.Put
  ne_Draw_Ask : A.Draw ≠ A.Ask
  ne_Draw_Tell : A.Draw ≠ A.Tell
  ne_Draw_Choice : A.Draw ≠ A.Choice
  ne_Draw_Loop : A.Draw ≠ A.Loop
  ne_Draw_Call : A.Draw ≠ A.Call
  ne_Draw_Give : A.Draw ≠ A.Give
  ne_Tell_Skip : A.Tell ≠ A.Skip
  ne_Tell_Set : A.Tell ≠ A.Set
  ne_Tell_Put : A.Tell ≠ A.Put
  ne_Tell_Ask : A.Tell ≠ A.Ask
  ne_Tell_Draw : A.Tell ≠ A.Draw
  ne_Tell_Choice : A.Tell ≠ A.Choice
  ne_Tell_Loop : A.Tell ≠ A.Loop
  ne_Tell_Call : A.Tell ≠ A.Call
  ne_Tell_Give : A.Tell ≠ A.Give
  ne_Choice_Skip : A.Choice ≠ A.Skip
  ne_Choice_Set : A.Choice ≠ A.Set
  ne_Choice_Put : A.Choice ≠ A.Put
  ne_Choice_Ask : A.Choice ≠ A.Ask
  ne_Choice_Draw : A.Choice ≠ A.Draw
  ne_Choice_Tell : A.Choice ≠ A.Tell
  ne_Choice_Loop : A.Choice ≠ A.Loop
  ne_Choice_Call : A.Choice ≠ A.Call
  ne_Choice_Give : A.Choice ≠ A.Give
  ne_Loop_Skip : A.Loop ≠ A.Skip
  ne_Loop_Set : A.Loop ≠ A.Set
  ne_Loop_Put : A.Loop ≠ A.Put
  ne_Loop_Ask : A.Loop ≠ A.Ask
  ne_Loop_Draw : A.Loop ≠ A.Draw
  ne_Loop_Tell : A.Loop ≠ A.Tell
  ne_Loop_Choice : A.Loop ≠ A.Choice
  ne_Loop_Call : A.Loop ≠ A.Call
  ne_Loop_Give : A.Loop ≠ A.Give
  ne_Call_Skip : A.Call ≠ A.Skip
  ne_Call_Set : A.Call ≠ A.Set
  ne_Call_Put : A.Call ≠ A.Put
  ne_Call_Ask : A.Call ≠ A.Ask
  ne_Call_Draw : A.Call ≠ A.Draw
  ne_Call_Tell : A.Call ≠ A.Tell
  ne_Call_Choice : A.Call ≠ A.Choice
  ne_Call_Loop : A.Call ≠ A.Loop
  ne_Call_Give : A.Call ≠ A.Give
  ne_Give_Skip : A.Give ≠ A.Skip
  ne_Give_Set : A.Give ≠ A.Set
  ne_Give_Put : A.Give ≠ A.Put
  ne_Give_Ask : A.Give ≠ A.Ask
  ne_Give_Draw : A.Give ≠ A.Draw
  ne_Give_Tell : A.Give ≠ A.Tell
  ne_Give_Choice : A.Give ≠ A.Choice
  ne_Give_Loop : A.Give ≠ A.Loop
  ne_Give_Call : A.Give ≠ A.Call
  nr_Number : A.Number ≠ A.Reader
  nr_Box : A.Box ≠ A.Reader
  nr_Cell : A.Cell ≠ A.Reader
  nr_Two : A.Two ≠ A.Reader
  nr_Function : A.Function ≠ A.Reader
  nr_Skip : A.Skip ≠ A.Reader
  nr_Set : A.Set ≠ A.Reader
  nr_Put : A.Put ≠ A.Reader
  nr_Ask : A.Ask ≠ A.Reader
  nr_Draw : A.Draw ≠ A.Reader
  nr_Tell : A.Tell ≠ A.Reader
  nr_Choice : A.Choice ≠ A.Reader
  nr_Loop : A.Loop ≠ A.Reader
  nr_Call : A.Call ≠ A.Reader
  nr_Give : A.Give ≠ A.Reader
  ga_Program : PySem.W.findIn K (.ref A.Program) "__class__" = some (some (.builtin "object.__class__"))
  gm_Program : PySem.W.mroIn K A.Program (.type "object") = some true
  g_n : PySem.W.specialIn K (.builtin "object.__class__") "__get__" = some (some (.builtin "getset_descriptor.__get__"))
  g_t : PySem.W.takesIn K (.builtin "object.__class__") = some true
  ga_Set : PySem.W.findIn K (.ref A.Set) "__class__" = some (some (.builtin "object.__class__"))
  gm_Set : PySem.W.mroIn K A.Set (.type "object") = some true
  ki_Set_Choice : PySem.W.kitOne K (.ref A.Set) (.ref A.Choice) = some false
  ki_Set_Loop : PySem.W.kitOne K (.ref A.Set) (.ref A.Loop) = some false
  ki_Set_Call : PySem.W.kitOne K (.ref A.Set) (.ref A.Call) = some false
  ga_Tell : PySem.W.findIn K (.ref A.Tell) "__class__" = some (some (.builtin "object.__class__"))
  gm_Tell : PySem.W.mroIn K A.Tell (.type "object") = some true
  ki_Tell_Choice : PySem.W.kitOne K (.ref A.Tell) (.ref A.Choice) = some false
  ki_Tell_Loop : PySem.W.kitOne K (.ref A.Tell) (.ref A.Loop) = some false
  ki_Tell_Call : PySem.W.kitOne K (.ref A.Tell) (.ref A.Call) = some false
  ga_Choice : PySem.W.findIn K (.ref A.Choice) "__class__" = some (some (.builtin "object.__class__"))
  gm_Choice : PySem.W.mroIn K A.Choice (.type "object") = some true
  ki_Choice_Choice : PySem.W.kitOne K (.ref A.Choice) (.ref A.Choice) = some true
  ki_Choice_Loop : PySem.W.kitOne K (.ref A.Choice) (.ref A.Loop) = some false
  ki_Choice_Call : PySem.W.kitOne K (.ref A.Choice) (.ref A.Call) = some false
  ga_Call : PySem.W.findIn K (.ref A.Call) "__class__" = some (some (.builtin "object.__class__"))
  gm_Call : PySem.W.mroIn K A.Call (.type "object") = some true
  ki_Call_Choice : PySem.W.kitOne K (.ref A.Call) (.ref A.Choice) = some false
  ki_Call_Loop : PySem.W.kitOne K (.ref A.Call) (.ref A.Loop) = some false
  ki_Call_Call : PySem.W.kitOne K (.ref A.Call) (.ref A.Call) = some true
  c_LETTERS : ∃ t, mg "LETTERS" = some (.str "abcdefghijklmnopqrstuvwxyz" t)
  c_FIGURES : ∃ t, mg "FIGURES" = some (.str "0123456789" t)
  c_MOST_DEEP : ∃ t, mg "MOST_DEEP" = some (.int 6 t)
  c_MOST_PARTS : ∃ t, mg "MOST_PARTS" = some (.int 15 t)
  c_MOST_WITHIN : ∃ t, mg "MOST_WITHIN" = some (.int 5 t)
  c_MOST_PARAMS : ∃ t, mg "MOST_PARAMS" = some (.int 3 t)
  c_MOST_LINES : ∃ t, mg "MOST_LINES" = some (.int 60 t)
  c_MOST_FUNCTIONS : ∃ t, mg "MOST_FUNCTIONS" = some (.int 4 t)
  c_LIMIT : ∃ t, mg "LIMIT" = some (.int 1000000 t)
  c_DEEPEST : ∃ t, mg "DEEPEST" = some (.int 6 t)
  z_str : mg "str" = none
  z_isinstance : mg "isinstance" = none
  z_len : mg "len" = none
  z_all : mg "all" = none
  z_int : mg "int" = none
  z_set : mg "set" = none
  z_list : mg "list" = none
  z_zip : mg "zip" = none
  z_enumerate : mg "enumerate" = none
  z_dict : mg "dict" = none
  z_range : mg "range" = none
structure Cod (base : Heap) (mg : Str → Option Value) (A : Ads) : Prop where
  tb_Scene_reckon : LamX.TabB base mg A.c_Scene_reckon A.t_Scene_reckon
abbrev Ads.ec (A : Ads) : EC := ⟨A.Number, A.Box, A.Cell, A.Two⟩
abbrev Ads.rc (A : Ads) : RC := ⟨A.Skip, A.Set, A.Put, A.Ask, A.Draw, A.Tell, A.Choice, A.Loop, A.Call, A.Give⟩

theorem notR_ec {K : PySem.W.Frag} {mg : Str → Option Value} {A : Ads} (T : Txt K mg A) : ∀ C, A.ec.Fam C → C ≠ A.Reader := fun C h => by
  rcases h with rfl | rfl | rfl | rfl
  · exact T.nr_Number
  · exact T.nr_Box
  · exact T.nr_Cell
  · exact T.nr_Two
theorem notR_rc {K : PySem.W.Frag} {mg : Str → Option Value} {A : Ads} (T : Txt K mg A) : ∀ C, A.rc.Fam C → C ≠ A.Reader := fun C h => by
  obtain ⟨rt, rfl⟩ := h
  cases rt with
  | skip => exact T.nr_Skip
  | set _ _ => exact T.nr_Set
  | put _ _ => exact T.nr_Put
  | ask _ _ _ => exact T.nr_Ask
  | draw _ _ => exact T.nr_Draw
  | tell _ => exact T.nr_Tell
  | ifr _ => exact T.nr_Choice
  | loop _ => exact T.nr_Loop
  | call _ _ _ => exact T.nr_Call
  | give _ => exact T.nr_Give

/-- the lambda in Scene.reckon -/
def lamAt : Stmt → Expr
  | .Assign _ (.Call _ [l] _ _) _ => l
  | _ => .Constant .none 0 ⟨0, 0, 0, 0⟩
abbrev e_lam : Expr := lamAt ((defBody s_Scene_reckon).getD 0 (.Pass ⟨0, 0, 0, 0⟩))
abbrev Q_lam : Str := Str.ofString "Scene.reckon" ++ ".<locals>." ++ "<lambda>"
abbrev N_lam : List Str := ["thing", "self"]
theorem sc_lam : NdefX.NScope ["thing", "self"] ["thing"] ["self"] (KM.lScope e_lam) := NdefX.nscope_by (by decide +kernel)
end K24
open PySem L2 TL

local macro_rules | `(tactic| walk_at "rd") => `(tactic| repeat (first
  | refine ⟨_, rfl, ?_⟩
  | refine ⟨_, _, rfl, rfl, ?_⟩
  | refine ⟨Or.inl ⟨by decide, by decide⟩, ?_⟩
  | refine ⟨Or.inr ⟨by decide, by decide⟩, ?_⟩
  | refine ⟨(⟨by decide, by decide⟩ : CDiv _ _), ?_⟩
  | refine ⟨(⟨by decide, by decide, by decide⟩ : CPow _ _), ?_⟩
  | refine ⟨(by show (0 : Int) < _; decide), ?_⟩
  | refine ⟨K24.mod64, ?_⟩))
namespace K24
open PySem L2 TL
section
variable {P : Program} {w : World} {K : PySem.W.Frag} {mg : Str → Option Value} {base : Heap} {A : Ads}
theorem ok_is_name (T : Txt K mg A) : FnOk P w K mg base CX0 1 A.is_name A.is_name_d ["thing"] (spTruthS isNameW) := by
  refine T.F_is_name.ok sc_is_name (fun vs H Q E h => ?_) (fun cdv A0 outer s H vs Q E hr h => ?_)
  · obtain ⟨s, rfl, hl, q⟩ := h
    rfl
  obtain ⟨s, rfl, hl, q⟩ := h
  refine ⟨_, (pss_cons (ps_if (PW.pt (pw_or (pt_not (pt_val (pe_callB call_isi (by rfl) T.z_isinstance (by decide +kernel) (pa_cons (pv 0) (pa_cons (pe_bltn (v := .ty "str") (by rfl) T.z_str (by decide +kernel) rfl) pa_nil))))) (pw_or1 (pt_not (pt_chain op_le op_le pe_int (pe_callB call_len_str (by rfl) T.z_len (by decide +kernel) (pa_cons (pv 0) pa_nil)) pe_int)))))
    (pss_one (ps_ret pe_bl))
    pss_nil)
   (pss_cons (ps_if (PW.pt (pw_or (pt_cmpR op_in_seq (pv 0) (pe_glob (v := .ref A.PAIRS) (by rfl) T.m_PAIRS rfl) (by rfl)) (pw_or (pt_cmpR op_in_seq (pv 0) (pe_glob (v := .ref A.ROWS) (by rfl) T.m_ROWS rfl) (by rfl)) (pw_or1 (pt_cmpR op_in_seq (pv 0) (pe_glob (v := .ref A.OTHERS) (by rfl) T.m_OTHERS rfl) (by rfl))))))
    (pss_one (ps_ret pe_bl))
    pss_nil)
   (pss_one (ps_ret (pe_callB (cr_all rfl) (by rfl) T.z_all (by decide +kernel) (pa_cons (pe_lc (own := [("sign", 1)]) (g := gName 1) (tt := tYes) rfl sc_is_name.nd (pi_str (pv 0)) (blkOk_by (own := [("sign", 1)]) (N := N_is_name) (sc := defScope s_is_name) (by decide +kernel)) (fun _ _ _ _ _ => pg_name (i := 1) sc_is_name.nd rfl (Or.inl rfl)) (fun _ _ _ _ _ => pts_nil) (fun _ _ _ _ _ => (pe_cmpR op_in_sign (pv 1) (pe_glob (v := .str "abcdefghijklmnopqrstuvwxyz") (by rfl) T.c_LETTERS.choose_spec ⟨_, rfl⟩) rfl))) pa_nil)))))), ?_⟩
  have hs : s.length = (tl s).length := len_tl s
  refine ⟨_, rfl, _, _, _, _, true, rfl, .ty _, .base (.str _), kit_ty (by decide +kernel), _, rfl, iteF ?_⟩
  refine ⟨_, rfl, _, rfl, len_line hl, _, _, rfl, rfl, _, rfl, ?_⟩
  refine iteD2 (fun c1 => ?_) (fun c1 => ?_)
  · refine ⟨_, _, rfl, rfl, _, rfl, iteN2 (fun c2 => ?_) (fun c2 => ?_)⟩
    · refine (nameW_false1 (s := s) (Or.inr ?_)) ▸ q _ (Same.refl H)
      omega
    · refine ⟨_, rfl, A.PAIRS, PAIRW.map V.str, rfl, .inr (T.q_PAIRS _), rfl, rfl, _, rfl, ?_⟩
      rw [if_neg Bool.false_ne_true, inV_str]
      refine iteD2 (fun c3 => (nameW_false2 (s := s) (.inl c3)) ▸ q _ (Same.refl H)) (fun c3 => ?_)
      refine ⟨_, rfl, A.ROWS, ROWW.map V.str, rfl, .inr (T.q_ROWS _), rfl, rfl, _, rfl, ?_⟩
      rw [if_neg Bool.false_ne_true, inV_str]
      refine iteD2 (fun c4 => (nameW_false2 (s := s) (.inr (.inl c4))) ▸ q _ (Same.refl H)) (fun c4 => ?_)
      refine ⟨_, rfl, A.OTHERS, OTHW.map V.str, rfl, .inr (T.q_OTHERS _), rfl, rfl, _, rfl, ?_⟩
      rw [if_neg Bool.false_ne_true, inV_str]
      refine iteD2 (fun c5 => (nameW_false2 (s := s) (.inr (.inr c5))) ▸ q _ (Same.refl H)) (fun c5 => ?_)
      exact rd_all (f := isLow) rfl (by show 1 < 2; decide) (by decide) (by omega) let_mem fun H' s' => (nameW_true (s := s) (by omega) (by omega) c3 c4 c5) ▸ q H' s'
  · refine ⟨_, rfl, iteT ?_⟩
    refine (nameW_false1 (s := s) (Or.inl ?_)) ▸ q _ (Same.refl H)
    omega

theorem ok_is_value_word (T : Txt K mg A) : FnOk P w K mg base CX0 1 A.is_value_word A.is_value_word_d ["word"] (spTruthS isValW) := by
  refine T.F_is_value_word.ok sc_is_value_word (fun vs H Q E h => ?_) (fun cdv A0 outer s H vs Q E hr h => ?_)
  · obtain ⟨s, rfl, hl, q⟩ := h
    rfl
  obtain ⟨s, rfl, hl, q⟩ := h
  refine ⟨_, (pss_cons (ps_if (PW.pt (pw_or (pt_not (pt_chain op_le op_le pe_int (pe_callB call_len_str (by rfl) T.z_len (by decide +kernel) (pa_cons (pv 0) pa_nil)) pe_int)) (pw_or1 (PW.pt (pw_and (pt_cmpR op_eq (pe_ix ix_str (pv 0) pe_int (fun _ _ => rfl)) pe_str (nomark _)) (pw_and1 (pt_cmpR op_ne (pv 0) pe_str (nomark _))))))))
    (pss_one (ps_ret pe_bl))
    pss_nil)
   (pss_one (ps_ret (pe_callB (cr_all rfl) (by rfl) T.z_all (by decide +kernel) (pa_cons (pe_lc (own := [("sign", 1)]) (g := gName 1) (tt := tYes) rfl sc_is_value_word.nd (pi_str (pv 0)) (blkOk_by (own := [("sign", 1)]) (N := N_is_value_word) (sc := defScope s_is_value_word) (by decide +kernel)) (fun _ _ _ _ _ => pg_name (i := 1) sc_is_value_word.nd rfl (Or.inl rfl)) (fun _ _ _ _ _ => pts_nil) (fun _ _ _ _ _ => (pe_cmpR op_in_sign (pv 1) (pe_glob (v := .str "0123456789") (by rfl) T.c_FIGURES.choose_spec ⟨_, rfl⟩) rfl))) pa_nil))))), ?_⟩
  have hs : s.length = (tl s).length := len_tl s
  refine ⟨_, rfl, _, rfl, len_line hl, _, _, rfl, rfl, _, rfl, ?_⟩
  refine iteD2 (fun c1 => ?_) (fun c1 => ?_)
  · refine ⟨_, _, rfl, rfl, _, rfl, iteN2 (fun c2 => ?_) (fun c2 => ?_)⟩
    · refine (valW_false1 (s := s) (Or.inr ?_)) ▸ q _ (Same.refl H)
      omega
    · have h6 : (tl s).length ≤ 6 ∧ 1 ≤ (tl s).length := by omega
      obtain ⟨c, r, hc⟩ : ∃ c r, tl s = c :: r := by
        cases e : tl s with
        | nil => rw [e] at h6; simp at h6
        | cons c r => exact ⟨c, r, rfl⟩
      refine ⟨_, rfl, s, 0, c, rfl, rfl, len_line hl, (by show atI (tl s) ((0 : Nat) : Int) = some c; rw [hc]; exact atI_nat rfl), rfl, _, rfl, ?_⟩
      refine iteD2 (fun c3 => ?_) (fun c3 => ?_)
      · refine ⟨_, rfl, rfl, _, rfl, iteN2 (fun c4 => ?_) (fun c4 => ?_)⟩
        · refine (valW_false2 (s := s) ?_ (fun e => c4 (congrArg V.str e))) ▸ q _ (Same.refl H)
          rw [hc]
          have := congrArg tl (V.str.inj c3)
          have z : tl (Str.ofString "0") = [48] := by decide +kernel
          rw [z] at this
          have e2 : [c] = [48] := this
          rw [List.cons.injEq] at e2
          rw [e2.1]; rfl
        · exact rd_all (f := isDig) rfl (by show 1 < 2; decide) (by decide) (by omega) fig_mem fun H' s' => (valW_true (s := s) h6.2 h6.1 (fun _ => V.str.inj c4)) ▸ q H' s'
      · refine rd_all (f := isDig) rfl (by show 1 < 2; decide) (by decide) (by omega) fig_mem fun H' s' => (valW_true (s := s) h6.2 h6.1 (fun e => ?_)) ▸ q H' s'
        rw [hc, List.head?_cons] at e
        refine absurd (congrArg V.str ?_) c3
        refine ext_tl ?_
        have z : tl (Str.ofString "0") = [48] := by decide +kernel
        rw [z, Option.some.inj e]
  · refine ⟨_, rfl, iteT ?_⟩
    refine (valW_false1 (s := s) (Or.inl ?_)) ▸ q _ (Same.refl H)
    omega

end
end K24
namespace K24
open PySem L2 TL
section
variable {P : Program} {w : World} {K : PySem.W.Frag} {mg : Str → Option Value} {base : Heap} {A : Ads}
theorem ok_Number_init (T : Txt K mg A) : FnOk P w K mg base CX0 1 A.Number_init A.Number_init_d ["self", "value"] (spInit1 A.Number "value") := by
  refine T.F_Number_init.ok sc_Number_init (fun vs H Q E h => ?_) (fun cdv A0 outer s H vs Q E hr h => ?_)
  · obtain ⟨p, dx, x, rfl, hp, q⟩ := h
    rfl
  obtain ⟨p, dx, x, rfl, hp, q⟩ := h
  refine ⟨_, (pss_one (ps_fld (pv 0) (pv 1) rfl)), ?_⟩
  exact ⟨_, rfl, _, rfl, p, A.Number, dx, [], rfl, hp, T.cl_Number, T.n_Number_value, (by show 0 < 1000; decide), q⟩

theorem ok_Box_init (T : Txt K mg A) : FnOk P w K mg base CX0 1 A.Box_init A.Box_init_d ["self", "name"] (spInit1 A.Box "name") := by
  refine T.F_Box_init.ok sc_Box_init (fun vs H Q E h => ?_) (fun cdv A0 outer s H vs Q E hr h => ?_)
  · obtain ⟨p, dx, x, rfl, hp, q⟩ := h
    rfl
  obtain ⟨p, dx, x, rfl, hp, q⟩ := h
  refine ⟨_, (pss_one (ps_fld (pv 0) (pv 1) rfl)), ?_⟩
  exact ⟨_, rfl, _, rfl, p, A.Box, dx, [], rfl, hp, T.cl_Box, T.n_Box_name, (by show 0 < 1000; decide), q⟩

theorem ok_Cell_init (T : Txt K mg A) : FnOk P w K mg base CX0 1 A.Cell_init A.Cell_init_d ["self", "inner"] (spInit1 A.Cell "inner") := by
  refine T.F_Cell_init.ok sc_Cell_init (fun vs H Q E h => ?_) (fun cdv A0 outer s H vs Q E hr h => ?_)
  · obtain ⟨p, dx, x, rfl, hp, q⟩ := h
    rfl
  obtain ⟨p, dx, x, rfl, hp, q⟩ := h
  refine ⟨_, (pss_one (ps_fld (pv 0) (pv 1) rfl)), ?_⟩
  exact ⟨_, rfl, _, rfl, p, A.Cell, dx, [], rfl, hp, T.cl_Cell, T.n_Cell_inner, (by show 0 < 1000; decide), q⟩

theorem ok_Two_init (T : Txt K mg A) : FnOk P w K mg base CX0 1 A.Two_init A.Two_init_d ["self", "word", "left", "right"] (spTwoI A.Two) := by
  refine T.F_Two_init.ok sc_Two_init (fun vs H Q E h => ?_) (fun cdv A0 outer s H vs Q E hr h => ?_)
  · obtain ⟨p, dx, wd, l, r, rfl, hp, q⟩ := h
    rfl
  obtain ⟨p, dx, wd, l, r, rfl, hp, q⟩ := h
  refine ⟨_, (pss_cons (ps_fld (pv 0) (pv 1) rfl)
   (pss_cons (ps_fld (pv 0) (pv 2) rfl)
   (pss_one (ps_fld (pv 0) (pv 3) rfl)))), ?_⟩
  refine ⟨_, rfl, _, rfl, p, A.Two, dx, [], rfl, hp, T.cl_Two, T.n_Two_word, (by show 0 < 1000; decide), ?_⟩
  refine ⟨_, rfl, _, rfl, p, A.Two, dx, _, rfl, upd_same, T.cl_Two, T.n_Two_left, (by show 1 < 1000; decide), ?_⟩
  refine ⟨_, rfl, _, rfl, p, A.Two, dx, _, rfl, upd_same, T.cl_Two, T.n_Two_right, (by show 2 < 1000; decide), ?_⟩
  rw [upd_upd, upd_upd]
  exact q

end
end K24
namespace K24
open PySem L2 TL
section
variable {P : Program} {w : World} {K : PySem.W.Frag} {mg : Str → Option Value} {base : Heap} {A : Ads}
theorem ok_Expr_parts (T : Txt K mg A) {n : Nat} {C : Addr} (hC : C = A.Number ∨ C = A.Box) : FnOk P w K mg base CX0 (n + 2) A.Expr_parts A.Expr_parts_d ["self"] (spParts A.ec (n + 1) C) := by
  refine T.F_Expr_parts.ok sc_Expr_parts (fun vs H Q E h => ?_) (fun cdv A0 outer s H vs Q E hr h => ?_)
  · obtain ⟨e, v, rfl, ho, hc, hd, q⟩ := h
    rfl
  obtain ⟨e, v, rfl, ho, hc, hd, q⟩ := h
  refine ⟨_, (pss_one (ps_ret pe_int)), ?_⟩
  cases e with
  | num n => exact q
  | box s => exact q
  | cell e =>
    rcases hC with h | h
    · exact (T.ne_cell_num (hc.trans h)).elim
    · exact (T.ne_cell_box (hc.trans h)).elim
  | two w l r =>
    rcases hC with h | h
    · exact (T.ne_two_num (hc.trans h)).elim
    · exact (T.ne_two_box (hc.trans h)).elim

theorem ok_Cell_parts (T : Txt K mg A) {n : Nat} (D_parts : ∀ C, A.ec.Fam C → Disp P w K mg base CX0 "parts" (n + 1) C (spParts A.ec n C)) : FnOk P w K mg base CX0 (n + 2) A.Cell_parts A.Cell_parts_d ["self"] (spParts A.ec (n + 1) A.Cell) := by
  refine T.F_Cell_parts.ok sc_Cell_parts (fun vs H Q E h => ?_) (fun cdv A0 outer s H vs Q E hr h => ?_)
  · obtain ⟨e, v, rfl, ho, hc, hd, q⟩ := h
    rfl
  obtain ⟨e, v, rfl, ho, hc, hd, q⟩ := h
  refine ⟨_, (pss_one (ps_ret (pe_op op_add pe_int (pe_methP0 (pe_fld (pv 0) rfl) D_parts (hr.mono (by omega)) pass0)))), ?_⟩
  cases e with
  | num n => exact (T.ne_num_cell hc).elim
  | box z => exact (T.ne_box_cell hc).elim
  | cell e =>
    obtain ⟨p, dx, i, rfl, h1, h2⟩ := ho
    have hd' : e.depth ≤ n := Nat.le_of_succ_le_succ hd
    obtain ⟨p2, d2, f2, e2, g1, g2⟩ := h2.at (m := "parts") (by decide +kernel)
    refine ⟨_, rfl, p, A.Cell, dx, _, _, rfl, h1, T.cl_Cell, T.n_Cell_inner, rfl, p2, _, d2, f2, e2, g1, g2, A.ec.fam e, e, i, rfl, h2, rfl, hd', ?_⟩
    refine ⟨_, _, rfl, rfl, ?_⟩
    have e1 : (1 : Int) + (e.parts : Int) = ((Ex.cell e).parts : Int) := by show (1 : Int) + (e.parts : Int) = ((1 + e.parts : Nat) : Int); omega
    show Q (.int ((1 : Int) + (e.parts : Int))) H
    rw [e1]
    exact q
  | two wd l r => exact (T.ne_two_cell hc).elim

theorem ok_Two_parts (T : Txt K mg A) {n : Nat} (D_parts : ∀ C, A.ec.Fam C → Disp P w K mg base CX0 "parts" (n + 1) C (spParts A.ec n C)) : FnOk P w K mg base CX0 (n + 2) A.Two_parts A.Two_parts_d ["self"] (spParts A.ec (n + 1) A.Two) := by
  refine T.F_Two_parts.ok sc_Two_parts (fun vs H Q E h => ?_) (fun cdv A0 outer s H vs Q E hr h => ?_)
  · obtain ⟨e, v, rfl, ho, hc, hd, q⟩ := h
    rfl
  obtain ⟨e, v, rfl, ho, hc, hd, q⟩ := h
  refine ⟨_, (pss_one (ps_ret (pe_op op_add (pe_op op_add pe_int (pe_methP0 (pe_fld (pv 0) rfl) D_parts (hr.mono (by omega)) pass0)) (pe_methP0 (pe_fld (pv 0) rfl) D_parts (hr.mono (by omega)) pass0)))), ?_⟩
  cases e with
  | num n => exact (T.ne_num_two hc).elim
  | box z => exact (T.ne_box_two hc).elim
  | cell e => exact (T.ne_cell_two hc).elim
  | two wd l r =>
    obtain ⟨p, dx, a, b, rfl, h1, h2, h3⟩ := ho
    have hd' : max l.depth r.depth ≤ n := Nat.le_of_succ_le_succ hd
    obtain ⟨p2, d2, f2, e2, g1, g2⟩ := h2.at (m := "parts") (by decide +kernel)
    obtain ⟨p3, d3, f3, e3, k1, k2⟩ := h3.at (m := "parts") (by decide +kernel)
    refine ⟨_, rfl, p, A.Two, dx, _, _, rfl, h1, T.cl_Two, T.n_Two_left, rfl, p2, _, d2, f2, e2, g1, g2, A.ec.fam l, l, a, rfl, h2, rfl, by omega, ?_⟩
    refine ⟨_, _, rfl, rfl, ?_⟩
    refine ⟨_, rfl, p, A.Two, dx, _, _, rfl, h1, T.cl_Two, T.n_Two_right, rfl, p3, _, d3, f3, e3, k1, k2, A.ec.fam r, r, b, rfl, h3, rfl, by omega, ?_⟩
    refine ⟨_, _, rfl, rfl, ?_⟩
    have e1 : (1 : Int) + (l.parts : Int) + (r.parts : Int) = ((Ex.two wd l r).parts : Int) := by show (1 : Int) + (l.parts : Int) + (r.parts : Int) = ((1 + l.parts + r.parts : Nat) : Int); omega
    show Q (.int ((1 : Int) + (l.parts : Int) + (r.parts : Int))) H
    rw [e1]
    exact q

theorem disp_parts (T : Txt K mg A) : ∀ (n : Nat) (C : Addr), A.ec.Fam C → Disp P w K mg base CX0 "parts" (n + 1) C (spParts A.ec n C)
  | 0, C, h => by
    have no : ∀ vs H Q E, spParts A.ec 0 C vs H Q E → False := fun vs H Q E ⟨e, v, _, _, _, hd, _⟩ => by have := e.depth_pos; omega
    rcases h with rfl | rfl | rfl | rfl
    · exact ⟨_, A.Expr_parts_d, _, T.cl_Number, T.me_Number_parts, fn_none (ps := ["self"]) no, T.b_Expr_parts⟩
    · exact ⟨_, A.Expr_parts_d, _, T.cl_Box, T.me_Box_parts, fn_none (ps := ["self"]) no, T.b_Expr_parts⟩
    · exact ⟨_, A.Cell_parts_d, _, T.cl_Cell, T.me_Cell_parts, fn_none (ps := ["self"]) no, T.b_Cell_parts⟩
    · exact ⟨_, A.Two_parts_d, _, T.cl_Two, T.me_Two_parts, fn_none (ps := ["self"]) no, T.b_Two_parts⟩
  | n + 1, C, h => by
    have D := disp_parts T n
    rcases h with rfl | rfl | rfl | rfl
    · exact ⟨_, _, _, T.cl_Number, T.me_Number_parts, ok_Expr_parts T (.inl rfl), T.b_Expr_parts⟩
    · exact ⟨_, _, _, T.cl_Box, T.me_Box_parts, ok_Expr_parts T (.inr rfl), T.b_Expr_parts⟩
    · exact ⟨_, _, _, T.cl_Cell, T.me_Cell_parts, ok_Cell_parts T D, T.b_Cell_parts⟩
    · exact ⟨_, _, _, T.cl_Two, T.me_Two_parts, ok_Two_parts T D, T.b_Two_parts⟩

end
end K24
namespace K24
open PySem L2 TL
section
variable {P : Program} {w : World} {K : PySem.W.Frag} {mg : Str → Option Value} {base : Heap} {A : Ads}
theorem ok_expr_at (T : Txt K mg A) : ∀ n : Nat, FnOk P w K mg base (L2.CX P w) (n + 2) A.expr_at A.expr_at_d ["row", "at", "deep"] (spExprAt K A.ec A.NoProgram n)
| 0 => fn_none fun vs H Q E h => by
    obtain ⟨_, _, _, d, _, _, _, _, hd, _⟩ := h; omega
| n + 1 => by
  have G_expr_at := ok_expr_at T n
  have G_is_value_word := ok_is_value_word (P := P) (w := w) (base := base) T
  have G_Number_init := ok_Number_init (P := P) (w := w) (base := base) T
  have G_is_name := ok_is_name (P := P) (w := w) (base := base) T
  have G_Box_init := ok_Box_init (P := P) (w := w) (base := base) T
  have G_Cell_init := ok_Cell_init (P := P) (w := w) (base := base) T
  have G_Two_init := ok_Two_init (P := P) (w := w) (base := base) T
  refine T.F_expr_at.okX sc_expr_at (fun vs H Q E h => ?_) (fun cdv A0 outer s H vs Q E hr h => ?_)
  · obtain ⟨a, ws, i, d, rfl, hS, hlen, hws, hdn, hd7, q1, q2⟩ := h
    rfl
  obtain ⟨a, ws, i, d, rfl, hS, hlen, hws, hdn, hd7, q1, q2⟩ := h
  refine ⟨_, (pss_cons (ps_if (PW.pt (pw_or (pt_cmpR op_gt (pv 2) (pe_glob (v := .int 6) (by rfl) T.c_MOST_DEEP.choose_spec ⟨_, rfl⟩) (nomark _)) (pw_or1 (pt_cmpR op_ge (pv 1) (pe_callB call_lenK (by rfl) T.z_len (by decide +kernel) (pa_cons (pv 0) pa_nil)) (nomark _)))))
    (pss_one (ps_raise rfl (takes_of rfl rfl rfl rfl) (pmk_own PySem.F.excBase_ValueError T.x_NoProgram T.m_NoProgram T.kk_NoProgram (raises_own T.bb_NoProgram T.tt_NoProgram) (by exact rfl))))
    pss_nil)
   (pss_cons (ps_set (i := 3) sc_expr_at.nd rfl (Or.inl rfl) (pe_ix ix_list (pv 0) (pv 1) (fun _ _ => rfl)))
   (pss_cons (ps_if (pt_val (pe_call G_is_value_word (hr.mono (by omega)) rfl T.m_is_value_word T.F_is_value_word.kp T.b_is_value_word .nil pass0 (pa_cons (pv 3) pa_nil)))
    (pss_one (ps_ret (pe_tup (pa_cons (pe_make T.k_Number G_Number_init (hr.mono (by omega)) rfl T.m_Number T.b_Number_init .nil pass0 (pa_cons (pe_callTy call_int_str (by rfl) T.z_int (by decide +kernel) (pa_cons (pv 3) pa_nil)) pa_nil)) (pa_cons (pe_op op_add (pv 1) pe_int) pa_nil)))))
    pss_nil)
   (pss_cons (ps_if (pt_val (pe_call G_is_name (hr.mono (by omega)) rfl T.m_is_name T.F_is_name.kp T.b_is_name .nil pass0 (pa_cons (pv 3) pa_nil)))
    (pss_one (ps_ret (pe_tup (pa_cons (pe_make T.k_Box G_Box_init (hr.mono (by omega)) rfl T.m_Box T.b_Box_init .nil pass0 (pa_cons (pv 3) pa_nil)) (pa_cons (pe_op op_add (pv 1) pe_int) pa_nil)))))
    pss_nil)
   (pss_cons (ps_if (pt_cmpR op_eq (pv 3) pe_str (nomark _))
    (pss_cons (ps_asg (pe_call G_expr_at (hr.mono (by omega)) rfl T.m_expr_at T.F_expr_at.kp T.b_expr_at .nil (passes_call (takes_of rfl rfl rfl rfl) (fun _ _ _ _ h => h)) (pa_cons (pv 0) (pa_cons (pe_op op_add (pv 1) pe_int) (pa_cons (pe_op op_add (pv 2) pe_int) pa_nil)))) (pg_tup (by rfl) (pgs_cons (pg_name (i := 4) sc_expr_at.nd rfl (Or.inl rfl)) (pgs_cons (pg_name (i := 5) sc_expr_at.nd rfl (Or.inl rfl)) pgs_nil))))
   (pss_one (ps_ret (pe_tup (pa_cons (pe_make T.k_Cell G_Cell_init (hr.mono (by omega)) rfl T.m_Cell T.b_Cell_init .nil pass0 (pa_cons (pv 4) pa_nil)) (pa_cons (pv 5) pa_nil))))))
    pss_nil)
   (pss_cons (ps_if (pt_cmpR op_notIn_seq (pv 3) (pe_glob (v := .ref A.PAIRS) (by rfl) T.m_PAIRS rfl) (by rfl))
    (pss_one (ps_raise rfl (takes_of rfl rfl rfl rfl) (pmk_own PySem.F.excBase_ValueError T.x_NoProgram T.m_NoProgram T.kk_NoProgram (raises_own T.bb_NoProgram T.tt_NoProgram) (by exact rfl))))
    pss_nil)
   (pss_cons (ps_asg (pe_call G_expr_at (hr.mono (by omega)) rfl T.m_expr_at T.F_expr_at.kp T.b_expr_at .nil (passes_call (takes_of rfl rfl rfl rfl) (fun _ _ _ _ h => h)) (pa_cons (pv 0) (pa_cons (pe_op op_add (pv 1) pe_int) (pa_cons (pe_op op_add (pv 2) pe_int) pa_nil)))) (pg_tup (by rfl) (pgs_cons (pg_name (i := 6) sc_expr_at.nd rfl (Or.inl rfl)) (pgs_cons (pg_name (i := 7) sc_expr_at.nd rfl (Or.inl rfl)) pgs_nil))))
   (pss_cons (ps_asg (pe_call G_expr_at (hr.mono (by omega)) rfl T.m_expr_at T.F_expr_at.kp T.b_expr_at .nil (passes_call (takes_of rfl rfl rfl rfl) (fun _ _ _ _ h => h)) (pa_cons (pv 0) (pa_cons (pv 7) (pa_cons (pe_op op_add (pv 2) pe_int) pa_nil)))) (pg_tup (by rfl) (pgs_cons (pg_name (i := 8) sc_expr_at.nd rfl (Or.inl rfl)) (pgs_cons (pg_name (i := 5) sc_expr_at.nd rfl (Or.inl rfl)) pgs_nil))))
   (pss_one (ps_ret (pe_tup (pa_cons (pe_make T.k_Two G_Two_init (hr.mono (by omega)) rfl T.m_Two T.b_Two_init .nil pass0 (pa_cons (pv 3) (pa_cons (pv 6) (pa_cons (pv 8) pa_nil)))) (pa_cons (pv 5) pa_nil))))))))))))), ?_⟩
  refine ⟨_, rfl, _, _, rfl, rfl, _, rfl, ?_⟩
  refine iteD2 (fun c1 => ?_) (fun c1 => ?_)
  · have d0 : d = 0 := by omega
    subst d0
    exact q2 rfl H (Same.refl H)
  obtain ⟨d', rfl⟩ : ∃ d', d = d' + 1 := ⟨d - 1, by omega⟩
  refine ⟨_, rfl, _, rfl, a, _, rfl, .inl hS, _, _, rfl, rfl, _, rfl, ?_⟩
  rw [List.length_map]
  refine iteD2 (fun c2 => ?_) (fun c2 => ?_)
  · refine q2 ?_ H (Same.refl H)
    rw [List.drop_eq_nil_of_le (by omega)]
    rfl
  obtain ⟨w1, r1, hw⟩ : ∃ w1 r1, ws.drop i = w1 :: r1 := ⟨_, _, List.drop_eq_getElem_cons (by omega)⟩
  obtain ⟨hi, hat, hdr, hrl, hmem⟩ := at_str hw
  rw [hw, parseE_cons] at q1 q2
  have hl1 := hws _ hmem
  refine ⟨_, rfl, _, rfl, a, _, _, _, rfl, rfl, hS, hat, ?_⟩
  refine ⟨_, rfl, w1, rfl, hl1, fun H1 s1 => ⟨_, rfl, iteB2 (fun c3 => ?_) (fun c3 => ?_)⟩⟩
  · rw [if_pos c3] at q1
    have hv := valW_int c3
    refine ⟨_, rfl, w1, valOf w1, rfl, hv.1, hv.2.1, fun x dx hx hdx _ => mk_init hx hdx fun H2 s2 h2 => ?_⟩
    refine ⟨_, rfl, _, _, rfl, rfl, by show 2 ≤ sizeLine; decide, fun t ht => ?_⟩
    refine q1 _ _ rfl t _ (.ref x) (s1.trans (s2.trans (same_new ht))) ?_ ⟨x, dx, rfl, (same_new ht) _ _ h2⟩
    rw [upd_same, hrl]
    have : ((ws.length - (ws.length - (i + 1)) : Nat) : Int) = (i : Int) + 1 := by omega
    rw [this]
  rw [if_neg (by rw [c3]; decide)] at q1 q2
  refine ⟨_, rfl, w1, rfl, hl1, fun H2 s2 => ⟨_, rfl, iteB2 (fun c4 => ?_) (fun c4 => ?_)⟩⟩
  · rw [if_pos c4] at q1
    refine ⟨_, rfl, fun x dx hx hdx _ => mk_init hx hdx fun H3 s3 h3 => ?_⟩
    refine ⟨_, rfl, _, _, rfl, rfl, by show 2 ≤ sizeLine; decide, fun t ht => ?_⟩
    refine q1 _ _ rfl t _ (.ref x) (s1.trans (s2.trans (s3.trans (same_new ht)))) ?_ ⟨x, dx, rfl, (same_new ht) _ _ h3⟩
    rw [upd_same, hrl]
    have : ((ws.length - (ws.length - (i + 1)) : Nat) : Int) = (i : Int) + 1 := by omega
    rw [this]
  rw [if_neg (by rw [c4]; decide)] at q1 q2
  have s12 := s1.trans s2
  have e1 : (i : Int) + 1 = ((i + 1 : Nat) : Int) := by omega
  have e2 : (7 : Int) - ((d' + 1 : Nat) : Int) + 1 = 7 - (d' : Int) := by omega
  refine ⟨_, rfl, rfl, _, rfl, ?_⟩
  refine iteD2 (fun c5 => ?_) (fun c5 => ?_)
  · rw [if_pos (V.str.inj c5)] at q1 q2
    refine ⟨_, rfl, _, rfl, _, _, rfl, rfl, _, rfl, _, _, rfl, rfl, a, ws, i + 1, d', (by show [V.ref a, V.int ((i : Int) + 1), V.int ((7 : Int) - ((d' + 1 : Nat) : Int) + 1)] = _; rw [e1, e2]), s12.seq hS, hlen, hws, by omega, by omega, fun e3 r3 p3 t H3 v s3 ht ho => ?_, fun p3 H3 s3 => ?_⟩
    · rw [hdr] at p3
      rw [p3] at q1
      refine ⟨t, _, rfl, SqT.of ht, rfl, _, _, rfl, _, _, rfl, rfl, ?_⟩
      refine ⟨_, rfl, fun x dx hx hdx _ => mk_init hx hdx fun H4 s4 h4 => ?_⟩
      refine ⟨_, rfl, by show 2 ≤ sizeLine; decide, fun t2 ht2 => ?_⟩
      exact q1 _ _ rfl t2 _ (.ref x) (s12.trans (s3.trans (s4.trans (same_new ht2)))) upd_same ⟨x, dx, v, rfl, (same_new ht2) _ _ h4, ho.same (s4.trans (same_new ht2))⟩
    · rw [hdr] at p3
      rw [p3] at q2
      exact q2 rfl H3 (s12.trans s3)
  rw [if_neg (fun e => c5 (congrArg V.str e))] at q1 q2
  refine ⟨_, rfl, A.PAIRS, PAIRW.map V.str, rfl, .inr (T.q_PAIRS _), rfl, rfl, _, rfl, ?_⟩
  rw [if_pos rfl, inV_str]
  refine iteN2 (fun c6 => ?_) (fun c6 => ?_)
  · rw [if_neg c6] at q2
    exact q2 rfl H2 s12
  rw [if_pos c6] at q1 q2
  refine ⟨_, rfl, _, rfl, _, _, rfl, rfl, _, rfl, _, _, rfl, rfl, a, ws, i + 1, d', (by show [V.ref a, V.int ((i : Int) + 1), V.int ((7 : Int) - ((d' + 1 : Nat) : Int) + 1)] = _; rw [e1, e2]), s12.seq hS, hlen, hws, by omega, by omega, fun e3 r3 p3 t H3 v s3 ht ho => ?_, fun p3 H3 s3 => ?_⟩
  · rw [hdr] at p3
    rw [p3] at q1 q2
    have pa := parse_at (i := i + 1) (d := d') (ws := ws) (by rw [hdr]; exact p3)
    refine ⟨t, _, rfl, SqT.of ht, rfl, _, _, rfl, _, _, rfl, rfl, ?_⟩
    refine ⟨_, rfl, _, rfl, _, rfl, _, _, rfl, rfl, a, ws, ws.length - r3.length, d', (by show [V.ref a, V.int _, V.int ((7 : Int) - ((d' + 1 : Nat) : Int) + 1)] = _; rw [e2]), s3.seq (s12.seq hS), hlen, hws, by omega, by omega, fun e4 r4 p4 t2 H4 v2 s4 ht2 ho2 => ?_, fun p4 H4 s4 => ?_⟩
    · rw [pa.2.2] at p4
      simp only at q1
      rw [p4] at q1
      refine ⟨t2, _, rfl, SqT.of ht2, rfl, _, _, rfl, _, _, rfl, rfl, ?_⟩
      refine ⟨_, rfl, _, rfl, _, rfl, fun x dx hx hdx _ => mk_two hx hdx fun H5 s5 h5 => ?_⟩
      refine ⟨_, rfl, by show 2 ≤ sizeLine; decide, fun t3 ht3 => ?_⟩
      exact q1 _ _ rfl t3 _ (.ref x) (s12.trans (s3.trans (s4.trans (s5.trans (same_new ht3))))) upd_same ⟨x, dx, v, v2, rfl, (same_new ht3) _ _ h5, ho.same (s4.trans (s5.trans (same_new ht3))), ho2.same (s5.trans (same_new ht3))⟩
    · rw [pa.2.2] at p4
      simp only at q2
      rw [p4] at q2
      exact q2 rfl H4 (s12.trans (s3.trans s4))
  · rw [hdr] at p3
    rw [p3] at q2
    exact q2 rfl H3 (s12.trans s3)

end
end K24
namespace K24
open PySem L2 TL
section
variable {P : Program} {w : World} {K : PySem.W.Frag} {mg : Str → Option Value} {base : Heap} {A : Ads}
theorem ok_exprs_of (T : Txt K mg A) : FnOk P w K mg base (L2.CX P w) 11 A.exprs_of A.exprs_of_d ["row"] (spExprs K A.ec A.NoProgram) := by
  have G_expr_at := ok_expr_at (P := P) (w := w) (base := base) T 8
  have D_parts := disp_parts (P := P) (w := w) (base := base) T 7
  refine T.F_exprs_of.okX sc_exprs_of (fun vs H Q E h => ?_) (fun cdv A0 outer s H vs Q E hr h => ?_)
  · obtain ⟨a, ws, rfl, hS, hlen, hws, q1, q2⟩ := h
    rfl
  obtain ⟨a, ws, rfl, hS, hlen, hws, q1, q2⟩ := h
  refine ⟨_, (pss_cons (ps_set (i := 1) sc_exprs_of.nd rfl (Or.inl rfl) (pe_lst pa_nil))
   (pss_cons (ps_set (i := 2) sc_exprs_of.nd rfl (Or.inl rfl) pe_int)
   (pss_cons (ps_while (passes_of rfl) (pt_cmpR op_lt (pv 2) (pe_callB call_lenK (by rfl) T.z_len (by decide +kernel) (pa_cons (pv 0) pa_nil)) (nomark _))
    (pss_cons (ps_asg (pe_call G_expr_at (hr.mono (by decide)) rfl T.m_expr_at T.F_expr_at.kp T.b_expr_at .nil (passes_call (takes_of rfl rfl rfl rfl) (fun _ _ _ _ h => h)) (pa_cons (pv 0) (pa_cons (pv 2) (pa_cons pe_int pa_nil)))) (pg_tup (by rfl) (pgs_cons (pg_name (i := 3) sc_exprs_of.nd rfl (Or.inl rfl)) (pgs_cons (pg_name (i := 2) sc_exprs_of.nd rfl (Or.inl rfl)) pgs_nil))))
   (pss_cons (ps_if (pt_cmpR op_gt (pe_methP0 (pv 3) D_parts (hr.mono (by decide)) pass0) (pe_glob (v := .int 15) (by rfl) T.c_MOST_PARTS.choose_spec ⟨_, rfl⟩) (nomark _))
    (pss_one (ps_raise rfl (takes_of rfl rfl rfl rfl) (pmk_own PySem.F.excBase_ValueError T.x_NoProgram T.m_NoProgram T.kk_NoProgram (raises_own T.bb_NoProgram T.tt_NoProgram) (by exact rfl))))
    pss_nil)
   (pss_one (ps_expr (pe_bm PySem.F.plainAttrs_list PySem.F.slot_list_append PySem.F.type_list_append mt_append (pv 1) (pa_cons (pv 3) pa_nil)))))))
   (pss_one (ps_ret (pv 1)))))), ?_⟩
  refine ⟨by show 0 ≤ sizeLine; decide, fun l hl => ?_⟩
  refine while_m (fun m σ H' => ∃ (i : Nat) (es : List Ex) (os : List V) (z : Option V), σ = [some (.ref a), some (.ref l), some (.int i), z] ∧ m = ws.length - i ∧ i ≤ ws.length ∧ Same H H' ∧ H' l = some (.lst os) ∧ os.length ≤ i ∧ AllE A.ec H' es os ∧ after es (parseAll (ws.drop i).length (ws.drop i)) = parseAll ws.length ws) ws.length
    ⟨0, [], [], none, rfl, rfl, Nat.zero_le _, same_new hl, upd_same, Nat.le_refl _, .nil, by rw [List.drop_zero]; cases parseAll ws.length ws <;> rfl⟩ ?_
  rintro m σ H1 ⟨i, es, os, z, rfl, rfl, hi, s1, h1, hos, ha, hp⟩
  refine ⟨_, rfl, _, rfl, a, _, rfl, .inl (s1.seq hS), _, _, rfl, rfl, _, rfl, ?_⟩
  rw [List.length_map]
  refine iteD2 (fun c1 => ?_) (fun c1 => ?_)
  · refine ⟨fun σ' H' => ∃ (i' : Nat) (es : List Ex) (os : List V) (z : Option V), i < i' ∧ σ' = [some (.ref a), some (.ref l), some (.int i'), z] ∧ i' ≤ ws.length ∧ Same H H' ∧ H' l = some (.lst os) ∧ os.length ≤ i' ∧ AllE A.ec H' es os ∧ after es (parseAll (ws.drop i').length (ws.drop i')) = parseAll ws.length ws,
      fun σ' H' ⟨i', es, os, z, hi', hσ, k⟩ => ⟨ws.length - i', by omega, i', es, os, z, hσ, rfl, k⟩, ?_⟩
    obtain ⟨w1, r1, hw⟩ : ∃ w1 r1, ws.drop i = w1 :: r1 := ⟨_, _, List.drop_eq_getElem_cons (by omega)⟩
    rw [hw, parseAll_step, ← hw] at hp
    refine ⟨_, rfl, _, rfl, a, ws, i, 6, rfl, s1.seq hS, hlen, hws, by decide, by decide, fun e r p t H2 v s2 ht ho => ?_, fun p H2 s2 => ?_⟩
    · rw [p] at hp
      have pa := parse_at p
      simp only at hp
      refine ⟨t, _, rfl, SqT.of ht, rfl, _, _, rfl, _, _, rfl, rfl, ?_⟩
      obtain ⟨p2, d2, f2, e2, g1, g2⟩ := ho.at (m := "parts") (by decide +kernel)
      refine ⟨_, rfl, p2, _, d2, f2, e2, g1, g2, A.ec.fam e, e, v, by rw [e2]; rfl, ho, rfl, by have := (parse_wf p).2.1; omega, ?_⟩
      refine ⟨_, _, rfl, rfl, _, rfl, ?_⟩
      refine iteD2 (fun c2 => ?_) (fun c2 => ?_)
      · rw [if_neg (by omega)] at hp
        exact q2 hp.symm H2 (s1.trans s2)
      · rw [if_pos (by omega)] at hp
        have h2 := s2 _ _ h1
        refine ⟨_, rfl, .inl ⟨rfl, _, SqL.of h2⟩, _, rfl, l, _, _, rfl, rfl, h2, Nat.lt_of_le_of_lt (Nat.le_trans hos (Nat.le_trans hi hlen)) (by decide), ?_⟩
        have kx : ∀ b o, H b = some o → upd H2 l (.lst (os ++ [v])) b = some o := fun b o hb => by rw [upd_ne (ne_of_none hb hl)]; exact (s1.trans s2) b o hb
        have hol : ∀ {e : Ex} {v : V} {X : Hp}, Same X H2 → ObjE A.ec X e v → ObjE A.ec (upd H2 l (.lst (os ++ [v]))) e v := fun sx hx => objE_upd h2 (hx.same sx)
        refine ⟨ws.length - r.length, es ++ [e], os ++ [v], _, pa.1, rfl, pa.2.1, kx, upd_same, by rw [List.length_append, List.length_singleton]; omega, allE_snoc_upd h2 (ha.same s2) ho, ?_⟩
        rw [pa.2.2, ← hp]
        cases q : parseAll r.length r with
        | none => rfl
        | some fs => show some ((es ++ [e]) ++ fs) = some (es ++ (e :: fs)); rw [List.append_assoc]; rfl
    · rw [p] at hp
      exact q2 hp.symm H2 (s1.trans s2)
  · have ei : i = ws.length := by omega
    subst ei
    rw [List.drop_length] at hp
    have hp' : some es = parseAll ws.length ws := by
      rw [← hp]; show _ = some (es ++ []); rw [List.append_nil]
    exact ⟨_, rfl, q1 es hp'.symm l H1 os s1 hl h1 ha⟩

end
end K24
namespace K24
open PySem L2 TL
section
variable {P : Program} {w : World} {K : PySem.W.Frag} {mg : Str → Option Value} {base : Heap} {A : Ads}
theorem ok_Row_init (T : Txt K mg A) : FnOk P w K mg base CX0 1 A.Row_init A.Row_init_d ["self", "number"] (spRowInit K) := by
  refine T.F_Row_init.ok sc_Row_init (fun vs H Q E h => ?_) (fun cdv A0 outer s H vs Q E hr h => ?_)
  · obtain ⟨p, C, dx, n, rfl, hp, hC, hN, q⟩ := h
    rfl
  obtain ⟨p, C, dx, n, rfl, hp, hC, hN, q⟩ := h
  refine ⟨_, (pss_one (ps_fld (pv 0) (pv 1) rfl)), ?_⟩
  exact ⟨_, rfl, _, rfl, p, C, dx, [], rfl, hp, hC, hN, (by show 0 < 1000; decide), q⟩

theorem ok_Set_init (T : Txt K mg A) : FnOk P w K mg base CX0 3 A.Set_init A.Set_init_d ["self", "number", "box", "expr"] (spRI A.Set ["number", "box", "expr"]) := by
  have G_Row_init := ok_Row_init (P := P) (w := w) (base := base) T
  refine T.F_Set_init.ok sc_Set_init (fun vs H Q E h => ?_) (fun cdv A0 outer s H vs Q E hr h => ?_)
  · obtain ⟨p, dx, xs, rfl, hl, hp, q⟩ := h
    exact congrArg (· + 1) hl
  obtain ⟨p, dx, xs, rfl, hl, hp, q⟩ := h
  refine ⟨_, (pss_cons (ps_expr (pe_cfn (pe_glob (v := .ref A.Row) (by rfl) T.m_Row rfl) T.cf_Row_init G_Row_init (hr.mono (by decide)) T.b_Row_init .nil pass0 (pa_cons (pv 0) (pa_cons (pv 1) pa_nil))))
   (pss_cons (ps_fld (pv 0) (pv 2) rfl)
   (pss_one (ps_fld (pv 0) (pv 3) rfl)))), ?_⟩
  obtain ⟨x0, x1, x2, rfl⟩ : ∃ x0 x1 x2, xs = [x0, x1, x2] := by
    match xs, hl with
    | [x0, x1, x2], _ => exact ⟨x0, x1, x2, rfl⟩
  refine ⟨rfl, _, rfl, _, rfl, p, A.Set, dx, x0, rfl, hp, T.cl_Set, T.n_Set_number, ?_⟩
  refine ⟨_, rfl, _, rfl, p, A.Set, dx, _, rfl, upd_same, T.cl_Set, T.n_Set_box, (by show 1 < 1000; decide), ?_⟩
  refine ⟨_, rfl, _, rfl, p, A.Set, dx, _, rfl, upd_same, T.cl_Set, T.n_Set_expr, (by show 2 < 1000; decide), ?_⟩
  rw [upd_upd, upd_upd]
  exact q

theorem ok_Put_init (T : Txt K mg A) : FnOk P w K mg base CX0 3 A.Put_init A.Put_init_d ["self", "number", "first", "second"] (spRI A.Put ["number", "first", "second"]) := by
  have G_Row_init := ok_Row_init (P := P) (w := w) (base := base) T
  refine T.F_Put_init.ok sc_Put_init (fun vs H Q E h => ?_) (fun cdv A0 outer s H vs Q E hr h => ?_)
  · obtain ⟨p, dx, xs, rfl, hl, hp, q⟩ := h
    exact congrArg (· + 1) hl
  obtain ⟨p, dx, xs, rfl, hl, hp, q⟩ := h
  refine ⟨_, (pss_cons (ps_expr (pe_cfn (pe_glob (v := .ref A.Row) (by rfl) T.m_Row rfl) T.cf_Row_init G_Row_init (hr.mono (by decide)) T.b_Row_init .nil pass0 (pa_cons (pv 0) (pa_cons (pv 1) pa_nil))))
   (pss_cons (ps_fld (pv 0) (pv 2) rfl)
   (pss_one (ps_fld (pv 0) (pv 3) rfl)))), ?_⟩
  obtain ⟨x0, x1, x2, rfl⟩ : ∃ x0 x1 x2, xs = [x0, x1, x2] := by
    match xs, hl with
    | [x0, x1, x2], _ => exact ⟨x0, x1, x2, rfl⟩
  refine ⟨rfl, _, rfl, _, rfl, p, A.Put, dx, x0, rfl, hp, T.cl_Put, T.n_Put_number, ?_⟩
  refine ⟨_, rfl, _, rfl, p, A.Put, dx, _, rfl, upd_same, T.cl_Put, T.n_Put_first, (by show 1 < 1000; decide), ?_⟩
  refine ⟨_, rfl, _, rfl, p, A.Put, dx, _, rfl, upd_same, T.cl_Put, T.n_Put_second, (by show 2 < 1000; decide), ?_⟩
  rw [upd_upd, upd_upd]
  exact q

theorem ok_Ask_init (T : Txt K mg A) : FnOk P w K mg base CX0 3 A.Ask_init A.Ask_init_d ["self", "number", "box", "word", "expr"] (spRI A.Ask ["number", "box", "word", "expr"]) := by
  have G_Row_init := ok_Row_init (P := P) (w := w) (base := base) T
  refine T.F_Ask_init.ok sc_Ask_init (fun vs H Q E h => ?_) (fun cdv A0 outer s H vs Q E hr h => ?_)
  · obtain ⟨p, dx, xs, rfl, hl, hp, q⟩ := h
    exact congrArg (· + 1) hl
  obtain ⟨p, dx, xs, rfl, hl, hp, q⟩ := h
  refine ⟨_, (pss_cons (ps_expr (pe_cfn (pe_glob (v := .ref A.Row) (by rfl) T.m_Row rfl) T.cf_Row_init G_Row_init (hr.mono (by decide)) T.b_Row_init .nil pass0 (pa_cons (pv 0) (pa_cons (pv 1) pa_nil))))
   (pss_cons (ps_fld (pv 0) (pv 2) rfl)
   (pss_cons (ps_fld (pv 0) (pv 3) rfl)
   (pss_one (ps_fld (pv 0) (pv 4) rfl))))), ?_⟩
  obtain ⟨x0, x1, x2, x3, rfl⟩ : ∃ x0 x1 x2 x3, xs = [x0, x1, x2, x3] := by
    match xs, hl with
    | [x0, x1, x2, x3], _ => exact ⟨x0, x1, x2, x3, rfl⟩
  refine ⟨rfl, _, rfl, _, rfl, p, A.Ask, dx, x0, rfl, hp, T.cl_Ask, T.n_Ask_number, ?_⟩
  refine ⟨_, rfl, _, rfl, p, A.Ask, dx, _, rfl, upd_same, T.cl_Ask, T.n_Ask_box, (by show 1 < 1000; decide), ?_⟩
  refine ⟨_, rfl, _, rfl, p, A.Ask, dx, _, rfl, upd_same, T.cl_Ask, T.n_Ask_word, (by show 2 < 1000; decide), ?_⟩
  refine ⟨_, rfl, _, rfl, p, A.Ask, dx, _, rfl, upd_same, T.cl_Ask, T.n_Ask_expr, (by show 3 < 1000; decide), ?_⟩
  rw [upd_upd, upd_upd, upd_upd]
  exact q

theorem ok_Draw_init (T : Txt K mg A) : FnOk P w K mg base CX0 3 A.Draw_init A.Draw_init_d ["self", "number", "box", "word"] (spRI A.Draw ["number", "box", "word"]) := by
  have G_Row_init := ok_Row_init (P := P) (w := w) (base := base) T
  refine T.F_Draw_init.ok sc_Draw_init (fun vs H Q E h => ?_) (fun cdv A0 outer s H vs Q E hr h => ?_)
  · obtain ⟨p, dx, xs, rfl, hl, hp, q⟩ := h
    exact congrArg (· + 1) hl
  obtain ⟨p, dx, xs, rfl, hl, hp, q⟩ := h
  refine ⟨_, (pss_cons (ps_expr (pe_cfn (pe_glob (v := .ref A.Row) (by rfl) T.m_Row rfl) T.cf_Row_init G_Row_init (hr.mono (by decide)) T.b_Row_init .nil pass0 (pa_cons (pv 0) (pa_cons (pv 1) pa_nil))))
   (pss_cons (ps_fld (pv 0) (pv 2) rfl)
   (pss_one (ps_fld (pv 0) (pv 3) rfl)))), ?_⟩
  obtain ⟨x0, x1, x2, rfl⟩ : ∃ x0 x1 x2, xs = [x0, x1, x2] := by
    match xs, hl with
    | [x0, x1, x2], _ => exact ⟨x0, x1, x2, rfl⟩
  refine ⟨rfl, _, rfl, _, rfl, p, A.Draw, dx, x0, rfl, hp, T.cl_Draw, T.n_Draw_number, ?_⟩
  refine ⟨_, rfl, _, rfl, p, A.Draw, dx, _, rfl, upd_same, T.cl_Draw, T.n_Draw_box, (by show 1 < 1000; decide), ?_⟩
  refine ⟨_, rfl, _, rfl, p, A.Draw, dx, _, rfl, upd_same, T.cl_Draw, T.n_Draw_word, (by show 2 < 1000; decide), ?_⟩
  rw [upd_upd, upd_upd]
  exact q

theorem ok_Tell_init (T : Txt K mg A) : FnOk P w K mg base CX0 3 A.Tell_init A.Tell_init_d ["self", "number", "expr"] (spRI A.Tell ["number", "expr"]) := by
  have G_Row_init := ok_Row_init (P := P) (w := w) (base := base) T
  refine T.F_Tell_init.ok sc_Tell_init (fun vs H Q E h => ?_) (fun cdv A0 outer s H vs Q E hr h => ?_)
  · obtain ⟨p, dx, xs, rfl, hl, hp, q⟩ := h
    exact congrArg (· + 1) hl
  obtain ⟨p, dx, xs, rfl, hl, hp, q⟩ := h
  refine ⟨_, (pss_cons (ps_expr (pe_cfn (pe_glob (v := .ref A.Row) (by rfl) T.m_Row rfl) T.cf_Row_init G_Row_init (hr.mono (by decide)) T.b_Row_init .nil pass0 (pa_cons (pv 0) (pa_cons (pv 1) pa_nil))))
   (pss_one (ps_fld (pv 0) (pv 2) rfl))), ?_⟩
  obtain ⟨x0, x1, rfl⟩ : ∃ x0 x1, xs = [x0, x1] := by
    match xs, hl with
    | [x0, x1], _ => exact ⟨x0, x1, rfl⟩
  refine ⟨rfl, _, rfl, _, rfl, p, A.Tell, dx, x0, rfl, hp, T.cl_Tell, T.n_Tell_number, ?_⟩
  refine ⟨_, rfl, _, rfl, p, A.Tell, dx, _, rfl, upd_same, T.cl_Tell, T.n_Tell_expr, (by show 1 < 1000; decide), ?_⟩
  rw [upd_upd]
  exact q

theorem ok_Choice_init (T : Txt K mg A) : FnOk P w K mg base CX0 3 A.Choice_init A.Choice_init_d ["self", "number", "test", "first", "second"] (spRI A.Choice ["number", "test", "first", "second"]) := by
  have G_Row_init := ok_Row_init (P := P) (w := w) (base := base) T
  refine T.F_Choice_init.ok sc_Choice_init (fun vs H Q E h => ?_) (fun cdv A0 outer s H vs Q E hr h => ?_)
  · obtain ⟨p, dx, xs, rfl, hl, hp, q⟩ := h
    exact congrArg (· + 1) hl
  obtain ⟨p, dx, xs, rfl, hl, hp, q⟩ := h
  refine ⟨_, (pss_cons (ps_expr (pe_cfn (pe_glob (v := .ref A.Row) (by rfl) T.m_Row rfl) T.cf_Row_init G_Row_init (hr.mono (by decide)) T.b_Row_init .nil pass0 (pa_cons (pv 0) (pa_cons (pv 1) pa_nil))))
   (pss_cons (ps_fld (pv 0) (pv 2) rfl)
   (pss_cons (ps_fld (pv 0) (pv 3) rfl)
   (pss_one (ps_fld (pv 0) (pv 4) rfl))))), ?_⟩
  obtain ⟨x0, x1, x2, x3, rfl⟩ : ∃ x0 x1 x2 x3, xs = [x0, x1, x2, x3] := by
    match xs, hl with
    | [x0, x1, x2, x3], _ => exact ⟨x0, x1, x2, x3, rfl⟩
  refine ⟨rfl, _, rfl, _, rfl, p, A.Choice, dx, x0, rfl, hp, T.cl_Choice, T.n_Choice_number, ?_⟩
  refine ⟨_, rfl, _, rfl, p, A.Choice, dx, _, rfl, upd_same, T.cl_Choice, T.n_Choice_test, (by show 1 < 1000; decide), ?_⟩
  refine ⟨_, rfl, _, rfl, p, A.Choice, dx, _, rfl, upd_same, T.cl_Choice, T.n_Choice_first, (by show 2 < 1000; decide), ?_⟩
  refine ⟨_, rfl, _, rfl, p, A.Choice, dx, _, rfl, upd_same, T.cl_Choice, T.n_Choice_second, (by show 3 < 1000; decide), ?_⟩
  rw [upd_upd, upd_upd, upd_upd]
  exact q

theorem ok_Loop_init (T : Txt K mg A) : FnOk P w K mg base CX0 3 A.Loop_init A.Loop_init_d ["self", "number", "test", "body"] (spRI A.Loop ["number", "test", "body"]) := by
  have G_Row_init := ok_Row_init (P := P) (w := w) (base := base) T
  refine T.F_Loop_init.ok sc_Loop_init (fun vs H Q E h => ?_) (fun cdv A0 outer s H vs Q E hr h => ?_)
  · obtain ⟨p, dx, xs, rfl, hl, hp, q⟩ := h
    exact congrArg (· + 1) hl
  obtain ⟨p, dx, xs, rfl, hl, hp, q⟩ := h
  refine ⟨_, (pss_cons (ps_expr (pe_cfn (pe_glob (v := .ref A.Row) (by rfl) T.m_Row rfl) T.cf_Row_init G_Row_init (hr.mono (by decide)) T.b_Row_init .nil pass0 (pa_cons (pv 0) (pa_cons (pv 1) pa_nil))))
   (pss_cons (ps_fld (pv 0) (pv 2) rfl)
   (pss_one (ps_fld (pv 0) (pv 3) rfl)))), ?_⟩
  obtain ⟨x0, x1, x2, rfl⟩ : ∃ x0 x1 x2, xs = [x0, x1, x2] := by
    match xs, hl with
    | [x0, x1, x2], _ => exact ⟨x0, x1, x2, rfl⟩
  refine ⟨rfl, _, rfl, _, rfl, p, A.Loop, dx, x0, rfl, hp, T.cl_Loop, T.n_Loop_number, ?_⟩
  refine ⟨_, rfl, _, rfl, p, A.Loop, dx, _, rfl, upd_same, T.cl_Loop, T.n_Loop_test, (by show 1 < 1000; decide), ?_⟩
  refine ⟨_, rfl, _, rfl, p, A.Loop, dx, _, rfl, upd_same, T.cl_Loop, T.n_Loop_body, (by show 2 < 1000; decide), ?_⟩
  rw [upd_upd, upd_upd]
  exact q

theorem ok_Call_init (T : Txt K mg A) : FnOk P w K mg base CX0 3 A.Call_init A.Call_init_d ["self", "number", "box", "fun", "given"] (spRI A.Call ["number", "box", "fun", "given"]) := by
  have G_Row_init := ok_Row_init (P := P) (w := w) (base := base) T
  refine T.F_Call_init.ok sc_Call_init (fun vs H Q E h => ?_) (fun cdv A0 outer s H vs Q E hr h => ?_)
  · obtain ⟨p, dx, xs, rfl, hl, hp, q⟩ := h
    exact congrArg (· + 1) hl
  obtain ⟨p, dx, xs, rfl, hl, hp, q⟩ := h
  refine ⟨_, (pss_cons (ps_expr (pe_cfn (pe_glob (v := .ref A.Row) (by rfl) T.m_Row rfl) T.cf_Row_init G_Row_init (hr.mono (by decide)) T.b_Row_init .nil pass0 (pa_cons (pv 0) (pa_cons (pv 1) pa_nil))))
   (pss_cons (ps_fld (pv 0) (pv 2) rfl)
   (pss_cons (ps_fld (pv 0) (pv 3) rfl)
   (pss_one (ps_fld (pv 0) (pv 4) rfl))))), ?_⟩
  obtain ⟨x0, x1, x2, x3, rfl⟩ : ∃ x0 x1 x2 x3, xs = [x0, x1, x2, x3] := by
    match xs, hl with
    | [x0, x1, x2, x3], _ => exact ⟨x0, x1, x2, x3, rfl⟩
  refine ⟨rfl, _, rfl, _, rfl, p, A.Call, dx, x0, rfl, hp, T.cl_Call, T.n_Call_number, ?_⟩
  refine ⟨_, rfl, _, rfl, p, A.Call, dx, _, rfl, upd_same, T.cl_Call, T.n_Call_box, (by show 1 < 1000; decide), ?_⟩
  refine ⟨_, rfl, _, rfl, p, A.Call, dx, _, rfl, upd_same, T.cl_Call, T.n_Call_fun, (by show 2 < 1000; decide), ?_⟩
  refine ⟨_, rfl, _, rfl, p, A.Call, dx, _, rfl, upd_same, T.cl_Call, T.n_Call_given, (by show 3 < 1000; decide), ?_⟩
  rw [upd_upd, upd_upd, upd_upd]
  exact q

theorem ok_Give_init (T : Txt K mg A) : FnOk P w K mg base CX0 3 A.Give_init A.Give_init_d ["self", "number", "expr"] (spRI A.Give ["number", "expr"]) := by
  have G_Row_init := ok_Row_init (P := P) (w := w) (base := base) T
  refine T.F_Give_init.ok sc_Give_init (fun vs H Q E h => ?_) (fun cdv A0 outer s H vs Q E hr h => ?_)
  · obtain ⟨p, dx, xs, rfl, hl, hp, q⟩ := h
    exact congrArg (· + 1) hl
  obtain ⟨p, dx, xs, rfl, hl, hp, q⟩ := h
  refine ⟨_, (pss_cons (ps_expr (pe_cfn (pe_glob (v := .ref A.Row) (by rfl) T.m_Row rfl) T.cf_Row_init G_Row_init (hr.mono (by decide)) T.b_Row_init .nil pass0 (pa_cons (pv 0) (pa_cons (pv 1) pa_nil))))
   (pss_one (ps_fld (pv 0) (pv 2) rfl))), ?_⟩
  obtain ⟨x0, x1, rfl⟩ : ∃ x0 x1, xs = [x0, x1] := by
    match xs, hl with
    | [x0, x1], _ => exact ⟨x0, x1, rfl⟩
  refine ⟨rfl, _, rfl, _, rfl, p, A.Give, dx, x0, rfl, hp, T.cl_Give, T.n_Give_number, ?_⟩
  refine ⟨_, rfl, _, rfl, p, A.Give, dx, _, rfl, upd_same, T.cl_Give, T.n_Give_expr, (by show 1 < 1000; decide), ?_⟩
  rw [upd_upd]
  exact q

end
end K24
namespace K24
open PySem L2 TL
section
variable {P : Program} {w : World} {K : PySem.W.Frag} {mg : Str → Option Value} {base : Heap} {A : Ads}
theorem ok_check_names (T : Txt K mg A) : FnOk P w K mg base (L2.CX P w) 2 A.check_names A.check_names_d ["words", "many"] (spNames K A.NoProgram) := by
  have G_is_name := ok_is_name (P := P) (w := w) (base := base) T
  refine T.F_check_names.okX sc_check_names (fun vs H Q E h => ?_) (fun cdv A0 outer s H vs Q E hr h => ?_)
  · obtain ⟨l, ws, k, rfl, hS, hsm, q1, q2⟩ := h
    rfl
  obtain ⟨l, ws, k, rfl, hS, hsm, q1, q2⟩ := h
  refine ⟨_, (pss_one (ps_if (PW.pt (pw_or (pt_cmpR op_ne (pe_callB call_lenK (by rfl) T.z_len (by decide +kernel) (pa_cons (pv 0) pa_nil)) (pv 1) (nomark _)) (pw_or1 (pt_not (pt_val (pe_callB (cr_all rfl) (by rfl) T.z_all (by decide +kernel) (pa_cons (pe_lc (own := [("word", 2)]) (g := gName 2) (tt := tYes) rfl sc_check_names.nd (pi_list (pv 0)) (blkOk_by (own := [("word", 2)]) (N := N_check_names) (sc := defScope s_check_names) (by decide +kernel)) (fun _ _ _ _ _ => pg_name (i := 2) sc_check_names.nd rfl (Or.inl rfl)) (fun _ _ _ _ _ => pts_nil) (fun _ _ _ _ _ => (pe_call G_is_name (hr.mono (by decide)) rfl T.m_is_name T.F_is_name.kp T.b_is_name .nil pass0 (pa_cons (pv 2) pa_nil)))) pa_nil)))))))
    (pss_one (ps_raise rfl (takes_of rfl rfl rfl rfl) (pmk_own PySem.F.excBase_ValueError T.x_NoProgram T.m_NoProgram T.kk_NoProgram (raises_own T.bb_NoProgram T.tt_NoProgram) (by exact rfl))))
    pss_nil)), ?_⟩
  refine ⟨_, rfl, l, _, rfl, .inl hS, _, rfl, rfl, _, rfl, iteN2 (fun c1 => ?_) (fun c1 => ?_)⟩
  · refine q2 ?_ H (Same.refl H)
    unfold namesOk
    rw [decide_eq_false (fun e => c1 (by rw [List.length_map, e])), Bool.false_and]
  · have hk : ws.length = k := by
      have := V.int.inj c1
      rw [List.length_map] at this
      omega
    refine ⟨_, rfl, l, rfl, ⟨_, hS⟩, fun D hD => lc_mapA ws V.str (fun w => V.bl (isNameW w)) (Str.ofString "") walk_list hD (by have := hsm.1; omega) (by show 2 < 3; decide) (fun H' s' => s'.seq hS) ?_ ?_⟩
    · intro s hs H' Z s' z
      exact ⟨_, rfl, s, rfl, hsm.2 s hs, z⟩
    · intro H' s' hD'
      refine ⟨D, ws.map isNameW, rfl, SqL.of (by rw [hD', List.map_map]; rfl), _, rfl, ?_⟩
      have e : (ws.map isNameW).all id = ws.all isNameW := by rw [List.all_map]; rfl
      rw [e]
      cases ha : ws.all isNameW with
      | true => exact iteF (q1 (by unfold namesOk; rw [ha, decide_eq_true hk]; rfl) H' s')
      | false => exact iteT (q2 (by unfold namesOk; rw [ha, Bool.and_false]) H' s')

end
end K24
namespace K24
open PySem L2 TL
section
variable {P : Program} {w : World} {K : PySem.W.Frag} {mg : Str → Option Value} {base : Heap} {A : Ads}
theorem ok_only (T : Txt K mg A) : FnOk P w K mg base (L2.CX P w) 1 A.only A.only_d ["found"] (spOnly A.NoProgram) := by
  refine T.F_only.okX sc_only (fun vs H Q E h => ?_) (fun cdv A0 outer s H vs Q E hr h => ?_)
  · obtain ⟨l, os, rfl, hl, q1, q2⟩ := h
    rfl
  obtain ⟨l, os, rfl, hl, q1, q2⟩ := h
  refine ⟨_, (pss_cons (ps_if (pt_cmpR op_ne (pe_callB call_lenK (by rfl) T.z_len (by decide +kernel) (pa_cons (pv 0) pa_nil)) pe_int (nomark _))
    (pss_one (ps_raise rfl (takes_of rfl rfl rfl rfl) (pmk_own PySem.F.excBase_ValueError T.x_NoProgram T.m_NoProgram T.kk_NoProgram (raises_own T.bb_NoProgram T.tt_NoProgram) (by exact rfl))))
    pss_nil)
   (pss_one (ps_ret (pe_ix ix_list (pv 0) pe_int (fun _ _ => rfl))))), ?_⟩
  refine ⟨_, rfl, l, _, rfl, .inl (SqL.of hl), rfl, _, rfl, iteN2 (fun c1 => ?_) (fun c1 => ?_)⟩
  · exact q2 fun e => c1 (by rw [e]; rfl)
  · have c1 := V.int.inj c1
    obtain ⟨v, rfl⟩ : ∃ v, os = [v] := by
      match os, c1 with
      | [v], _ => exact ⟨v, rfl⟩
      | [], h => exact absurd h (by decide)
      | _ :: _ :: r, h => simp only [List.length_cons] at h; omega
    exact ⟨_, rfl, l, _, _, _, rfl, rfl, SqL.of hl, rfl, q1 v rfl⟩

end
end K24
namespace K24
open PySem L2 TL
section
variable {P : Program} {w : World} {K : PySem.W.Frag} {mg : Str → Option Value} {base : Heap} {A : Ads}
theorem ok_simple_row (T : Txt K mg A) : FnOk P w K mg base (L2.CX P w) 12 A.simple_row A.simple_row_d ["number", "words"] (spSimple K A.rc A.ec A.NoProgram) := by
  have G_check_names := ok_check_names (P := P) (w := w) (base := base) T
  have G_Set_init := ok_Set_init (P := P) (w := w) (base := base) T
  have G_only := ok_only (P := P) (w := w) (base := base) T
  have G_exprs_of := ok_exprs_of (P := P) (w := w) (base := base) T
  have G_Put_init := ok_Put_init (P := P) (w := w) (base := base) T
  have G_Ask_init := ok_Ask_init (P := P) (w := w) (base := base) T
  have G_Draw_init := ok_Draw_init (P := P) (w := w) (base := base) T
  have G_Tell_init := ok_Tell_init (P := P) (w := w) (base := base) T
  have G_Row_init := ok_Row_init (P := P) (w := w) (base := base) T
  refine T.F_simple_row.okX sc_simple_row (fun vs H Q E h => ?_) (fun cdv A0 outer s H vs Q E hr h => ?_)
  · obtain ⟨num, w, ws, rfl, hS, hne, hsm, hsc, q1, q2⟩ := h
    rfl
  obtain ⟨num, w, ws, rfl, hS, hne, hsm, hsc, q1, q2⟩ := h
  refine ⟨_, (pss_cons (ps_if (pt_cmpR op_eq (pe_ix ix_list (pv 1) pe_int (fun _ _ => rfl)) pe_str (nomark _))
    (pss_cons (ps_expr (pe_call G_check_names (hr.mono (by decide)) rfl T.m_check_names T.F_check_names.kp T.b_check_names .nil (passes_call (takes_of rfl rfl rfl rfl) (fun _ _ _ _ h => h)) (pa_cons (pe_slice sl_list (pv 1) (po_some pe_int) (po_some pe_int)) (pa_cons pe_int pa_nil))))
   (pss_one (ps_ret (pe_make T.k_Set G_Set_init (hr.mono (by decide)) rfl T.m_Set T.b_Set_init .nil pass0 (pa_cons (pv 0) (pa_cons (pe_ix ix_list (pv 1) pe_int (fun _ _ => rfl)) (pa_cons (pe_call G_only (hr.mono (by decide)) rfl T.m_only T.F_only.kp T.b_only .nil (passes_call (takes_of rfl rfl rfl rfl) (fun _ _ _ _ h => h)) (pa_cons (pe_call G_exprs_of (hr.mono (by decide)) rfl T.m_exprs_of T.F_exprs_of.kp T.b_exprs_of .nil (passes_call (takes_of rfl rfl rfl rfl) (fun _ _ _ _ h => h)) (pa_cons (pe_slice sl_list (pv 1) (po_some pe_int) po_none) pa_nil)) pa_nil)) pa_nil)))))))
    pss_nil)
   (pss_cons (ps_if (pt_cmpR op_eq (pe_ix ix_list (pv 1) pe_int (fun _ _ => rfl)) pe_str (nomark _))
    (pss_cons (ps_set (i := 2) sc_simple_row.nd rfl (Or.inl rfl) (pe_call G_exprs_of (hr.mono (by decide)) rfl T.m_exprs_of T.F_exprs_of.kp T.b_exprs_of .nil (passes_call (takes_of rfl rfl rfl rfl) (fun _ _ _ _ h => h)) (pa_cons (pe_slice sl_list (pv 1) (po_some pe_int) po_none) pa_nil)))
   (pss_cons (ps_if (pt_cmpR op_ne (pe_callB call_lenK (by rfl) T.z_len (by decide +kernel) (pa_cons (pv 2) pa_nil)) pe_int (nomark _))
    (pss_one (ps_raise rfl (takes_of rfl rfl rfl rfl) (pmk_own PySem.F.excBase_ValueError T.x_NoProgram T.m_NoProgram T.kk_NoProgram (raises_own T.bb_NoProgram T.tt_NoProgram) (by exact rfl))))
    pss_nil)
   (pss_one (ps_ret (pe_make T.k_Put G_Put_init (hr.mono (by decide)) rfl T.m_Put T.b_Put_init .nil pass0 (pa_cons (pv 0) (pa_cons (pe_ix ix_list (pv 2) pe_int (fun _ _ => rfl)) (pa_cons (pe_ix ix_list (pv 2) pe_int (fun _ _ => rfl)) pa_nil))))))))
    pss_nil)
   (pss_cons (ps_if (pt_cmpR op_eq (pe_ix ix_list (pv 1) pe_int (fun _ _ => rfl)) pe_str (nomark _))
    (pss_cons (ps_expr (pe_call G_check_names (hr.mono (by decide)) rfl T.m_check_names T.F_check_names.kp T.b_check_names .nil (passes_call (takes_of rfl rfl rfl rfl) (fun _ _ _ _ h => h)) (pa_cons (pe_slice sl_list (pv 1) (po_some pe_int) (po_some pe_int)) (pa_cons pe_int pa_nil))))
   (pss_one (ps_ret (pe_make T.k_Ask G_Ask_init (hr.mono (by decide)) rfl T.m_Ask T.b_Ask_init .nil pass0 (pa_cons (pv 0) (pa_cons (pe_ix ix_list (pv 1) pe_int (fun _ _ => rfl)) (pa_cons (pe_ix ix_list (pv 1) pe_int (fun _ _ => rfl)) (pa_cons (pe_call G_only (hr.mono (by decide)) rfl T.m_only T.F_only.kp T.b_only .nil (passes_call (takes_of rfl rfl rfl rfl) (fun _ _ _ _ h => h)) (pa_cons (pe_call G_exprs_of (hr.mono (by decide)) rfl T.m_exprs_of T.F_exprs_of.kp T.b_exprs_of .nil (passes_call (takes_of rfl rfl rfl rfl) (fun _ _ _ _ h => h)) (pa_cons (pe_slice sl_list (pv 1) (po_some pe_int) po_none) pa_nil)) pa_nil)) pa_nil))))))))
    pss_nil)
   (pss_cons (ps_if (pt_cmpR op_eq (pe_ix ix_list (pv 1) pe_int (fun _ _ => rfl)) pe_str (nomark _))
    (pss_cons (ps_expr (pe_call G_check_names (hr.mono (by decide)) rfl T.m_check_names T.F_check_names.kp T.b_check_names .nil (passes_call (takes_of rfl rfl rfl rfl) (fun _ _ _ _ h => h)) (pa_cons (pe_slice sl_list (pv 1) (po_some pe_int) po_none) (pa_cons pe_int pa_nil))))
   (pss_one (ps_ret (pe_make T.k_Draw G_Draw_init (hr.mono (by decide)) rfl T.m_Draw T.b_Draw_init .nil pass0 (pa_cons (pv 0) (pa_cons (pe_ix ix_list (pv 1) pe_int (fun _ _ => rfl)) (pa_cons (pe_ix ix_list (pv 1) pe_int (fun _ _ => rfl)) pa_nil)))))))
    pss_nil)
   (pss_cons (ps_if (pt_cmpR op_eq (pe_ix ix_list (pv 1) pe_int (fun _ _ => rfl)) pe_str (nomark _))
    (pss_one (ps_ret (pe_make T.k_Tell G_Tell_init (hr.mono (by decide)) rfl T.m_Tell T.b_Tell_init .nil pass0 (pa_cons (pv 0) (pa_cons (pe_call G_only (hr.mono (by decide)) rfl T.m_only T.F_only.kp T.b_only .nil (passes_call (takes_of rfl rfl rfl rfl) (fun _ _ _ _ h => h)) (pa_cons (pe_call G_exprs_of (hr.mono (by decide)) rfl T.m_exprs_of T.F_exprs_of.kp T.b_exprs_of .nil (passes_call (takes_of rfl rfl rfl rfl) (fun _ _ _ _ h => h)) (pa_cons (pe_slice sl_list (pv 1) (po_some pe_int) po_none) pa_nil)) pa_nil)) pa_nil)))))
    pss_nil)
   (pss_cons (ps_if (pt_cmpR (op_neD hr.units) (pv 1) (pe_lst (pa_cons pe_str pa_nil)) (nomark _))
    (pss_one (ps_raise rfl (takes_of rfl rfl rfl rfl) (pmk_own PySem.F.excBase_ValueError T.x_NoProgram T.m_NoProgram T.kk_NoProgram (raises_own T.bb_NoProgram T.tt_NoProgram) (by exact rfl))))
    pss_nil)
   (pss_one (ps_ret (pe_make T.k_Skip G_Row_init (hr.mono (by decide)) rfl T.m_Skip T.b_Row_init .nil pass0 (pa_cons (pv 0) pa_nil)))))))))), ?_⟩
  unfold simpleF at q1 q2

  refine ⟨_, rfl, w, _, _, _, rfl, rfl, hS, at_hd hne, rfl, _, rfl, iteD2 (fun c1 => ?_) (fun c1 => ?_)⟩
  · rw [if_pos (V.str.inj c1)] at q1 q2
    refine ⟨_, rfl, 1, rfl, 2, rfl, w, _, rfl, hS, fun l1 hl1 => ?_⟩
    rw [show ((1 : Int) = ((1 : Nat) : Int)) from rfl, show ((2 : Int) = ((2 : Nat) : Int)) from rfl, cut_mid]
    have s1 := same_new (o := .lst (((ws.drop 1).take (2 - 1)).map V.str)) hl1
    refine ⟨l1, (ws.drop 1).take 1, 1, rfl, SqL.of upd_same, (hsm.drop 1).take 1, fun ok H1 s2 => ?_, fun no H1 s2 => ?_⟩
    rotate_left
    · exact q2 (if_neg (by rw [no]; decide)) H1 (s1.trans s2)
    rw [if_pos ok] at q1 q2
    have hl2 : 1 < ws.length := by have := (names_len ok).1; rw [List.length_take, List.length_drop] at this; omega
    have s12 := s1.trans s2
    refine ⟨_, rfl, _, rfl, w, _, _, _, rfl, rfl, s12.seq hS, at_wd (i := 1) hl2, ?_⟩
    refine ⟨_, rfl, 2, rfl, w, _, rfl, s12.seq hS, fun l2 hl2 => ?_⟩
    rw [show ((2 : Int) = ((2 : Nat) : Int)) from rfl, cut_drop]
    have s3 := same_new (o := .lst ((ws.drop 2).map V.str)) hl2
    refine ⟨l2, ws.drop 2, rfl, SqL.of upd_same, (hsm.drop 2).1, (hsm.drop 2).2, fun es pe l3 H2 os s4 hn4 h4 ha => ?_, fun pe H2 s4 => ?_⟩
    · have s14 := s12.trans (s3.trans s4)
      have pe' : exL (ws.drop 2) = some es := pe
      rw [pe'] at q1 q2
      refine ⟨l3, os, rfl, h4, fun v hv => ?_, fun hn => ?_⟩
      · obtain ⟨e, rfl, ho⟩ := (allE_one ha).1 v hv
        refine fun x dx hx hdx _ => mk_row (xs := [_, _, _]) hx hdx rfl fun H3 s5 g5 => ?_
        exact q1 _ _ H3 rfl (s14.trans s5) fun M => ⟨x, dx, v, rfl, g5, ho.same s5⟩
      · rw [(allE_one ha).2 hn] at q2
        exact q2 rfl H2 s14
    · have pe' : exL (ws.drop 2) = none := pe
      rw [pe'] at q2
      exact q2 rfl H2 (s12.trans (s3.trans s4))
  rw [if_neg (fun e => c1 (congrArg V.str e))] at q1 q2

  refine ⟨_, rfl, w, _, _, _, rfl, rfl, hS, at_hd hne, rfl, _, rfl, iteD2 (fun c2 => ?_) (fun c2 => ?_)⟩
  · rw [if_pos (V.str.inj c2)] at q1 q2
    refine ⟨_, rfl, 1, rfl, w, _, rfl, hS, fun l2 hl2 => ?_⟩
    rw [show ((1 : Int) = ((1 : Nat) : Int)) from rfl, cut_drop]
    have s3 := same_new (o := .lst ((ws.drop 1).map V.str)) hl2
    refine ⟨l2, ws.drop 1, rfl, SqL.of upd_same, (hsm.drop 1).1, (hsm.drop 1).2, fun es pe l3 H2 os s4 hn4 h4 ha => ?_, fun pe H2 s4 => ?_⟩
    rotate_left
    · have pe' : exL (ws.drop 1) = none := pe
      rw [pe'] at q2
      exact q2 rfl H2 (s3.trans s4)
    have s34 := s3.trans s4
    have pe' : exL (ws.drop 1) = some es := pe
    rw [pe'] at q1 q2
    refine ⟨_, rfl, l3, _, rfl, .inl (SqL.of h4), rfl, _, rfl, iteN2 (fun d1 => ?_) (fun d1 => ?_)⟩
    · refine q2 ?_ H2 s34
      have hl := ha.length
      match es, hl with
      | [], _ => rfl
      | [_], _ => rfl
      | [_, _], h => exact absurd (by rw [← h]; rfl) d1
      | _ :: _ :: _ :: _, _ => rfl
    · have d1 := V.int.inj d1
      obtain ⟨a, b, x1, x2, rfl, rfl, o1, o2⟩ : ∃ a b x1 x2, es = [a, b] ∧ os = [x1, x2] ∧ ObjE A.ec H2 a x1 ∧ ObjE A.ec H2 b x2 := by
        cases ha with
        | nil => exact absurd d1 (by decide)
        | cons a1 r1 =>
          cases r1 with
          | nil => exact absurd d1 (by show ¬ (((1 : Nat) : Int) = 2); decide)
          | cons a2 r2 =>
            cases r2 with
            | nil => exact ⟨_, _, _, _, rfl, rfl, a1, a2⟩
            | cons a3 r3 => simp only [List.length_cons] at d1; omega
      refine ⟨_, rfl, _, rfl, l3, _, _, _, rfl, rfl, SqL.of h4, rfl, _, rfl, l3, _, _, _, rfl, rfl, SqL.of h4, rfl, fun x dx hx hdx _ => mk_row (xs := [_, _, _]) hx hdx rfl fun H3 s5 g5 => ?_⟩
      exact q1 _ _ H3 rfl (s34.trans s5) fun M => ⟨x, dx, x1, x2, rfl, g5, o1.same s5, o2.same s5⟩
  rw [if_neg (fun e => c2 (congrArg V.str e))] at q1 q2

  refine ⟨_, rfl, w, _, _, _, rfl, rfl, hS, at_hd hne, rfl, _, rfl, iteD2 (fun c3 => ?_) (fun c3 => ?_)⟩
  · rw [if_pos (V.str.inj c3)] at q1 q2
    refine ⟨_, rfl, 1, rfl, 3, rfl, w, _, rfl, hS, fun l1 hl1 => ?_⟩
    rw [show ((1 : Int) = ((1 : Nat) : Int)) from rfl, show ((3 : Int) = ((3 : Nat) : Int)) from rfl, cut_mid]
    have s1 := same_new (o := .lst (((ws.drop 1).take (3 - 1)).map V.str)) hl1
    refine ⟨l1, (ws.drop 1).take 2, 2, rfl, SqL.of upd_same, (hsm.drop 1).take 2, fun ok H1 s2 => ?_, fun no H1 s2 => ?_⟩
    rotate_left
    · exact q2 (if_neg (by rw [no]; decide)) H1 (s1.trans s2)
    rw [if_pos ok] at q1 q2
    have hl2 : 2 < ws.length := by have := (names_len ok).1; rw [List.length_take, List.length_drop] at this; omega
    have s12 := s1.trans s2
    refine ⟨_, rfl, _, rfl, w, _, _, _, rfl, rfl, s12.seq hS, at_wd (i := 1) (by omega), ?_⟩
    refine ⟨_, rfl, w, _, _, _, rfl, rfl, s12.seq hS, at_wd (i := 2) hl2, ?_⟩
    refine ⟨_, rfl, 3, rfl, w, _, rfl, s12.seq hS, fun l2 hl2 => ?_⟩
    rw [show ((3 : Int) = ((3 : Nat) : Int)) from rfl, cut_drop]
    have s3 := same_new (o := .lst ((ws.drop 3).map V.str)) hl2
    refine ⟨l2, ws.drop 3, rfl, SqL.of upd_same, (hsm.drop 3).1, (hsm.drop 3).2, fun es pe l3 H2 os s4 hn4 h4 ha => ?_, fun pe H2 s4 => ?_⟩
    · have s14 := s12.trans (s3.trans s4)
      have pe' : exL (ws.drop 3) = some es := pe
      rw [pe'] at q1 q2
      refine ⟨l3, os, rfl, h4, fun v hv => ?_, fun hn => ?_⟩
      · obtain ⟨e, rfl, ho⟩ := (allE_one ha).1 v hv
        refine fun x dx hx hdx _ => mk_row (xs := [_, _, _, _]) hx hdx rfl fun H3 s5 g5 => ?_
        exact q1 _ _ H3 rfl (s14.trans s5) fun M => ⟨x, dx, v, rfl, g5, ho.same s5⟩
      · rw [(allE_one ha).2 hn] at q2
        exact q2 rfl H2 s14
    · have pe' : exL (ws.drop 3) = none := pe
      rw [pe'] at q2
      exact q2 rfl H2 (s12.trans (s3.trans s4))
  rw [if_neg (fun e => c3 (congrArg V.str e))] at q1 q2

  refine ⟨_, rfl, w, _, _, _, rfl, rfl, hS, at_hd hne, rfl, _, rfl, iteD2 (fun c4 => ?_) (fun c4 => ?_)⟩
  · rw [if_pos (V.str.inj c4)] at q1 q2
    refine ⟨_, rfl, 1, rfl, w, _, rfl, hS, fun l1 hl1 => ?_⟩
    rw [show ((1 : Int) = ((1 : Nat) : Int)) from rfl, cut_drop]
    have s1 := same_new (o := .lst ((ws.drop 1).map V.str)) hl1
    refine ⟨l1, ws.drop 1, 2, rfl, SqL.of upd_same, hsm.drop 1, fun ok H1 s2 => ?_, fun no H1 s2 => ?_⟩
    rotate_left
    · exact q2 (if_neg (by rw [no]; decide)) H1 (s1.trans s2)
    rw [if_pos ok] at q1 q2
    have hl2 : 2 < ws.length := by have := (names_len ok).1; rw [List.length_drop] at this; omega
    have s12 := s1.trans s2
    refine ⟨_, rfl, _, rfl, w, _, _, _, rfl, rfl, s12.seq hS, at_wd (i := 1) (by omega), ?_⟩
    refine ⟨_, rfl, w, _, _, _, rfl, rfl, s12.seq hS, at_wd (i := 2) hl2, fun x dx hx hdx _ => mk_row (xs := [_, _, _]) hx hdx rfl fun H3 s5 g5 => ?_⟩
    exact q1 _ _ H3 rfl (s12.trans s5) fun M => ⟨x, dx, rfl, g5⟩
  rw [if_neg (fun e => c4 (congrArg V.str e))] at q1 q2

  refine ⟨_, rfl, w, _, _, _, rfl, rfl, hS, at_hd hne, rfl, _, rfl, iteD2 (fun c5 => ?_) (fun c5 => ?_)⟩
  · rw [if_pos (V.str.inj c5)] at q1 q2
    refine ⟨_, rfl, _, rfl, 1, rfl, w, _, rfl, hS, fun l2 hl2 => ?_⟩
    rw [show ((1 : Int) = ((1 : Nat) : Int)) from rfl, cut_drop]
    have s3 := same_new (o := .lst ((ws.drop 1).map V.str)) hl2
    refine ⟨l2, ws.drop 1, rfl, SqL.of upd_same, (hsm.drop 1).1, (hsm.drop 1).2, fun es pe l3 H2 os s4 hn4 h4 ha => ?_, fun pe H2 s4 => ?_⟩
    · have s14 := s3.trans s4
      have pe' : exL (ws.drop 1) = some es := pe
      rw [pe'] at q1 q2
      refine ⟨l3, os, rfl, h4, fun v hv => ?_, fun hn => ?_⟩
      · obtain ⟨e, rfl, ho⟩ := (allE_one ha).1 v hv
        refine fun x dx hx hdx _ => mk_row (xs := [_, _]) hx hdx rfl fun H3 s5 g5 => ?_
        exact q1 _ _ H3 rfl (s14.trans s5) fun M => ⟨x, dx, v, rfl, g5, ho.same s5⟩
      · rw [(allE_one ha).2 hn] at q2
        exact q2 rfl H2 s14
    · have pe' : exL (ws.drop 1) = none := pe
      rw [pe'] at q2
      exact q2 rfl H2 (s3.trans s4)
  rw [if_neg (fun e => c5 (congrArg V.str e))] at q1 q2

  refine ⟨_, rfl, by show 1 ≤ sizeLine; decide, fun l1 hl1 => ?_⟩
  have s1 := same_new (o := .lst [V.str "skip"]) hl1
  refine ⟨strsD ws, strsD [Str.ofString "skip"], .lst (s1.seq hS) (dp_strs ws), .lst (SqL.of upd_same) (dp_strs [Str.ofString "skip"]), strs_shaped hsc, strs_shaped (by unfold Codes; decide +kernel), _, rfl, ?_⟩
  rw [strs_eqv]
  refine iteN2 (fun c6 => ?_) (fun c6 => ?_)
  · exact q2 (if_neg c6) _ s1
  · rw [if_pos c6] at q1
    refine ⟨_, rfl, fun x dx hx hdx _ => ?_⟩
    refine ⟨x, A.Skip, dx, _, rfl, upd_same, T.cl_Skip, T.n_Skip_number, rfl, ?_⟩
    have s2 := made_same (o := .own x) (o1 := .ins A.Skip dx []) (o2 := .ins A.Skip dx [("number", .int (num : Int))]) hx hdx
    exact q1 _ _ _ rfl (s1.trans s2) fun M => ⟨x, dx, rfl, upd_same⟩

end
end K24
namespace K24
open PySem L2 TL
section
variable {P : Program} {w : World} {K : PySem.W.Frag} {mg : Str → Option Value} {base : Heap} {A : Ads}
theorem ok_Reader_head (T : Txt K mg A) : FnOk P w K mg base CX0 1 A.Reader_head A.Reader_head_d ["self"] (spHead K A.rc A.ec A.Reader) := by
  refine T.F_Reader_head.ok sc_Reader_head (fun vs H Q E h => ?_) (fun cdv A0 outer s H vs Q E hr h => ?_)
  · obtain ⟨X, st, rfl, hR, q⟩ := h
    rfl
  obtain ⟨X, st, rfl, hR, q⟩ := h
  refine ⟨_, (pss_cons (ps_if (pt_cmpR op_eq (pe_fld (pv 0) rfl) (pe_callB call_lenK (by rfl) T.z_len (by decide +kernel) (pa_cons (pe_fld (pv 0) rfl) pa_nil)) (nomark _))
    (pss_one (ps_ret pe_non))
    pss_nil)
   (pss_one (ps_ret (pe_ix ix_list (pe_split (pe_ix ix_list (pe_fld (pv 0) rfl) (pe_fld (pv 0) rfl) (fun _ _ => rfl)) pe_str) pe_int (fun _ _ => rfl))))), ?_⟩
  obtain ⟨dx, h1⟩ := hR.obj
  refine ⟨_, rfl, X.p, A.Reader, dx, _, _, rfl, h1, T.cl_Reader, T.n_Reader_at, rfl, _, rfl, X.p, A.Reader, dx, _, _, rfl, h1, T.cl_Reader, T.n_Reader_texts, rfl, X.a, _, rfl, .inl (SqL.of hR.txts), rfl, _, rfl, iteD2 (fun c1 => ?_) (fun c1 => ?_)⟩
  · have e : headV X.ts st.at_ = .non := by
      have c1 := V.int.inj c1
      rw [List.length_map] at c1
      unfold headV headAt
      rw [if_neg (by omega)]
    rw [e] at q
    exact q H (Same.refl H)
  · have hlt : st.at_ < X.ts.length := by
      have := hR.at_
      have c2 : ¬ ((st.at_ : Nat) : Int) = ((X.ts.length : Nat) : Int) := fun e => c1 (by rw [List.length_map, e])
      omega
    have e : headV X.ts st.at_ = .str (hd0 (wordsAt X.ts st.at_)) := by
      unfold headV headAt
      rw [if_pos hlt]
    rw [e] at q
    have hok := wordsAt_ok hR.sm.2 st.at_
    refine ⟨_, rfl, X.p, A.Reader, dx, _, _, rfl, h1, T.cl_Reader, T.n_Reader_texts, rfl, _, rfl, X.p, A.Reader, dx, _, _, rfl, h1, T.cl_Reader, T.n_Reader_at, rfl, X.a, _, _, _, rfl, rfl, (SqL.of hR.txts), at_wd hlt, ⟨_, rfl⟩, _, _, rfl, rfl, (by decide +kernel), ?_, fun l hl => ?_⟩
    · have : (wd X.ts st.at_).length ≤ 99999 := by
        unfold wd
        rw [List.getD_eq_getElem?_getD, List.getElem?_eq_getElem hlt]
        exact hR.sm.2 _ (List.getElem_mem hlt)
      exact sizeL2 (by omega)
    · refine ⟨l, (wordsAt X.ts st.at_).map V.str, _, _, rfl, rfl, SqL.of upd_same, at_hd hok.2, ?_⟩
      exact q _ (same_new hl)

end
end K24
namespace K24
open PySem L2 TL
section
variable {P : Program} {w : World} {K : PySem.W.Frag} {mg : Str → Option Value} {base : Heap} {A : Ads}
theorem ok_Reader_init (T : Txt K mg A) : FnOk P w K mg base CX0 1 A.Reader_init A.Reader_init_d ["self", "texts"] (spRdInit K A.rc A.ec A.Reader) := by
  refine T.F_Reader_init.ok sc_Reader_init (fun vs H Q E h => ?_) (fun cdv A0 outer s H vs Q E hr h => ?_)
  · obtain ⟨p, dx, a, ts, rfl, hp, hS, hl, ht, hcod, q⟩ := h
    rfl
  obtain ⟨p, dx, a, ts, rfl, hp, hS, hl, ht, hcod, q⟩ := h
  refine ⟨_, (pss_cons (ps_fld (pv 0) (pv 1) rfl)
   (pss_cons (ps_fld (pv 0) pe_int rfl)
   (pss_cons (ps_fld (pv 0) pe_dnewK rfl)
   (pss_one (ps_fld (pv 0) (pe_lst pa_nil) rfl))))), ?_⟩
  refine ⟨_, rfl, _, rfl, p, A.Reader, dx, [], rfl, hp, T.cl_Reader, T.n_Reader_texts, (by show 0 < 1000; decide), ?_⟩
  refine ⟨_, rfl, p, A.Reader, dx, _, rfl, upd_same, T.cl_Reader, T.n_Reader_at, (by show 1 < 1000; decide), ?_⟩
  rw [upd_upd]
  have f1 : KeepL [p] H (upd H p (.ins A.Reader dx [("texts", .ref a), ("at", .int 0)])) := fun z o n h => by rw [upd_ne (fun e => n (by rw [e]; exact List.mem_singleton.mpr rfl))]; exact h
  have g1 := upd_same (H := H) (a := p) (o := .ins A.Reader dx [("texts", .ref a), ("at", .int 0)])
  show ∀ d, _ → _
  intro d hd
  have ndp : d ≠ p := fun e => by rw [e, upd_same] at hd; cases hd
  have hd0 : H d = none := by rw [upd_ne ndp] at hd; exact hd
  have s2 := same_new (o := .dK []) hd
  refine ⟨_, rfl, p, A.Reader, dx, _, rfl, s2 _ _ g1, T.cl_Reader, T.n_Reader_by_number, (by show 2 < 1000; decide), ?_⟩
  refine ⟨by show 0 ≤ sizeLine; decide, fun cl hcl => ?_⟩
  have g2 : upd (upd (upd H p (.ins A.Reader dx [("texts", .ref a), ("at", .int 0)])) d (.dK [])) p (.ins A.Reader dx [("texts", .ref a), ("at", .int 0), ("by_number", .ref d)]) p = some (.ins A.Reader dx [("texts", .ref a), ("at", .int 0), ("by_number", .ref d)]) := upd_same
  have hd2 : upd (upd (upd H p (.ins A.Reader dx [("texts", .ref a), ("at", .int 0)])) d (.dK [])) p (.ins A.Reader dx [("texts", .ref a), ("at", .int 0), ("by_number", .ref d)]) d = some (.dK []) := by rw [upd_ne ndp]; exact upd_same
  have k2 : KeepL [p] H (upd (upd (upd H p (.ins A.Reader dx [("texts", .ref a), ("at", .int 0)])) d (.dK [])) p (.ins A.Reader dx [("texts", .ref a), ("at", .int 0), ("by_number", .ref d)])) := fun z o n h => by
    have nz : z ≠ p := fun e => n (by rw [e]; exact List.mem_singleton.mpr rfl)
    rw [upd_ne nz]
    exact s2 _ _ (f1 z o n h)
  have hcl0 : H cl = none := by
    cases e : H cl with
    | none => rfl
    | some o =>
      by_cases c : cl = p
      · have hcl' : upd (upd (upd H p (.ins A.Reader dx [("texts", .ref a), ("at", .int 0)])) d (.dK [])) p (.ins A.Reader dx [("texts", .ref a), ("at", .int 0), ("by_number", .ref d)]) cl = none := hcl
        rw [c, g2] at hcl'; cases hcl'
      · have hcl' : upd (upd (upd H p (.ins A.Reader dx [("texts", .ref a), ("at", .int 0)])) d (.dK [])) p (.ins A.Reader dx [("texts", .ref a), ("at", .int 0), ("by_number", .ref d)]) cl = none := hcl
        have := k2 cl o (fun h => c (List.mem_singleton.mp h)) e
        rw [hcl'] at this; cases this
  have ncp : cl ≠ p := fun e => by rw [e, hp] at hcl0; cases hcl0
  have ncd : cl ≠ d := fun e => by
    have hcl' : upd (upd (upd H p (.ins A.Reader dx [("texts", .ref a), ("at", .int 0)])) d (.dK [])) p (.ins A.Reader dx [("texts", .ref a), ("at", .int 0), ("by_number", .ref d)]) cl = none := hcl
    rw [e, hd2] at hcl'; cases hcl'
  have nac : a ≠ cl := fun e => by rw [e, hcl0] at hS; cases hS
  have nap : a ≠ p := ne_of hS hp (by intro z; cases z)
  refine ⟨_, rfl, p, A.Reader, dx, _, rfl, by rw [upd_ne (Ne.symm ncp)]; exact g2, T.cl_Reader, T.n_Reader_calls, (by show 3 < 1000; decide), ?_⟩
  have sc := same_new (o := .lst ([] : List V)) hcl
  refine q d cl _ hd0 hcl0 (fun z o n h => ?_) ⟨⟨dx, upd_same⟩, ⟨[], by rw [upd_ne ndp]; exact sc _ _ hd2, .nil⟩, ⟨[], by rw [upd_ne ncp]; exact upd_same, .nil⟩, (by rw [upd_ne nap]; exact sc _ _ (k2 _ _ (fun h => nap (List.mem_singleton.mp h)) hS)), nac, ⟨hl, ht⟩, hcod, Nat.zero_le _, (fun _ h => by cases h), Nat.zero_le _, Nat.zero_le _⟩
  rw [upd_ne (fun e => n (by rw [e]; exact List.mem_singleton.mpr rfl))]
  exact sc _ _ (k2 z o n h)

end
end K24
namespace K24
open PySem L2 TL
section
variable {P : Program} {w : World} {K : PySem.W.Frag} {mg : Str → Option Value} {base : Heap} {A : Ads}
theorem ok_Reader_pass_line (T : Txt K mg A) : FnOk P w K mg base (L2.CX P w) 1 A.Reader_pass_line A.Reader_pass_line_d ["self", "text"] (spPass K A.rc A.ec A.Reader A.NoProgram) := by
  refine T.F_Reader_pass_line.okX sc_Reader_pass_line (fun vs H Q E h => ?_) (fun cdv A0 outer s H vs Q E hr h => ?_)
  · obtain ⟨X, st, t, rfl, hR, q1, q2⟩ := h
    rfl
  obtain ⟨X, st, t, rfl, hR, q1, q2⟩ := h
  refine ⟨_, (pss_cons (ps_if (PW.pt (pw_or (pt_cmpR op_eq (pe_fld (pv 0) rfl) (pe_callB call_lenK (by rfl) T.z_len (by decide +kernel) (pa_cons (pe_fld (pv 0) rfl) pa_nil)) (nomark _)) (pw_or1 (pt_cmpR op_ne (pe_ix ix_list (pe_fld (pv 0) rfl) (pe_fld (pv 0) rfl) (fun _ _ => rfl)) (pv 1) (nomark _)))))
    (pss_one (ps_raise rfl (takes_of rfl rfl rfl rfl) (pmk_own PySem.F.excBase_ValueError T.x_NoProgram T.m_NoProgram T.kk_NoProgram (raises_own T.bb_NoProgram T.tt_NoProgram) (by exact rfl))))
    pss_nil)
   (pss_one (ps_fldaug (pv 0) pe_int in_add))), ?_⟩
  obtain ⟨dx, h1⟩ := hR.obj
  refine ⟨_, rfl, X.p, A.Reader, dx, _, _, rfl, h1, T.cl_Reader, T.n_Reader_at, rfl, _, rfl, X.p, A.Reader, dx, _, _, rfl, h1, T.cl_Reader, T.n_Reader_texts, rfl, X.a, _, rfl, .inl (SqL.of hR.txts), rfl, _, rfl, iteD2 (fun c1 => ?_) (fun c1 => ?_)⟩
  · have c1 := V.int.inj c1
    rw [List.length_map] at c1
    refine q2 ?_ H (mv_same (Same.refl H))
    unfold passF
    rw [if_neg (fun h => by have := h.1; omega)]
  · have hlt : st.at_ < X.ts.length := by
      have := hR.at_
      have c2 : ¬ ((st.at_ : Nat) : Int) = ((X.ts.length : Nat) : Int) := fun e => c1 (by rw [List.length_map, e])
      omega
    refine ⟨_, rfl, X.p, A.Reader, dx, _, _, rfl, h1, T.cl_Reader, T.n_Reader_texts, rfl, _, rfl, X.p, A.Reader, dx, _, _, rfl, h1, T.cl_Reader, T.n_Reader_at, rfl, X.a, _, _, _, rfl, rfl, (SqL.of hR.txts), at_wd hlt, _, rfl, rfl, _, rfl, iteN2 (fun c2 => ?_) (fun c2 => ?_)⟩
    · refine q2 ?_ H (mv_same (Same.refl H))
      unfold passF
      rw [if_neg (fun h => c2 (congrArg V.str h.2))]
    · have hp : passF X.ts t st = some { st with at_ := st.at_ + 1 } := by
        unfold passF
        rw [if_pos ⟨hlt, V.str.inj c2⟩]
      refine ⟨_, rfl, X.p, A.Reader, dx, _, _, rfl, h1, T.cl_Reader, T.n_Reader_at, rfl, _, _, rfl, rfl, dx, _, h1, (by show 4 < 1000; decide), ?_⟩
      have e1 : putF "at" (V.int ((st.at_ : Nat) + 1)) (rdF X st) = rdF X { st with at_ := st.at_ + 1 } := by
        show [_, (_, V.int (((st.at_ : Nat) : Int) + 1)), _, _] = [_, (_, V.int ((st.at_ + 1 : Nat) : Int)), _, _]
        rw [show ((st.at_ + 1 : Nat) : Int) = ((st.at_ : Nat) : Int) + 1 from by omega]
      have mv : Mv X H (upd H X.p (.ins A.Reader dx (rdF X { st with at_ := st.at_ + 1 }))) := fun z o n h => by rw [upd_ne (fun e => n (by rw [e]; exact List.mem_cons_self))]; exact h
      obtain ⟨kvs, k1, k2⟩ := hR.dict
      obtain ⟨os, k3, k4⟩ := hR.calls
      have ki := hR.keepI mv
      have e2 : putF "at" (V.int (((st.at_ : Nat) : Int) + 1)) (rdF X st) = rdF X { st with at_ := st.at_ + 1 } := e1
      show Q .non (upd H X.p (.ins A.Reader dx (putF "at" (V.int (((st.at_ : Nat) : Int) + 1)) (rdF X st))))
      rw [e2]
      refine q1 _ _ hp mv (hR.ats (notR_ec T) (notR_rc T) mv upd_same (by rw [upd_ne (ne_of k1 h1 (by intro z; cases z))]; exact k1) (k2.mono fun x kv h => ⟨h.1, h.2.keepI ki (notR_ec T) (notR_rc T)⟩) (by rw [upd_ne (ne_of k3 h1 (by intro z; cases z))]; exact k3) (k4.mono fun f v ⟨n, b, es, z1, z2⟩ => ⟨n, b, es, z1, z2.keepI ki (notR_ec T) (notR_rc T)⟩) (show st.at_ + 1 ≤ X.ts.length by omega) (show st.calls.length ≤ st.at_ + 1 by have := hR.cn; omega) (show st.num.length ≤ st.at_ + 1 by have := hR.nn; omega))

end
end K24
namespace K24
open PySem L2 TL
section
variable {P : Program} {w : World} {K : PySem.W.Frag} {mg : Str → Option Value} {base : Heap} {A : Ads}
theorem ok_Reader_call_row (T : Txt K mg A) : FnOk P w K mg base (L2.CX P w) 12 A.Reader_call_row A.Reader_call_row_d ["self", "number", "words"] (spCallRow K A.rc A.ec A.Reader A.NoProgram) := by
  have G_check_names := ok_check_names (P := P) (w := w) (base := base) T
  have G_Call_init := ok_Call_init (P := P) (w := w) (base := base) T
  have G_exprs_of := ok_exprs_of (P := P) (w := w) (base := base) T
  refine T.F_Reader_call_row.okX sc_Reader_call_row (fun vs H Q E h => ?_) (fun cdv A0 outer s H vs Q E hr h => ?_)
  · obtain ⟨X, st, num, w, ws, rfl, hR, hS, hwc, hne, hsm, hcn, q1, q2⟩ := h
    rfl
  obtain ⟨X, st, num, w, ws, rfl, hR, hS, hwc, hne, hsm, hcn, q1, q2⟩ := h
  refine ⟨_, (pss_cons (ps_expr (pe_call G_check_names (hr.mono (by decide)) rfl T.m_check_names T.F_check_names.kp T.b_check_names .nil (passes_call (takes_of rfl rfl rfl rfl) (fun _ _ _ _ h => h)) (pa_cons (pe_slice sl_list (pv 2) (po_some pe_int) (po_some pe_int)) (pa_cons pe_int pa_nil))))
   (pss_cons (ps_set (i := 3) sc_Reader_call_row.nd rfl (Or.inl rfl) (pe_make T.k_Call G_Call_init (hr.mono (by decide)) rfl T.m_Call T.b_Call_init .nil pass0 (pa_cons (pv 1) (pa_cons (pe_ix ix_list (pv 2) pe_int (fun _ _ => rfl)) (pa_cons (pe_ix ix_list (pv 2) pe_int (fun _ _ => rfl)) (pa_cons (pe_call G_exprs_of (hr.mono (by decide)) rfl T.m_exprs_of T.F_exprs_of.kp T.b_exprs_of .nil (passes_call (takes_of rfl rfl rfl rfl) (fun _ _ _ _ h => h)) (pa_cons (pe_slice sl_list (pv 2) (po_some pe_int) po_none) pa_nil)) pa_nil))))))
   (pss_cons (ps_expr (pe_bm PySem.F.plainAttrs_list PySem.F.slot_list_append PySem.F.type_list_append mt_append (pe_fld (pv 0) rfl) (pa_cons (pv 3) pa_nil)))
   (pss_one (ps_ret (pv 3)))))), ?_⟩
  unfold callF at q2
  refine ⟨_, rfl, 1, rfl, 3, rfl, w, _, rfl, hS, fun l1 hl1 => ?_⟩
  rw [show ((1 : Int) = ((1 : Nat) : Int)) from rfl, show ((3 : Int) = ((3 : Nat) : Int)) from rfl, cut_mid]
  have s1 := same_new (o := .lst (((ws.drop 1).take (3 - 1)).map V.str)) hl1
  refine ⟨l1, (ws.drop 1).take 2, 2, rfl, SqL.of upd_same, (hsm.drop 1).take 2, fun ok H1 s2 => ?_, fun no H1 s2 => ?_⟩
  rotate_left
  · exact q2 (if_neg (by rw [no]; decide)) H1 (mv_same (s1.trans s2))
  rw [if_pos ok] at q2
  have hl2 : 2 < ws.length := by have := (names_len ok).1; rw [List.length_take, List.length_drop] at this; omega
  have s12 := s1.trans s2
  refine ⟨_, rfl, _, rfl, w, _, _, _, rfl, rfl, s12.seq hS, at_wd (i := 1) (by omega), ?_⟩
  refine ⟨_, rfl, w, _, _, _, rfl, rfl, s12.seq hS, at_wd (i := 2) hl2, ?_⟩
  refine ⟨_, rfl, 3, rfl, w, _, rfl, s12.seq hS, fun l2 hl2 => ?_⟩
  rw [show ((3 : Int) = ((3 : Nat) : Int)) from rfl, cut_drop]
  have s3 := same_new (o := .lst ((ws.drop 3).map V.str)) hl2
  refine ⟨l2, ws.drop 3, rfl, SqL.of upd_same, (hsm.drop 3).1, (hsm.drop 3).2, fun es pe l3 H2 os s4 hn4 h4 ha => ?_, fun pe H2 s4 => ?_⟩
  rotate_left
  · have pe' : exL (ws.drop 3) = none := pe
    rw [pe'] at q2
    exact q2 rfl H2 (mv_same (s12.trans (s3.trans s4)))
  have s14 := s12.trans (s3.trans s4)
  have pe' : exL (ws.drop 3) = some es := pe
  refine fun x dx hx hdx _ => mk_row (xs := [_, _, _, _]) hx hdx rfl fun H3 s5 g5 => ?_
  have s15 := s14.trans s5
  have hR3 := hR.same s15
  obtain ⟨dxr, k1⟩ := hR3.obj
  obtain ⟨kvs, k2, k3⟩ := hR3.dict
  obtain ⟨os2, k4, k5⟩ := hR3.calls
  have hol := k5.length
  have ncl : l3 ≠ X.cl := fun e => by
    obtain ⟨os3, z1, _⟩ := (hR.same (s12.trans s3)).calls
    rw [← e, hn4] at z1; cases z1
  have nav : l3 ∉ X.av := fun e => by
    obtain ⟨_, _, xs3, z1⟩ := (hR.same (s12.trans s3)).lists l3 e
    rw [hn4] at z1; cases z1
  refine ⟨_, rfl, X.p, A.Reader, dxr, _, _, rfl, k1, T.cl_Reader, T.n_Reader_calls, rfl, .inl ⟨rfl, _, SqL.of k4⟩, _, rfl, X.cl, _, _, rfl, rfl, k4, Nat.lt_of_lt_of_le (show os2.length < 16777216 by have := hR.sm.1; have := hR.at_; omega) (by decide), ?_⟩
  have mv : Mv X H (upd H3 X.cl (.lst (os2 ++ [.ref x]))) := fun z o n h => by
    rw [upd_ne (fun e => n (by rw [e]; simp))]
    exact s15 _ _ h
  have mv3 : Mv X H3 (upd H3 X.cl (.lst (os2 ++ [.ref x]))) := fun z o n h => by
    rw [upd_ne (fun e => n (by rw [e]; simp))]
    exact h
  have ki := hR3.keepI mv3
  have row : RowO A.rc A.ec X.N H3 (num : Int) (.call (wd ws 1) (wd ws 2) es) (.ref x) := ⟨x, dx, l3, os, rfl, g5, ⟨ncl, nav⟩, s5 _ _ h4, allE_same s5 ha⟩
  have row2 := row.keepI ki (notR_ec T) (notR_rc T)
  have e1 : callF ws = some (wd ws 1, wd ws 2, es) := by
    unfold callF
    rw [if_pos ok, pe']; rfl
  refine ⟨_, rfl, q1 _ _ _ _ _ e1 mv (hR.ats (notR_ec T) (notR_rc T) mv (st' := ⟨st.at_, st.num, st.calls ++ [(wd ws 2, es.length)]⟩) (by rw [upd_ne (ne_of k1 k4 (by intro z; cases z))]; exact k1) (by rw [upd_ne (ne_of k2 k4 (by intro z; cases z))]; exact k2) (k3.mono fun x kv h => ⟨h.1, h.2.keepI ki (notR_ec T) (notR_rc T)⟩) upd_same ((k5.mono fun f v ⟨n, b, es, z1, z2⟩ => ⟨n, b, es, z1, z2.keepI ki (notR_ec T) (notR_rc T)⟩).snoc ⟨_, _, es, rfl, row2⟩) hR.at_ (by rw [List.length_append, List.length_singleton]; exact hcn) hR.nn) row2⟩

end
end K24
namespace K24
open PySem L2 TL
section
variable {P : Program} {w : World} {K : PySem.W.Frag} {mg : Str → Option Value} {base : Heap} {A : Ads}
theorem ok_Reader_row_with_rows (T : Txt K mg A) {m : Nat} (G_Reader_block : FnOk P w K mg base (L2.CX P w) (3 * m + 12) A.Reader_block A.Reader_block_d ["self", "within"] (spBlkT K A.rc A.ec A.Reader A.NoProgram m)) : FnOk P w K mg base (L2.CX P w) (3 * m + 13) A.Reader_row_with_rows A.Reader_row_with_rows_d ["self", "number", "words", "within"] (spRowsT K A.rc A.ec A.Reader A.NoProgram m) := by
  have G_only := ok_only (P := P) (w := w) (base := base) T
  have G_exprs_of := ok_exprs_of (P := P) (w := w) (base := base) T
  have G_Reader_pass_line := ok_Reader_pass_line (P := P) (w := w) (base := base) T
  have G_Loop_init := ok_Loop_init (P := P) (w := w) (base := base) T
  have G_Choice_init := ok_Choice_init (P := P) (w := w) (base := base) T
  refine T.F_Reader_row_with_rows.okX sc_Reader_row_with_rows (fun vs H Q E h => ?_) (fun cdv A0 outer s H vs Q E hr h => ?_)
  · obtain ⟨X, st, num, w, ws, rfl, hR, hS, hwc, hne, hsm, q1, q2⟩ := h
    rfl
  obtain ⟨X, st, num, w, ws, rfl, hR, hS, hwc, hne, hsm, q1, q2⟩ := h
  refine ⟨_, (pss_cons (ps_if (pt_cmpR op_gt (pv 3) (pe_glob (v := .int 5) (by rfl) T.c_MOST_WITHIN.choose_spec ⟨_, rfl⟩) (nomark _))
    (pss_one (ps_raise rfl (takes_of rfl rfl rfl rfl) (pmk_own PySem.F.excBase_ValueError T.x_NoProgram T.m_NoProgram T.kk_NoProgram (raises_own T.bb_NoProgram T.tt_NoProgram) (by exact rfl))))
    pss_nil)
   (pss_cons (ps_set (i := 4) sc_Reader_row_with_rows.nd rfl (Or.inl rfl) (pe_call G_only (hr.mono (by omega)) rfl T.m_only T.F_only.kp T.b_only .nil (passes_call (takes_of rfl rfl rfl rfl) (fun _ _ _ _ h => h)) (pa_cons (pe_call G_exprs_of (hr.mono (by omega)) rfl T.m_exprs_of T.F_exprs_of.kp T.b_exprs_of .nil (passes_call (takes_of rfl rfl rfl rfl) (fun _ _ _ _ h => h)) (pa_cons (pe_slice sl_list (pv 2) (po_some pe_int) po_none) pa_nil)) pa_nil)))
   (pss_cons (ps_set (i := 5) sc_Reader_row_with_rows.nd rfl (Or.inl rfl) (pe_meth (pv 0) T.cl_Reader T.me_Reader_block G_Reader_block (hr.mono (by omega)) T.b_Reader_block .nil (passes_call (takes_of rfl rfl rfl rfl) (fun _ _ _ _ h => h)) (pa_cons (pv 3) pa_nil)))
   (pss_cons (ps_if (pt_cmpR op_eq (pe_ix ix_list (pv 2) pe_int (fun _ _ => rfl)) pe_str (nomark _))
    (pss_cons (ps_expr (pe_meth (pv 0) T.cl_Reader T.me_Reader_pass_line G_Reader_pass_line (hr.mono (by omega)) T.b_Reader_pass_line .nil (passes_call (takes_of rfl rfl rfl rfl) (fun _ _ _ _ h => h)) (pa_cons pe_str pa_nil)))
   (pss_one (ps_ret (pe_make T.k_Loop G_Loop_init (hr.mono (by omega)) rfl T.m_Loop T.b_Loop_init .nil pass0 (pa_cons (pv 1) (pa_cons (pv 4) (pa_cons (pv 5) pa_nil)))))))
    pss_nil)
   (pss_cons (ps_expr (pe_meth (pv 0) T.cl_Reader T.me_Reader_pass_line G_Reader_pass_line (hr.mono (by omega)) T.b_Reader_pass_line .nil (passes_call (takes_of rfl rfl rfl rfl) (fun _ _ _ _ h => h)) (pa_cons pe_str pa_nil)))
   (pss_cons (ps_set (i := 6) sc_Reader_row_with_rows.nd rfl (Or.inl rfl) (pe_meth (pv 0) T.cl_Reader T.me_Reader_block G_Reader_block (hr.mono (by omega)) T.b_Reader_block .nil (passes_call (takes_of rfl rfl rfl rfl) (fun _ _ _ _ h => h)) (pa_cons (pv 3) pa_nil)))
   (pss_cons (ps_expr (pe_meth (pv 0) T.cl_Reader T.me_Reader_pass_line G_Reader_pass_line (hr.mono (by omega)) T.b_Reader_pass_line .nil (passes_call (takes_of rfl rfl rfl rfl) (fun _ _ _ _ h => h)) (pa_cons pe_str pa_nil)))
   (pss_one (ps_ret (pe_make T.k_Choice G_Choice_init (hr.mono (by omega)) rfl T.m_Choice T.b_Choice_init .nil pass0 (pa_cons (pv 1) (pa_cons (pv 4) (pa_cons (pv 5) (pa_cons (pv 6) pa_nil)))))))))))))), ?_⟩
  unfold rowsT at q1 q2
  refine ⟨_, rfl, _, _, rfl, rfl, _, rfl, iteD2 (fun c1 => ?_) (fun c1 => ?_)⟩
  · have hm0 : ¬ 0 < m := by omega
    refine q2 ?_ H (mv_same (Same.refl H))
    rw [decide_eq_false hm0]; rfl
  have hm0 : 0 < m := by omega
  rw [decide_eq_true hm0, if_pos rfl] at q2
  rw [decide_eq_true hm0] at q1
  simp only [if_true] at q1
  refine ⟨_, rfl, 1, rfl, w, _, rfl, hS, fun l2 hl2 => ?_⟩
  rw [show ((1 : Int) = ((1 : Nat) : Int)) from rfl, cut_drop]
  have s3 := same_new (o := .lst ((ws.drop 1).map V.str)) hl2
  refine ⟨l2, ws.drop 1, rfl, SqL.of upd_same, (hsm.drop 1).1, (hsm.drop 1).2, fun es pe l3 H2 os s4 hn4 h4 ha => ?_, fun pe H2 s4 => ?_⟩
  rotate_left
  · have pe' : exL (ws.drop 1) = none := pe
    rw [pe'] at q2
    exact q2 rfl H2 (mv_same (s3.trans s4))
  have s34 := s3.trans s4
  have pe' : exL (ws.drop 1) = some es := pe
  rw [pe'] at q1 q2
  refine ⟨l3, os, rfl, h4, fun v hv => ?_, fun hn => ?_⟩
  rotate_left
  · rw [(allE_one ha).2 hn] at q2
    exact q2 rfl H2 (mv_same s34)
  obtain ⟨e, rfl, ho⟩ := (allE_one ha).1 v hv
  simp only [only1] at q1 q2
  have hR2 := hR.same s34
  obtain ⟨dx2, o2⟩ := hR2.obj
  refine ⟨_, rfl, X.p, dx2, _, rfl, o2, rfl, _, rfl, X, st, rfl, hR2, hm0, fun bs1 st2 l1 os1 H3 b1 mv1 hR3 nl1 el1 bo1 => ?_, fun b1 H3 mv1 => ?_⟩
  rotate_left
  · rw [b1] at q2
    exact q2 rfl H3 ((mv_same s34).trans mv1)
  rw [b1] at q1 q2
  simp only at q1 q2
  have mv3 := (mv_same (X := X) s34).trans mv1
  have ho3 := ho.keepI (hR2.keepI mv1) (notR_ec T)
  have hS3 := hR.seq mv3 hwc hS
  refine ⟨_, rfl, w, _, _, _, rfl, rfl, hS3, at_hd hne, rfl, _, rfl, iteD2 (fun c2 => ?_) (fun c2 => ?_)⟩
  · rw [if_pos (V.str.inj c2)] at q2
    simp only [if_pos (V.str.inj c2)] at q1
    obtain ⟨dx3, o3⟩ := hR3.obj
    refine ⟨_, rfl, X.p, dx3, _, rfl, o3, rfl, X, st2, _, rfl, hR3, fun st3 H4 p1 mv4 hR4 => ?_, fun p1 H4 mv4 => ?_⟩
    rotate_left
    · rw [p1] at q2
      exact q2 rfl H4 (mv3.trans mv4)
    rw [p1] at q1
    have ho4 := ho3.keepI (hR3.keepI mv4) (notR_ec T)
    refine ⟨_, rfl, _, rfl, _, rfl, fun x dx hx hdx _ => mk_row (xs := [_, _, _]) hx hdx rfl fun H5 s5 g5 => ?_⟩
    exact q1 _ _ _ H5 rfl ((mv3.trans mv4).trans (mv_same s5)) (hR4.same s5) (.leaf ⟨x, dx, v, _, rfl, g5, ho4.same s5⟩)
  · have c2' : ¬ hd0 ws = "while" := fun e => c2 (congrArg V.str e)
    rw [if_neg c2'] at q2
    simp only [if_neg c2'] at q1
    obtain ⟨dx3, o3⟩ := hR3.obj
    refine ⟨_, rfl, X.p, dx3, _, rfl, o3, rfl, X, st2, _, rfl, hR3, fun st3 H4 p1 mv4 hR4 => ?_, fun p1 H4 mv4 => ?_⟩
    rotate_left
    · rw [p1] at q2
      exact q2 rfl H4 (mv3.trans mv4)
    rw [p1] at q1 q2
    simp only at q1 q2
    have ho4 := ho3.keepI (hR3.keepI mv4) (notR_ec T)
    obtain ⟨dx4, o4⟩ := hR4.obj
    refine ⟨_, rfl, X.p, dx4, _, rfl, o4, rfl, _, rfl, X, st3, rfl, hR4, hm0, fun bs2 st4 l5 os2 H5 b2 mv5 hR5 nl2 el2 bo2 => ?_, fun b2 H5 mv5 => ?_⟩
    rotate_left
    · rw [b2] at q2
      exact q2 rfl H5 ((mv3.trans mv4).trans mv5)
    rw [b2] at q1 q2
    simp only at q1 q2
    have ho5 := ho4.keepI (hR4.keepI mv5) (notR_ec T)
    obtain ⟨dx5, o5⟩ := hR5.obj
    refine ⟨_, rfl, X.p, dx5, _, rfl, o5, rfl, X, st4, _, rfl, hR5, fun st5 H6 p2 mv6 hR6 => ?_, fun p2 H6 mv6 => ?_⟩
    rotate_left
    · rw [p2] at q2
      exact q2 rfl H6 (((mv3.trans mv4).trans mv5).trans mv6)
    rw [p2] at q1
    have ho6 := ho5.keepI (hR5.keepI mv6) (notR_ec T)
    refine ⟨_, rfl, _, rfl, _, rfl, _, rfl, fun x dx hx hdx _ => mk_row (xs := [_, _, _, _]) hx hdx rfl fun H7 s7 g7 => ?_⟩
    exact q1 _ _ _ H7 rfl ((((mv3.trans mv4).trans mv5).trans mv6).trans (mv_same s7)) (hR6.same s7) (.ifr g7 (ho6.same s7) nl1 (s7 _ _ ((hR5.keepI mv6).2 _ _ nl1 ((hR4.keepI mv5).2 _ _ nl1 ((hR3.keepI mv4).2 _ _ nl1 el1)))) ((((bo1.keepI (hR3.keepI mv4) (notR_ec T) (notR_rc T)).keepI (hR4.keepI mv5) (notR_ec T) (notR_rc T)).keepI (hR5.keepI mv6) (notR_ec T) (notR_rc T)).same s7) nl2 (s7 _ _ ((hR5.keepI mv6).2 _ _ nl2 el2)) ((bo2.keepI (hR5.keepI mv6) (notR_ec T) (notR_rc T)).same s7))

theorem rc_cls (T : Txt K mg A) : ∀ rt : RT, Cls K (A.rc.of rt) ∧ NoAttr K (A.rc.of rt) "number"
  | .skip => ⟨T.cl_Skip, T.n_Skip_number⟩
  | .set _ _ => ⟨T.cl_Set, T.n_Set_number⟩
  | .put _ _ => ⟨T.cl_Put, T.n_Put_number⟩
  | .ask _ _ _ => ⟨T.cl_Ask, T.n_Ask_number⟩
  | .draw _ _ => ⟨T.cl_Draw, T.n_Draw_number⟩
  | .tell _ => ⟨T.cl_Tell, T.n_Tell_number⟩
  | .ifr _ => ⟨T.cl_Choice, T.n_Choice_number⟩
  | .loop _ => ⟨T.cl_Loop, T.n_Loop_number⟩
  | .call _ _ _ => ⟨T.cl_Call, T.n_Call_number⟩
  | .give _ => ⟨T.cl_Give, T.n_Give_number⟩

theorem joinL_mem {b : List Nat} : ∀ {ps : List (List Nat)} {p : List Nat}, p ∈ ps → ∀ c ∈ p, c ∈ joinL b ps
  | [], _, h => by cases h
  | [x], p, h => by
    rw [List.mem_singleton.mp h]
    exact fun c hc => hc
  | x :: y :: r, p, h => by
    intro c hc
    show c ∈ x ++ (b ++ joinL b (y :: r))
    rcases List.mem_cons.mp h with rfl | h
    · exact List.mem_append.mpr (.inl hc)
    · exact List.mem_append.mpr (.inr (List.mem_append.mpr (.inr (joinL_mem h c hc))))
theorem split_cod {s : Str} (h : PyData.strOk s = true) (t : Str) : ∀ p ∈ Txt.split s t, PyData.strOk p = true := by
  intro p hp
  have e2 := congrArg tl (PySem.StrLaws.join_split s t)
  rw [tl_join] at e2
  unfold PyData.strOk at h ⊢
  rw [← Array.all_toList] at h ⊢
  refine List.all_eq_true.mpr fun c hc => ?_
  refine List.all_eq_true.mp h c ?_
  show c ∈ tl s
  rw [← e2]
  exact joinL_mem (List.mem_map.mpr ⟨p, hp, rfl⟩) c hc
theorem words_cod {ts : List Str} (h : ∀ t ∈ ts, PyData.strOk t = true) (i : Nat) : Codes (wordsAt ts i) := fun s hs => by
  refine split_cod ?_ _ s hs
  rw [List.getD_eq_getElem?_getD]
  by_cases hi : i < ts.length
  · rw [List.getElem?_eq_getElem hi]; exact h _ (List.getElem_mem hi)
  · rw [List.getElem?_eq_none (by omega)]; decide +kernel
theorem wd_size {ts : List Str} (h : ∀ t ∈ ts, t.length ≤ 99999) {i : Nat} (hi : i < ts.length) : (wd ts i).length + 2 ≤ sizeLine := by
  have : (wd ts i).length ≤ 99999 := by
    unfold wd
    rw [List.getD_eq_getElem?_getD, List.getElem?_eq_getElem hi]
    exact h _ (List.getElem_mem hi)
  exact sizeL2 (by omega)
theorem all2_find {α : Type} {R : α → Key × V → Prop} {p : α → Bool} {k : Key} (hp : ∀ a kv, R a kv → p a = decide (kv.1 = k)) : ∀ {as : List α} {kvs : List (Key × V)}, All2 R as kvs →
    (as.find? p = none ∧ valV kvs k = none) ∨ ∃ a v, a ∈ as ∧ as.find? p = some a ∧ p a = true ∧ valV kvs k = some v ∧ R a (k, v)
  | _, _, .nil => .inl ⟨rfl, rfl⟩
  | a :: as, kv :: kvs, .cons h t => by
    have e := hp a kv h
    by_cases c : kv.1 = k
    · rw [decide_eq_true c] at e
      refine .inr ⟨a, kv.2, List.mem_cons_self, by rw [List.find?_cons, e], e, valV_pos c, ?_⟩
      rw [← c]; exact h
    · rw [decide_eq_false c] at e
      rcases all2_find hp t with ⟨e1, e2⟩ | ⟨b, v, hb, e1, e3, e2, hr⟩
      · exact .inl ⟨by rw [List.find?_cons, e]; exact e1, by rw [valV_neg c]; exact e2⟩
      · exact .inr ⟨b, v, List.mem_cons_of_mem _ hb, by rw [List.find?_cons, e]; exact e1, e3, by rw [valV_neg c]; exact e2, hr⟩

end
end K24
namespace K24
open PySem L2 TL
section
variable {P : Program} {w : World} {K : PySem.W.Frag} {mg : Str → Option Value} {base : Heap} {A : Ads}
theorem ok_Reader_one_row (T : Txt K mg A) {m : Nat} (G_Reader_row_with_rows : FnOk P w K mg base (L2.CX P w) (3 * m + 13) A.Reader_row_with_rows A.Reader_row_with_rows_d ["self", "number", "words", "within"] (spRowsT K A.rc A.ec A.Reader A.NoProgram m)) : FnOk P w K mg base (L2.CX P w) (3 * m + 14) A.Reader_one_row A.Reader_one_row_d ["self", "within"] (spOneT K A.rc A.ec A.Reader A.NoProgram m) := by
  have G_Reader_call_row := ok_Reader_call_row (P := P) (w := w) (base := base) T
  have G_simple_row := ok_simple_row (P := P) (w := w) (base := base) T
  refine T.F_Reader_one_row.okX sc_Reader_one_row (fun vs H Q E h => ?_) (fun cdv A0 outer s H vs Q E hr h => ?_)
  · obtain ⟨X, st, rfl, hR, hat, q1, q2⟩ := h
    rfl
  obtain ⟨X, st, rfl, hR, hat, q1, q2⟩ := h
  refine ⟨_, (pss_cons (ps_set (i := 2) sc_Reader_one_row.nd rfl (Or.inl rfl) (pe_fld (pv 0) rfl))
   (pss_cons (ps_set (i := 3) sc_Reader_one_row.nd rfl (Or.inl rfl) (pe_split (pe_ix ix_list (pe_fld (pv 0) rfl) (pv 2) (fun _ _ => rfl)) pe_str))
   (pss_cons (ps_fldaug (pv 0) pe_int in_add)
   (pss_cons (ps_ifC (PW.pt (pw_or (pt_cmpR op_eq (pe_ix ix_list (pv 3) pe_int (fun _ _ => rfl)) pe_str (nomark _)) (pw_or1 (pt_cmpR op_eq (pe_ix ix_list (pv 3) pe_int (fun _ _ => rfl)) pe_str (nomark _)))))
    (pss_one (ps_ret (pe_meth (pv 0) T.cl_Reader T.me_Reader_row_with_rows G_Reader_row_with_rows (hr.mono (by omega)) T.b_Reader_row_with_rows .nil (passes_call (takes_of rfl rfl rfl rfl) (fun _ _ _ _ h => h)) (pa_cons (pv 2) (pa_cons (pv 3) (pa_cons (pe_op op_add (pv 1) pe_int) pa_nil))))))
    pss_nil)
   (pss_cons (ps_if (pt_cmpR op_eq (pe_ix ix_list (pv 3) pe_int (fun _ _ => rfl)) pe_str (nomark _))
    (pss_one (ps_ret (pe_meth (pv 0) T.cl_Reader T.me_Reader_call_row G_Reader_call_row (hr.mono (by omega)) T.b_Reader_call_row .nil (passes_call (takes_of rfl rfl rfl rfl) (fun _ _ _ _ h => h)) (pa_cons (pv 2) (pa_cons (pv 3) pa_nil)))))
    pss_nil)
   (pss_one (ps_ret (pe_call G_simple_row (hr.mono (by omega)) rfl T.m_simple_row T.F_simple_row.kp T.b_simple_row .nil (passes_call (takes_of rfl rfl rfl rfl) (fun _ _ _ _ h => h)) (pa_cons (pv 2) (pa_cons (pv 3) pa_nil)))))))))), ?_⟩
  unfold oneT at q1 q2
  obtain ⟨dx, h1⟩ := hR.obj
  have hok := wordsAt_ok hR.sm.2 st.at_
  refine ⟨_, rfl, X.p, A.Reader, dx, _, _, rfl, h1, T.cl_Reader, T.n_Reader_at, rfl, _, rfl, X.p, A.Reader, dx, _, _, rfl, h1, T.cl_Reader, T.n_Reader_texts, rfl, _, rfl, X.a, _, _, _, rfl, rfl, (SqL.of hR.txts), at_wd hat, ⟨_, rfl⟩, _, _, rfl, rfl, (by decide +kernel), ?_, fun l hl => ?_⟩
  · have : (wd X.ts st.at_).length ≤ 99999 := by
      unfold wd
      rw [List.getD_eq_getElem?_getD, List.getElem?_eq_getElem hat]
      exact hR.sm.2 _ (List.getElem_mem hat)
    exact sizeL2 (by omega)
  have s1 := same_new (o := .lst ((wordsAt X.ts st.at_).map V.str)) hl
  have hR1 := hR.same s1
  have k1 := s1 _ _ h1
  refine ⟨_, rfl, X.p, A.Reader, dx, _, _, rfl, k1, T.cl_Reader, T.n_Reader_at, rfl, _, _, rfl, rfl, dx, _, k1, (by show 4 < 1000; decide), ?_⟩
  obtain ⟨mv2, hR2⟩ := hR1.step (notR_ec T) (notR_rc T) hat k1
  show tSeq _ _ _ _ (upd (upd H l (.lst ((wordsAt X.ts st.at_).map V.str))) X.p (.ins A.Reader dx (putF "at" (V.int (((st.at_ : Nat) : Int) + 1)) (rdF X st))))
  generalize hG : upd (upd H l (.lst ((wordsAt X.ts st.at_).map V.str))) X.p (.ins A.Reader dx (putF "at" (V.int (((st.at_ : Nat) : Int) + 1)) (rdF X st))) = H2 at mv2 hR2 ⊢
  have nlcl : l ≠ X.cl := fun e => by
    obtain ⟨os, z, _⟩ := hR.calls
    rw [← e, hl] at z; cases z
  have mv := (mv_same (X := X) s1).trans mv2
  have hS2 : SqL K H2 l ((wordsAt X.ts st.at_).map V.str) := hR1.seq mv2 nlcl (SqL.of upd_same)
  have hne := hok.2
  obtain ⟨dx2, o2⟩ := hR2.obj
  refine ⟨decide (hd0 (wordsAt X.ts st.at_) = "if" ∨ hd0 (wordsAt X.ts st.at_) = "while"), H2, fun Z hZ => ?_, ?_⟩
  · refine ⟨_, rfl, l, _, _, _, rfl, rfl, hS2, at_hd hne, rfl, _, rfl, iteD2 (fun c1 => ?_) (fun c1 => ?_)⟩
    · exact zTrue hZ (.inl (V.str.inj c1))
    · refine ⟨_, rfl, l, _, _, _, rfl, rfl, hS2, at_hd hne, rfl, _, rfl, ?_⟩
      by_cases c2 : hd0 (wordsAt X.ts st.at_) = "while"
      · rw [decide_eq_true (congrArg V.str c2)]; exact zTrue hZ (.inr c2)
      · rw [decide_eq_false (fun e => c2 (V.str.inj e))]
        exact zFalse hZ fun h => h.elim (fun e => c1 (congrArg V.str e)) c2
  refine iteD2 (fun c1 => ?_) (fun c1 => ?_)
  · rw [if_pos c1] at q2
    simp only [if_pos c1] at q1
    refine ⟨_, rfl, X.p, dx2, _, rfl, o2, rfl, _, rfl, _, rfl, _, rfl, _, _, rfl, rfl, ?_⟩
    refine ⟨X, _, st.at_, l, _, ?_, hR2, hS2, nlcl, hne, hok.1, fun rt st' v H' e mv' hR' ho => q1 rt st' v H' e (mv.trans mv') hR' ho, fun e H' mv' => q2 e H' (mv.trans mv')⟩
    show _ = [V.ref X.p, .int (st.at_ : Int), .ref l, .int (6 - (m : Int))]
    rw [show (6 : Int) - m = 5 - m + 1 from by omega]
    rfl
  rw [if_neg c1] at q2
  simp only [if_neg c1] at q1
  refine ⟨_, rfl, l, _, _, _, rfl, rfl, hS2, at_hd hne, rfl, _, rfl, iteD2 (fun c2 => ?_) (fun c2 => ?_)⟩
  · rw [if_pos (V.str.inj c2)] at q2
    simp only [if_pos (V.str.inj c2)] at q1
    refine ⟨_, rfl, X.p, dx2, _, rfl, o2, rfl, _, rfl, _, rfl, ?_⟩
    refine ⟨X, _, st.at_, l, _, rfl, hR2, hS2, nlcl, hne, hok.1, Nat.lt_succ_of_le hR.cn, fun b f es v H' e mv' hR' ho => ?_, fun e H' mv' => ?_⟩
    · exact q1 _ _ v H' (by rw [e]) (mv.trans mv') hR' (.leaf ho)
    · exact q2 (by rw [e]) H' (mv.trans mv')
  · have c2' : ¬ hd0 (wordsAt X.ts st.at_) = "call" := fun e => c2 (congrArg V.str e)
    rw [if_neg c2'] at q2
    simp only [if_neg c2'] at q1
    refine ⟨_, rfl, _, rfl, st.at_, l, _, rfl, hS2, hne, hok.1, words_cod hR.cod st.at_, fun rt v H' e s' ho => ?_, fun e H' s' => ?_⟩
    · exact q1 _ _ v H' (by rw [e]; rfl) (mv.trans (mv_same s')) (hR2.same s') (.leaf (ho _))
    · exact q2 (by rw [e]; rfl) H' (mv.trans (mv_same s'))

end
end K24
namespace K24
open PySem L2 TL
section
variable {P : Program} {w : World} {K : PySem.W.Frag} {mg : Str → Option Value} {base : Heap} {A : Ads}
theorem ok_Reader_block (T : Txt K mg A) : ∀ n : Nat, FnOk P w K mg base (L2.CX P w) (3 * n + 12) A.Reader_block A.Reader_block_d ["self", "within"] (spBlkT K A.rc A.ec A.Reader A.NoProgram n)
| 0 => fn_none fun vs H Q E h => by
    obtain ⟨X, st, _, _, h1, _⟩ := h; omega
| n + 1 => by
  have G_Reader_block := ok_Reader_block T n
  have G_Reader_head := ok_Reader_head (P := P) (w := w) (base := base) T
  have G_Reader_row_with_rows := ok_Reader_row_with_rows (P := P) (w := w) (base := base) T G_Reader_block
  have G_Reader_one_row := ok_Reader_one_row (P := P) (w := w) (base := base) T G_Reader_row_with_rows
  refine T.F_Reader_block.okX sc_Reader_block (fun vs H Q E h => ?_) (fun cdv A0 outer s H vs Q E hr h => ?_)
  · obtain ⟨X, st, rfl, hR, hn, q1, q2⟩ := h
    rfl
  obtain ⟨X, st, rfl, hR, hn, q1, q2⟩ := h
  refine ⟨_, (pss_cons (ps_set (i := 2) sc_Reader_block.nd rfl (Or.inl rfl) (pe_lst pa_nil))
   (pss_cons (ps_while (passes_of rfl) (pt_cmpR op_in_seq (pe_meth0 (pv 0) T.cl_Reader T.me_Reader_head G_Reader_head (hr.mono (by omega)) T.b_Reader_head .nil pass0) (pe_glob (v := .ref A.ROWS) (by rfl) T.m_ROWS rfl) (by rfl))
    (pss_cons (ps_set (i := 3) sc_Reader_block.nd rfl (Or.inl rfl) (pe_meth (pv 0) T.cl_Reader T.me_Reader_one_row G_Reader_one_row (hr.mono (by omega)) T.b_Reader_one_row .nil (passes_call (takes_of rfl rfl rfl rfl) (fun _ _ _ _ h => h)) (pa_cons (pv 1) pa_nil)))
   (pss_cons (ps_dput (hu_of hr) (pe_fld (pv 0) rfl) (pe_fld (pv 3) rfl) (pv 3) rfl)
   (pss_one (ps_expr (pe_bm PySem.F.plainAttrs_list PySem.F.slot_list_append PySem.F.type_list_append mt_append (pv 2) (pa_cons (pv 3) pa_nil)))))))
   (pss_one (ps_ret (pv 2))))), ?_⟩
  refine ⟨by show 0 ≤ sizeLine; decide, fun l hl => ?_⟩
  have ew : (6 : Int) - ((n + 1 : Nat) : Int) = 5 - (n : Int) := by omega
  have s0 := same_new (o := .lst ([] : List V)) hl
  refine while_m (fun m σ H' => ∃ (st' : RS) (f : Nat) (os : List V) (z : Option V), σ = [some (.ref X.p), some (.int (6 - ((n + 1 : Nat) : Int))), some (.ref l), z] ∧ m = X.ts.length - st'.at_ ∧ Mv X H H' ∧ RdH K A.rc A.ec A.Reader (X.add l) H' st' ∧ H' l = some (.lst os) ∧ os.length ≤ st'.at_ ∧ X.ts.length + 1 ≤ f + st'.at_ ∧ ∃ bs, BlkO A.rc A.ec (X.add l).N H' bs os ∧ blockT X.ts (n + 1) st = (blkT X.ts (oneT X.ts (rowsT X.ts (blockT X.ts n) (decide (0 < n)))) f st').map (fun x => (bs ++ x.1, x.2))) (X.ts.length - st.at_)
    ⟨st, X.ts.length + 1, [], none, rfl, rfl, mv_same s0, hR.add hl, upd_same, Nat.zero_le _, Nat.le_add_right _ _, [], .nil, by show blkT _ _ _ _ = Option.map _ _; cases blkT X.ts (oneT X.ts (rowsT X.ts (blockT X.ts n) (decide (0 < n)))) (X.ts.length + 1) st <;> rfl⟩ ?_
  rintro m σ H1 ⟨st1, f, os, z, rfl, rfl, mv1, hR1, h1, hos, hf, bs, hbo, hb⟩
  have hat1 := hR1.at_
  obtain ⟨f, rfl⟩ : ∃ f', f = f' + 1 := ⟨f - 1, by have : st1.at_ ≤ X.ts.length := hat1; omega⟩
  have drp : ∀ a, (X.add l).N a → X.N a := fun a hn => ⟨hn.1, fun hm => hn.2 (List.mem_cons_of_mem _ hm)⟩
  have nXl : X.N l := ⟨(hR1.lists l List.mem_cons_self).1, fun hm => by
    obtain ⟨_, _, xs, e⟩ := hR.lists l hm
    rw [hl] at e; cases e⟩
  obtain ⟨dx1, o1⟩ := hR1.obj
  refine ⟨_, rfl, X.p, dx1, _, rfl, o1, rfl, X.add l, st1, rfl, hR1, fun H2 s2 => ?_⟩
  have hR2 := hR1.same s2
  have mv2 := mv1.trans (mv_same s2)
  refine ⟨A.ROWS, ROWW.map V.str, rfl, .inr (T.q_ROWS _), ?_, rfl, _, rfl, ?_⟩
  · unfold headV; cases headAt (X.add l).ts st1.at_ <;> rfl
  rw [if_neg Bool.false_ne_true]
  have hb' := hb
  unfold blkT at hb'
  unfold headV
  show if inV (match headAt X.ts st1.at_ with | some w => V.str w | none => V.non) (ROWW.map V.str) = true then _ else _
  cases hh : headAt X.ts st1.at_ with
  | none =>
    rw [hh] at hb'
    exact iteF ⟨_, rfl, q1 bs st1 l os H2 (by rw [hb']; simp) mv2 hR2.drop nXl (s2 _ _ h1) ((hbo.same s2).weak fun a _ => drp a)⟩
  | some w =>
    rw [hh] at hb'
    simp only at hb'
    rw [inV_str]
    refine iteD2 (fun c1 => ?_) (fun c1 => ?_)
    rotate_left
    · rw [if_neg c1] at hb'
      exact ⟨_, rfl, q1 bs st1 l os H2 (by rw [hb']; simp) mv2 hR2.drop nXl (s2 _ _ h1) ((hbo.same s2).weak fun a _ => drp a)⟩
    rw [if_pos c1] at hb'
    obtain ⟨hlt, hw⟩ := headAt_lt hh
    refine ⟨fun σ' H' => ∃ (st' : RS) (f : Nat) (os : List V) (z : Option V), st1.at_ < st'.at_ ∧ st'.at_ ≤ X.ts.length ∧ σ' = [some (.ref X.p), some (.int (6 - ((n + 1 : Nat) : Int))), some (.ref l), z] ∧ Mv X H H' ∧ RdH K A.rc A.ec A.Reader (X.add l) H' st' ∧ H' l = some (.lst os) ∧ os.length ≤ st'.at_ ∧ X.ts.length + 1 ≤ f + st'.at_ ∧ ∃ bs, BlkO A.rc A.ec (X.add l).N H' bs os ∧ blockT X.ts (n + 1) st = (blkT X.ts (oneT X.ts (rowsT X.ts (blockT X.ts n) (decide (0 < n)))) f st').map (fun x => (bs ++ x.1, x.2)),
      fun σ' H' ⟨st', f, os, z, g1, g2, hσ, k⟩ => ⟨X.ts.length - st'.at_, by omega, st', f, os, z, hσ, rfl, k⟩, ?_⟩
    obtain ⟨dx2, o2⟩ := hR2.obj
    refine ⟨_, rfl, X.p, dx2, _, rfl, o2, rfl, _, rfl, X.add l, st1, ?_, hR2, hlt, fun tt st2 v H3 e3 mv3 hR3 ho0 => ?_, fun e3 H3 mv3 => ?_⟩
    · show [V.ref X.p, V.int (6 - ((n + 1 : Nat) : Int))] = [V.ref X.p, V.int (5 - (n : Int))]
      rw [ew]
    rotate_left
    · have e3' : oneT X.ts (rowsT X.ts (blockT X.ts n) (decide (0 < n))) st1 = none := e3
      rw [e3'] at hb'
      exact q2 (by rw [hb']; rfl) H3 (mv2.trans mv3)
    have e3' : oneT X.ts (rowsT X.ts (blockT X.ts n) (decide (0 < n))) st1 = some (tt, st2) := e3
    rw [e3'] at hb'
    simp only at hb'
    have ho := ho0.row
    have e4 : oneF X.ts (rowsF X.ts (blockF X.ts n) (decide (0 < n))) st1 = some (tt.rt, st2) := by
      rw [oneT_F (rows := rowsT X.ts (blockT X.ts n) (decide (0 < n))) fun ws st => rowsT_F fun st => blockT_F, e3']; rfl
    generalize hrt : tt.rt = rt at ho e4 hb'
    have gr := oneF_gr (fun ws st rt st' h => rowsF_gr (fun st st' h => blockF_gr h) h) e4
    have hat3 : st2.at_ ≤ X.ts.length := hR3.at_
    have hlt3 : st1.at_ < st2.at_ := (oneF_at (fun ws st rt st' hs h => rowsF_at (fun st st' hs h => blockF_at hs h) hs h) hlt e4).1
    have ncl : l ≠ X.cl := (hR1.lists l List.mem_cons_self).1
    have h2 := s2 _ _ h1
    have h3 := hR2.keepList mv3 ncl h2
    obtain ⟨pr, dr, fr, er, gr1, gr2, gr3⟩ := ho.at
    obtain ⟨dx3, o3⟩ := hR3.obj
    have hn3 : (putN st2.num st1.at_ rt).length ≤ st2.at_ := by
      have := putN_len st2.num st1.at_ rt
      have hnn : st1.num.length ≤ st1.at_ := hR1.nn
      omega
    obtain ⟨kvs, k1, k2, mv4, hR4⟩ := hR3.put (notR_ec T) (notR_rc T) ho hn3
    have k1' : H3 X.d = some (.dK kvs) := k1
    refine ⟨_, rfl, _, rfl, X.p, A.Reader, dx3, _, _, rfl, o3, T.cl_Reader, T.n_Reader_by_number, rfl, _, rfl, pr, _, dr, _, _, er, gr1, (rc_cls T rt).1, (rc_cls T rt).2, gr3, X.d, _, rfl, DPut.k (k := .inl (st1.at_ : Int)) (v := v) k1' (Nat.lt_of_le_of_lt k2 (by decide)), ?_⟩
    have h4 : upd H3 (X.add l).d (.dK (putK kvs (.inl (st1.at_ : Int)) v)) l = some (.lst os) := hR3.keepList mv4 ncl h3
    show tSeq _ _ _ _ (upd H3 (X.add l).d (.dK (putK kvs (.inl (st1.at_ : Int)) v)))
    have hb3 : BlkO A.rc A.ec (X.add l).N H3 (bs ++ [(st1.at_, tt)]) (os ++ [v]) := BlkO.snoc ho0 ((hbo.same s2).keepI (hR2.keepI mv3) (notR_ec T) (notR_rc T))
    have hb4 := hb3.keepI (hR3.keepI mv4) (notR_ec T) (notR_rc T)
    generalize hG : upd H3 (X.add l).d (.dK (putK kvs (.inl (st1.at_ : Int)) v)) = H4 at mv4 hR4 h4 hb4 ⊢
    refine ⟨_, rfl, .inl ⟨rfl, _, SqL.of h4⟩, _, rfl, l, _, _, rfl, rfl, h4, Nat.lt_of_le_of_lt (show os.length ≤ 60 by have := hR1.sm.1; have : st1.at_ ≤ X.ts.length := hat1; have : X.ts.length ≤ 60 := hR1.sm.1; omega) (by decide), ?_⟩
    refine ⟨⟨st2.at_, putN st2.num st1.at_ rt, st2.calls⟩, f, _, _, hlt3, hat3, rfl, ?_, hR4.grow h4, upd_same, ?_, ?_, bs ++ [(st1.at_, tt)], hb4.keepI (cs := fun _ => True) ⟨fun q C dx fs _ hq => by rw [upd_ne (ne_of hq h4 (by intro z; cases z))]; exact hq, fun q zs hn hq => by
      have nq : q ≠ l := fun z => hn.2 (by rw [z]; exact List.mem_cons_self)
      rw [upd_ne nq]; exact hq⟩ (fun _ _ => trivial) (fun _ _ => trivial), ?_⟩
    rotate_right
    · rw [hb']
      cases blkT X.ts (oneT X.ts (rowsT X.ts (blockT X.ts n) (decide (0 < n)))) f ⟨st2.at_, putN st2.num st1.at_ rt, st2.calls⟩ <;> simp
    · exact fun z o n h => by
        rw [upd_ne (ne_of_none h hl)]
        exact ((mv2.trans mv3).trans mv4) z o n h
    · rw [List.length_append, List.length_singleton]; show os.length + 1 ≤ st2.at_; omega
    · show X.ts.length + 1 ≤ f + st2.at_; omega

end
end K24
namespace K24
open PySem L2 TL
section
variable {P : Program} {w : World} {K : PySem.W.Frag} {mg : Str → Option Value} {base : Heap} {A : Ads}
theorem ok_Function_init (T : Txt K mg A) : FnOk P w K mg base CX0 1 A.Function_init A.Function_init_d ["self", "name", "params", "body", "give"] (spRI A.Function ["name", "params", "body", "give"]) := by
  refine T.F_Function_init.ok sc_Function_init (fun vs H Q E h => ?_) (fun cdv A0 outer s H vs Q E hr h => ?_)
  · obtain ⟨p, dx, xs, rfl, hl, hp, q⟩ := h
    exact congrArg (· + 1) hl
  obtain ⟨p, dx, xs, rfl, hl, hp, q⟩ := h
  refine ⟨_, (pss_cons (ps_fld (pv 0) (pv 1) rfl)
   (pss_cons (ps_fld (pv 0) (pv 2) rfl)
   (pss_cons (ps_fld (pv 0) (pv 3) rfl)
   (pss_one (ps_fld (pv 0) (pv 4) rfl))))), ?_⟩
  obtain ⟨x0, x1, x2, x3, rfl⟩ : ∃ x0 x1 x2 x3, xs = [x0, x1, x2, x3] := by
    match xs, hl with
    | [x0, x1, x2, x3], _ => exact ⟨x0, x1, x2, x3, rfl⟩
  refine ⟨_, rfl, _, rfl, p, A.Function, dx, _, rfl, hp, T.cl_Function, T.n_Function_name, (by show 0 < 1000; decide), ?_⟩
  refine ⟨_, rfl, _, rfl, p, A.Function, dx, _, rfl, upd_same, T.cl_Function, T.n_Function_params, (by show 1 < 1000; decide), ?_⟩
  refine ⟨_, rfl, _, rfl, p, A.Function, dx, _, rfl, upd_same, T.cl_Function, T.n_Function_body, (by show 2 < 1000; decide), ?_⟩
  refine ⟨_, rfl, _, rfl, p, A.Function, dx, _, rfl, upd_same, T.cl_Function, T.n_Function_give, (by show 3 < 1000; decide), ?_⟩
  rw [upd_upd, upd_upd, upd_upd]
  exact q

end
end K24
namespace K24
open PySem L2 TL
section
variable {P : Program} {w : World} {K : PySem.W.Frag} {mg : Str → Option Value} {base : Heap} {A : Ads}
theorem ok_Reader_function (T : Txt K mg A) : FnOk P w K mg base (L2.CX P w) 31 A.Reader_function A.Reader_function_d ["self"] (spFunctionT K A.rc A.ec A.Reader A.NoProgram A.Function) := by
  have G_check_names := ok_check_names (P := P) (w := w) (base := base) T
  have G_Reader_block := ok_Reader_block (P := P) (w := w) (base := base) T 6
  have G_Reader_head := ok_Reader_head (P := P) (w := w) (base := base) T
  have G_Give_init := ok_Give_init (P := P) (w := w) (base := base) T
  have G_only := ok_only (P := P) (w := w) (base := base) T
  have G_exprs_of := ok_exprs_of (P := P) (w := w) (base := base) T
  have G_Function_init := ok_Function_init (P := P) (w := w) (base := base) T
  refine T.F_Reader_function.okX sc_Reader_function (fun vs H Q E h => ?_) (fun cdv A0 outer s H vs Q E hr h => ?_)
  · obtain ⟨X, st, rfl, hR, hh, q1, q2⟩ := h
    rfl
  obtain ⟨X, st, rfl, hR, hh, q1, q2⟩ := h
  refine ⟨_, (pss_cons (ps_set (i := 1) sc_Reader_function.nd rfl (Or.inl rfl) (pe_split (pe_ix ix_list (pe_fld (pv 0) rfl) (pe_fld (pv 0) rfl) (fun _ _ => rfl)) pe_str))
   (pss_cons (ps_fldaug (pv 0) pe_int in_add)
   (pss_cons (ps_set (i := 2) sc_Reader_function.nd rfl (Or.inl rfl) (pe_slice sl_list (pv 1) (po_some pe_int) po_none))
   (pss_cons (ps_expr (pe_call G_check_names (hr.mono (by decide)) rfl T.m_check_names T.F_check_names.kp T.b_check_names .nil (passes_call (takes_of rfl rfl rfl rfl) (fun _ _ _ _ h => h)) (pa_cons (pe_slice sl_list (pv 1) (po_some pe_int) po_none) (pa_cons (pe_op op_sub (pe_callB call_lenK (by rfl) T.z_len (by decide +kernel) (pa_cons (pv 1) pa_nil)) pe_int) pa_nil))))
   (pss_cons (ps_ifC (PW.pt (pw_or (pt_cmpR op_lt (pe_callB call_lenK (by rfl) T.z_len (by decide +kernel) (pa_cons (pv 1) pa_nil)) pe_int (nomark _)) (pw_or (pt_cmpR op_gt (pe_callB call_lenK (by rfl) T.z_len (by decide +kernel) (pa_cons (pv 2) pa_nil)) (pe_glob (v := .int 3) (by rfl) T.c_MOST_PARAMS.choose_spec ⟨_, rfl⟩) (nomark _)) (pw_or1 (pt_cmpR op_ne (pe_lenTexts rfl (by rfl) T.z_len (by rfl) T.z_set (pv 2)) (pe_callB call_lenK (by rfl) T.z_len (by decide +kernel) (pa_cons (pv 2) pa_nil)) (nomark _))))))
    (pss_one (ps_raise rfl (takes_of rfl rfl rfl rfl) (pmk_own PySem.F.excBase_ValueError T.x_NoProgram T.m_NoProgram T.kk_NoProgram (raises_own T.bb_NoProgram T.tt_NoProgram) (by exact rfl))))
    pss_nil)
   (pss_cons (ps_set (i := 3) sc_Reader_function.nd rfl (Or.inl rfl) (pe_meth (pv 0) T.cl_Reader T.me_Reader_block G_Reader_block (hr.mono (by decide)) T.b_Reader_block .nil (passes_call (takes_of rfl rfl rfl rfl) (fun _ _ _ _ h => h)) (pa_cons pe_int pa_nil)))
   (pss_cons (ps_if (pt_cmpR op_ne (pe_meth0 (pv 0) T.cl_Reader T.me_Reader_head G_Reader_head (hr.mono (by decide)) T.b_Reader_head .nil pass0) pe_str (nomark _))
    (pss_one (ps_raise rfl (takes_of rfl rfl rfl rfl) (pmk_own PySem.F.excBase_ValueError T.x_NoProgram T.m_NoProgram T.kk_NoProgram (raises_own T.bb_NoProgram T.tt_NoProgram) (by exact rfl))))
    pss_nil)
   (pss_cons (ps_set (i := 4) sc_Reader_function.nd rfl (Or.inl rfl) (pe_make T.k_Give G_Give_init (hr.mono (by decide)) rfl T.m_Give T.b_Give_init .nil pass0 (pa_cons (pe_fld (pv 0) rfl) (pa_cons (pe_call G_only (hr.mono (by decide)) rfl T.m_only T.F_only.kp T.b_only .nil (passes_call (takes_of rfl rfl rfl rfl) (fun _ _ _ _ h => h)) (pa_cons (pe_call G_exprs_of (hr.mono (by decide)) rfl T.m_exprs_of T.F_exprs_of.kp T.b_exprs_of .nil (passes_call (takes_of rfl rfl rfl rfl) (fun _ _ _ _ h => h)) (pa_cons (pe_slice sl_list (pe_split (pe_ix ix_list (pe_fld (pv 0) rfl) (pe_fld (pv 0) rfl) (fun _ _ => rfl)) pe_str) (po_some pe_int) po_none) pa_nil)) pa_nil)) pa_nil))))
   (pss_cons (ps_dput (hu_of hr) (pe_fld (pv 0) rfl) (pe_fld (pv 0) rfl) (pv 4) rfl)
   (pss_cons (ps_fldaug (pv 0) pe_int in_add)
   (pss_one (ps_ret (pe_make T.k_Function G_Function_init (hr.mono (by decide)) rfl T.m_Function T.b_Function_init .nil pass0 (pa_cons (pe_ix ix_list (pv 1) pe_int (fun _ _ => rfl)) (pa_cons (pv 2) (pa_cons (pv 3) (pa_cons (pv 4) pa_nil))))))))))))))))), ?_⟩
  obtain ⟨hat, hw⟩ := headAt_lt hh
  obtain ⟨dx, h1⟩ := hR.obj
  have hok := wordsAt_ok hR.sm.2 st.at_
  refine ⟨_, rfl, X.p, A.Reader, dx, _, _, rfl, h1, T.cl_Reader, T.n_Reader_texts, rfl, _, rfl, X.p, A.Reader, dx, _, _, rfl, h1, T.cl_Reader, T.n_Reader_at, rfl, X.a, _, _, _, rfl, rfl, (SqL.of hR.txts), at_wd hat, ⟨_, rfl⟩, _, _, rfl, rfl, (by decide +kernel), wd_size hR.sm.2 hat, fun l hl => ?_⟩
  have s1 := same_new (o := .lst ((wordsAt X.ts st.at_).map V.str)) hl
  have hR1 := hR.same s1
  have k1 := s1 _ _ h1
  refine ⟨_, rfl, X.p, A.Reader, dx, _, _, rfl, k1, T.cl_Reader, T.n_Reader_at, rfl, _, _, rfl, rfl, dx, _, k1, (by show 4 < 1000; decide), ?_⟩
  obtain ⟨mv2, hR2⟩ := hR1.step (notR_ec T) (notR_rc T) hat k1
  show tSeq _ _ _ _ (upd (upd H l (.lst ((wordsAt X.ts st.at_).map V.str))) X.p (.ins A.Reader dx (putF "at" (V.int (((st.at_ : Nat) : Int) + 1)) (rdF X st))))
  generalize hG : upd (upd H l (.lst ((wordsAt X.ts st.at_).map V.str))) X.p (.ins A.Reader dx (putF "at" (V.int (((st.at_ : Nat) : Int) + 1)) (rdF X st))) = H2 at mv2 hR2 ⊢
  have nlcl : l ≠ X.cl := fun e => by
    obtain ⟨os, z, _⟩ := hR.calls
    rw [← e, hl] at z; cases z
  have mv := (mv_same (X := X) s1).trans mv2
  have hS2 : SqL K H2 l ((wordsAt X.ts st.at_).map V.str) := hR1.seq mv2 nlcl (SqL.of upd_same)
  have hne := hok.2
  have hsm := hok.1
  unfold functionT at q1 q2
  generalize hW : wordsAt X.ts st.at_ = ws at *
  -- params
  refine ⟨_, rfl, 2, rfl, l, _, rfl, hS2, fun lp hlp => ?_⟩
  rw [show ((2 : Int) = ((2 : Nat) : Int)) from rfl, cut_drop]
  have s3 := same_new (o := .lst ((ws.drop 2).map V.str)) hlp
  have gp : upd H2 lp (.lst ((ws.drop 2).map V.str)) lp = some (.lst ((ws.drop 2).map V.str)) := upd_same
  generalize hG3 : upd H2 lp (.lst ((ws.drop 2).map V.str)) = H3 at s3 gp ⊢
  have hR3 := hR2.same s3
  have nlp : lp ≠ X.cl := fun e => by
    obtain ⟨os, z, _⟩ := hR2.calls
    rw [← e, hlp] at z; cases z
  have nav : lp ∉ X.av := fun e => by
    obtain ⟨_, _, xs3, z1⟩ := hR2.lists lp e
    rw [hlp] at z1; cases z1
  have mv3 := mv.trans (mv_same s3)
  have hS3 := s3.seq hS2
  -- check_names
  refine ⟨_, rfl, 1, rfl, l, _, rfl, hS3, fun l1 hl1 => ?_⟩
  rw [show ((1 : Int) = ((1 : Nat) : Int)) from rfl, cut_drop]
  have s4 := same_new (o := .lst ((ws.drop 1).map V.str)) hl1
  have hpos : 0 < ws.length := List.length_pos_iff.mpr hne
  refine ⟨_, rfl, l, _, rfl, .inl (s4.seq hS3), _, _, rfl, rfl, ?_⟩
  rw [List.length_map]
  refine ⟨l1, ws.drop 1, ws.length - 1, ?_, SqL.of upd_same, hsm.drop 1, fun ok H4 s5 => ?_, fun no H4 s5 => ?_⟩
  · show [V.ref l1, V.int (((ws.length : Nat) : Int) - 1)] = _
    rw [show ((ws.length - 1 : Nat) : Int) = (ws.length : Int) - 1 from by omega]
  rotate_left
  · refine q2 (if_neg fun h => ?_) H4 (mv3.trans (mv_same (s4.trans s5)))
    have : namesOk (ws.drop 1) (ws.length - 1) = true := by
      unfold namesOk
      rw [h.1, List.length_drop, decide_eq_true rfl]; rfl
    rw [no] at this; cases this
  have s45 := s4.trans s5
  have hR4 := hR3.same s45
  have mv4 := mv3.trans (mv_same s45)
  have hS4 := s45.seq hS3
  have gp4 := s45 _ _ gp
  have ha : (ws.drop 1).all isNameW = true := by rw [List.all_eq_true]; exact (names_len ok).2
  have hdl : (ws.drop 2).length ≤ 100000 := by rw [List.length_drop]; have := hsm.1; omega
  refine ⟨decide (¬ (2 ≤ ws.length ∧ (ws.drop 2).length ≤ 3 ∧ cntTo (ws.drop 2) (ws.drop 2).length = (ws.drop 2).length)), H4, fun Z hZ => ?_, ?_⟩
  · refine ⟨_, rfl, l, _, rfl, .inl hS4, _, _, rfl, rfl, _, rfl, ?_⟩
    rw [List.length_map]
    refine iteD2 (fun c1 => zTrue hZ fun h => by have := h.1; omega) (fun c1 => ?_)
    refine ⟨_, rfl, lp, _, rfl, .inl (SqL.of gp4), _, _, rfl, rfl, _, rfl, ?_⟩
    rw [List.length_map]
    refine iteD2 (fun c2 => zTrue hZ fun h => by have := h.2.1; omega) (fun c2 => ?_)
    refine ⟨_, rfl, lp, _, rfl, SqL.of gp4, by omega, _, rfl, lp, _, rfl, .inl (SqL.of gp4), rfl, _, rfl, ?_⟩
    rw [List.length_map]
    by_cases c3 : cntTo (ws.drop 2) (ws.drop 2).length = (ws.drop 2).length
    · rw [decide_eq_true (by rw [c3])]
      exact zFalse hZ fun h => h ⟨by omega, by omega, c3⟩
    · rw [decide_eq_false (fun e => c3 (by have := V.int.inj e; omega))]
      exact zTrue hZ fun h => c3 h.2.2
  refine iteD2 (fun c1 => ?_) (fun c1 => ?_)
  · exact q2 (if_neg fun h => c1 h.2) H4 mv4
  have c1 := Decidable.not_not.mp c1
  rw [if_pos ⟨ha, c1⟩] at q2
  simp only [if_pos (And.intro ha c1)] at q1
  -- body
  obtain ⟨dx4, o4⟩ := hR4.obj
  refine ⟨_, rfl, X.p, dx4, _, rfl, o4, rfl, X, _, rfl, hR4, by decide, fun bs st2 lb os2 H5 b1 mv5 hR5 nlb elb bo => ?_, fun b1 H5 mv5 => ?_⟩
  rotate_left
  · rw [b1] at q2
    exact q2 rfl H5 (mv4.trans mv5)
  rw [b1] at q1 q2
  simp only at q1 q2
  have mv5' := mv4.trans mv5
  have gp5 := hR4.keepList mv5 nlp gp4
  have hS5 := hR4.seq mv5 nlcl hS4
  obtain ⟨dx5, o5⟩ := hR5.obj
  refine ⟨_, rfl, X.p, dx5, _, rfl, o5, rfl, X, st2, rfl, hR5, fun H6 s6 => ?_⟩
  have hR6 := hR5.same s6
  have mv6 := mv5'.trans (mv_same s6)
  have gp6 := s6 _ _ gp5
  have hS6 := s6.seq hS5
  refine ⟨by unfold headV; cases headAt X.ts st2.at_ <;> rfl, _, rfl, iteN2 (fun c2 => ?_) (fun c2 => ?_)⟩
  · refine q2 (if_neg fun h => c2 ?_) H6 mv6
    unfold headV; rw [h]; rfl
  have hg : headAt X.ts st2.at_ = some "give" := by
    unfold headV at c2
    cases e : headAt X.ts st2.at_ with
    | none => rw [e] at c2; cases c2
    | some w => rw [e] at c2; rw [V.str.inj c2]; rfl
  rw [if_pos hg] at q2
  simp only [if_pos hg] at q1
  obtain ⟨hat2, hw2⟩ := headAt_lt hg
  have hok2 := wordsAt_ok hR.sm.2 st2.at_
  obtain ⟨dx6, o6⟩ := hR6.obj
  refine ⟨_, rfl, X.p, A.Reader, dx6, _, _, rfl, o6, T.cl_Reader, T.n_Reader_at, rfl, _, rfl, X.p, A.Reader, dx6, _, _, rfl, o6, T.cl_Reader, T.n_Reader_texts, rfl, _, rfl, X.p, A.Reader, dx6, _, _, rfl, o6, T.cl_Reader, T.n_Reader_at, rfl, X.a, _, _, _, rfl, rfl, (SqL.of hR6.txts), at_wd hat2, ⟨_, rfl⟩, _, _, rfl, rfl, (by decide +kernel), wd_size hR.sm.2 hat2, fun l7 hl7 => ?_⟩
  have s7 := same_new (o := .lst ((wordsAt X.ts st2.at_).map V.str)) hl7
  refine ⟨1, rfl, l7, (wordsAt X.ts st2.at_).map V.str, rfl, SqL.of upd_same, fun l8 hl8 => ?_⟩
  rw [show ((1 : Int) = ((1 : Nat) : Int)) from rfl, cut_drop]
  have s8 := same_new (o := .lst (((wordsAt X.ts st2.at_).drop 1).map V.str)) hl8
  have s78 := s7.trans s8
  refine ⟨l8, (wordsAt X.ts st2.at_).drop 1, rfl, SqL.of upd_same, (hok2.1.drop 1).1, (hok2.1.drop 1).2, fun es pe l9 H9 os s9 hn9 h9 hae => ?_, fun pe H9 s9 => ?_⟩
  rotate_left
  · have pe' : exL ((wordsAt X.ts st2.at_).drop 1) = none := pe
    rw [pe'] at q2
    exact q2 rfl H9 (mv6.trans (mv_same (s78.trans s9)))
  have s79 := s78.trans s9
  have pe' : exL ((wordsAt X.ts st2.at_).drop 1) = some es := pe
  rw [pe'] at q1 q2
  refine ⟨l9, os, rfl, h9, fun v hv => ?_, fun hn => ?_⟩
  rotate_left
  · rw [(allE_one hae).2 hn] at q2
    exact q2 rfl H9 (mv6.trans (mv_same s79))
  obtain ⟨e, rfl, ho⟩ := (allE_one hae).1 v hv
  simp only [only1] at q1
  refine fun x dxx hx hdx _ => mk_row (xs := [_, _]) hx hdx rfl fun H10 s10 g10 => ?_
  have s710 := s79.trans s10
  have hR10 := hR6.same s710
  have mv10 := mv6.trans (mv_same s710)
  have gp10 := s710 _ _ gp6
  have hS10 := s710.seq hS6
  obtain ⟨dx10, o10⟩ := hR10.obj
  have row : RowO A.rc A.ec X.N H10 (st2.at_ : Int) (.give e) (.ref x) := ⟨x, dxx, v, rfl, g10, ho.same s10⟩
  have b1F : blockF X.ts 6 { st with at_ := st.at_ + 1 } = some st2 := by
    have b1' : blockT X.ts 6 { st with at_ := st.at_ + 1 } = some (bs, st2) := b1
    rw [blockT_F, b1']; rfl
  have gr := blockF_gr b1F
  have elb10 := s710 _ _ (s6 _ _ elb)
  have bo10 := (bo.same s6).same s710
  have hn10 : (putN st2.num st2.at_ (.give e)).length ≤ st2.at_ := by
    have := putN_len st2.num st2.at_ (.give e)
    have hnn : st.num.length ≤ st.at_ := hR.nn
    have gr' : st2.num.length + (st.at_ + 1) ≤ st.num.length + st2.at_ := gr
    omega
  obtain ⟨kvs, y1, y2, mv11, hR11⟩ := hR10.put (notR_ec T) (notR_rc T) row hn10
  refine ⟨_, rfl, _, rfl, X.p, A.Reader, dx10, _, _, rfl, o10, T.cl_Reader, T.n_Reader_by_number, rfl, _, rfl, X.p, A.Reader, dx10, _, _, rfl, o10, T.cl_Reader, T.n_Reader_at, rfl, X.d, _, rfl, DPut.k (k := .inl (st2.at_ : Int)) (v := .ref x) y1 (Nat.lt_of_le_of_lt y2 (by decide)), ?_⟩
  show tSeq _ _ _ _ (upd H10 X.d (.dK (putK kvs (.inl (st2.at_ : Int)) (.ref x))))
  have gp11 := hR10.keepList mv11 nlp gp10
  have elb11 := (hR10.keepI mv11).2 _ _ nlb elb10
  have bo11 := bo10.keepI (hR10.keepI mv11) (notR_ec T) (notR_rc T)
  have row11 := row.keepI (hR10.keepI mv11) (notR_ec T) (notR_rc T)
  have hS11 := hR10.seq mv11 nlcl hS10
  generalize hG11 : upd H10 X.d (.dK (putK kvs (.inl (st2.at_ : Int)) (.ref x))) = H11 at mv11 hR11 gp11 hS11 elb11 bo11 row11 ⊢
  obtain ⟨dx11, o11⟩ := hR11.obj
  refine ⟨_, rfl, X.p, A.Reader, dx11, _, _, rfl, o11, T.cl_Reader, T.n_Reader_at, rfl, _, _, rfl, rfl, dx11, _, o11, (by show 4 < 1000; decide), ?_⟩
  obtain ⟨mv12, hR12⟩ := hR11.step (notR_ec T) (notR_rc T) hat2 o11
  show tSeq _ _ _ _ (upd H11 X.p (.ins A.Reader dx11 (putF "at" (V.int (((st2.at_ : Nat) : Int) + 1)) (rdF X ⟨st2.at_, putN st2.num st2.at_ (.give e), st2.calls⟩))))
  have gp12 := hR11.keepList mv12 nlp gp11
  have elb12 := (hR11.keepI mv12).2 _ _ nlb elb11
  have bo12 := bo11.keepI (hR11.keepI mv12) (notR_ec T) (notR_rc T)
  have row12 := row11.keepI (hR11.keepI mv12) (notR_ec T) (notR_rc T)
  have hS12 := hR11.seq mv12 nlcl hS11
  generalize hG12 : upd H11 X.p (.ins A.Reader dx11 (putF "at" (V.int (((st2.at_ : Nat) : Int) + 1)) (rdF X ⟨st2.at_, putN st2.num st2.at_ (.give e), st2.calls⟩))) = H12 at mv12 hR12 gp12 hS12 elb12 bo12 row12 ⊢
  refine ⟨_, rfl, l, _, _, _, rfl, rfl, hS12, at_wd (i := 1) (by have := c1.1; omega), _, rfl, _, rfl, _, rfl, fun y dxy hy hdy _ => mk_row (xs := [_, _, _, _]) hy hdy rfl fun H13 s13 g13 => ?_⟩
  exact q1 _ _ _ H13 rfl (((mv10.trans mv11).trans mv12).trans (mv_same s13)) (hR12.same s13) ⟨y, dxy, lp, lb, .ref x, os2, rfl, g13, ⟨nlp, nav⟩, s13 _ _ gp12, nlb, s13 _ _ elb12, bo12.same s13, row12.same s13⟩

theorem FunO.keepI {F : Addr} {cs N : Addr → Prop} {H H' : Hp} (k : KeepI cs N H H') (hF : cs F) {f : Str × Nat} {v : V} (h : FunO F N H f v) : FunO F N H' f v := by
  obtain ⟨p, dx, l, ps, b, g, h1, h2, h3, h4, h5⟩ := h
  exact ⟨p, dx, l, ps, b, g, h1, k.1 _ _ _ _ hF h2, h3, k.2 _ _ h3 h4, h5⟩
theorem FunK.keepI {F : Addr} {cs N : Addr → Prop} {H H' : Hp} {f : Str × Nat} {kv : Key × V} (h : FunK F N H f kv) (k : KeepI cs N H H') (hF : cs F) : FunK F N H' f kv := ⟨h.1, h.2.keepI k hF⟩
theorem FunK.same {F : Addr} {N : Addr → Prop} {H H' : Hp} {f : Str × Nat} {kv : Key × V} (h : FunK F N H f kv) (s : Same H H') : FunK F N H' f kv := ⟨h.1, h.2.keepI (cs := fun _ => True) (keepI_same s) trivial⟩
theorem keepI_dict {N : Addr → Prop} {H : Hp} {d : Addr} {kvs kvs' : List (Key × V)} (e : H d = some (.dK kvs)) : KeepI (fun _ => True) N H (upd H d (.dK kvs')) :=
  ⟨fun q C dx fs _ hq => by rw [upd_ne (ne_of hq e (by intro z; cases z))]; exact hq, fun q xs _ hq => by rw [upd_ne (ne_of hq e (by intro z; cases z))]; exact hq⟩
theorem RdH.dictU {K : PySem.W.Frag} {c : RC} {ec : EC} {R : Addr} {X : Rd} {H : Hp} {st : RS} (h : RdH K c ec R X H st) {d : Addr} {kvs kvs' : List (Key × V)} (e : H d = some (.dK kvs)) (n : d ≠ X.d) : RdH K c ec R X (upd H d (.dK kvs')) st := by
  have ki : KeepI (fun _ => True) X.N H (upd H d (.dK kvs')) := keepI_dict e
  obtain ⟨dx, h1⟩ := h.obj
  obtain ⟨ks, k1, k2⟩ := h.dict
  obtain ⟨os, k3, k4⟩ := h.calls
  exact ⟨⟨dx, (upd_ne (ne_of h1 e (by intro z; cases z))).trans h1⟩, ⟨ks, (upd_ne (Ne.symm n)).trans k1, k2.mono fun x kv z => ⟨z.1, z.2.keepI ki (fun _ _ => trivial) fun _ _ => trivial⟩⟩,
    ⟨os, (upd_ne (ne_of k3 e (by intro z; cases z))).trans k3, k4.mono fun f v ⟨n, b, es, z1, z2⟩ => ⟨n, b, es, z1, z2.keepI ki (fun _ _ => trivial) fun _ _ => trivial⟩⟩, (upd_ne (ne_of h.txts e (by intro z; cases z))).trans h.txts, h.ne, h.sm, h.cod, h.at_,
    fun a ha => by
      obtain ⟨n1, n2, xs, z⟩ := h.lists a ha
      exact ⟨n1, n2, xs, (upd_ne (ne_of z e (by intro z; cases z))).trans z⟩, h.cn, h.nn⟩
theorem all2_any {α : Type} {R : α → Key × V → Prop} {p : α → Bool} {k : Key} (hp : ∀ a kv, R a kv → p a = decide (kv.1 = k)) : ∀ {as : List α} {kvs : List (Key × V)}, All2 R as kvs → (valV kvs k).isSome = as.any p
  | _, _, .nil => rfl
  | a :: as, kv :: kvs, .cons h t => by
    have e := hp a kv h
    by_cases c : kv.1 = k
    · rw [decide_eq_true c] at e
      rw [valV_pos c, List.any_cons, e]; rfl
    · rw [decide_eq_false c] at e
      rw [valV_neg c, List.any_cons, e, all2_any hp t]; rfl
theorem valV_some_of_any {kvs : List (Key × V)} {k : Key} (h : (kvs.any fun kv => decide (kv.1 = k)) = true) : (valV kvs k).isSome = true := by
  induction kvs with
  | nil => cases h
  | cons kv r ih =>
    by_cases c : kv.1 = k
    · rw [valV_pos c]; rfl
    · rw [valV_neg c]
      rw [List.any_cons, decide_eq_false c, Bool.false_or] at h
      exact ih h
theorem functionF_at {ts : List Str} {st st' : RS} {f : Str × Nat} (hs : st.at_ < ts.length) (h : functionF ts st = some (f, st')) : st.at_ < st'.at_ := by
  unfold functionF at h
  split at h
  · cases b : blockF ts 6 { st with at_ := st.at_ + 1 } with
    | none => rw [b] at h; cases h
    | some st2 =>
      rw [b] at h
      simp only at h
      split at h
      · cases o : only1 (exL ((wordsAt ts st2.at_).drop 1)) with
        | none => rw [o] at h; cases h
        | some e =>
          rw [o] at h
          cases h
          have t : st.at_ + 1 ≤ st2.at_ := (blockF_at (st := { st with at_ := st.at_ + 1 }) hs b).1
          show st.at_ < st2.at_ + 1
          omega
      · cases h
  · cases h

end
end K24
namespace K24
open PySem L2 TL
section
variable {P : Program} {w : World} {K : PySem.W.Frag} {mg : Str → Option Value} {base : Heap} {A : Ads}
theorem ok_check_calls (T : Txt K mg A) : FnOk P w K mg base (L2.CX P w) 1 A.check_calls A.check_calls_d ["calls", "functions"] (spCalls A.rc A.ec A.NoProgram A.Function) := by
  refine T.F_check_calls.okX sc_check_calls (fun vs H Q E h => ?_) (fun cdv A0 outer s H vs Q E hr h => ?_)
  · obtain ⟨a, d, os, kvs, M, cs, fs, rfl, ha, hd, hos, hfs, q1, q2⟩ := h
    rfl
  obtain ⟨a, d, os, kvs, M, cs, fs, rfl, ha, hd, hos, hfs, q1, q2⟩ := h
  refine ⟨_, (pss_one (ps_for (passes_of rfl) rfl (pi_list (pv 0)) (pg_name (i := 2) sc_check_calls.nd rfl (Or.inl rfl))
    (pss_one (ps_ifC (PW.pt (pw_or (pt_cmp (pc_dnotin (hu_of hr) (pe_fld (pv 2) rfl) (pv 1))) (pw_or1 (pt_cmpR op_ne (pe_callB call_lenK (by rfl) T.z_len (by decide +kernel) (pa_cons (pe_fld (pe_dget (hu_of hr) (pv 1) (pe_fld (pv 2) rfl) (fun _ _ => rfl)) rfl) pa_nil)) (pe_callB call_lenK (by rfl) T.z_len (by decide +kernel) (pa_cons (pe_fld (pv 2) rfl) pa_nil)) (nomark _)))))
    (pss_one (ps_raise rfl (takes_of rfl rfl rfl rfl) (pmk_own PySem.F.excBase_ValueError T.x_NoProgram T.m_NoProgram T.kk_NoProgram (raises_own T.bb_NoProgram T.tt_NoProgram) (by exact rfl))))
    pss_nil)))), ?_⟩
  refine ⟨_, rfl, a, rfl, ⟨_, SqL.of ha⟩, for_list (xs := os) (fun i σ H' => ∃ z : Option V, σ = [some (.ref a), some (.ref d), z] ∧ H' = H ∧ (cs.take i).all (callOk fs) = true) ⟨none, rfl, rfl, rfl⟩ (fun i σ H' _ ⟨_, _, h, _⟩ => by rw [h]; exact SqL.of ha) ?_ ?_⟩
  · rintro i x σ H' hx ⟨z, rfl, rfl, hall⟩
    obtain ⟨c, hc, n, b, es, hel, p, dx, lg, os2, rfl, g1, g2, g3, g4⟩ := hos.at hx
    have hlen := g4.length
    have hi : i < cs.length := by
      by_cases h : i < cs.length
      · exact h
      · rw [List.getElem?_eq_none (by omega)] at hc; cases hc
    have ht : (cs.take (i + 1)).all (callOk fs) = callOk fs c := by
      rw [List.take_succ, List.all_append, hall, hc]
      show (true && (callOk fs c && true)) = callOk fs c
      rw [Bool.and_true, Bool.true_and]
    refine ⟨!callOk fs c, H', fun Z hZ => ?_, ?_⟩
    · refine ⟨_, rfl, p, A.Call, dx, _, _, rfl, g1, T.cl_Call, T.n_Call_fun, rfl, _, rfl, d, _, rfl, DGet.k (k := .inr c.1) hd, _, rfl, ?_⟩
      have hp : ∀ (f : Str × Nat) (kv : Key × V), FunK A.Function M H' f kv → decide (f.1 = c.1) = decide (kv.1 = (.inr c.1 : Key)) := fun f kv h => by
        rw [h.1]
        by_cases q : f.1 = c.1
        · rw [decide_eq_true q, decide_eq_true (congrArg Sum.inr q : (.inr f.1 : Key) = .inr c.1)]
        · rw [decide_eq_false q, decide_eq_false (fun e : (.inr f.1 : Key) = .inr c.1 => q (Sum.inr.inj e))]
      unfold callOk at hZ
      rcases all2_find (p := fun f => decide (f.1 = c.1)) (k := .inr c.1) hp hfs with ⟨e1, e2⟩ | ⟨f, v, hf, e1, e3, e2, hr⟩
      · rw [e1] at hZ
        rw [e2]
        exact iteT hZ
      · rw [e1] at hZ
        rw [e2]
        refine iteF ?_
        obtain ⟨pf, dxf, lf, ps, bd, gv, hv, f1, f2, f3, f4⟩ := hr.2
        have hv' : v = .ref pf := hv
        subst hv'
        refine ⟨_, rfl, _, rfl, p, A.Call, dx, _, _, rfl, g1, T.cl_Call, T.n_Call_fun, rfl, d, _, rfl, (by rw [← e2]; exact DGet.k (k := .inr c.1) hd), pf, A.Function, dxf, _, _, rfl, f1, T.cl_Function, T.n_Function_params, rfl, lf, _, rfl, .inl (SqL.of f3), _, rfl, p, A.Call, dx, _, _, rfl, g1, T.cl_Call, T.n_Call_given, rfl, lg, _, rfl, .inl (SqL.of g3), rfl, _, rfl, ?_⟩
        rw [List.length_map]
        have hq : (!decide (V.int (ps.length : Nat) = V.int (os2.length : Nat))) = !decide (f.2 = c.2) := by
          congr 1
          rw [f4, ← hlen, hel]
          by_cases q : f.2 = c.2
          · rw [decide_eq_true q, q, decide_eq_true rfl]
          · rw [decide_eq_false q, decide_eq_false fun e => q (by have := V.int.inj e; omega)]
        show Z (!decide (V.int (ps.length : Nat) = V.int (os2.length : Nat))) H'
        rw [hq]
        exact hZ
    · cases hcc : callOk fs c with
      | true => exact iteF ⟨_, rfl, rfl, by rw [ht, hcc]⟩
      | false =>
        refine iteT (q2 ?_)
        cases hall2 : cs.all (callOk fs) with
        | false => rfl
        | true =>
          have := List.all_eq_true.mp hall2 c (List.mem_of_getElem? hc)
          rw [hcc] at this; cases this
  · rintro σ H' ⟨z, rfl, rfl, hall⟩
    rw [← hos.length, List.take_length] at hall
    exact q1 hall

end
end K24
namespace K24
open PySem L2 TL
section
variable {P : Program} {w : World} {K : PySem.W.Frag} {mg : Str → Option Value} {base : Heap} {A : Ads}
theorem ok_Program_init (T : Txt K mg A) : FnOk P w K mg base CX0 1 A.Program_init A.Program_init_d ["self", "texts", "main", "functions", "by_number"] (spRI A.Program ["texts", "main", "functions", "by_number"]) := by
  refine T.F_Program_init.ok sc_Program_init (fun vs H Q E h => ?_) (fun cdv A0 outer s H vs Q E hr h => ?_)
  · obtain ⟨p, dx, xs, rfl, hl, hp, q⟩ := h
    exact congrArg (· + 1) hl
  obtain ⟨p, dx, xs, rfl, hl, hp, q⟩ := h
  refine ⟨_, (pss_cons (ps_fld (pv 0) (pv 1) rfl)
   (pss_cons (ps_fld (pv 0) (pv 2) rfl)
   (pss_cons (ps_fld (pv 0) (pv 3) rfl)
   (pss_one (ps_fld (pv 0) (pv 4) rfl))))), ?_⟩
  obtain ⟨x0, x1, x2, x3, rfl⟩ : ∃ x0 x1 x2 x3, xs = [x0, x1, x2, x3] := by
    match xs, hl with
    | [x0, x1, x2, x3], _ => exact ⟨x0, x1, x2, x3, rfl⟩
  refine ⟨_, rfl, _, rfl, p, A.Program, dx, _, rfl, hp, T.cl_Program, T.n_Program_texts, (by show 0 < 1000; decide), ?_⟩
  refine ⟨_, rfl, _, rfl, p, A.Program, dx, _, rfl, upd_same, T.cl_Program, T.n_Program_main, (by show 1 < 1000; decide), ?_⟩
  refine ⟨_, rfl, _, rfl, p, A.Program, dx, _, rfl, upd_same, T.cl_Program, T.n_Program_functions, (by show 2 < 1000; decide), ?_⟩
  refine ⟨_, rfl, _, rfl, p, A.Program, dx, _, rfl, upd_same, T.cl_Program, T.n_Program_by_number, (by show 3 < 1000; decide), ?_⟩
  rw [upd_upd, upd_upd, upd_upd]
  exact q

end
end K24
namespace K24
open PySem L2 TL
section
variable {P : Program} {w : World} {K : PySem.W.Frag} {mg : Str → Option Value} {base : Heap} {A : Ads}
theorem ok_read_program (T : Txt K mg A) : FnOk P w K mg base (L2.CX P w) 32 A.read_program A.read_program_d ["text"] (spReadT A.rc A.ec A.NoProgram A.Function A.Program) := by
  have G_Reader_init := ok_Reader_init (P := P) (w := w) (base := base) T
  have G_Reader_head := ok_Reader_head (P := P) (w := w) (base := base) T
  have G_Reader_function := ok_Reader_function (P := P) (w := w) (base := base) T
  have G_Reader_pass_line := ok_Reader_pass_line (P := P) (w := w) (base := base) T
  have G_Reader_block := ok_Reader_block (P := P) (w := w) (base := base) T 6
  have G_check_calls := ok_check_calls (P := P) (w := w) (base := base) T
  have G_Program_init := ok_Program_init (P := P) (w := w) (base := base) T
  refine T.F_read_program.okX sc_read_program (fun vs H Q E h => ?_) (fun cdv A0 outer s H vs Q E hr h => ?_)
  · obtain ⟨s, rfl, ⟨hls, hlt, hco⟩, q1, q2⟩ := h
    rfl
  obtain ⟨s, rfl, ⟨hls, hlt, hco⟩, q1, q2⟩ := h
  refine ⟨_, (pss_cons (ps_if (pt_not (pt_val (pe_callB call_isi (by rfl) T.z_isinstance (by decide +kernel) (pa_cons (pv 0) (pa_cons (pe_bltn (v := .ty "str") (by rfl) T.z_str (by decide +kernel) rfl) pa_nil)))))
    (pss_one (ps_raise rfl (takes_of rfl rfl rfl rfl) (pmk_own PySem.F.excBase_ValueError T.x_NoProgram T.m_NoProgram T.kk_NoProgram (raises_own T.bb_NoProgram T.tt_NoProgram) (by exact rfl))))
    pss_nil)
   (pss_cons (ps_set (i := 1) sc_read_program.nd rfl (Or.inl rfl) (pe_split (pv 0) pe_str))
   (pss_cons (ps_if (pt_cmpR op_gt (pe_callB call_lenK (by rfl) T.z_len (by decide +kernel) (pa_cons (pv 1) pa_nil)) (pe_glob (v := .int 60) (by rfl) T.c_MOST_LINES.choose_spec ⟨_, rfl⟩) (nomark _))
    (pss_one (ps_raise rfl (takes_of rfl rfl rfl rfl) (pmk_own PySem.F.excBase_ValueError T.x_NoProgram T.m_NoProgram T.kk_NoProgram (raises_own T.bb_NoProgram T.tt_NoProgram) (by exact rfl))))
    pss_nil)
   (pss_cons (ps_set (i := 2) sc_read_program.nd rfl (Or.inl rfl) (pe_make T.k_Reader G_Reader_init (hr.mono (by decide)) rfl T.m_Reader T.b_Reader_init .nil pass0 (pa_cons (pv 1) pa_nil)))
   (pss_cons (ps_set (i := 3) sc_read_program.nd rfl (Or.inl rfl) pe_dnewK)
   (pss_cons (ps_while (passes_of rfl) (pt_cmpR op_eq (pe_meth0 (pv 2) T.cl_Reader T.me_Reader_head G_Reader_head (hr.mono (by decide)) T.b_Reader_head .nil pass0) pe_str (nomark _))
    (pss_cons (ps_set (i := 4) sc_read_program.nd rfl (Or.inl rfl) (pe_meth0 (pv 2) T.cl_Reader T.me_Reader_function G_Reader_function (hr.mono (by decide)) T.b_Reader_function .nil (passes_call (takes_of rfl rfl rfl rfl) (fun _ _ _ _ h => h))))
   (pss_cons (ps_ifC (PW.pt (pw_or (pt_cmp (pc_din (hu_of hr) (pe_fld (pv 4) rfl) (pv 3))) (pw_or1 (pt_cmpR op_eq (pe_callB call_lenD (by rfl) T.z_len (by decide +kernel) (pa_cons (pv 3) pa_nil)) (pe_glob (v := .int 4) (by rfl) T.c_MOST_FUNCTIONS.choose_spec ⟨_, rfl⟩) (nomark _)))))
    (pss_one (ps_raise rfl (takes_of rfl rfl rfl rfl) (pmk_own PySem.F.excBase_ValueError T.x_NoProgram T.m_NoProgram T.kk_NoProgram (raises_own T.bb_NoProgram T.tt_NoProgram) (by exact rfl))))
    pss_nil)
   (pss_one (ps_dput (hu_of hr) (pv 3) (pe_fld (pv 4) rfl) (pv 4) rfl)))))
   (pss_cons (ps_expr (pe_meth (pv 2) T.cl_Reader T.me_Reader_pass_line G_Reader_pass_line (hr.mono (by decide)) T.b_Reader_pass_line .nil (passes_call (takes_of rfl rfl rfl rfl) (fun _ _ _ _ h => h)) (pa_cons pe_str pa_nil)))
   (pss_cons (ps_set (i := 5) sc_read_program.nd rfl (Or.inl rfl) (pe_meth (pv 2) T.cl_Reader T.me_Reader_block G_Reader_block (hr.mono (by decide)) T.b_Reader_block .nil (passes_call (takes_of rfl rfl rfl rfl) (fun _ _ _ _ h => h)) (pa_cons pe_int pa_nil)))
   (pss_cons (ps_if (pt_cmpR op_notN (pe_meth0 (pv 2) T.cl_Reader T.me_Reader_head G_Reader_head (hr.mono (by decide)) T.b_Reader_head .nil pass0) pe_non (nomark _))
    (pss_one (ps_raise rfl (takes_of rfl rfl rfl rfl) (pmk_own PySem.F.excBase_ValueError T.x_NoProgram T.m_NoProgram T.kk_NoProgram (raises_own T.bb_NoProgram T.tt_NoProgram) (by exact rfl))))
    pss_nil)
   (pss_cons (ps_expr (pe_call G_check_calls (hr.mono (by decide)) rfl T.m_check_calls T.F_check_calls.kp T.b_check_calls .nil (passes_call (takes_of rfl rfl rfl rfl) (fun _ _ _ _ h => h)) (pa_cons (pe_fld (pv 2) rfl) (pa_cons (pv 3) pa_nil))))
   (pss_one (ps_ret (pe_make T.k_Program G_Program_init (hr.mono (by decide)) rfl T.m_Program T.b_Program_init .nil pass0 (pa_cons (pv 1) (pa_cons (pv 5) (pa_cons (pv 3) (pa_cons (pe_fld (pv 2) rfl) pa_nil))))))))))))))))), ?_⟩
  refine ⟨_, rfl, _, _, _, _, true, rfl, .ty _, .base (.str _), kit_ty (by decide +kernel), _, rfl, iteF ?_⟩
  refine ⟨_, rfl, ⟨_, rfl⟩, s, _, rfl, rfl, (by decide +kernel), sizeL2 (by omega), fun la hla => ?_⟩
  have s1 := same_new (o := .lst ((Txt.split s "\n").map V.str)) hla
  have ga : upd H la (.lst ((Txt.split s "\n").map V.str)) la = some (.lst ((Txt.split s "\n").map V.str)) := upd_same
  have hcod := split_cod hco "\n"
  have htl := hlt
  generalize hT : Txt.split s "\n" = ts at *
  generalize hG1 : upd H la (.lst (ts.map V.str)) = H1 at s1 ga ⊢
  unfold readT at q1 q2
  refine ⟨_, rfl, la, _, rfl, .inl (SqL.of ga), _, _, rfl, rfl, _, rfl, ?_⟩
  rw [List.length_map]
  refine iteD2 (fun c1 => ?_) (fun c1 => ?_)
  · exact q2 (if_neg (by omega)) H1 s1
  have c1' : ts.length ≤ 60 := by omega
  rw [if_pos c1'] at q2
  simp only [if_pos c1'] at q1
  refine ⟨_, rfl, fun x dx hx hdx ndx => ?_⟩
  have gHM : ∀ q o, H1 q = some o → upd (upd H1 dx (.own x)) x (.ins A.Reader dx []) q = some o := fun q o h => by
    rw [upd_ne (ne_of_none h hx), upd_ne (ne_of_none h hdx)]; exact h
  refine ⟨x, dx, la, ts, rfl, upd_same, gHM _ _ ga, c1', htl, hcod, fun d cl H2 nd ncl k2 hR2 => ⟨rfl, ?_⟩⟩
  have s2 : Same H1 H2 := fun q o h => k2 q o (fun hm => ne_of_none h hx (List.mem_singleton.mp hm)) (gHM q o h)
  have s12 := s1.trans s2
  have nHM : ∀ q, upd (upd H1 dx (.own x)) x (.ins A.Reader dx []) q = none → H q = none := fun q h => by
    cases e : H q with
    | none => rfl
    | some o => have := gHM q o (s1 _ _ e); rw [h] at this; cases this
  have hxn : H x = none := none_before s1 hx
  have hdn := nHM d nd
  have hcn := nHM cl ncl
  have toS : ∀ {Ha Hb : Hp}, Same H Ha → Mv ⟨x, d, cl, la, ts, []⟩ Ha Hb → Same H Hb := fun sa mv q o h => mv q o (fun hm => by
    simp only [List.mem_cons, List.not_mem_nil, or_false] at hm
    rcases hm with rfl | rfl | rfl
    · rw [hxn] at h; cases h
    · rw [hdn] at h; cases h
    · rw [hcn] at h; cases h) (sa q o h)
  show ∀ df, _ → _
  intro df hdf
  have s3 := same_new (o := .dK []) hdf
  have gd : upd H2 df (.dK []) df = some (.dK []) := upd_same
  have hR3 := hR2.same s3
  have ndf : df ≠ d := fun e => by
    obtain ⟨kvs, z, _⟩ := hR2.dict
    have z' : H2 d = some (.dK kvs) := z
    rw [← e, hdf] at z'; cases z'
  have s13 := s12.trans s3
  generalize hG3 : upd H2 df (.dK []) = H3 at s3 gd hR3 s13 ⊢
  have keepD : ∀ {Ha Hb : Hp} {st : RS} {kvs : List (Key × V)}, RdH K A.rc A.ec A.Reader ⟨x, d, cl, la, ts, []⟩ Ha st → Mv ⟨x, d, cl, la, ts, []⟩ Ha Hb → Ha df = some (.dK kvs) → Hb df = some (.dK kvs) := fun hR mv e => mv _ _ (fun hm => by
    obtain ⟨dx', z1⟩ := hR.obj
    obtain ⟨os', z2, _⟩ := hR.calls
    have z1' : _ = _ := z1
    have z2' : _ = _ := z2
    simp only [List.mem_cons, List.not_mem_nil, or_false] at hm
    rcases hm with rfl | rfl | rfl
    · rw [e] at z1'; cases z1'
    · exact ndf rfl
    · rw [e] at z2'; cases z2') e
  generalize hX : (⟨x, d, cl, la, ts, []⟩ : Rd) = X at *
  have ep : X.p = x := by rw [← hX]
  have ed : X.d = d := by rw [← hX]
  have ec : X.cl = cl := by rw [← hX]
  have et : X.ts = ts := by rw [← hX]
  have ea : X.a = la := by rw [← hX]
  generalize hF0 : funsT ts (ts.length + 1) [] ⟨0, [], []⟩ = F0 at q1 q2
  refine while_m (fun m σ H' => ∃ (st' : RS) (f : Nat) (fs : List FnD) (kvs : List (Key × V)) (z : Option V), σ = [some (.str s), some (.ref la), some (.ref x), some (.ref df), z, none] ∧ m = ts.length - st'.at_ ∧ Same H H' ∧ RdH K A.rc A.ec A.Reader X H' st' ∧ H' df = some (.dK kvs) ∧ All2 (FunTK A.rc A.ec A.Function X.N H') fs kvs ∧ fs.length ≤ 4 ∧ ts.length + 1 ≤ f + st'.at_ ∧ funsT ts f fs st' = F0) (ts.length - 0)
    ⟨⟨0, [], []⟩, ts.length + 1, [], [], none, rfl, rfl, s13, hR3, gd, .nil, by decide, Nat.le_add_right _ _, hF0⟩ ?_
  rintro m σ H4 ⟨st1, f, fs, kvs, z, rfl, rfl, s4, hR4, gd4, hfs, hf4, hf, hb⟩
  have hat4 : st1.at_ ≤ ts.length := et ▸ hR4.at_
  obtain ⟨f, rfl⟩ : ∃ f', f = f' + 1 := ⟨f - 1, by omega⟩
  obtain ⟨dx4, o4⟩ := hR4.obj
  rw [ep] at o4
  refine ⟨_, rfl, x, dx4, _, rfl, o4, rfl, X, st1, by rw [ep] <;> rfl, hR4, fun H5 s5 => ?_⟩
  have hR5 := hR4.same s5
  have s45 := s4.trans s5
  have gd5 := s5 _ _ gd4
  have hfs5 := hfs.mono fun a b h => h.same s5
  have hb' := hb
  unfold funsT at hb'
  rw [et]
  refine ⟨by unfold headV; cases headAt ts st1.at_ <;> rfl, _, rfl, iteD2 (fun c2 => ?_) (fun c2 => ?_)⟩
  · -- one function more
    have hh : headAt ts st1.at_ = some "fun" := by
      unfold headV at c2
      cases e : headAt ts st1.at_ with
      | none => rw [e] at c2; cases c2
      | some w => rw [e] at c2; rw [V.str.inj c2]; rfl
    rw [if_pos hh] at hb'
    obtain ⟨hlt, _⟩ := headAt_lt hh
    refine ⟨fun σ' H' => ∃ (st' : RS) (f : Nat) (fs : List FnD) (kvs : List (Key × V)) (z : Option V), st1.at_ < st'.at_ ∧ st'.at_ ≤ ts.length ∧ σ' = [some (.str s), some (.ref la), some (.ref x), some (.ref df), z, none] ∧ Same H H' ∧ RdH K A.rc A.ec A.Reader X H' st' ∧ H' df = some (.dK kvs) ∧ All2 (FunTK A.rc A.ec A.Function X.N H') fs kvs ∧ fs.length ≤ 4 ∧ ts.length + 1 ≤ f + st'.at_ ∧ funsT ts f fs st' = F0,
      fun σ' H' ⟨st', f, fs, kvs, z, g1, g2, hσ, k⟩ => ⟨ts.length - st'.at_, by omega, st', f, fs, kvs, z, hσ, rfl, k⟩, ?_⟩
    obtain ⟨dx5, o5⟩ := hR5.obj
    rw [ep] at o5
    refine ⟨_, rfl, x, dx5, _, rfl, o5, rfl, X, st1, by rw [ep] <;> rfl, hR5, by rw [et]; exact hh, fun fn st2 v H6 e6 mv6 hR6 hfn => ?_, fun e6 H6 mv6 => ?_⟩
    rotate_left
    · rw [et] at e6
      rw [e6] at hb'
      rw [← hb'] at q2
      exact q2 rfl H6 (toS s45 mv6)
    rw [et] at e6
    rw [e6] at hb'
    simp only at hb'
    have hat6 : st2.at_ ≤ ts.length := et ▸ hR6.at_
    have hlt6 : st1.at_ < st2.at_ := functionF_at (f := nmF fn) hlt (by rw [functionT_F, e6]; rfl)
    have s6 := toS s45 mv6
    have gd6 := keepD hR5 mv6 gd5
    have hfs6 := hfs5.mono fun a b h => h.keepI (hR5.keepI mv6) (notR_ec T) (notR_rc T) T.nr_Function
    obtain ⟨pf, dxf, lf, lb, gv, obs, rfl, f1, f2, f3, f4⟩ := id hfn
    have hp : ∀ (g : FnD) (kv : Key × V), FunTK A.rc A.ec A.Function X.N H6 g kv → decide (g.name = fn.name) = decide (kv.1 = (.inr fn.name : Key)) := fun g kv h => by
      rw [h.1]
      by_cases q : g.name = fn.name
      · rw [decide_eq_true q, decide_eq_true (congrArg Sum.inr q : (.inr g.name : Key) = .inr fn.name)]
      · rw [decide_eq_false q, decide_eq_false (fun e : (.inr g.name : Key) = .inr fn.name => q (Sum.inr.inj e))]
    have hany : (valV kvs (.inr fn.name)).isSome = fs.any fun g => decide (g.name = fn.name) := all2_any hp hfs6
    refine ⟨decide ((fs.any fun g => decide (g.name = fn.name)) = true ∨ fs.length = 4), H6, fun Z hZ => ?_, ?_⟩
    · refine ⟨_, rfl, pf, A.Function, dxf, _, _, rfl, f1, T.cl_Function, T.n_Function_name, rfl, _, rfl, df, _, rfl, DGet.k (k := .inr fn.name) gd6, _, rfl, ?_⟩
      rw [hany]
      cases hq : fs.any fun g => decide (g.name = fn.name) with
      | true => exact iteT (zTrue hZ (.inl hq))
      | false =>
        refine iteF ⟨_, rfl, df, kvs, rfl, gd6, rfl, _, rfl, ?_⟩
        rw [← hfs6.length]
        by_cases c4 : fs.length = 4
        · rw [decide_eq_true (by rw [c4]; rfl)]
          exact zTrue hZ (.inr c4)
        · rw [decide_eq_false (fun e => c4 (by have := V.int.inj e; omega))]
          exact zFalse hZ fun h => h.elim (fun e => by rw [hq] at e; cases e) c4
    refine iteD2 (fun c3 => ?_) (fun c3 => ?_)
    · rw [if_pos c3] at hb'
      rw [← hb'] at q2
      exact q2 rfl H6 s6
    rw [if_neg c3] at hb'
    refine ⟨_, rfl, _, rfl, _, rfl, pf, A.Function, dxf, _, _, rfl, f1, T.cl_Function, T.n_Function_name, rfl, df, _, rfl, DPut.k (k := .inr fn.name) (v := .ref pf) gd6 (by rw [← hfs6.length]; exact Nat.lt_of_le_of_lt hf4 (by decide)), ?_⟩
    have hnk : ¬ (kvs.any fun kv => decide (kv.1 = (.inr fn.name : Key))) = true := fun e => c3 (.inl (by rw [← hany, valV_some_of_any e]))
    unfold putK
    rw [if_neg hnk]
    have ki : KeepI (fun _ => True) X.N H6 (upd H6 df (.dK (kvs ++ [(.inr fn.name, .ref pf)]))) := keepI_dict gd6
    have hfs7 := (hfs6.mono fun a b h => h.keepI ki (fun _ _ => trivial) (fun _ _ => trivial) trivial).snoc (a := fn) (b := ((.inr fn.name : Key), V.ref pf)) ⟨rfl, (show FunTO A.rc A.ec A.Function X.N H6 fn (.ref pf) from hfn).keepI ki (fun _ _ => trivial) (fun _ _ => trivial) trivial⟩
    refine ⟨st2, f, fs ++ [fn], kvs ++ [(.inr fn.name, .ref pf)], _, hlt6, hat6, rfl, fun q o h => ?_, hR6.dictU gd6 (by rw [ed]; exact ndf), upd_same, hfs7, ?_, by omega, hb'⟩
    · have := s6 q o h
      by_cases c : q = df
      · rw [c] at h
        have := s13 _ _ h
        rw [gd] at this
        cases this
        have h0 := none_before s12 hdf
        rw [h0] at h; cases h
      · rw [upd_ne c]; exact this
    · rw [List.length_append, List.length_singleton]
      have : ¬ fs.length = 4 := fun e => c3 (.inr e)
      omega
  have hh : ¬ headAt ts st1.at_ = some "fun" := fun h => c2 (by unfold headV; rw [h]; rfl)
  rw [if_neg hh] at hb'
  rw [← hb'] at q1 q2
  simp only at q1 q2
  obtain ⟨dx5, o5⟩ := hR5.obj
  rw [ep] at o5
  refine ⟨_, rfl, x, dx5, _, rfl, o5, rfl, X, st1, _, by rw [ep] <;> rfl, hR5, fun st2 H6 p1 mv6 hR6 => ?_, fun p1 H6 mv6 => ?_⟩
  rotate_left
  · rw [et] at p1
    rw [p1] at q2
    exact q2 rfl H6 (toS s45 mv6)
  rw [et] at p1
  rw [p1] at q1 q2
  simp only at q1 q2
  have s6 := toS s45 mv6
  have gd6 := keepD hR5 mv6 gd5
  have hfs6 := hfs5.mono fun a b h => h.keepI (hR5.keepI mv6) (notR_ec T) (notR_rc T) T.nr_Function
  obtain ⟨dx6, o6⟩ := hR6.obj
  rw [ep] at o6
  refine ⟨_, rfl, x, dx6, _, rfl, o6, rfl, X, st2, by rw [ep] <;> rfl, hR6, by decide, fun mbs st3 ml mos H7 b1 mv7 hR7 nml eml mbo => ?_, fun b1 H7 mv7 => ?_⟩
  rotate_left
  · rw [et] at b1
    rw [b1] at q2
    exact q2 rfl H7 (toS s6 mv7)
  rw [et] at b1
  rw [b1] at q1 q2
  simp only at q1 q2
  have s7 := toS s6 mv7
  have gd7 := keepD hR6 mv7 gd6
  have hfs7 := hfs6.mono fun a b h => h.keepI (hR6.keepI mv7) (notR_ec T) (notR_rc T) T.nr_Function
  obtain ⟨dx7, o7⟩ := hR7.obj
  rw [ep] at o7
  refine ⟨_, rfl, x, dx7, _, rfl, o7, rfl, X, st3, by rw [ep] <;> rfl, hR7, fun H8 s8 => ?_⟩
  have hR8 := hR7.same s8
  have s78 := s7.trans s8
  have gd8 := s8 _ _ gd7
  have hfs8 := hfs7.mono fun a b h => h.same s8
  have hat8 : st3.at_ ≤ ts.length := et ▸ hR8.at_
  rw [et]
  refine ⟨rfl, _, rfl, iteN2 (fun c3 => ?_) (fun c3 => ?_)⟩
  · refine q2 (if_neg fun h => c3 ?_) H8 s78
    unfold headV headAt
    rw [if_neg (by omega)]
  have hend : st3.at_ = ts.length := by
    unfold headV headAt at c3
    by_cases c : st3.at_ < ts.length
    · rw [if_pos c] at c3; cases c3
    · omega
  obtain ⟨dx8, o8⟩ := hR8.obj
  obtain ⟨os, y1, y2⟩ := hR8.calls
  obtain ⟨nk, z1, z2⟩ := hR8.dict
  rw [ep] at o8
  have hEC := ec
  rw [ec] at y1
  refine ⟨_, rfl, x, A.Reader, dx8, _, _, rfl, o8, T.cl_Reader, T.n_Reader_calls, rfl, _, rfl, X.cl, df, os, kvs, X.N, st3.calls, fs.map nmF, rfl, by rw [hEC]; exact y1, gd8, y2, funK_map hfs8, fun ok => ?_, fun no => ?_⟩
  rotate_left
  · exact q2 (if_neg fun h => by rw [no] at h; cases h.2) H8 s78
  refine ⟨_, rfl, _, rfl, _, rfl, _, rfl, x, A.Reader, dx8, _, _, rfl, o8, T.cl_Reader, T.n_Reader_by_number, rfl, fun y dy hy hdy _ => mk_row (xs := [_, _, _, _]) hy hdy rfl fun H9 s9 g9 => ?_⟩
  exact q1 fs mbs _ H9 (if_pos ⟨hend, ok⟩) (s78.trans s9) ⟨y, dy, ml, df, _, _, mos, kvs, rfl, g9, s9 _ _ (s8 _ _ eml), ((mbo.same s8).same s9).weak fun _ _ _ => trivial, s9 _ _ gd8, hfs8.mono fun a kv h => ⟨h.1, ((h.same s9).2).weak fun _ _ _ => trivial⟩⟩

end
end K24
namespace K24
open PySem L2 TL
section
variable {P : Program} {w : World} {K : PySem.W.Frag} {mg : Str → Option Value} {base : Heap} {A : Ads}
theorem ok_both (T : Txt K mg A) : FnOk P w K mg base CX0 1 A.both A.both_d ["word", "one", "other"] spBoth := by
  refine T.F_both.ok sc_both (fun vs H Q E h => ?_) (fun cdv A0 outer s H vs Q E hr h => ?_)
  · obtain ⟨wd, a, b, rfl, ha, hb, q⟩ := h
    rfl
  obtain ⟨wd, a, b, rfl, ha, hb, q⟩ := h
  refine ⟨_, (pss_cons (ps_if (pt_cmpR op_eq (pv 0) pe_str (nomark _))
    (pss_one (ps_ret (pe_op op_mod (pe_op op_add (pv 1) (pv 2)) (pe_glob (v := .int 1000000) (by rfl) T.c_LIMIT.choose_spec ⟨_, rfl⟩))))
    pss_nil)
   (pss_cons (ps_if (pt_cmpR op_eq (pv 0) pe_str (nomark _))
    (pss_one (ps_ret (pe_op op_mod (pe_op op_sub (pv 1) (pv 2)) (pe_glob (v := .int 1000000) (by rfl) T.c_LIMIT.choose_spec ⟨_, rfl⟩))))
    pss_nil)
   (pss_cons (ps_if (pt_cmpR op_eq (pv 0) pe_str (nomark _))
    (pss_one (ps_ret (pe_op op_mod (pe_op op_mul (pv 1) (pv 2)) (pe_glob (v := .int 1000000) (by rfl) T.c_LIMIT.choose_spec ⟨_, rfl⟩))))
    pss_nil)
   (pss_cons (ps_if (pt_cmpR op_eq (pv 0) pe_str (nomark _))
    (pss_one (ps_ret (pe_callTy call_int1 (by rfl) T.z_int (by decide +kernel) (pa_cons (pe_cmpR op_lt (pv 1) (pv 2) (nomark _)) pa_nil))))
    pss_nil)
   (pss_cons (ps_if (pt_cmpR op_eq (pv 0) pe_str (nomark _))
    (pss_one (ps_ret (pe_callTy call_int1 (by rfl) T.z_int (by decide +kernel) (pa_cons (pe_cmpR op_eq (pv 1) (pv 2) (nomark _)) pa_nil))))
    pss_nil)
   (pss_cons (ps_if (pt_cmpR op_eq (pv 2) pe_int (nomark _))
    (pss_one (ps_ret pe_non))
    pss_nil)
   (pss_cons (ps_if (pt_cmpR op_eq (pv 0) pe_str (nomark _))
    (pss_one (ps_ret (pe_op op_fdivN (pv 1) (pv 2))))
    pss_nil)
   (pss_one (ps_ret (pe_op op_modN (pv 1) (pv 2))))))))))), ?_⟩
  unfold bothV at q
  refine ⟨_, rfl, rfl, _, rfl, ?_⟩
  refine iteD2 (fun c1 => ?_) (fun c1 => ?_)
  · rw [if_pos (V.str.inj c1)] at q
    walk_at "rd"
    exact q
  rw [if_neg (fun e => c1 (congrArg V.str e))] at q
  refine ⟨_, rfl, rfl, _, rfl, ?_⟩
  refine iteD2 (fun c2 => ?_) (fun c2 => ?_)
  · rw [if_pos (V.str.inj c2)] at q
    walk_at "rd"
    exact q
  rw [if_neg (fun e => c2 (congrArg V.str e))] at q
  refine ⟨_, rfl, rfl, _, rfl, ?_⟩
  refine iteD2 (fun c3 => ?_) (fun c3 => ?_)
  · rw [if_pos (V.str.inj c3)] at q
    refine ⟨_, rfl, _, rfl, _, _, rfl, rfl, Or.inl ⟨by have := ha.1; omega, by have := ha.2; omega⟩, ?_⟩
    walk_at "rd"
    exact q
  rw [if_neg (fun e => c3 (congrArg V.str e))] at q
  refine ⟨_, rfl, rfl, _, rfl, ?_⟩
  refine iteD2 (fun c4 => ?_) (fun c4 => ?_)
  · rw [if_pos (V.str.inj c4)] at q
    walk_at "rd"
    exact .inr ⟨_, rfl, q⟩
  rw [if_neg (fun e => c4 (congrArg V.str e))] at q
  refine ⟨_, rfl, rfl, _, rfl, ?_⟩
  refine iteD2 (fun c5 => ?_) (fun c5 => ?_)
  · rw [if_pos (V.str.inj c5)] at q
    refine ⟨_, rfl, _, rfl, rfl, ?_⟩
    exact .inr ⟨_, rfl, q⟩
  rw [if_neg (fun e => c5 (congrArg V.str e))] at q
  refine ⟨_, rfl, rfl, _, rfl, ?_⟩
  refine iteD2 (fun c6 => ?_) (fun c6 => ?_)
  · rw [if_pos (V.int.inj c6)] at q
    exact q
  have hb0 : b ≠ 0 := fun e => c6 (congrArg V.int e)
  rw [if_neg hb0] at q
  refine ⟨_, rfl, rfl, _, rfl, ?_⟩
  refine iteD2 (fun c7 => ?_) (fun c7 => ?_)
  · rw [if_pos (V.str.inj c7)] at q
    exact ⟨_, rfl, _, rfl, _, _, rfl, rfl, ⟨hb0, by have := hb.1; have := hb.2; omega⟩, q⟩
  rw [if_neg (fun e => c7 (congrArg V.str e))] at q
  exact ⟨_, rfl, _, rfl, _, _, rfl, rfl, hb0, q⟩

end
end K24
namespace K24
open PySem L2 TL
section
variable {P : Program} {w : World} {K : PySem.W.Frag} {mg : Str → Option Value} {base : Heap} {A : Ads}
theorem ok_Number_reckon (T : Txt K mg A) {J n : Nat} : FnOk P w K mg base CX0 (J + n + 2) A.Number_reckon A.Number_reckon_d ["self", "look"] (spReckon P w K mg base J A.ec (n + 1) A.Number) := by
  refine T.F_Number_reckon.ok sc_Number_reckon (fun vs H Q E h => ?_) (fun cdv A0 outer s H vs Q E hr h => ?_)
  · obtain ⟨e, v, f, S, lk, R, HE, G, spL, s0, mm, rfl, ho, hc, hd, hw, L, lo, r0, q⟩ := h
    rfl
  obtain ⟨e, v, f, S, lk, R, HE, G, spL, s0, mm, rfl, ho, hc, hd, hw, L, lo, r0, q⟩ := h
  refine ⟨_, (pss_one (ps_ret (pe_fld (pv 0) rfl))), ?_⟩
  cases e with
  | num n =>
    obtain ⟨p, dx, rfl, h1⟩ := ho
    exact ⟨_, rfl, p, A.Number, dx, _, _, rfl, lo.objs _ _ _ r0 _ _ h1, T.cl_Number, T.n_Number_value, rfl, q H (lo.down _ _ _ _ (by show mm ≤ 1 + mm; omega) r0)⟩
  | box z => exact (T.ne_box_num hc).elim
  | cell e => exact (T.ne_cell_num hc).elim
  | two wd l r => exact (T.ne_two_num hc).elim

theorem ok_Box_reckon (T : Txt K mg A) {J n : Nat} : FnOk P w K mg base CX0 (J + n + 2) A.Box_reckon A.Box_reckon_d ["self", "look"] (spReckon P w K mg base J A.ec (n + 1) A.Box) := by
  refine T.F_Box_reckon.ok sc_Box_reckon (fun vs H Q E h => ?_) (fun cdv A0 outer s H vs Q E hr h => ?_)
  · obtain ⟨e, v, f, S, lk, R, HE, G, spL, s0, mm, rfl, ho, hc, hd, hw, L, lo, r0, q⟩ := h
    rfl
  obtain ⟨e, v, f, S, lk, R, HE, G, spL, s0, mm, rfl, ho, hc, hd, hw, L, lo, r0, q⟩ := h
  refine ⟨_, (pss_one (ps_ret (KL.pe_callV (k := J) (i := 1) (E := E0) (hr.mono (by omega)) pass0 rfl (.inl rfl) (pa_cons (pe_tup (pa_cons pe_str (pa_cons (pe_fld (pv 0) rfl) pa_nil))) pa_nil)))), ?_⟩
  cases e with
  | num n => exact (T.ne_num_box hc).elim
  | box z =>
    obtain ⟨p, dx, rfl, h1⟩ := ho
    refine ⟨f, G, spL, rfl, L, lo.g _ _ _ r0, _, rfl, p, A.Box, dx, _, _, rfl, lo.objs _ _ _ r0 _ _ h1, T.cl_Box, T.n_Box_name, rfl, by show 2 ≤ sizeLine; decide, fun t ht => ?_⟩
    have s1 := same_new (o := .tup [.str "box", .str z]) ht
    have r1 : R (mm + 1) s0 _ := lo.down _ _ _ _ (by show mm + 1 ≤ 1 + mm; omega) (lo.same _ _ _ _ r0 s1)
    exact ⟨lo.g _ _ _ r1, lo.look _ _ _ (.box z) _ _ r1 ⟨t, rfl, upd_same⟩ hw q⟩
  | cell e => exact (T.ne_cell_box hc).elim
  | two wd l r => exact (T.ne_two_box hc).elim

theorem ok_Cell_reckon (T : Txt K mg A) {J n : Nat} (D_reckon : ∀ C, A.ec.Fam C → Disp P w K mg base CX0 "reckon" (J + n + 1) C (spReckon P w K mg base J A.ec n C)) : FnOk P w K mg base CX0 (J + n + 2) A.Cell_reckon A.Cell_reckon_d ["self", "look"] (spReckon P w K mg base J A.ec (n + 1) A.Cell) := by
  refine T.F_Cell_reckon.ok sc_Cell_reckon (fun vs H Q E h => ?_) (fun cdv A0 outer s H vs Q E hr h => ?_)
  · obtain ⟨e, v, f, S, lk, R, HE, G, spL, s0, mm, rfl, ho, hc, hd, hw, L, lo, r0, q⟩ := h
    rfl
  obtain ⟨e, v, f, S, lk, R, HE, G, spL, s0, mm, rfl, ho, hc, hd, hw, L, lo, r0, q⟩ := h
  refine ⟨_, (pss_cons (ps_set (i := 2) sc_Cell_reckon.nd rfl (Or.inl rfl) (pe_methP (pe_fld (pv 0) rfl) D_reckon (hr.mono (by omega)) pass0 (pa_cons (pv 1) pa_nil)))
   (pss_cons (ps_if (pt_cmpR op_isN (pv 2) pe_non (nomark _))
    (pss_one (ps_ret pe_non))
    pss_nil)
   (pss_one (ps_ret (KL.pe_callV (k := J) (i := 1) (E := E0) (hr.mono (by omega)) pass0 rfl (.inl rfl) (pa_cons (pe_tup (pa_cons pe_str (pa_cons (pv 2) pa_nil))) pa_nil)))))), ?_⟩
  cases e with
  | num n => exact (T.ne_num_cell hc).elim
  | box z => exact (T.ne_box_cell hc).elim
  | cell e =>
    obtain ⟨p, dx, i, rfl, h1, h2⟩ := ho
    have hd' : e.depth ≤ n := Nat.le_of_succ_le_succ hd
    have hw' : e.Wf := hw
    obtain ⟨p2, d2, f2, e2, g1, g2⟩ := h2.at (m := "reckon") (by decide +kernel)
    refine ⟨_, rfl, p, A.Cell, dx, _, _, rfl, lo.objs _ _ _ r0 _ _ h1, T.cl_Cell, T.n_Cell_inner, rfl, p2, _, d2, f2, e2, lo.objs _ _ _ r0 _ _ g1, g2, A.ec.fam e, _, rfl, e, i, f, S, lk, R, HE, G, spL, s0, mm + 1, rfl, h2, rfl, hd', hw', L, lo, lo.down _ _ _ _ (by show e.parts + (mm + 1) ≤ 1 + e.parts + mm; omega) r0, fun H1 r1 => ?_⟩
    have hv := fun m (h : (ev lk e s0).1 = some m) => ev_val lo.val hw' h
    have eq : ev lk (.cell e) s0 = evC lk (ev lk e s0) := rfl
    rw [eq] at q
    clear eq
    generalize ev lk e s0 = x at r1 q hv ⊢
    obtain ⟨x1, x2⟩ := x
    cases x1 with
    | none => exact ⟨_, rfl, rfl, _, rfl, iteDT rfl (q H1 (lo.down _ _ _ _ (by omega) r1))⟩
    | some m =>
      refine ⟨_, rfl, rfl, _, rfl, iteDF (fun h => by cases h) ?_⟩
      refine ⟨f, G, spL, rfl, L, lo.g _ _ _ r1, _, rfl, by show 2 ≤ sizeLine; decide, fun t ht => ?_⟩
      have s1 := same_new (o := .tup [.str "cell", .int m]) ht
      have r2 := lo.same _ _ _ _ r1 s1
      exact ⟨lo.g _ _ _ r2, lo.look _ _ _ (.cell m) _ _ r2 ⟨t, rfl, upd_same⟩ (hv m rfl) q⟩
  | two wd l r => exact (T.ne_two_cell hc).elim

theorem ok_Two_reckon (T : Txt K mg A) {J n : Nat} (D_reckon : ∀ C, A.ec.Fam C → Disp P w K mg base CX0 "reckon" (J + n + 1) C (spReckon P w K mg base J A.ec n C)) : FnOk P w K mg base CX0 (J + n + 2) A.Two_reckon A.Two_reckon_d ["self", "look"] (spReckon P w K mg base J A.ec (n + 1) A.Two) := by
  have G_both := ok_both (P := P) (w := w) (base := base) T
  refine T.F_Two_reckon.ok sc_Two_reckon (fun vs H Q E h => ?_) (fun cdv A0 outer s H vs Q E hr h => ?_)
  · obtain ⟨e, v, f, S, lk, R, HE, G, spL, s0, mm, rfl, ho, hc, hd, hw, L, lo, r0, q⟩ := h
    rfl
  obtain ⟨e, v, f, S, lk, R, HE, G, spL, s0, mm, rfl, ho, hc, hd, hw, L, lo, r0, q⟩ := h
  refine ⟨_, (pss_cons (ps_set (i := 2) sc_Two_reckon.nd rfl (Or.inl rfl) (pe_methP (pe_fld (pv 0) rfl) D_reckon (hr.mono (by omega)) pass0 (pa_cons (pv 1) pa_nil)))
   (pss_cons (ps_if (pt_cmpR op_isN (pv 2) pe_non (nomark _))
    (pss_one (ps_ret pe_non))
    pss_nil)
   (pss_cons (ps_set (i := 3) sc_Two_reckon.nd rfl (Or.inl rfl) (pe_methP (pe_fld (pv 0) rfl) D_reckon (hr.mono (by omega)) pass0 (pa_cons (pv 1) pa_nil)))
   (pss_cons (ps_if (pt_cmpR op_isN (pv 3) pe_non (nomark _))
    (pss_one (ps_ret pe_non))
    pss_nil)
   (pss_one (ps_ret (pe_call G_both (hr.mono (by omega)) rfl T.m_both T.F_both.kp T.b_both .nil pass0 (pa_cons (pe_fld (pv 0) rfl) (pa_cons (pv 2) (pa_cons (pv 3) pa_nil)))))))))), ?_⟩
  cases e with
  | num n => exact (T.ne_num_two hc).elim
  | box z => exact (T.ne_box_two hc).elim
  | cell e => exact (T.ne_cell_two hc).elim
  | two wd l r =>
    obtain ⟨p, dx, a, b, rfl, h1, h2, h3⟩ := ho
    have hd' : max l.depth r.depth ≤ n := Nat.le_of_succ_le_succ hd
    obtain ⟨hw0, hw1, hw2⟩ : wd ∈ PAIRW ∧ l.Wf ∧ r.Wf := hw
    obtain ⟨p2, d2, f2, e2, g1, g2⟩ := h2.at (m := "reckon") (by decide +kernel)
    obtain ⟨p3, d3, f3, e3, k1, k2⟩ := h3.at (m := "reckon") (by decide +kernel)
    refine ⟨_, rfl, p, A.Two, dx, _, _, rfl, lo.objs _ _ _ r0 _ _ h1, T.cl_Two, T.n_Two_left, rfl, p2, _, d2, f2, e2, lo.objs _ _ _ r0 _ _ g1, g2, A.ec.fam l, _, rfl, l, a, f, S, lk, R, HE, G, spL, s0, r.parts + mm, rfl, h2, rfl, by omega, hw1, L, lo, lo.down _ _ _ _ (by show l.parts + (r.parts + mm) ≤ 1 + l.parts + r.parts + mm; omega) r0, fun H1 r1 => ?_⟩
    have hv := fun m (h : (ev lk l s0).1 = some m) => ev_val lo.val hw1 h
    have eq : ev lk (.two wd l r) s0 = evA wd (ev lk r) (ev lk l s0) := rfl
    rw [eq] at q
    clear eq
    generalize ev lk l s0 = x at r1 q hv ⊢
    obtain ⟨x1, x2⟩ := x
    cases x1 with
    | none => exact ⟨_, rfl, rfl, _, rfl, iteDT rfl (q H1 (lo.down _ _ _ _ (by omega) r1))⟩
    | some m =>
      refine ⟨_, rfl, rfl, _, rfl, iteDF (fun h => by cases h) ?_⟩
      refine ⟨_, rfl, p, A.Two, dx, _, _, rfl, lo.objs _ _ _ r1 _ _ h1, T.cl_Two, T.n_Two_right, rfl, p3, _, d3, f3, e3, lo.objs _ _ _ r1 _ _ k1, k2, A.ec.fam r, _, rfl, r, b, f, S, lk, R, HE, G, spL, x2, mm, rfl, h3, rfl, by omega, hw2, L, lo, r1, fun H2 r2 => ?_⟩
      have hv2 := fun m (h : (ev lk r x2).1 = some m) => ev_val lo.val hw2 h
      have q : ∀ H', R mm (evB wd m (ev lk r x2)).2 H' → Q (optV (evB wd m (ev lk r x2)).1) H' := q
      generalize ev lk r x2 = y at r2 q hv2 ⊢
      obtain ⟨y1, y2⟩ := y
      cases y1 with
      | none => exact ⟨_, rfl, rfl, _, rfl, iteDT rfl (q H2 r2)⟩
      | some m2 =>
        refine ⟨_, rfl, rfl, _, rfl, iteDF (fun h => by cases h) ?_⟩
        refine ⟨_, rfl, p, A.Two, dx, _, _, rfl, lo.objs _ _ _ r2 _ _ h1, T.cl_Two, T.n_Two_word, rfl, _, rfl, _, rfl, wd, m, m2, rfl, hv m rfl, hv2 m2 rfl, ?_⟩
        rw [both_eq]
        exact q H2 r2

theorem disp_reckon {J : Nat} (T : Txt K mg A) : ∀ (n : Nat) (C : Addr), A.ec.Fam C → Disp P w K mg base CX0 "reckon" (J + n + 1) C (spReckon P w K mg base J A.ec n C)
  | 0, C, h => by
    have no : ∀ vs H Q E, spReckon P w K mg base J A.ec 0 C vs H Q E → False := fun vs H Q E ⟨e, v, _, _, _, _, _, _, _, _, _, _, _, hd, _⟩ => by have := e.depth_pos; omega
    rcases h with rfl | rfl | rfl | rfl
    · exact ⟨_, A.Number_reckon_d, _, T.cl_Number, T.me_Number_reckon, fn_none (ps := ["self", "look"]) no, T.b_Number_reckon⟩
    · exact ⟨_, A.Box_reckon_d, _, T.cl_Box, T.me_Box_reckon, fn_none (ps := ["self", "look"]) no, T.b_Box_reckon⟩
    · exact ⟨_, A.Cell_reckon_d, _, T.cl_Cell, T.me_Cell_reckon, fn_none (ps := ["self", "look"]) no, T.b_Cell_reckon⟩
    · exact ⟨_, A.Two_reckon_d, _, T.cl_Two, T.me_Two_reckon, fn_none (ps := ["self", "look"]) no, T.b_Two_reckon⟩
  | n + 1, C, h => by
    have D := disp_reckon (J := J) T n
    rcases h with rfl | rfl | rfl | rfl
    · exact ⟨_, _, _, T.cl_Number, T.me_Number_reckon, ok_Number_reckon T, T.b_Number_reckon⟩
    · exact ⟨_, _, _, T.cl_Box, T.me_Box_reckon, ok_Box_reckon T, T.b_Box_reckon⟩
    · exact ⟨_, _, _, T.cl_Cell, T.me_Cell_reckon, ok_Cell_reckon T D, T.b_Cell_reckon⟩
    · exact ⟨_, _, _, T.cl_Two, T.me_Two_reckon, ok_Two_reckon T D, T.b_Two_reckon⟩

end
end K24
namespace K24
open PySem L2 TL
section
variable {P : Program} {w : World} {K : PySem.W.Frag} {mg : Str → Option Value} {base : Heap} {A : Ads}
theorem ok_Walker_whole (T : Txt K mg A) : FnOk P w K mg base CX0 1 A.Walker_whole A.Walker_whole_d ["self", "address"] (fun vs H Q _ => ∃ v u, vs = [v, u] ∧ Q (.bl false) H) := by
  refine T.F_Walker_whole.ok sc_Walker_whole (fun vs H Q E h => ?_) (fun cdv A0 outer s H vs Q E hr h => ?_)
  · obtain ⟨v, u, rfl, q⟩ := h
    rfl
  obtain ⟨v, u, rfl, q⟩ := h
  refine ⟨_, (pss_one (ps_ret pe_bl)), ?_⟩
  exact q

theorem pe_fldK {X : Cx} {e : Expr} {ta : TE} {f : Str} {pos : Pos} (K : PySem.W.Frag) (hK : X.K = K) (he : PE X e ta) (hb : attributeBase e f X.env (eval e X.env) = eval e X.env) : PE X (.Attribute e f pos) (tFld K ta f) := hK ▸ pe_fld he hb
theorem upd_self {H : Hp} {a : Addr} {o : HO} (h : H a = some o) : upd H a o = H := by
  funext b
  unfold upd
  split
  · rename_i e; rw [e, h]
  · rfl
/-- a def with defaults -/
theorem okD {P : Program} {w : World} {K : PySem.W.Frag} {mg : Str → Option Value} {base : Heap} {x qual : Str} {params : Arguments} {body : List Stmt} {scope : Scope} {dvs : List V} {kws : List (Str × V)} {f : Addr} {fd : FuncData} {N ps : List Str} {k : Nat} {sp : Sp} (F : FunD K x qual params body scope dvs kws f fd) (S : FnScope N ps scope) (len : ∀ vs H Q E, sp vs H Q E → vs.length = ps.length)
    (hbody : ∀ (cdv : Value) (A : Around) (outer : List Env) (s : Shared) (H : Hp) (vs : List V) (Q : VK) (E : XK), Room k (A.deeper (PyProof.Rows.envOfC qual scope s.heap.objs.size f cdv)) → sp vs H Q E →
      ∃ t, PSs (cxOf CX0 P w K mg base N qual scope f cdv A outer s H E).nox body t ∧ t { nx := fun _ H' => Q .non H', rt := Q } (start N vs) H) : FnOk P w K mg base CX0 (k + 1) f fd ps sp :=
  F.ok S len fun cdv A outer s H vs Q E hr hsp => by
    obtain ⟨t, h, q⟩ := hbody cdv A outer s H vs Q E hr hsp
    exact ⟨t, h.nox, q⟩
def TupK (H H' : Hp) : Prop := ∀ t xs, H t = some (.tup xs) → H' t = some (.tup xs)
theorem tupK_same {H H' : Hp} (s : Same H H') : TupK H H' := fun _ _ h => s _ _ h
theorem clo_fr {cells : List (Str × Addr)} {names : List (Str × NameKind)} {fr : List Str} (h : (names.all fun y => !decide (y.2 = .free) || decide (y.1 ∈ fr)) = true) : ∀ y c, (cloFrom cells names []).lookup y = some c → y ∈ fr := fun y c e => by
  rcases cloFrom_mem (PySem.mem_of_lookup e) with hm | ⟨h1, _⟩
  · cases hm
  · have := List.all_eq_true.mp h _ h1
    simpa using this
/-! ### places as keys -/
theorem num_inj : ∀ {a b : List Int}, a.map NestedKey.num = b.map NestedKey.num → a = b
  | [], [], _ => rfl
  | x :: a, y :: b, h => by
    simp only [List.map_cons, List.cons.injEq, NestedKey.num.injEq] at h
    rw [h.1, num_inj h.2]
  | [], _ :: _, h => by simp at h
  | _ :: _, [], h => by simp at h
def plK : Pl → NestedKey
  | .box fr nm => .tup [.text "box", .tup (fr.map .num), .text nm]
  | .cell n => .tup [.text "cell", .num n]
theorem plK_inj {a b : Pl} (h : plK a = plK b) : a = b := by
  cases a <;> cases b <;> simp only [plK, NestedKey.tup.injEq, List.cons.injEq, NestedKey.text.injEq, NestedKey.num.injEq, reduceCtorEq, and_true, true_and, and_false, false_and] at h
  · rw [num_inj h.1, h.2]
  · rw [h]
theorem depthAll_num : ∀ (l : List Int), NestedKey.depthAll (l.map .num) ≤ 1
  | [] => by simp [NestedKey.depthAll]
  | x :: l => by
    have := depthAll_num l
    simp only [List.map_cons, NestedKey.depthAll, NestedKey.depth]
    omega
theorem plK_depth (p : Pl) : (plK p).depth ≤ 8 := by
  cases p with
  | box fr nm =>
    have := depthAll_num fr
    simp only [plK, NestedKey.depth, NestedKey.depthAll]
    omega
  | cell n =>
    simp only [plK, NestedKey.depth, NestedKey.depthAll]
    omega
def kv (g : Int → V) (l : List (Pl × Int)) : List (NestedKey × V) := l.map fun x => (plK x.1, g x.2)
theorem kv_at (g : Int → V) (p : Pl) : ∀ (l : List (Pl × Int)), valV (kv g l) (plK p) = (getP l p).map g
  | [] => rfl
  | x :: l => by
    have ih := kv_at g p l
    unfold getP at ih ⊢
    show valV ((plK x.1, g x.2) :: kv g l) (plK p) = _
    rw [List.find?_cons]
    by_cases c : x.1 = p
    · rw [valV_pos (show (plK x.1, g x.2).1 = plK p from congrArg plK c), decide_eq_true c]; rfl
    · rw [valV_neg (show ¬ (plK x.1, g x.2).1 = plK p from fun e => c (plK_inj e)), decide_eq_false c]; exact ih
theorem kv_any (g : Int → V) (p : Pl) : ∀ (l : List (Pl × Int)), ((kv g l).any fun x => decide (x.1 = plK p)) = l.any fun x => decide (x.1 = p)
  | [] => rfl
  | x :: l => by
    show (decide (plK x.1 = plK p) || (kv g l).any fun x => decide (x.1 = plK p)) = (decide (x.1 = p) || l.any fun x => decide (x.1 = p))
    rw [kv_any g p l]
    by_cases c : x.1 = p
    · rw [decide_eq_true c, decide_eq_true (congrArg plK c)]
    · rw [decide_eq_false c, decide_eq_false fun e => c (plK_inj e)]
theorem kv_put (g : Int → V) (p : Pl) (n : Int) (l : List (Pl × Int)) : putK (kv g l) (plK p) (g n) = kv g (putP l p n) := by
  unfold putK putP
  rw [kv_any g p l]
  split
  · unfold kv
    rw [List.map_map, List.map_map]
    refine List.map_congr_left fun x _ => ?_
    show (if plK x.1 = plK p then (plK x.1, g n) else (plK x.1, g x.2)) = (plK (if x.1 = p then (x.1, n) else x).1, g (if x.1 = p then (x.1, n) else x).2)
    by_cases c : x.1 = p
    · rw [if_pos c, if_pos (congrArg plK c)]
    · rw [if_neg c, if_neg fun e => c (plK_inj e)]
  · unfold kv
    rw [List.map_append]; rfl
theorem kv_snoc (g : Int → V) (p : Pl) (n : Int) {l : List (Pl × Int)} (h : ¬ (l.any fun x => decide (x.1 = p)) = true) : putK (kv g l) (plK p) (g n) = kv g (l ++ [(p, n)]) := by
  rw [kv_put]
  unfold putP
  rw [if_neg h]
theorem kv_some (g : Int → V) (p : Pl) (l : List (Pl × Int)) : (valV (kv g l) (plK p)).isSome = l.any fun x => decide (x.1 = p) := by
  rw [← valV_any, kv_any]
/-- v is the place p -/
def PlO (H : Hp) (p : Pl) (v : V) : Prop := ∃ a, v = .ref a ∧ ND.NK H (plK p) v
theorem PlO.keep {H H' : Hp} {p : Pl} {v : V} (h : PlO H p v) (k : TupK H H') : PlO H' p v := let ⟨a, e, n⟩ := h; ⟨a, e, n.keep k⟩
theorem nks_int (H : Hp) : ∀ (l : List Int), ND.NKs H (l.map .num) (l.map V.int)
  | [] => .nil
  | x :: l => .cons (.int x) (nks_int H l)
theorem plO_box {H : Hp} {t f : Addr} {fr : List Int} {nm : Str} (h1 : H t = some (.tup [.str "box", .ref f, .str nm])) (h2 : H f = some (.tup (fr.map V.int))) : PlO H (.box fr nm) (.ref t) :=
  ⟨t, rfl, .tup h1 (.cons (.str _) (.cons (.tup h2 (nks_int H fr)) (.cons (.str _) .nil)))⟩
theorem plO_cell {H : Hp} {t : Addr} {n : Int} (h1 : H t = some (.tup [.str "cell", .int n])) : PlO H (.cell n) (.ref t) :=
  ⟨t, rfl, .tup h1 (.cons (.str _) (.cons (.int _) .nil))⟩
/-- (place, value) -/
def PrO (H : Hp) (x : Pl × Int) (v : V) : Prop := ∃ t u, v = .ref t ∧ H t = some (.tup [u, .int x.2]) ∧ PlO H x.1 u
theorem PrO.keep {H H' : Hp} {x : Pl × Int} {v : V} (h : PrO H x v) (k : TupK H H') : PrO H' x v := let ⟨t, u, e, h1, h2⟩ := h; ⟨t, u, e, k _ _ h1, h2.keep k⟩
def optB : Option Bool → V
  | none => .non
  | some b => .bl b
def optS : Option Str → V
  | none => .non
  | some s => .str s
/-- nothing but a table is told at a -/
def NewT (H : Hp) (a : Addr) : Prop := ∀ o, H a = some o → ∃ ps, o = .tbl ps
theorem newT_none {H : Hp} {a : Addr} (h : H a = none) : NewT H a := fun o e => by rw [h] at e; cases e
theorem newT_of {H0 H : Hp} {a : Addr} (e : LamX.ExtN H0 H) (h : NewT H a) : NewT H0 a := fun o h0 => by
  by_cases t : ∃ ps, o = .tbl ps
  · exact t
  · exact h o (e a o h0 fun ps z => t ⟨ps, z⟩)
theorem newT_ne {H : Hp} {a b : Addr} {o : HO} (h : NewT H a) (e : H b = some o) (n : ∀ ps, o ≠ .tbl ps) : b ≠ a := fun z => by
  obtain ⟨ps, q⟩ := h o (by rw [← z]; exact e)
  exact n ps q
/-! ### objects -/
/-- the addresses of a run: the walker, its setting, the program's objects; all that stood before the walker was made: H0 -/
structure WkA where
  w : Addr
  dw : Addr
  s : Addr
  ds : Addr
  g : Addr
  go : Addr
  pr : Addr
  dp : Addr
  d : Addr
  f : Addr
  df : Addr
  l : Addr
  lb : Addr
  hd : Addr
  kp : Addr
  tb : Addr
  q : Str
  tx : V
  m : V
  num : V
  gv : V
  os : List V
  H0 : Hp
/-- expressions that may stand there -/
def ExG (e : Ex) : Prop := e.Wf ∧ e.depth ≤ 6 ∧ e.parts ≤ 50
def Sup (P : WP) : RT → Prop
  | .set _ e => ExG e
  | .tell e => ExG e
  | .call _ f es => f = P.fn ∧ (∀ e ∈ es, ExG e) ∧ es.length ≤ 9
  | _ => False
mutual
inductive TrW (P : WP) : Tr → Prop
  | leaf {rt : RT} : Sup P rt → TrW P (.leaf rt)
  | ifr {e : Ex} {a b : List (Nat × Tr)} : ExG e → BlkW P a → BlkW P b → TrW P (.ifr e a b)
inductive BlkW (P : WP) : List (Nat × Tr) → Prop
  | nil : BlkW P []
  | cons {n : Nat} {t : Tr} {r : List (Nat × Tr)} : TrW P t → BlkW P r → BlkW P ((n, t) :: r)
end
def setF (X : WkA) : List (Str × V) := [("program", .ref X.pr), ("bound", .int 60), ("given", .ref X.g), ("goings", .ref X.go)]
structure Sta (A : Ads) (X : WkA) (P : WP) : Prop where
  nw : NewT X.H0 X.w
  nh : NewT X.H0 X.hd
  nk : NewT X.H0 X.kp
  st : X.H0 X.s = some (.ins A.Setting X.ds (setF X))
  gi : X.H0 X.g = some (.dT [])
  go : X.H0 X.go = some (.dT [])
  pr : X.H0 X.pr = some (.ins A.Program X.dp [("texts", X.tx), ("main", X.m), ("functions", .ref X.d), ("by_number", X.num)])
  d : X.H0 X.d = some (.dK [(.inr P.fn, .ref X.f)])
  f : X.H0 X.f = some (.ins A.Function X.df [("name", .str P.fn), ("params", .ref X.l), ("body", .ref X.lb), ("give", X.gv)])
  l : X.H0 X.l = some (.lst (P.params.map V.str))
  lb : X.H0 X.lb = some (.lst X.os)
  body : BlkO A.rc A.ec (fun _ => True) X.H0 P.body X.os
  bw : BlkW P P.body
  gr : RowO A.rc A.ec (fun _ => True) X.H0 ((P.gno : Nat) : Int) (.give P.give) X.gv
  ge : ExG P.give
  pl : P.params.length ≤ 9
def moF (m : Mo) (a nl r k : Addr) : List (Str × V) := [("address", .ref a), ("numbers", .ref nl), ("reads", .ref r), ("makes", .ref k), ("said", optV m.said), ("looked", optB m.goes), ("goes", optB m.goes), ("fell", optS m.fell)]
/-- v is the moment m; it is not the walker, its lists are not the walker's -/
def MoO (A : Ads) (w kp : Addr) (H : Hp) (m : Mo) (v : V) : Prop := ∃ (p dx a nl r k : Addr) (rs ks : List V), v = .ref p ∧ p ≠ w ∧ H p = some (.ins A.Moment dx (moF m a nl r k)) ∧ H a = some (.tup (m.adr.map V.int)) ∧ r ≠ kp ∧ H r = some (.lst rs) ∧ All2 (PrO H) m.reads rs ∧ k ≠ kp ∧ H k = some (.lst ks) ∧ All2 (PrO H) m.makes ks
def EdO (H : Hp) : Option Ed → V → Prop
  | none, v => v = .non
  | some .ended, v => ∃ a, v = .ref a ∧ H a = some (.tup [.str "ended"])
  | some .tired, v => ∃ a, v = .ref a ∧ H a = some (.tup [.str "tired"])
  | some (.fell x adr), v => ∃ a b, v = .ref a ∧ H a = some (.tup [.str "fell", .str x, .ref b]) ∧ H b = some (.tup (adr.map V.int))
theorem EdO.keep {H H' : Hp} (k : TupK H H') : ∀ {e : Option Ed} {v : V}, EdO H e v → EdO H' e v
  | none, _, h => h
  | some .ended, _, ⟨a, e, h⟩ => ⟨a, e, k _ _ h⟩
  | some .tired, _, ⟨a, e, h⟩ => ⟨a, e, k _ _ h⟩
  | some (.fell _ _), _, ⟨a, b, e, h, g⟩ => ⟨a, b, e, k _ _ h, k _ _ g⟩
/-- all stands but what lies at L, and tables -/
def KpX (L : List Addr) (H H' : Hp) : Prop := ∀ b o, b ∉ L → H b = some o → (∀ ps, o ≠ .tbl ps) → H' b = some o
theorem KpX.refl (L : List Addr) (H : Hp) : KpX L H H := fun _ _ _ h _ => h
theorem KpX.trans {L : List Addr} {H H1 H2 : Hp} (a : KpX L H H1) (b : KpX L H1 H2) : KpX L H H2 := fun c o n h t => b c o n (a c o n h t) t
theorem KpX.of {L : List Addr} {H H' : Hp} (s : Same H H') : KpX L H H' := fun b o _ h _ => s b o h
theorem KpX.ofX {L : List Addr} {H H' : Hp} (s : LamX.ExtN H H') : KpX L H H' := fun b o _ h t => s b o h t
theorem KpX.putA {L : List Addr} {H : Hp} {a : Addr} {o : HO} (h : a ∈ L) : KpX L H (upd H a o) := fun b u n e _ => by rw [upd_ne (fun z => n (by rw [z]; exact h))]; exact e
theorem KpX.ext {L : List Addr} {H0 H H' : Hp} (k : KpX L H H') (n : ∀ a ∈ L, NewT H0 a) (e : LamX.ExtN H0 H) : LamX.ExtN H0 H' := fun b o h t => k b o (fun m => by obtain ⟨ps, q⟩ := n b m o h; exact t ps q) (e b o h t) t
theorem KpX.sub {L M : List Addr} {H H' : Hp} (k : KpX L H H') (s : ∀ a ∈ L, a ∈ M) : KpX M H H' := fun b o n h t => k b o (fun m => n (s b m)) h t
/-- nothing is told at the addresses of L: then all stands -/
theorem KpX.all {L : List Addr} {H H' : Hp} (k : KpX L H H') (n : ∀ a ∈ L, NewT H a) : LamX.ExtN H H' := k.ext n (LamX.ExtN.refl H)
theorem extN_keepI {H H' : Hp} {cs N : Addr → Prop} (e : LamX.ExtN H H') : KeepI cs N H H' := ⟨fun _ _ _ _ _ h => e _ _ h (fun _ z => by cases z), fun _ _ _ h => e _ _ h (fun _ z => by cases z)⟩
theorem extN_tup {H H' : Hp} (e : LamX.ExtN H H') : TupK H H' := fun _ _ h => e _ _ h (fun _ z => by cases z)
section
variable (PP : Program) (ww : World)
/-- the walker's state -/
structure WkO (A : Ads) (X : WkA) (P : WP) (st : WS) (H : Hp) : Prop where
  sta : Sta A X P
  ext : LamX.ExtN X.H0 H
  obj : ∃ ev, H X.w = some (.ins A.Walker X.dw [("setting", .ref X.s), ("held", .ref X.hd), ("kept", .ref X.kp), ("ended", ev)]) ∧ EdO H st.ended ev
  held : ND.NDict PP ww H X.hd (kv V.int st.held)
  kept : ∃ ms, H X.kp = some (.lst ms) ∧ All2 (MoO A X.w X.kp H) st.kept ms
  tab : NdefX.TabsN [(X.tb, fun _ _ => X.q)] H
  vals : ∀ x ∈ st.held, IsVal x.2
  len : st.kept.length ≤ 60 ∧ st.held.length ≤ 10 * st.kept.length
end
/-- the objects of a moment while it happens -/
structure Sc where
  p : Addr
  dx : Addr
  fo : Addr
  dm : Addr
  md : Addr
  r : Addr
  k : Addr
  a : Addr
  nl : Addr
  sp : Addr
  dsp : Addr
  fr : Addr
  hv : V
  bv : V
  adr : List Int
  frame : List Int
  deep : Nat
  Hs : Hp
def Sc.L (S : Sc) : List Addr := [S.fo, S.r, S.k, S.md]
def spF (S : Sc) : List (Str × V) := [("address", .ref S.a), ("frame", .ref S.fr), ("deep", .int (S.deep : Int)), ("back", S.bv)]
def scF (X : WkA) (S : Sc) : List (Str × V) := [("walker", .ref X.w), ("here", S.hv), ("spot", .ref S.sp), ("found", .ref S.fo), ("met", .ref S.md)]
section
variable (PP : Program) (ww : World)
/-- what changes while a moment happens -/
structure MoS (A : Ads) (S : Sc) (m : Mo) (H : Hp) : Prop where
  adr : m.adr = S.adr
  fo : H S.fo = some (.ins A.Moment S.dm (moF m S.a S.nl S.r S.k))
  md : ND.NDict PP ww H S.md (kv (fun _ => .bl true) m.reads)
  r : ∃ rs, H S.r = some (.lst rs) ∧ All2 (PrO H) m.reads rs
  k : ∃ ks, H S.k = some (.lst ks) ∧ All2 (PrO H) m.makes ks
  vals : ∀ x ∈ m.makes, IsVal x.2
structure ScO (A : Ads) (X : WkA) (P : WP) (st : WS) (S : Sc) (m : Mo) (H : Hp) : Prop where
  wk : WkO PP ww A X P st S.Hs
  ext : LamX.ExtN S.Hs H
  tab : NdefX.TabsN [(X.tb, fun _ _ => X.q)] H
  p : H S.p = some (.ins A.Scene S.dx (scF X S))
  mo : MoS PP ww A S m H
  sp : S.Hs S.sp = some (.ins A.Spot S.dsp (spF S))
  a : S.Hs S.a = some (.tup (S.adr.map V.int))
  fr : S.Hs S.fr = some (.tup (S.frame.map V.int))
  new : ∀ a ∈ S.L, NewT S.Hs a
  ne : S.r ≠ S.k ∧ S.p ≠ S.fo
end

/-! ### what stays -/
section
open LamX NdefX
theorem tabs_upd {T : List NTab} {H : Hp} {a : Addr} {o : HO} (t : TabsN T H) (h1 : ∀ ps, H a ≠ some (.tbl ps)) (h2 : ∀ c q, H c = some (CodeO c q) → c ≠ a) : TabsN T (upd H a o) := fun p hp => by
  obtain ⟨ps, e1, e2, e3⟩ := t p hp
  refine ⟨ps, by rw [upd_ne (fun z => h1 ps (by rw [← z]; exact e1))]; exact e1, e2, fun pos cv hc => ?_⟩
  obtain ⟨c, e4, e5⟩ := e3 pos cv hc
  exact ⟨c, e4, by rw [upd_ne (h2 _ _ e5)]; exact e5⟩
theorem tabs_ins {T : List NTab} {H : Hp} {a C dx : Addr} {fs : List (Str × V)} {o : HO} (t : TabsN T H) (h : H a = some (.ins C dx fs)) : TabsN T (upd H a o) :=
  tabs_upd t (fun ps e => by rw [h] at e; cases e) fun c q e z => by rw [z, h] at e; unfold CodeO at e; cases e
theorem tabs_lst {T : List NTab} {H : Hp} {a : Addr} {xs : List V} {o : HO} (t : TabsN T H) (h : H a = some (.lst xs)) : TabsN T (upd H a o) :=
  tabs_upd t (fun ps e => by rw [h] at e; cases e) fun c q e z => by rw [z, h] at e; unfold CodeO at e; cases e
end
theorem nd_has {P : Program} {w : World} {H : Hp} {a : Addr} {kvs : List (NestedKey × V)} (D : ND.NDict P w H a kvs) : ∃ φ, H a = some (.ext φ) := let ⟨_, e, _⟩ := D; ⟨_, e⟩
theorem nd_ext {P : Program} {w : World} {H H' : Hp} {a : Addr} {kvs : List (NestedKey × V)} (D : ND.NDict P w H a kvs) (e : LamX.ExtN H H') : ND.NDict P w H' a kvs := by
  obtain ⟨φ, h⟩ := nd_has D
  exact D.keep ((e _ _ h fun _ z => by cases z).trans h.symm) (extN_tup e)
theorem prs_keep {H H' : Hp} (k : TupK H H') {l : List (Pl × Int)} {vs : List V} (h : All2 (PrO H) l vs) : All2 (PrO H') l vs := h.mono fun _ _ z => z.keep k
section
variable {PP : Program} {ww : World} {A : Ads} {X : WkA} {W : WP} {st : WS} {S : Sc} {m m' : Mo} {H H' : Hp}
theorem MoS.ext (h : MoS PP ww A S m H) (e : LamX.ExtN H H') : MoS PP ww A S m H' := by
  obtain ⟨h1, h2, h3, ⟨rs, h4, h5⟩, ⟨ks, h6, h7⟩, h8⟩ := h
  have t := extN_tup e
  exact ⟨h1, e _ _ h2 (fun _ z => by cases z), nd_ext h3 e, ⟨rs, e _ _ h4 (fun _ z => by cases z), prs_keep t h5⟩, ⟨ks, e _ _ h6 (fun _ z => by cases z), prs_keep t h7⟩, h8⟩
theorem ScO.ext' (h : ScO PP ww A X W st S m H) (e : LamX.ExtN H H') (t : NdefX.TabsN [(X.tb, fun _ _ => X.q)] H') : ScO PP ww A X W st S m H' :=
  ⟨h.wk, h.ext.trans e, t, e _ _ h.p (fun _ z => by cases z), h.mo.ext e, h.sp, h.a, h.fr, h.new, h.ne⟩
theorem ScO.same (h : ScO PP ww A X W st S m H) (s : Same H H') : ScO PP ww A X W st S m H' := h.ext' (LamX.ExtN.of s) (h.tab.ext s)
theorem ScO.pne (h : ScO PP ww A X W st S m H) : S.p ∉ S.L := by
  obtain ⟨rs, h1, _⟩ := h.mo.r
  obtain ⟨ks, h2, _⟩ := h.mo.k
  obtain ⟨φ, h3⟩ := nd_has h.mo.md
  have hp := h.p
  intro z
  simp only [Sc.L, List.mem_cons, List.not_mem_nil, or_false] at z
  rcases z with z | z | z | z
  · exact h.ne.2 z
  · rw [z, h1] at hp; cases hp
  · rw [z, h2] at hp; cases hp
  · rw [z, h3] at hp; cases hp
theorem ScO.put (h : ScO PP ww A X W st S m H) (k : KpX S.L H H') (t : NdefX.TabsN [(X.tb, fun _ _ => X.q)] H') (mo : MoS PP ww A S m' H') : ScO PP ww A X W st S m' H' :=
  ⟨h.wk, k.ext h.new h.ext, t, k _ _ h.pne h.p (fun _ z => by cases z), mo, h.sp, h.a, h.fr, h.new, h.ne⟩
theorem tupK_upd {H : Hp} {a : Addr} {o u : HO} (h : H a = some u) (n : ∀ xs, u ≠ .tup xs) : TupK H (upd H a o) := fun t xs e => by
  rw [upd_ne fun z => by rw [z, h] at e; exact n xs (Option.some.inj e)]; exact e
/-- a field of the moment is put -/
theorem ScO.setF (h : ScO PP ww A X W st S m H) (e1 : m'.adr = m.adr) (e2 : m'.reads = m.reads) (e3 : m'.makes = m.makes) : ScO PP ww A X W st S m' (upd H S.fo (.ins A.Moment S.dm (moF m' S.a S.nl S.r S.k))) ∧ KpX S.L H (upd H S.fo (.ins A.Moment S.dm (moF m' S.a S.nl S.r S.k))) := by
  have k : KpX S.L H (upd H S.fo (.ins A.Moment S.dm (moF m' S.a S.nl S.r S.k))) := KpX.putA (by simp [Sc.L])
  refine ⟨h.put k (tabs_ins h.tab h.mo.fo) ?_, k⟩
  obtain ⟨h1, h2, h3, ⟨rs, h4, h5⟩, ⟨ks, h6, h7⟩, h8⟩ := h.mo
  have t : TupK H (L2.upd H S.fo (.ins A.Moment S.dm (moF m' S.a S.nl S.r S.k))) := tupK_upd h2 fun xs z => by cases z
  obtain ⟨φ, h9⟩ := nd_has h3
  refine ⟨e1.trans h1, upd_same, ?_, ⟨rs, by rw [upd_ne (ne_of h4 h2 (by intro z; cases z))]; exact h4, ?_⟩, ⟨ks, by rw [upd_ne (ne_of h6 h2 (by intro z; cases z))]; exact h6, ?_⟩, ?_⟩
  · rw [e2]
    exact h3.keep (upd_ne (ne_of h9 h2 (by intro z; cases z))) t
  · rw [e2]; exact prs_keep t h5
  · rw [e3]; exact prs_keep t h7
  · rw [e3]; exact h8
theorem ScO.make (h : ScO PP ww A X W st S m H) {ks : List V} {x : Pl × Int} {v : V} (hk : H S.k = some (.lst ks)) (hx : PrO H x v) (hv : IsVal x.2) :
    ScO PP ww A X W st S { m with makes := m.makes ++ [x] } (upd H S.k (.lst (ks ++ [v]))) ∧ KpX S.L H (upd H S.k (.lst (ks ++ [v]))) := by
  have k : KpX S.L H (upd H S.k (.lst (ks ++ [v]))) := KpX.putA (by simp [Sc.L])
  refine ⟨h.put k (tabs_lst h.tab hk) ?_, k⟩
  obtain ⟨h1, h2, h3, ⟨rs, h4, h5⟩, ⟨ks', h6, h7⟩, h8⟩ := h.mo
  rw [hk] at h6
  cases h6
  have t : TupK H (L2.upd H S.k (.lst (ks ++ [v]))) := tupK_upd hk fun xs z => by cases z
  obtain ⟨φ, h9⟩ := nd_has h3
  refine ⟨h1, by rw [upd_ne (ne_of h2 hk (by intro z; cases z))]; exact h2, h3.keep (upd_ne (ne_of h9 hk (by intro z; cases z))) t, ⟨rs, by rw [upd_ne h.ne.1]; exact h4, prs_keep t h5⟩, ⟨_, upd_same, ?_⟩, fun y hy => ?_⟩
  · exact (prs_keep t h7).snoc (hx.keep t)
  · rcases List.mem_append.mp hy with hy | hy
    · exact h8 y hy
    · rw [List.mem_singleton.mp hy]; exact hv
theorem WkO.ext' (h : WkO PP ww A X W st H) (e : LamX.ExtN H H') (t : NdefX.TabsN [(X.tb, fun _ _ => X.q)] H') : WkO PP ww A X W st H' := by
  obtain ⟨ev, h1, h2⟩ := h.obj
  obtain ⟨ms, h3, h4⟩ := h.kept
  have k := extN_tup e
  refine ⟨h.sta, h.ext.trans e, ⟨ev, e _ _ h1 (fun _ z => by cases z), h2.keep k⟩, nd_ext h.held e, ⟨ms, e _ _ h3 (fun _ z => by cases z), h4.mono fun m v z => ?_⟩, t, h.vals, h.len⟩
  obtain ⟨p, dx, a, nl, r, kk, rs, ks, z1, z2, z3, z4, z5, z6, z7, z8, z9, z10⟩ := z
  exact ⟨p, dx, a, nl, r, kk, rs, ks, z1, z2, e _ _ z3 (fun _ z => by cases z), k _ _ z4, z5, e _ _ z6 (fun _ z => by cases z), prs_keep k z7, z8, e _ _ z9 (fun _ z => by cases z), prs_keep k z10⟩
theorem WkO.same (h : WkO PP ww A X W st H) (s : Same H H') : WkO PP ww A X W st H' := h.ext' (LamX.ExtN.of s) (h.tab.ext s)
theorem ScO.wk' (h : ScO PP ww A X W st S m H) : WkO PP ww A X W st H := h.wk.ext' h.ext h.tab
end

def mo0 (adr : List Int) : Mo := ⟨adr, [], [], none, none, none⟩
def Ok5 (P : WP) : RT → Prop
  | .set _ e => ExG e
  | .tell e => ExG e
  | .ifr e => ExG e
  | .give e => ExG e
  | .call _ f es => f = P.fn ∧ (∀ e ∈ es, ExG e) ∧ es.length ≤ 9
  | _ => False
section
variable (PP : Program) (ww : World) (A : Ads)
def spSHolds : Sp := fun vs H Q _ => ∃ (s ds g go : Addr) (pr pv : V) (pl : Pl), vs = [.ref s, pv] ∧ H s = some (.ins A.Setting ds [("program", pr), ("bound", .int 60), ("given", .ref g), ("goings", .ref go)]) ∧ H g = some (.dT []) ∧ PlO H pl pv ∧ Q (.int 0) H
def spForcedAt : Sp := fun vs H Q _ => ∃ (s ds g go a : Addr) (pr : V) (adr : List Int), vs = [.ref s, .ref a] ∧ H s = some (.ins A.Setting ds [("program", pr), ("bound", .int 60), ("given", .ref g), ("goings", .ref go)]) ∧ H go = some (.dT []) ∧ H a = some (.tup (adr.map V.int)) ∧ Q .non H
def spHolds : Sp := fun vs H Q _ => ∃ (X : WkA) (P : WP) (st : WS) (pl : Pl) (pv : V), vs = [.ref X.w, pv] ∧ WkO PP ww A X P st H ∧ PlO H pl pv ∧ Q (.int (heldP st.held pl)) H
def spGoesNow : Sp := fun vs H Q _ => ∃ (X : WkA) (P : WP) (st : WS) (a : Addr) (adr : List Int) (b : Bool), vs = [.ref X.w, .ref a, .bl b] ∧ WkO PP ww A X P st H ∧ H a = some (.tup (adr.map V.int)) ∧ Q (.bl b) H
def spMomInit : Sp := fun vs H Q _ => ∃ (p dx a nl : Addr) (adr : List Int), vs = [.ref p, .ref a, .ref nl] ∧ H p = some (.ins A.Moment dx []) ∧ ∀ r k H', r ≠ k → H r = none → H k = none → KpX [p] H H' → (∀ T, NdefX.TabsN T H → NdefX.TabsN T H') → H' p = some (.ins A.Moment dx (moF (mo0 adr) a nl r k)) → H' r = some (.lst []) → H' k = some (.lst []) → Q .non H'
def spSpotInit : Sp := fun vs H Q _ => ∃ (p dx : Addr) (a f d b : V), vs = [.ref p, a, f, d, b] ∧ H p = some (.ins A.Spot dx []) ∧ Q .non (upd H p (.ins A.Spot dx [("address", a), ("frame", f), ("deep", d), ("back", b)]))
def spScInit : Sp := fun vs H Q _ => ∃ (X : WkA) (P : WP) (st : WS) (S : Sc) (n : Nat) (rt : RT), vs = [.ref S.p, .ref X.w, S.hv, .ref S.sp] ∧ H S.p = some (.ins A.Scene S.dx []) ∧ NewT S.Hs S.p ∧ LamX.ExtN S.Hs H ∧ NdefX.TabsN [(X.tb, fun _ _ => X.q)] H ∧ WkO PP ww A X P st S.Hs ∧ RowO A.rc A.ec (fun _ => True) X.H0 ((n : Nat) : Int) rt S.hv ∧
  S.Hs S.sp = some (.ins A.Spot S.dsp (spF S)) ∧ S.Hs S.a = some (.tup (S.adr.map V.int)) ∧ S.Hs S.fr = some (.tup (S.frame.map V.int)) ∧ (S.bv = .non ∨ (∃ b, S.bv = .ref b) ∧ 3 ≤ S.adr.length) ∧
  ∀ fo dm md r k nl H', ScO PP ww A X P st { S with fo := fo, dm := dm, md := md, r := r, k := k, nl := nl } (mo0 S.adr) H' → Q .non H'
def spPlaceOf : Sp := fun vs H Q _ => ∃ (X : WkA) (P : WP) (st : WS) (S : Sc) (m : Mo) (nm : Str), vs = [.ref S.p, .str nm] ∧ ScO PP ww A X P st S m H ∧ ∀ t, H t = none → Q (.ref t) (upd H t (.tup [.str "box", .ref S.fr, .str nm]))
def spSRead : Sp := fun vs H Q _ => ∃ (X : WkA) (P : WP) (st : WS) (S : Sc) (m : Mo) (pl : Pl) (pv : V), vs = [.ref S.p, pv] ∧ ScO PP ww A X P st S m H ∧ PlO H pl pv ∧ m.reads.length ≤ 1000 ∧ ∀ H', ScO PP ww A X P st S { m with reads := rdW st.held pl m.reads } H' → KpX S.L H H' → Q (.int (heldP st.held pl)) H'
def spLookAt : Sp := fun vs H Q _ => ∃ (X : WkA) (P : WP) (st : WS) (S : Sc) (m : Mo) (th : Th) (t : V), vs = [.ref S.p, t] ∧ ScO PP ww A X P st S m H ∧ ThH H th t ∧ m.reads.length ≤ 1000 ∧ ∀ H', ScO PP ww A X P st S { m with reads := (lookW st.held S.frame th m.reads).2 } H' → KpX S.L H H' → Q (.int (lookW st.held S.frame th m.reads).1) H'
def spLam (ws : List (Option V)) : Sp := fun vs H Q E => ∃ p t, ws = [some (.ref p)] ∧ vs = [t] ∧ spLookAt PP ww A [.ref p, t] H Q E
def spSReckon : Sp := fun vs H Q _ => ∃ (X : WkA) (P : WP) (st : WS) (S : Sc) (m : Mo) (e : Ex) (x : V), vs = [.ref S.p, x] ∧ ScO PP ww A X P st S m H ∧ ObjE A.ec X.H0 e x ∧ ExG e ∧ m.reads.length ≤ 500 ∧ X.tb = A.t_Scene_reckon ∧ X.q = Q_lam ∧
  ∀ H', ScO PP ww A X P st S { m with reads := (ev (lookW st.held S.frame) e m.reads).2, fell := if (ev (lookW st.held S.frame) e m.reads).1 = none then some (Str.ofString "nought") else m.fell } H' → KpX S.L H H' → (∀ n, (ev (lookW st.held S.frame) e m.reads).1 = some n → IsVal n) → Q (optV (ev (lookW st.held S.frame) e m.reads).1) H'
def spMake : Sp := fun vs H Q _ => ∃ (X : WkA) (P : WP) (st : WS) (S : Sc) (m : Mo) (pl : Pl) (pv : V) (n : Int), vs = [.ref S.p, pv, .int n] ∧ ScO PP ww A X P st S m H ∧ PlO H pl pv ∧ IsVal n ∧ m.makes.length ≤ 1000 ∧ ∀ H', ScO PP ww A X P st S { m with makes := m.makes ++ [(pl, n)] } H' → KpX S.L H H' → Q .non H'
def spSay : Sp := fun vs H Q _ => ∃ (X : WkA) (P : WP) (st : WS) (S : Sc) (m : Mo) (n : Int), vs = [.ref S.p, .int n] ∧ ScO PP ww A X P st S m H ∧ ∀ H', ScO PP ww A X P st S { m with said := some n } H' → Q .non H'
def spSLook : Sp := fun vs H Q _ => ∃ (X : WkA) (P : WP) (st : WS) (S : Sc) (m : Mo) (b : Bool), vs = [.ref S.p, .bl b] ∧ ScO PP ww A X P st S m H ∧ ∀ H', ScO PP ww A X P st S { m with goes := some b } H' → Q .non H'
def spEnter : Sp := fun vs H Q _ => ∃ (X : WkA) (P : WP) (st : WS) (S : Sc) (m : Mo) (l : Addr) (ns : List Int) (k : Nat) (b : Str) (es : List Ex), vs = [.ref S.p, .ref l] ∧ ScO PP ww A X P st S m H ∧ H l = some (.lst (ns.map V.int)) ∧ l ∉ S.L ∧ (∀ n ∈ ns, IsVal n) ∧ RowO A.rc A.ec (fun _ => True) X.H0 ((k : Nat) : Int) (.call b P.fn es) S.hv ∧ m.makes = [] ∧
  ∀ H', ScO PP ww A X P st S (if deepest ≤ S.deep then { m with fell := some (Str.ofString "deep") } else { m with makes := (P.params.zip ns).map fun x => (.box S.adr x.1, x.2) }) H' → Q .non H'
def spGiveBack : Sp := fun vs H Q _ => ∃ (X : WkA) (P : WP) (st : WS) (S : Sc) (m : Mo) (bk : Pl) (n : Int), vs = [.ref S.p, .int n] ∧ ScO PP ww A X P st S m H ∧ PlO S.Hs bk S.bv ∧ IsVal n ∧ m.makes.length ≤ 1000 ∧ ∀ H', ScO PP ww A X P st S { m with makes := m.makes ++ [(bk, n)] } H' → Q .non H'
def spAct (C : Addr) : Sp := fun vs H Q _ => ∃ (X : WkA) (P : WP) (st : WS) (S : Sc) (k : Nat) (rt : RT) (bk : Pl), vs = [S.hv, .ref S.p] ∧ ScO PP ww A X P st S (mo0 S.adr) H ∧ RowO A.rc A.ec (fun _ => True) X.H0 ((k : Nat) : Int) rt S.hv ∧ A.rc.of rt = C ∧ Ok5 P rt ∧ (∀ e, rt = .give e → PlO S.Hs bk S.bv) ∧ X.tb = A.t_Scene_reckon ∧ X.q = Q_lam ∧
  ∀ H', ScO PP ww A X P st S (moW P.params st.held S.adr S.frame S.deep bk rt) H' → Q .non H'
/-- a spot -/
def SpO (H : Hp) (sp a fr : Addr) (adr frame : List Int) (deep : Nat) (bv : V) : Prop := ∃ dsp, H sp = some (.ins A.Spot dsp [("address", .ref a), ("frame", .ref fr), ("deep", .int (deep : Int)), ("back", bv)]) ∧ H a = some (.tup (adr.map V.int)) ∧ H fr = some (.tup (frame.map V.int))
def WkL (X : WkA) : List Addr := [X.w, X.hd, X.kp]
structure MomArg (X : WkA) (P : WP) (st : WS) (H : Hp) (sp a fr : Addr) (rv bv : V) (adr frame : List Int) (deep k : Nat) (rt : RT) (bk : Pl) : Prop where
  wk : WkO PP ww A X P st H
  row : RowO A.rc A.ec (fun _ => True) X.H0 ((k : Nat) : Int) rt rv
  ok : Ok5 P rt
  sp : SpO A H sp a fr adr frame deep bv
  bk : (bv = .non ∧ ∀ e, rt ≠ .give e) ∨ (PlO H bk bv ∧ 3 ≤ adr.length)
  tb : X.tb = A.t_Scene_reckon
  q : X.q = Q_lam
def spHappening : Sp := fun vs H Q _ => ∃ (X : WkA) (P : WP) (st : WS) (sp a fr : Addr) (rv bv : V) (adr frame : List Int) (deep k : Nat) (rt : RT) (bk : Pl), vs = [.ref X.w, rv, .ref sp] ∧ MomArg PP ww A X P st H sp a fr rv bv adr frame deep k rt bk ∧
  ∀ v H', WkO PP ww A X P st H' → LamX.ExtN H H' → MoO A X.w X.kp H' (moW P.params st.held adr frame deep bk rt) v → (∀ x ∈ (moW P.params st.held adr frame deep bk rt).makes, IsVal x.2) → Q v H'
def spTakeIn : Sp := fun vs H Q _ => ∃ (X : WkA) (P : WP) (st : WS) (l : Addr) (m : Mo) (v : V), vs = [.ref X.w, .ref l] ∧ WkO PP ww A X P st H ∧ H l = some (.lst [v]) ∧ l ≠ X.kp ∧ MoO A X.w X.kp H m v ∧ (∀ x ∈ m.makes, IsVal x.2) ∧ m.makes.length ≤ 10 ∧ st.kept.length < 60 ∧
  ∀ H', WkO PP ww A X P ⟨putAll st.held m.makes, st.kept ++ [m], st.ended⟩ H' → KpX (WkL X) H H' → Q .non H'
def spGoMo : Sp := fun vs H Q _ => ∃ (X : WkA) (P : WP) (st : WS) (sp a fr : Addr) (rv bv : V) (adr frame : List Int) (deep k : Nat) (rt : RT) (bk : Pl), vs = [.ref X.w, rv, .ref sp] ∧ MomArg PP ww A X P st H sp a fr rv bv adr frame deep k rt bk ∧
  ∀ H', WkO PP ww A X P (goMo st (moW P.params st.held adr frame deep bk rt)).2 H' → KpX (WkL X) H H' → Q (.bl (goMo st (moW P.params st.held adr frame deep bk rt)).1) H'
def spGoBlock (n : Nat) : Sp := fun vs H Q _ => ∃ (X : WkA) (P : WP) (st : WS) (l a fr : Addr) (os : List V) (bs : List (Nat × Tr)) (adr frame : List Int) (deep : Nat) (b : Bool) (st' : WS), vs = [.ref X.w, .ref l, .ref a, .ref fr, .int (deep : Int)] ∧ WkO PP ww A X P st H ∧ X.H0 l = some (.lst os) ∧ BlkO A.rc A.ec (fun _ => True) X.H0 bs os ∧ BlkW P bs ∧ adr.length + 10 * n ≤ 1000 ∧
  H a = some (.tup (adr.map V.int)) ∧ H fr = some (.tup (frame.map V.int)) ∧ X.tb = A.t_Scene_reckon ∧ X.q = Q_lam ∧ walkW P n bs adr frame deep st = some (b, st') ∧ ∀ H', WkO PP ww A X P st' H' → KpX (WkL X) H H' → Q (.bl b) H'
structure RowArg (n : Nat) (X : WkA) (P : WP) (st : WS) (H : Hp) (sp a fr : Addr) (rv : V) (adr frame : List Int) (deep k : Nat) (t : Tr) (b : Bool) (st' : WS) : Prop where
  al : adr.length + 10 * n ≤ 995 ∧ 1 ≤ adr.length
  wk : WkO PP ww A X P st H
  tr : TrO A.rc A.ec (fun _ => True) X.H0 k t rv
  tw : TrW P t
  ns : sp ≠ X.w
  sp : SpO A H sp a fr adr frame deep .non
  tb : X.tb = A.t_Scene_reckon
  q : X.q = Q_lam
  go : rowW P (walkW P n) adr frame deep t st = some (b, st')
def spGoRow (n : Nat) (F : Tr → Prop) : Sp := fun vs H Q _ => ∃ (X : WkA) (P : WP) (st : WS) (sp a fr : Addr) (rv : V) (adr frame : List Int) (deep k : Nat) (t : Tr) (b : Bool) (st' : WS), vs = [.ref X.w, rv, .ref sp] ∧ F t ∧ RowArg PP ww A n X P st H sp a fr rv adr frame deep k t b st' ∧
  ∀ H', WkO PP ww A X P st' H' → KpX (WkL X) H H' → Q (.bl b) H'
end
def isIf : Tr → Prop
  | .ifr _ _ _ => True
  | _ => False
def isCall : Tr → Prop
  | .leaf (.call _ _ _) => True
  | _ => False

section
variable (PP : Program) (ww : World) (A : Ads)
/-- what a moment tells -/
def MoT (K : PySem.W.Frag) (H : Hp) (m : Mo) (v : V) : Prop := ∃ (t a r k : Addr) (rs ks : List V), v = .ref t ∧ H t = some (.tup [.ref a, .ref r, .ref k, optV m.said, optB m.goes, optB m.goes, optS m.fell]) ∧ H a = some (.tup (m.adr.map V.int)) ∧ H r = some (.lst rs) ∧ All2 (PrO H) m.reads rs ∧ H k = some (.lst ks) ∧ All2 (PrO H) m.makes ks
def spMTold : Sp := fun vs H Q _ => ∃ (p dx : Addr) (m : Mo) (a nl r k : Addr) (rs ks : List V), vs = [.ref p] ∧ H p = some (.ins A.Moment dx (moF m a nl r k)) ∧ H r = some (.lst rs) ∧ H k = some (.lst ks) ∧ ∀ t r' k' H', Same H H' → H r' = none → H k' = none → H' r' = some (.lst rs) → H' k' = some (.lst ks) → H' t = some (.tup [.ref a, .ref r', .ref k', optV m.said, optB m.goes, optB m.goes, optS m.fell]) → Q (.ref t) H'
def spWkInit : Sp := fun vs H Q _ => ∃ (p dx s : Addr), vs = [.ref p, .ref s] ∧ H p = some (.ins A.Walker dx []) ∧ ∀ hd kp H', H hd = none → H kp = none → hd ≠ kp → KpX [p] H H' → (∀ T, NdefX.TabsN T H → NdefX.TabsN T H') → H' p = some (.ins A.Walker dx [("setting", .ref s), ("held", .ref hd), ("kept", .ref kp), ("ended", .non)]) → ND.NDict PP ww H' hd [] → H' kp = some (.lst []) → Q .non H'
def endW (b : Bool) (st : WS) : WS := if b = true then ⟨st.held, st.kept, some .ended⟩ else st
def spWalk : Sp := fun vs H Q _ => ∃ (X : WkA) (P : WP) (st0 : WS) (mb : List (Nat × Tr)) (ml : Addr) (mos : List V) (b : Bool) (st : WS), vs = [.ref X.w] ∧ WkO PP ww A X P st0 H ∧ X.m = .ref ml ∧ X.H0 ml = some (.lst mos) ∧ BlkO A.rc A.ec (fun _ => True) X.H0 mb mos ∧ BlkW P mb ∧ X.tb = A.t_Scene_reckon ∧ X.q = Q_lam ∧ walkW P 20 mb [] [] 0 st0 = some (b, st) ∧ ∀ H', WkO PP ww A X P (endW b st) H' → KpX (WkL X) H H' → Q .non H'
structure RunO (H : Hp) (R : Addr) (st : WS) : Prop where
  obj : ∃ dx s kp ev by_ w ms, H R = some (.ins A.Run dx [("setting", .ref s), ("kept", .ref kp), ("ended", ev), ("by_address", by_)]) ∧ H kp = some (.lst ms) ∧ All2 (MoO A w kp H) st.kept ms ∧ EdO H st.ended ev
def spRunInit : Sp := fun vs H Q _ => ∃ (p dx s l : Addr) (ev : V) (ms : List Mo) (mvs : List V) (wa : Addr) (Hs : Hp), vs = [.ref p, .ref s, .ref l, ev] ∧ H p = some (.ins A.Run dx []) ∧ NewT Hs p ∧ LamX.ExtN Hs H ∧ Hs l = some (.lst mvs) ∧ All2 (MoO A wa l Hs) ms mvs ∧ ms.length ≤ 60 ∧ ∀ by_ H', KpX [p] H H' → (∀ T, NdefX.TabsN T H → NdefX.TabsN T H') → H' p = some (.ins A.Run dx [("setting", .ref s), ("kept", .ref l), ("ended", ev), ("by_address", by_)]) → Q .non H'
def spRMoments (K : PySem.W.Frag) : Sp := fun vs H Q _ => ∃ (R : Addr) (st : WS), vs = [.ref R] ∧ RunO A H R st ∧ st.kept.length ≤ 60 ∧ ∀ l ts H', Same H H' → H' l = some (.lst ts) → All2 (MoT K H') st.kept ts → Q (.ref l) H'
def spREnd : Sp := fun vs H Q _ => ∃ (R : Addr) (st : WS), vs = [.ref R] ∧ RunO A H R st ∧ ∀ ev, EdO H st.ended ev → Q ev H
def saidL (ms : List Mo) : List Int := ms.filterMap (·.said)
def spRTells : Sp := fun vs H Q _ => ∃ (R : Addr) (st : WS), vs = [.ref R] ∧ RunO A H R st ∧ st.kept.length ≤ 60 ∧ ∀ l H', Same H H' → H' l = some (.lst ((saidL st.kept).map V.int)) → Q (.ref l) H'
def spSetI24 : Sp := fun vs H Q _ => ∃ (p dx g : Addr) (pv : V), vs = [.ref p, pv, .ref g, .int 60, .non] ∧ H p = some (.ins A.Setting dx []) ∧ H g = some (.dT []) ∧ ∀ g2 o2 H', KpX [p] H H' → (∀ T, NdefX.TabsN T H → NdefX.TabsN T H') → H' p = some (.ins A.Setting dx [("program", pv), ("bound", .int 60), ("given", .ref g2), ("goings", .ref o2)]) → H' g2 = some (.dT []) → H' o2 = some (.dT []) → Q .non H'
/-- what is ready to be walked -/
structure RunArg (P : WP) (mb : List (Nat × Tr)) (H : Hp) (s : Addr) : Prop where
  tab : NdefX.TabsN [(A.t_Scene_reckon, fun _ _ => Q_lam)] H
  all : ∃ (ds g go pr dp d f df l lb ml : Addr) (tx num gv : V) (os mos : List V), H s = some (.ins A.Setting ds [("program", .ref pr), ("bound", .int 60), ("given", .ref g), ("goings", .ref go)]) ∧ H g = some (.dT []) ∧ H go = some (.dT []) ∧
    H pr = some (.ins A.Program dp [("texts", tx), ("main", .ref ml), ("functions", .ref d), ("by_number", num)]) ∧ H d = some (.dK [(.inr P.fn, .ref f)]) ∧ H f = some (.ins A.Function df [("name", .str P.fn), ("params", .ref l), ("body", .ref lb), ("give", gv)]) ∧ H l = some (.lst (P.params.map V.str)) ∧
    H lb = some (.lst os) ∧ BlkO A.rc A.ec (fun _ => True) H P.body os ∧ RowO A.rc A.ec (fun _ => True) H ((P.gno : Nat) : Int) (.give P.give) gv ∧ H ml = some (.lst mos) ∧ BlkO A.rc A.ec (fun _ => True) H mb mos
  bw : BlkW P P.body
  mw : BlkW P mb
  ge : ExG P.give
  pl : P.params.length ≤ 9
def spRunOf : Sp := fun vs H Q _ => ∃ (s : Addr) (P : WP) (mb : List (Nat × Tr)) (b : Bool) (st : WS), vs = [.ref s] ∧ RunArg A P mb H s ∧ walkW P 20 mb [] [] 0 ⟨[], [], none⟩ = some (b, st) ∧ ∀ R H', RunO A H' R (endW b st) → st.kept.length ≤ 60 → Q (.ref R) H'
end
def spLCellAt (K : PySem.W.Frag) : Sp := fun vs H Q _ => ∃ (a : Addr) (ns : List Int) (k : Nat), vs = [.ref a, .int (k : Int)] ∧ SqL K H a (ns.map V.int) ∧ ∀ n : Int, Q (.int n) H
/-- the law's well: three ints -/
def Wl (H : Hp) (a : Addr) : Prop := ∃ x y z : Int, H a = some (.lst [.int x, .int y, .int z])
def spLWell (K : PySem.W.Frag) : Sp := fun vs H Q _ => ∃ (a : Addr) (ns : List Int), vs = [.ref a, .int 0] ∧ SqL K H a (ns.map V.int) ∧ ∀ p H', Same H H' → Wl H' p → Q (.ref p) H'
def spLDraw : Sp := fun vs H Q _ => ∃ (a : Addr) (m : Int), vs = [.ref a, .int m] ∧ Wl H a ∧ 0 < m ∧ m ≤ 1000000 ∧ ∀ (n : Nat) H', (n : Int) < m → KeepX a H H' → Wl H' a → Q (.int (n : Int)) H'
/-- the law's lines -/
def lines24 (o t f : Str) (many start : Nat) : List Str := [Str.ofString "fun " ++ f ++ Str.ofString " " ++ o, Str.ofString "if less " ++ o ++ Str.ofString " " ++ numT (many : Int), Str.ofString "call " ++ t ++ Str.ofString " " ++ f ++ Str.ofString " plus " ++ o ++ Str.ofString " 1", Str.ofString "else", Str.ofString "set " ++ t ++ Str.ofString " " ++ numT (start : Int), Str.ofString "end",
  Str.ofString "give plus times " ++ t ++ Str.ofString " 3 " ++ o, Str.ofString "main", Str.ofString "call " ++ t ++ Str.ofString " " ++ f ++ Str.ofString " 0", Str.ofString "tell " ++ t]
def spLLines : Sp := fun vs H Q _ => ∃ (o t f : Str) (many start : Nat), vs = [.str o, .str t, .str f, .int (many : Int), .int (start : Int)] ∧ o.length ≤ 6 ∧ t.length ≤ 6 ∧ f.length ≤ 6 ∧ many < 10 ∧ start < 1000000 ∧ ∀ l H', Same H H' → H' l = some (.lst ((lines24 o t f many start).map V.str)) → Q (.ref l) H'

end
end K24
namespace K24
open PySem L2 TL
section
variable {P : Program} {w : World} {K : PySem.W.Frag} {mg : Str → Option Value} {base : Heap} {A : Ads}
theorem ok_Setting_holds (T : Txt K mg A) : FnOk P w K mg base CX0 1 A.Setting_holds A.Setting_holds_d ["self", "place"] (spSHolds A) := by
  refine T.F_Setting_holds.ok sc_Setting_holds (fun vs H Q E h => ?_) (fun cdv A0 outer s H vs Q E hr h => ?_)
  · obtain ⟨s, ds, g, go, pr, pvv, pl, rfl, hs, hg, hp, q⟩ := h
    rfl
  obtain ⟨s, ds, g, go, pr, pvv, pl, rfl, hs, hg, hp, q⟩ := h
  refine ⟨_, (pss_one (ps_ret (ND.pe_dget2N hr.units (pe_fld (pv 0) rfl) (pv 1) pe_int ⟨by rfl, by rfl, by rfl, by rfl⟩))), ?_⟩
  obtain ⟨a, rfl, nk⟩ := hp
  exact ⟨_, rfl, s, A.Setting, ds, _, _, rfl, hs, T.cl_Setting, T.n_Setting_given, rfl, g, rfl, hg, _, rfl, a, _, rfl, nk, plK_depth pl, hg, q⟩

end
end K24
namespace K24
open PySem L2 TL
section
variable {P : Program} {w : World} {K : PySem.W.Frag} {mg : Str → Option Value} {base : Heap} {A : Ads}
theorem ok_Setting_forced_at (T : Txt K mg A) : FnOk P w K mg base CX0 1 A.Setting_forced_at A.Setting_forced_at_d ["self", "address"] (spForcedAt A) := by
  refine T.F_Setting_forced_at.ok sc_Setting_forced_at (fun vs H Q E h => ?_) (fun cdv A0 outer s H vs Q E hr h => ?_)
  · obtain ⟨s, ds, g, go, a, pr, adr, rfl, hs, hg, ha, q⟩ := h
    rfl
  obtain ⟨s, ds, g, go, a, pr, adr, rfl, hs, hg, ha, q⟩ := h
  refine ⟨_, (pss_one (ps_ret (pe_dget1 (hu_of hr) (pe_fld (pv 0) rfl) (pv 1) ⟨by rfl, by rfl, by rfl, by rfl⟩))), ?_⟩
  exact ⟨_, rfl, s, A.Setting, ds, _, _, rfl, hs, T.cl_Setting, T.n_Setting_goings, rfl, go, rfl, .inr ⟨[], .inl hg⟩, _, rfl, none, .inr ⟨[], adr.map .inl, a, .inl hg, rfl, (by rw [List.map_map]; exact ha), rfl⟩, q⟩

end
end K24
namespace K24
open PySem L2 TL
section
variable {P : Program} {w : World} {K : PySem.W.Frag} {mg : Str → Option Value} {base : Heap} {A : Ads}
theorem ok_Walker_holds (T : Txt K mg A) : FnOk P w K mg base CX0 2 A.Walker_holds A.Walker_holds_d ["self", "place"] (spHolds P w A) := by
  have G_Setting_holds := ok_Setting_holds (P := P) (w := w) (base := base) T
  refine T.F_Walker_holds.ok sc_Walker_holds (fun vs H Q E h => ?_) (fun cdv A0 outer s H vs Q E hr h => ?_)
  · obtain ⟨X, W, st, pl, pvv, rfl, hW, hp, q⟩ := h
    rfl
  obtain ⟨X, W, st, pl, pvv, rfl, hW, hp, q⟩ := h
  refine ⟨_, (pss_cons (ps_if (pt_cmpR (ND.op_inN hr.units) (pv 1) (pe_fld (pv 0) rfl) (by rfl))
    (pss_one (ps_ret (ND.pe_dgetN hr.units (pe_fld (pv 0) rfl) (pv 1) (fun _ _ => rfl))))
    pss_nil)
   (pss_one (ps_ret (pe_meth (pe_fld (pv 0) rfl) T.cl_Setting T.me_Setting_holds G_Setting_holds (hr.mono (by decide)) T.b_Setting_holds .nil pass0 (pa_cons (pv 1) pa_nil))))), ?_⟩
  obtain ⟨a, rfl, nk⟩ := hp
  obtain ⟨ev, hw, _⟩ := hW.obj
  have hst := hW.ext _ _ hW.sta.st (fun _ z => by cases z)
  have hgi := hW.ext _ _ hW.sta.gi (fun _ z => by cases z)
  have e := kv_at V.int pl st.held
  refine ⟨_, rfl, _, rfl, X.w, A.Walker, X.dw, _, _, rfl, hw, T.cl_Walker, T.n_Walker_held, rfl, a, X.hd, plK pl, _, rfl, rfl, nk, plK_depth pl, hW.held, _, rfl, ?_⟩
  unfold heldP at q
  cases c : getP st.held pl with
  | none =>
    rw [c] at e q
    rw [e]
    refine iteF ?_
    exact ⟨_, rfl, X.w, A.Walker, X.dw, _, _, rfl, hw, T.cl_Walker, T.n_Walker_setting, rfl, X.s, X.ds, _, rfl, hst, rfl, _, rfl, X.s, X.ds, X.g, X.go, _, _, pl, rfl, hst, hgi, ⟨a, rfl, nk⟩, q⟩
  | some n =>
    rw [c] at e q
    have e' : valV (kv V.int st.held) (plK pl) = some (.int n) := e
    rw [e']
    refine iteT ?_
    exact ⟨_, rfl, X.w, A.Walker, X.dw, _, _, rfl, hw, T.cl_Walker, T.n_Walker_held, rfl, _, rfl, X.hd, a, plK pl, _, .int n, rfl, rfl, nk, plK_depth pl, hW.held, e', q⟩

end
end K24
namespace K24
open PySem L2 TL
section
variable {P : Program} {w : World} {K : PySem.W.Frag} {mg : Str → Option Value} {base : Heap} {A : Ads}
theorem ok_Walker_goes_now (T : Txt K mg A) : FnOk P w K mg base CX0 2 A.Walker_goes_now A.Walker_goes_now_d ["self", "address", "looked"] (spGoesNow P w A) := by
  have G_Setting_forced_at := ok_Setting_forced_at (P := P) (w := w) (base := base) T
  refine T.F_Walker_goes_now.ok sc_Walker_goes_now (fun vs H Q E h => ?_) (fun cdv A0 outer s H vs Q E hr h => ?_)
  · obtain ⟨X, W, st, a, adr, b, rfl, hW, ha, q⟩ := h
    rfl
  obtain ⟨X, W, st, a, adr, b, rfl, hW, ha, q⟩ := h
  refine ⟨_, (pss_cons (ps_set (i := 3) sc_Walker_goes_now.nd rfl (Or.inl rfl) (pe_meth (pe_fld (pv 0) rfl) T.cl_Setting T.me_Setting_forced_at G_Setting_forced_at (hr.mono (by decide)) T.b_Setting_forced_at .nil pass0 (pa_cons (pv 1) pa_nil)))
   (pss_cons (ps_if (pt_cmpR op_isN (pv 3) pe_non (nomark _))
    (pss_one (ps_ret (pv 2)))
    pss_nil)
   (pss_one (ps_ret (pv 3))))), ?_⟩
  obtain ⟨ev, hw, _⟩ := hW.obj
  have hst := hW.ext _ _ hW.sta.st (fun _ z => by cases z)
  have hgo := hW.ext _ _ hW.sta.go (fun _ z => by cases z)
  refine ⟨_, rfl, X.w, A.Walker, X.dw, _, _, rfl, hw, T.cl_Walker, T.n_Walker_setting, rfl, X.s, X.ds, _, rfl, hst, rfl, _, rfl, X.s, X.ds, X.g, X.go, a, _, adr, rfl, hst, hgo, ha, ?_⟩
  exact ⟨_, rfl, rfl, _, rfl, iteDT rfl ⟨_, rfl, q⟩⟩

end
end K24
namespace K24
open PySem L2 TL
section
variable {P : Program} {w : World} {K : PySem.W.Frag} {mg : Str → Option Value} {base : Heap} {A : Ads}
theorem ok_Moment_init (T : Txt K mg A) : FnOk P w K mg base CX0 1 A.Moment_init A.Moment_init_d ["self", "address", "numbers"] (spMomInit A) := by
  refine T.F_Moment_init.ok sc_Moment_init (fun vs H Q E h => ?_) (fun cdv A0 outer s H vs Q E hr h => ?_)
  · obtain ⟨p, dx, a, nl, adr, rfl, hp, q⟩ := h
    rfl
  obtain ⟨p, dx, a, nl, adr, rfl, hp, q⟩ := h
  refine ⟨_, (pss_cons (ps_fld (pv 0) (pv 1) rfl)
   (pss_cons (ps_fld (pv 0) (pv 2) rfl)
   (pss_cons (ps_fld (pv 0) (pe_lst pa_nil) rfl)
   (pss_cons (ps_fld (pv 0) (pe_lst pa_nil) rfl)
   (pss_cons (ps_fld (pv 0) pe_non rfl)
   (pss_cons (ps_fld (pv 0) pe_non rfl)
   (pss_cons (ps_fld (pv 0) pe_non rfl)
   (pss_one (ps_fld (pv 0) pe_non rfl))))))))), ?_⟩
  refine ⟨_, rfl, _, rfl, p, A.Moment, dx, _, rfl, hp, T.cl_Moment, T.n_Moment_address, (by show 0 < 1000; decide), ?_⟩
  refine ⟨_, rfl, _, rfl, p, A.Moment, dx, _, rfl, upd_same, T.cl_Moment, T.n_Moment_numbers, (by show 1 < 1000; decide), ?_⟩
  rw [upd_upd]
  refine ⟨by show 0 ≤ sizeLine; decide, fun r hr => ?_⟩
  have npr : p ≠ r := fun e => by rw [← e, upd_same] at hr; cases hr
  refine ⟨_, rfl, p, A.Moment, dx, _, rfl, (by rw [upd_ne npr]; exact upd_same), T.cl_Moment, T.n_Moment_reads, (by show 2 < 1000; decide), ?_⟩
  refine ⟨by show 0 ≤ sizeLine; decide, fun k hk => ?_⟩
  have npk : p ≠ k := fun e => by rw [← e, upd_same] at hk; cases hk
  refine ⟨_, rfl, p, A.Moment, dx, _, rfl, (by rw [upd_ne npk]; exact upd_same), T.cl_Moment, T.n_Moment_makes, (by show 3 < 1000; decide), ?_⟩
  refine ⟨_, rfl, p, A.Moment, dx, _, rfl, upd_same, T.cl_Moment, T.n_Moment_said, (by show 4 < 1000; decide), ?_⟩
  rw [upd_upd]
  refine ⟨_, rfl, p, A.Moment, dx, _, rfl, upd_same, T.cl_Moment, T.n_Moment_looked, (by show 5 < 1000; decide), ?_⟩
  rw [upd_upd]
  refine ⟨_, rfl, p, A.Moment, dx, _, rfl, upd_same, T.cl_Moment, T.n_Moment_goes, (by show 6 < 1000; decide), ?_⟩
  rw [upd_upd]
  refine ⟨_, rfl, p, A.Moment, dx, _, rfl, upd_same, T.cl_Moment, T.n_Moment_fell, (by show 7 < 1000; decide), ?_⟩
  rw [upd_upd]
  have hr0 : H r = none := by rw [upd_ne npr.symm] at hr; exact hr
  have hkr : k ≠ r := fun e => by rw [e, upd_ne npr.symm, upd_same] at hk; cases hk
  have hk0 : H k = none := by rw [upd_ne npk.symm, upd_ne hkr, upd_ne npk.symm] at hk; exact hk
  refine q r k _ hkr.symm hr0 hk0 (fun b o n h _ => ?_) (fun TT t => ?_) upd_same ?_ ?_
  · have n1 : b ≠ p := fun z => n (by rw [z]; exact List.mem_singleton.mpr rfl)
    rw [upd_ne n1, upd_ne (ne_of_none h hk0), upd_ne n1, upd_ne (ne_of_none h hr0), upd_ne n1]
    exact h
  · refine tabs_ins (fs := putF "reads" (.ref r) [("address", .ref a), ("numbers", .ref nl)]) ?_ (by rw [upd_ne npk]; exact upd_same)
    refine NdefX.TabsN.ext ?_ (same_new hk)
    refine tabs_ins (fs := [("address", .ref a), ("numbers", .ref nl)]) ?_ (by rw [upd_ne npr]; exact upd_same)
    exact NdefX.TabsN.ext (tabs_ins t hp) (same_new hr)
  · rw [upd_ne npr.symm, upd_ne hkr.symm, upd_ne npr.symm, upd_same]
  · rw [upd_ne npk.symm, upd_same]

end
end K24
namespace K24
open PySem L2 TL
section
variable {P : Program} {w : World} {K : PySem.W.Frag} {mg : Str → Option Value} {base : Heap} {A : Ads}
theorem ok_Moment_told (T : Txt K mg A) : FnOk P w K mg base CX0 1 A.Moment_told A.Moment_told_d ["self"] (spMTold A) := by
  refine T.F_Moment_told.ok sc_Moment_told (fun vs H Q E h => ?_) (fun cdv A0 outer s H vs Q E hr h => ?_)
  · obtain ⟨p, dx, m, a, nl, r, k, rs, ks, rfl, hp, hr, hk, q⟩ := h
    rfl
  obtain ⟨p, dx, m, a, nl, r, k, rs, ks, rfl, hp, hr, hk, q⟩ := h
  refine ⟨_, (pss_cons (ps_set (i := 1) sc_Moment_told.nd rfl (Or.inl rfl) (pe_callTy call_list_ofK (by rfl) T.z_list (by decide +kernel) (pa_cons (pe_fld (pv 0) rfl) pa_nil)))
   (pss_one (ps_ret (pe_tup (pa_cons (pe_fld (pv 0) rfl) (pa_cons (pv 1) (pa_cons (pe_callTy call_list_ofK (by rfl) T.z_list (by decide +kernel) (pa_cons (pe_fld (pv 0) rfl) pa_nil)) (pa_cons (pe_fld (pv 0) rfl) (pa_cons (pe_fld (pv 0) rfl) (pa_cons (pe_fld (pv 0) rfl) (pa_cons (pe_fld (pv 0) rfl) pa_nil))))))))))), ?_⟩
  refine ⟨_, rfl, p, A.Moment, dx, _, _, rfl, hp, T.cl_Moment, T.n_Moment_reads, rfl, r, _, rfl, .inl (SqL.of hr), fun r' hr' => ?_⟩
  have s1 := same_new (o := .lst rs) hr'
  have p1 := s1 _ _ hp
  have r1 : upd H r' (.lst rs) r' = some (.lst rs) := upd_same
  refine ⟨_, rfl, p, A.Moment, dx, _, _, rfl, p1, T.cl_Moment, T.n_Moment_address, rfl, _, rfl, _, rfl, p, A.Moment, dx, _, _, rfl, p1, T.cl_Moment, T.n_Moment_makes, rfl, k, _, rfl, .inl (SqL.of (s1 _ _ hk)), fun k' hk' => ?_⟩
  have s2 := same_new (o := .lst ks) hk'
  have p2 := s2 _ _ p1
  refine ⟨_, rfl, p, A.Moment, dx, _, _, rfl, p2, T.cl_Moment, T.n_Moment_said, rfl, _, rfl, p, A.Moment, dx, _, _, rfl, p2, T.cl_Moment, T.n_Moment_looked, rfl, _, rfl, p, A.Moment, dx, _, _, rfl, p2, T.cl_Moment, T.n_Moment_goes, rfl, _, rfl, p, A.Moment, dx, _, _, rfl, p2, T.cl_Moment, T.n_Moment_fell, rfl, by show 7 ≤ sizeLine; decide, fun t ht => ?_⟩
  have s3 := same_new (o := .tup [.ref a, .ref r', .ref k', optV m.said, optB m.goes, optB m.goes, optS m.fell]) ht
  exact q t r' k' _ ((s1.trans s2).trans s3) hr' (none_before s1 hk') (s3 _ _ (s2 _ _ r1)) (s3 _ _ upd_same) upd_same

end
end K24
namespace K24
open PySem L2 TL
section
variable {P : Program} {w : World} {K : PySem.W.Frag} {mg : Str → Option Value} {base : Heap} {A : Ads}
theorem ok_Spot_init (T : Txt K mg A) : FnOk P w K mg base CX0 1 A.Spot_init A.Spot_init_d ["self", "address", "frame", "deep", "back"] (spSpotInit A) := by
  refine okD T.F_Spot_init sc_Spot_init (fun vs H Q E h => ?_) (fun cdv A0 outer s H vs Q E hr h => ?_)
  · obtain ⟨p, dx, a, f, d, b, rfl, hp, q⟩ := h
    rfl
  obtain ⟨p, dx, a, f, d, b, rfl, hp, q⟩ := h
  refine ⟨_, (pss_cons (ps_fld (pv 0) (pv 1) rfl)
   (pss_cons (ps_fld (pv 0) (pv 2) rfl)
   (pss_cons (ps_fld (pv 0) (pv 3) rfl)
   (pss_one (ps_fld (pv 0) (pv 4) rfl))))), ?_⟩
  refine ⟨_, rfl, _, rfl, p, A.Spot, dx, _, rfl, hp, T.cl_Spot, T.n_Spot_address, (by show 0 < 1000; decide), ?_⟩
  refine ⟨_, rfl, _, rfl, p, A.Spot, dx, _, rfl, upd_same, T.cl_Spot, T.n_Spot_frame, (by show 1 < 1000; decide), ?_⟩
  rw [upd_upd]
  refine ⟨_, rfl, _, rfl, p, A.Spot, dx, _, rfl, upd_same, T.cl_Spot, T.n_Spot_deep, (by show 2 < 1000; decide), ?_⟩
  rw [upd_upd]
  refine ⟨_, rfl, _, rfl, p, A.Spot, dx, _, rfl, upd_same, T.cl_Spot, T.n_Spot_back, (by show 3 < 1000; decide), ?_⟩
  rw [upd_upd]
  exact q

end
end K24
namespace K24
open PySem L2 TL
section
variable {P : Program} {w : World} {K : PySem.W.Frag} {mg : Str → Option Value} {base : Heap} {A : Ads}
theorem ok_Scene_init (T : Txt K mg A) : FnOk P w K mg base CX0 3 A.Scene_init A.Scene_init_d ["self", "walker", "row", "spot"] (spScInit P w A) := by
  have G_Moment_init := ok_Moment_init (P := P) (w := w) (base := base) T
  refine T.F_Scene_init.ok sc_Scene_init (fun vs H Q E h => ?_) (fun cdv A0 outer s H vs Q E hr h => ?_)
  · obtain ⟨X, W, st, S, n, rt, rfl, hp, hn, he, ht, hW, hrow, hsp, ha, hfr, hb, q⟩ := h
    rfl
  obtain ⟨X, W, st, S, n, rt, rfl, hp, hn, he, ht, hW, hrow, hsp, ha, hfr, hb, q⟩ := h
  refine ⟨_, (pss_cons (ps_fld (pv 0) (pv 1) rfl)
   (pss_cons (ps_fld (pv 0) (pv 2) rfl)
   (pss_cons (ps_fld (pv 0) (pv 3) rfl)
   (pss_cons (ps_set (i := 4) sc_Scene_init.nd rfl (Or.inl rfl) (pe_lst (pa_cons (pe_fld (pv 2) rfl) pa_nil)))
   (pss_cons (ps_if (pt_cmpR op_notN (pe_fld (pv 3) rfl) pe_non (nomark _))
    (pss_one (ps_expr (pe_bm PySem.F.plainAttrs_list PySem.F.slot_list_append PySem.F.type_list_append mt_append (pv 4) (pa_cons (pe_ix ix_tup (pe_fld (pv 3) rfl) (pe_un un_neg pe_int) (fun _ _ => rfl)) pa_nil))))
    pss_nil)
   (pss_cons (ps_fld (pv 0) (pe_make T.k_Moment G_Moment_init (hr.mono (by decide)) rfl T.m_Moment T.b_Moment_init .nil pass0 (pa_cons (pe_fld (pv 3) rfl) (pa_cons (pv 4) pa_nil))) rfl)
   (pss_one (ps_fld (pv 0) ND.pe_dnewN rfl)))))))), ?_⟩
  obtain ⟨pr, dr, fsr, er, g1, g2, g3⟩ := hrow.at
  have ext0 : LamX.ExtN X.H0 S.Hs := hW.ext
  refine ⟨_, rfl, _, rfl, S.p, A.Scene, S.dx, _, rfl, hp, T.cl_Scene, T.n_Scene_walker, (by show 0 < 1000; decide), ?_⟩
  refine ⟨_, rfl, _, rfl, S.p, A.Scene, S.dx, _, rfl, upd_same, T.cl_Scene, T.n_Scene_here, (by show 1 < 1000; decide), ?_⟩
  rw [upd_upd]
  refine ⟨_, rfl, _, rfl, S.p, A.Scene, S.dx, _, rfl, upd_same, T.cl_Scene, T.n_Scene_spot, (by show 2 < 1000; decide), ?_⟩
  rw [upd_upd]
  generalize hG : upd H S.p _ = H3
  have k3 : KpX [S.p] H H3 := by rw [← hG]; exact KpX.putA (List.mem_singleton.mpr rfl)
  have e3 : LamX.ExtN S.Hs H3 := k3.ext (fun a h => by rw [List.mem_singleton.mp h]; exact hn) he
  have t3 : NdefX.TabsN [(X.tb, fun _ _ => X.q)] H3 := by rw [← hG]; exact tabs_ins ht hp
  have p3 : H3 S.p = some (.ins A.Scene S.dx [("walker", .ref X.w), ("here", S.hv), ("spot", .ref S.sp)]) := by rw [← hG]; exact upd_same
  clear hG k3
  have row3 := (ext0.trans e3) _ _ g1 (fun _ z => by cases z)
  refine ⟨_, rfl, pr, _, dr, _, _, er, row3, (rc_cls T rt).1, (rc_cls T rt).2, g3, by show 1 ≤ sizeLine; decide, fun nl hnl => ?_⟩
  have s4 := same_new (o := .lst [.int ((n : Nat) : Int)]) hnl
  have l4 : upd H3 nl (.lst [.int ((n : Nat) : Int)]) nl = some (.lst [.int ((n : Nat) : Int)]) := upd_same
  generalize hG : upd H3 nl (.lst [.int ((n : Nat) : Int)]) = H4 at s4 l4 ⊢
  have hnew : NewT S.Hs nl := newT_of e3 (newT_none hnl)
  have en := e3.trans (LamX.ExtN.of s4)
  have tn := NdefX.TabsN.ext t3 s4
  have pn := s4 _ _ p3
  have sp4 := en _ _ hsp (fun _ z => by cases z)
  have a4 := en _ _ ha (fun _ z => by cases z)
  clear hG s4 row3 p3 t3 e3
  refine ⟨_, rfl, S.sp, A.Spot, S.dsp, _, _, rfl, sp4, T.cl_Spot, T.n_Spot_back, rfl, rfl, _, rfl, ?_⟩
  rcases hb with hb | ⟨⟨b, hb⟩, h3⟩
  · rw [hb]
    refine iteNF rfl ?_
    have spn := en _ _ hsp (fun _ z => by cases z)
    refine ⟨_, rfl, S.sp, A.Spot, S.dsp, _, _, rfl, spn, T.cl_Spot, T.n_Spot_address, rfl, _, rfl, fun x dx hx hdx _ => ?_⟩
    have sM : Same H4 (upd (upd H4 dx (.own x)) x (.ins A.Moment dx [])) := fun q o h => by rw [upd_ne (ne_of_none h hx), upd_ne (ne_of_none h hdx)]; exact h
    refine ⟨x, dx, S.a, nl, S.adr, rfl, upd_same, fun r k H6 hrk hr hk k6 t6 o6 r6 l6 => ⟨rfl, ?_⟩⟩
    have k6' : KpX [S.p] H4 H6 := fun b o n h t => k6 b o (fun m => by rw [List.mem_singleton.mp m, hx] at h; cases h) (sM b o h) t
    have npx : S.p ≠ x := ne_of_none pn hx
    have p6 := k6 _ _ (fun m => npx (List.mem_singleton.mp m)) (sM _ _ pn) (fun _ z => by cases z)
    refine ⟨_, rfl, S.p, A.Scene, S.dx, _, rfl, p6, T.cl_Scene, T.n_Scene_found, (by show 3 < 1000; decide), ?_⟩
    have t7 := tabs_ins (o := .ins A.Scene S.dx [("walker", .ref X.w), ("here", S.hv), ("spot", .ref S.sp), ("found", .ref x)]) (t6 _ (NdefX.TabsN.ext tn sM)) p6
    show ∀ p H', _
    generalize hG : upd H6 S.p _ = H7
    have hG' : upd H6 S.p (.ins A.Scene S.dx [("walker", .ref X.w), ("here", S.hv), ("spot", .ref S.sp), ("found", .ref x)]) = H7 := hG
    rw [hG'] at t7
    have p7 : H7 S.p = some (.ins A.Scene S.dx [("walker", .ref X.w), ("here", S.hv), ("spot", .ref S.sp), ("found", .ref x)]) := by rw [← hG']; exact upd_same
    have old : ∀ {b o}, H6 b = some o → b ≠ S.p → H7 b = some o := fun {b o} e n => by rw [← hG', upd_ne n]; exact e
    have k7 : KpX [S.p] H4 H7 := k6'.trans (by rw [← hG']; exact KpX.putA (List.mem_singleton.mpr rfl))
    intro md H8 hmd hφ hnd
    obtain ⟨φ, hφ⟩ := hφ
    have s8 : Same H7 H8 := by rw [hφ]; exact same_new hmd
    have p8 := s8 _ _ p7
    refine ⟨_, rfl, S.p, A.Scene, S.dx, _, rfl, p8, T.cl_Scene, T.n_Scene_met, (by show 4 < 1000; decide), ?_⟩
    have k9 : KpX [S.p] H4 (upd H8 S.p (.ins A.Scene S.dx (scF X { S with fo := x, dm := dx, md := md, r := r, k := k, nl := nl }))) := (k7.trans (KpX.of s8)).trans (KpX.putA (List.mem_singleton.mpr rfl))
    have go : ∀ {b o}, H6 b = some o → b ≠ S.p → upd H8 S.p (.ins A.Scene S.dx (scF X { S with fo := x, dm := dx, md := md, r := r, k := k, nl := nl })) b = some o := fun {b o} e n => by rw [upd_ne n]; exact s8 _ _ (old e n)
    have nrp : r ≠ S.p := ne_of r6 p6 (by intro z; cases z)
    have nkp : k ≠ S.p := ne_of l6 p6 (by intro z; cases z)
    obtain ⟨φ1, hm8⟩ := nd_has hnd
    have nmp : md ≠ S.p := ne_of hm8 p8 (by intro z; cases z)
    refine q x dx md r k nl _ ⟨hW, k9.ext (fun a h => by rw [List.mem_singleton.mp h]; exact hn) en, tabs_ins (NdefX.TabsN.ext t7 s8) p8, upd_same, ⟨rfl, go o6 npx.symm, ?_, ⟨[], go r6 nrp, .nil⟩, ⟨[], go l6 nkp, .nil⟩, fun y hy => nomatch hy⟩, hsp, ha, hfr, fun a h => ?_, hrk, npx⟩
    · exact hnd.keep (upd_ne nmp) (tupK_upd p8 (fun xs z => by cases z))
    · simp only [Sc.L, List.mem_cons, List.not_mem_nil, or_false] at h
      have e6 : LamX.ExtN S.Hs (upd (upd H4 dx (.own x)) x (.ins A.Moment dx [])) := en.trans (LamX.ExtN.of sM)
      rcases h with rfl | rfl | rfl | rfl
      · exact newT_of en (newT_none hx)
      · exact newT_of e6 (newT_none hr)
      · exact newT_of e6 (newT_none hk)
      · exact newT_of (k7.ext (fun a h => by rw [List.mem_singleton.mp h]; exact hn) en) (newT_none hmd)
  · rw [hb]
    refine iteNT (fun z => by cases z) ?_
    obtain ⟨v3, hv3⟩ : ∃ v, atI (S.adr.map V.int) (-3) = some v := by
      unfold atI ixN
      rw [if_neg (by decide), if_pos (by rw [List.length_map]; omega)]
      rw [List.length_map]
      show ∃ v, (S.adr.map V.int)[_]? = some v
      exact ⟨_, List.getElem?_eq_getElem (by rw [List.length_map]; omega)⟩
    refine ⟨_, rfl, .inl ⟨rfl, _, SqL.of l4⟩, _, rfl, S.sp, A.Spot, S.dsp, _, _, rfl, sp4, T.cl_Spot, T.n_Spot_address, rfl, _, rfl, S.a, _, _, v3, rfl, rfl, SqT.of a4, hv3, nl, _, v3, rfl, rfl, l4, (by show 1 < _; decide), ?_⟩
    have kq : KpX [nl] H4 (upd H4 nl (.lst ([.int ((n : Nat) : Int)] ++ [v3]))) := KpX.putA (List.mem_singleton.mpr rfl)
    have nnl : S.p ≠ nl := ne_of pn l4 (by intro z; cases z)
    obtain ⟨en, tn, pn⟩ : LamX.ExtN S.Hs (upd H4 nl (.lst ([.int ((n : Nat) : Int)] ++ [v3]))) ∧ NdefX.TabsN [(X.tb, fun _ _ => X.q)] (upd H4 nl (.lst ([.int ((n : Nat) : Int)] ++ [v3]))) ∧ upd H4 nl (.lst ([.int ((n : Nat) : Int)] ++ [v3])) S.p = some (.ins A.Scene S.dx [("walker", .ref X.w), ("here", S.hv), ("spot", .ref S.sp)]) :=
      ⟨kq.ext (H0 := S.Hs) (fun a h => by rw [List.mem_singleton.mp h]; exact hnew) en, tabs_lst tn l4, kq _ _ (fun m => nnl (List.mem_singleton.mp m)) pn (fun _ z => by cases z)⟩
    generalize upd H4 nl (.lst ([.int ((n : Nat) : Int)] ++ [v3])) = H5 at en tn pn ⊢
    have spn := en _ _ hsp (fun _ z => by cases z)
    refine ⟨_, rfl, S.sp, A.Spot, S.dsp, _, _, rfl, spn, T.cl_Spot, T.n_Spot_address, rfl, _, rfl, fun x dx hx hdx _ => ?_⟩
    have sM : Same H5 (upd (upd H5 dx (.own x)) x (.ins A.Moment dx [])) := fun q o h => by rw [upd_ne (ne_of_none h hx), upd_ne (ne_of_none h hdx)]; exact h
    refine ⟨x, dx, S.a, nl, S.adr, rfl, upd_same, fun r k H6 hrk hr hk k6 t6 o6 r6 l6 => ⟨rfl, ?_⟩⟩
    have k6' : KpX [S.p] H5 H6 := fun b o n h t => k6 b o (fun m => by rw [List.mem_singleton.mp m, hx] at h; cases h) (sM b o h) t
    have npx : S.p ≠ x := ne_of_none pn hx
    have p6 := k6 _ _ (fun m => npx (List.mem_singleton.mp m)) (sM _ _ pn) (fun _ z => by cases z)
    refine ⟨_, rfl, S.p, A.Scene, S.dx, _, rfl, p6, T.cl_Scene, T.n_Scene_found, (by show 3 < 1000; decide), ?_⟩
    have t7 := tabs_ins (o := .ins A.Scene S.dx [("walker", .ref X.w), ("here", S.hv), ("spot", .ref S.sp), ("found", .ref x)]) (t6 _ (NdefX.TabsN.ext tn sM)) p6
    show ∀ p H', _
    generalize hG : upd H6 S.p _ = H7
    have hG' : upd H6 S.p (.ins A.Scene S.dx [("walker", .ref X.w), ("here", S.hv), ("spot", .ref S.sp), ("found", .ref x)]) = H7 := hG
    rw [hG'] at t7
    have p7 : H7 S.p = some (.ins A.Scene S.dx [("walker", .ref X.w), ("here", S.hv), ("spot", .ref S.sp), ("found", .ref x)]) := by rw [← hG']; exact upd_same
    have old : ∀ {b o}, H6 b = some o → b ≠ S.p → H7 b = some o := fun {b o} e n => by rw [← hG', upd_ne n]; exact e
    have k7 : KpX [S.p] H5 H7 := k6'.trans (by rw [← hG']; exact KpX.putA (List.mem_singleton.mpr rfl))
    intro md H8 hmd hφ hnd
    obtain ⟨φ, hφ⟩ := hφ
    have s8 : Same H7 H8 := by rw [hφ]; exact same_new hmd
    have p8 := s8 _ _ p7
    refine ⟨_, rfl, S.p, A.Scene, S.dx, _, rfl, p8, T.cl_Scene, T.n_Scene_met, (by show 4 < 1000; decide), ?_⟩
    have k9 : KpX [S.p] H5 (upd H8 S.p (.ins A.Scene S.dx (scF X { S with fo := x, dm := dx, md := md, r := r, k := k, nl := nl }))) := (k7.trans (KpX.of s8)).trans (KpX.putA (List.mem_singleton.mpr rfl))
    have go : ∀ {b o}, H6 b = some o → b ≠ S.p → upd H8 S.p (.ins A.Scene S.dx (scF X { S with fo := x, dm := dx, md := md, r := r, k := k, nl := nl })) b = some o := fun {b o} e n => by rw [upd_ne n]; exact s8 _ _ (old e n)
    have nrp : r ≠ S.p := ne_of r6 p6 (by intro z; cases z)
    have nkp : k ≠ S.p := ne_of l6 p6 (by intro z; cases z)
    obtain ⟨φ1, hm8⟩ := nd_has hnd
    have nmp : md ≠ S.p := ne_of hm8 p8 (by intro z; cases z)
    refine q x dx md r k nl _ ⟨hW, k9.ext (fun a h => by rw [List.mem_singleton.mp h]; exact hn) en, tabs_ins (NdefX.TabsN.ext t7 s8) p8, upd_same, ⟨rfl, go o6 npx.symm, ?_, ⟨[], go r6 nrp, .nil⟩, ⟨[], go l6 nkp, .nil⟩, fun y hy => nomatch hy⟩, hsp, ha, hfr, fun a h => ?_, hrk, npx⟩
    · exact hnd.keep (upd_ne nmp) (tupK_upd p8 (fun xs z => by cases z))
    · simp only [Sc.L, List.mem_cons, List.not_mem_nil, or_false] at h
      have e6 : LamX.ExtN S.Hs (upd (upd H5 dx (.own x)) x (.ins A.Moment dx [])) := en.trans (LamX.ExtN.of sM)
      rcases h with rfl | rfl | rfl | rfl
      · exact newT_of en (newT_none hx)
      · exact newT_of e6 (newT_none hr)
      · exact newT_of e6 (newT_none hk)
      · exact newT_of (k7.ext (fun a h => by rw [List.mem_singleton.mp h]; exact hn) en) (newT_none hmd)

end
end K24
namespace K24
open PySem L2 TL
section
variable {P : Program} {w : World} {K : PySem.W.Frag} {mg : Str → Option Value} {base : Heap} {A : Ads}
theorem ok_Scene_place_of (T : Txt K mg A) : FnOk P w K mg base CX0 1 A.Scene_place_of A.Scene_place_of_d ["self", "name"] (spPlaceOf P w A) := by
  refine T.F_Scene_place_of.ok sc_Scene_place_of (fun vs H Q E h => ?_) (fun cdv A0 outer s H vs Q E hr h => ?_)
  · obtain ⟨X, W, st, S, m, nm, rfl, hS, q⟩ := h
    rfl
  obtain ⟨X, W, st, S, m, nm, rfl, hS, q⟩ := h
  refine ⟨_, (pss_one (ps_ret (pe_tup (pa_cons pe_str (pa_cons (pe_fld (pe_fld (pv 0) rfl) rfl) (pa_cons (pv 1) pa_nil)))))), ?_⟩
  have hsc := hS.p
  have hsp := hS.ext _ _ hS.sp (fun _ z => by cases z)
  refine ⟨_, rfl, S.p, A.Scene, S.dx, _, _, rfl, hsc, T.cl_Scene, T.n_Scene_spot, rfl, S.sp, A.Spot, S.dsp, _, _, rfl, hsp, T.cl_Spot, T.n_Spot_frame, rfl, _, rfl, by show 3 ≤ sizeLine; decide, fun t ht => ?_⟩
  exact q t ht

end
end K24
namespace K24
open PySem L2 TL
section
variable {P : Program} {w : World} {K : PySem.W.Frag} {mg : Str → Option Value} {base : Heap} {A : Ads}
theorem ok_Scene_read (T : Txt K mg A) : FnOk P w K mg base CX0 3 A.Scene_read A.Scene_read_d ["self", "place"] (spSRead P w A) := by
  have G_Walker_holds := ok_Walker_holds (P := P) (w := w) (base := base) T
  refine T.F_Scene_read.ok sc_Scene_read (fun vs H Q E h => ?_) (fun cdv A0 outer s H vs Q E hr h => ?_)
  · obtain ⟨X, W, st, S, m, pl, pvv, rfl, hS, hp, hl, q⟩ := h
    rfl
  obtain ⟨X, W, st, S, m, pl, pvv, rfl, hS, hp, hl, q⟩ := h
  refine ⟨_, (pss_cons (ps_set (i := 2) sc_Scene_read.nd rfl (Or.inl rfl) (pe_meth (pe_fld (pv 0) rfl) T.cl_Walker T.me_Walker_holds G_Walker_holds (hr.mono (by decide)) T.b_Walker_holds .nil pass0 (pa_cons (pv 1) pa_nil)))
   (pss_cons (ps_if (pt_cmpR (ND.op_notInN hr.units) (pv 1) (pe_fld (pv 0) rfl) (by rfl))
    (pss_cons (ND.ps_dputN hr.units (pe_fld (pv 0) rfl) (pv 1) pe_bl rfl)
   (pss_one (ps_expr (pe_bm PySem.F.plainAttrs_list PySem.F.slot_list_append PySem.F.type_list_append mt_append (pe_fld (pe_fld (pv 0) rfl) rfl) (pa_cons (pe_tup (pa_cons (pv 1) (pa_cons (pv 2) pa_nil))) pa_nil)))))
    pss_nil)
   (pss_one (ps_ret (pv 2))))), ?_⟩
  obtain ⟨a, rfl, nk⟩ := hp
  have hsc := hS.p
  have hW := hS.wk'
  obtain ⟨ev, hw, _⟩ := hW.obj
  refine ⟨_, rfl, S.p, A.Scene, S.dx, _, _, rfl, hsc, T.cl_Scene, T.n_Scene_walker, rfl, X.w, X.dw, _, rfl, hw, rfl, _, rfl, X, W, st, pl, _, rfl, hW, ⟨a, rfl, nk⟩, ?_⟩
  refine ⟨_, rfl, _, rfl, S.p, A.Scene, S.dx, _, _, rfl, hsc, T.cl_Scene, T.n_Scene_met, rfl, a, S.md, plK pl, _, rfl, rfl, nk, plK_depth pl, hS.mo.md, _, rfl, ?_⟩
  rw [kv_some]
  unfold rdW at q
  by_cases c : (m.reads.any fun x => decide (x.1 = pl)) = true
  · rw [if_pos c] at q
    rw [c]
    exact iteF ⟨_, rfl, q H hS (KpX.refl _ _)⟩
  · rw [if_neg c] at q
    rw [Bool.eq_false_iff.mpr c]
    refine iteT ?_
    refine ⟨_, rfl, S.p, A.Scene, S.dx, _, _, rfl, hsc, T.cl_Scene, T.n_Scene_met, rfl, _, rfl, S.md, a, plK pl, _, rfl, rfl, nk, plK_depth pl, hS.mo.md, ?_, fun hco H1 hφ kt hD => ?_⟩
    · show (kv (fun _ => V.bl true) m.reads).length < sizeLine
      unfold kv
      rw [List.length_map]
      exact Nat.lt_of_le_of_lt hl (by decide)
    obtain ⟨φ, hφ⟩ := hφ
    obtain ⟨φ0, hm0⟩ := nd_has hS.mo.md
    rw [kv_snoc (fun _ => V.bl true) pl (heldP st.held pl) c] at hD
    have k1 : KpX S.L H H1 := by rw [hφ]; exact KpX.putA (by simp [Sc.L])
    have t1 : NdefX.TabsN [(X.tb, fun _ _ => X.q)] H1 := by rw [hφ]; exact tabs_upd hS.tab (fun ps z => by rw [hm0] at z; cases z) hco
    have old : ∀ {b o}, H b = some o → (∀ f, o ≠ .ext f) → H1 b = some o := fun {b o} e n => by
      rw [hφ, upd_ne (fun z => by rw [z, hm0] at e; exact n _ (Option.some.inj e).symm)]; exact e
    have p1 := old hsc (fun f z => by cases z)
    have f1 := old hS.mo.fo (fun f z => by cases z)
    obtain ⟨rs, hr, hrs⟩ := hS.mo.r
    obtain ⟨ks, hk, hks⟩ := hS.mo.k
    have r1 := old hr (fun f z => by cases z)
    have kk1 := old hk (fun f z => by cases z)
    have hrl := hrs.length
    refine ⟨_, rfl, S.p, A.Scene, S.dx, _, _, rfl, p1, T.cl_Scene, T.n_Scene_found, rfl, S.fo, A.Moment, S.dm, _, _, rfl, f1, T.cl_Moment, T.n_Moment_reads, rfl, .inl ⟨rfl, _, SqL.of r1⟩, _, rfl, _, rfl, by show 2 ≤ sizeLine; decide, fun t ht => ?_⟩
    have s2 := same_new (o := .tup [.ref a, .int (heldP st.held pl)]) ht
    refine ⟨S.r, rs, .ref t, rfl, rfl, s2 _ _ r1, Nat.lt_of_le_of_lt (show rs.length ≤ 1000 by omega) (by decide), ?_⟩
    have tk : TupK H (upd (upd H1 t (.tup [.ref a, .int (heldP st.held pl)])) S.r (.lst (rs ++ [.ref t]))) := fun u xs e => tupK_upd (s2 _ _ r1) (fun xs z => by cases z) _ _ (s2 _ _ (old e (fun f z => by cases z)))
    have k2 : KpX S.L H (upd (upd H1 t (.tup [.ref a, .int (heldP st.held pl)])) S.r (.lst (rs ++ [.ref t]))) := (k1.trans (KpX.of s2)).trans (KpX.putA (by simp [Sc.L]))
    have g2 : ∀ {b o}, H1 b = some o → b ≠ S.r → upd (upd H1 t (.tup [.ref a, .int (heldP st.held pl)])) S.r (.lst (rs ++ [.ref t])) b = some o := fun {b o} e n => by
      rw [upd_ne n]; exact s2 _ _ e
    obtain ⟨φ1, hm1⟩ := nd_has hD
    refine ⟨_, rfl, q _ (hS.put k2 (tabs_lst (NdefX.TabsN.ext t1 s2) (s2 _ _ r1)) ⟨hS.mo.adr, g2 f1 (ne_of f1 r1 (by intro z; cases z)), ?_, ⟨_, upd_same, ?_⟩, ⟨ks, g2 kk1 hS.ne.1.symm, prs_keep tk hks⟩, hS.mo.vals⟩) k2⟩
    · refine hD.keep ((g2 hm1 (ne_of hm1 r1 (by intro z; cases z))).trans hm1.symm) fun u xs e => ?_
      exact g2 e (ne_of e r1 (by intro z; cases z))
    · refine (prs_keep tk hrs).snoc ⟨t, .ref a, rfl, (by rw [upd_ne (ne_of_none r1 ht).symm]; exact upd_same), (PlO.keep ⟨a, rfl, nk⟩ tk)⟩

end
end K24
namespace K24
open PySem L2 TL
section
variable {P : Program} {w : World} {K : PySem.W.Frag} {mg : Str → Option Value} {base : Heap} {A : Ads}
theorem ok_Scene_look_at (T : Txt K mg A) : FnOk P w K mg base CX0 4 A.Scene_look_at A.Scene_look_at_d ["self", "thing"] (spLookAt P w A) := by
  have G_Scene_place_of := ok_Scene_place_of (P := P) (w := w) (base := base) T
  have G_Scene_read := ok_Scene_read (P := P) (w := w) (base := base) T
  refine T.F_Scene_look_at.ok sc_Scene_look_at (fun vs H Q E h => ?_) (fun cdv A0 outer s H vs Q E hr h => ?_)
  · obtain ⟨X, W, st, S, m, th, t, rfl, hS, ht, hl, q⟩ := h
    rfl
  obtain ⟨X, W, st, S, m, th, t, rfl, hS, ht, hl, q⟩ := h
  refine ⟨_, (pss_cons (ps_if (pt_cmpR op_eq (pe_ix ix_tup (pv 1) pe_int (fun _ _ => rfl)) pe_str (nomark _))
    (pss_one (ps_ret (pe_meth (pv 0) T.cl_Scene T.me_Scene_read G_Scene_read (hr.mono (by decide)) T.b_Scene_read .nil pass0 (pa_cons (pe_meth (pv 0) T.cl_Scene T.me_Scene_place_of G_Scene_place_of (hr.mono (by decide)) T.b_Scene_place_of .nil pass0 (pa_cons (pe_ix ix_tup (pv 1) pe_int (fun _ _ => rfl)) pa_nil)) pa_nil))))
    pss_nil)
   (pss_one (ps_ret (pe_meth (pv 0) T.cl_Scene T.me_Scene_read G_Scene_read (hr.mono (by decide)) T.b_Scene_read .nil pass0 (pa_cons (pe_tup (pa_cons pe_str (pa_cons (pe_ix ix_tup (pv 1) pe_int (fun _ _ => rfl)) pa_nil))) pa_nil))))), ?_⟩
  have hsc := hS.p
  cases th with
  | box z =>
    obtain ⟨t, rfl, h1⟩ := ht
    refine ⟨_, rfl, t, _, _, _, rfl, rfl, SqT.of h1, rfl, rfl, _, rfl, iteDT rfl ?_⟩
    refine ⟨_, rfl, S.p, S.dx, _, rfl, hsc, rfl, _, rfl, S.p, S.dx, _, rfl, hsc, rfl, _, rfl, t, _, _, _, rfl, rfl, SqT.of h1, rfl, X, W, st, S, m, z, rfl, hS, fun pa hpa => ?_⟩
    have s1 := same_new (o := .tup [.str "box", .ref S.fr, .str z]) hpa
    refine ⟨X, W, st, S, m, .box S.frame z, _, rfl, hS.same s1, plO_box upd_same (s1 _ _ (hS.ext _ _ hS.fr (fun _ z => by cases z))), hl, fun H' hS' k' => q H' hS' ((KpX.of s1).trans k')⟩
  | cell z =>
    obtain ⟨t, rfl, h1⟩ := ht
    refine ⟨_, rfl, t, _, _, _, rfl, rfl, SqT.of h1, rfl, rfl, _, rfl, iteDF (fun h => by cases h) ?_⟩
    refine ⟨_, rfl, S.p, S.dx, _, rfl, hsc, rfl, _, rfl, t, _, _, _, rfl, rfl, SqT.of h1, rfl, by show 2 ≤ sizeLine; decide, fun pa hpa => ?_⟩
    have s1 := same_new (o := .tup [.str "cell", .int z]) hpa
    refine ⟨X, W, st, S, m, .cell z, _, rfl, hS.same s1, plO_cell upd_same, hl, fun H' hS' k' => q H' hS' ((KpX.of s1).trans k')⟩

theorem Fn_lam (T : Txt K mg A) (cl : List (Str × Addr)) : ∀ (f c' : Addr) (cs : KL.Cs) (ws : List (Option V)), KL.CsFn cl ["self"] ws cs → KL.LOk P w K mg base CX0 5 f (KM.GL f (KM.LFx e_lam Q_lam cl c') (KM.lBody e_lam) cs) (fun vs H Q E => spLam P w A ws vs H (fun v H' => Q v (KL.frzC cs (KL.thwC cs H'))) E) := by
  have G := ok_Scene_look_at (P := P) (w := w) (base := base) T
  intro f c' cs ws C
  refine KM.lokM_of (N := N_lam) (ps := ["thing"]) (sp := spLam P w A) sc_lam (fun pm ctv us hl => match us, hl with | [_], _ => rfl) (fun vs H Q E h => ?_) C (fun A0 outer s H vs Q E hr hcs h => ?_)
  · obtain ⟨p, t, _, rfl, _⟩ := h; rfl
  obtain ⟨p, t, rfl, rfl, h⟩ := h
  refine ⟨_, (KM.pe_methFZ (E := E) hcs (pv 1) T.cl_Scene T.me_Scene_look_at G (hr.mono (by decide)) T.b_Scene_look_at (pa_cons (pv 0) pa_nil)), ?_⟩
  obtain ⟨X, W, st, S, m, th, t', e, hS, rest⟩ := h
  cases e
  have hp : H S.p = some (.ins A.Scene S.dx (scF X S)) := by
    have z := hS.p
    cases q : cs.lookup S.p with
    | none => rw [KL.frz_none q] at z; exact z
    | some o => rw [KL.frz_some q] at z; cases z
  exact ⟨_, rfl, S.p, S.dx, _, rfl, hp, rfl, _, rfl, X, W, st, S, m, th, t, rfl, hS, rest⟩
theorem held_val {held : List (Pl × Int)} (hv : ∀ x ∈ held, IsVal x.2) (p : Pl) : IsVal (heldP held p) := by
  unfold heldP getP
  cases h : held.find? fun x => decide (x.1 = p) with
  | none => exact ⟨by decide, by decide⟩
  | some x => exact hv x (List.mem_of_find?_eq_some h)
theorem rdW_len (held : List (Pl × Int)) (p : Pl) (rd : List (Pl × Int)) : (rdW held p rd).length ≤ rd.length + 1 := by
  unfold rdW
  split
  · omega
  · rw [List.length_append]; exact Nat.le_refl _
/-- without the tables -/
def noT (H : Hp) : Hp := fun b => match H b with
  | some (.tbl _) => none
  | o => o
theorem noT_of {H : Hp} {b : Addr} {o : HO} (h : H b = some o) (n : ∀ ps, o ≠ .tbl ps) : noT H b = some o := by
  unfold noT
  rw [h]
  cases o <;> first | rfl | exact absurd rfl (n _)
theorem noT_at {H : Hp} {b : Addr} {o : HO} (h : noT H b = some o) : H b = some o ∧ ∀ ps, o ≠ .tbl ps := by
  unfold noT at h
  cases e : H b with
  | none => rw [e] at h; cases h
  | some u =>
    rw [e] at h
    cases u with
    | tbl ps => cases h
    | _ =>
      cases h
      exact ⟨rfl, fun ps z => by cases z⟩
section
variable {X : WkA} {W : WP} {st : WS} {S : Sc} {m : Mo} {cs : KL.Cs} {HB H : Hp} {f : Addr} {F : NdefX.NF} {e : Expr}
/-- the heap bears the reads rd, n more may come -/
def RSc (P : Program) (w : World) (A : Ads) (X : WkA) (W : WP) (st : WS) (S : Sc) (m : Mo) (HB : Hp) (n : Nat) (rd : List (Pl × Int)) (H : Hp) : Prop := ScO P w A X W st S { m with reads := rd } H ∧ KpX S.L HB H ∧ rd.length + n ≤ 1000
theorem lookS_ok (hf : HB f = some (KM.FnL f F e)) (hc : HB F.c = some (LamX.CodeO F.c F.qual)) (hcs : KL.CsAt cs HB) (fL : f ∉ S.L) (cL : F.c ∉ S.L) (csL : ∀ c o, cs.lookup c = some o → c ∉ S.L) (hv : ∀ x ∈ st.held, IsVal x.2) :
    LkOk (lookW st.held S.frame) (RSc P w A X W st S m HB) (noT X.H0) (KM.GL f F e cs) (fun vs H Q E => spLam P w A [some (.ref S.p)] vs H (fun v H' => Q v (KL.frzC cs (KL.thwC cs H'))) E) := by
  have gg : ∀ {H}, KpX S.L HB H → KM.GL f F e cs H := fun {H} k => ⟨k _ _ fL hf (fun ps z => by unfold KM.FnL at z; cases z), k _ _ cL hc LamX.codeO_ne, fun c o h => k _ _ (csL c o h) (hcs c o h) (fun ps z => by cases z)⟩
  refine ⟨fun n s H r b o h => ?_, fun n s H r => gg r.2.1, fun n s H H' r k => ⟨r.1.same k, r.2.1.trans (KpX.of k), r.2.2⟩, fun m n s H hm r => ⟨r.1, r.2.1, by have := r.2.2; omega⟩, fun th s => held_val hv _, fun n s H th t Q r ht hw q => ?_⟩
  · obtain ⟨h1, h2⟩ := noT_at h
    exact (r.1.wk.ext.trans r.1.ext) b o h1 h2
  · have hl := r.2.2
    refine ⟨S.p, t, rfl, rfl, X, W, st, S, _, th, t, rfl, r.1, ht, (by show s.length ≤ 1000; omega), fun H' hS' k' => ?_⟩
    have ca : KL.CsAt cs H' := (gg (r.2.1.trans k')).2.2
    show Q _ (KL.frzC cs (KL.thwC cs H'))
    rw [KM.frz_thw ca]
    refine q H' ⟨hS', r.2.1.trans k', ?_⟩
    have := rdW_len st.held (plOf S.frame th) s
    show (rdW st.held (plOf S.frame th) s).length + n ≤ 1000
    omega
theorem ScO.inL (h : ScO P w A X W st S m H) : ∀ a ∈ S.L, ∃ o, H a = some o := by
  obtain ⟨rs, h1, _⟩ := h.mo.r
  obtain ⟨ks, h2, _⟩ := h.mo.k
  obtain ⟨φ, h3⟩ := nd_has h.mo.md
  intro a z
  simp only [Sc.L, List.mem_cons, List.not_mem_nil, or_false] at z
  rcases z with z | z | z | z
  · exact ⟨_, z ▸ h.mo.fo⟩
  · exact ⟨_, z ▸ h1⟩
  · exact ⟨_, z ▸ h2⟩
  · exact ⟨_, z ▸ h3⟩
theorem ScO.codeL (h : ScO P w A X W st S m H) {c : Addr} {q : Str} (hc : H c = some (LamX.CodeO c q)) (hnd : ∀ d xs, H d = some (ND.DN P w d xs) → c ≠ d) : c ∉ S.L := by
  obtain ⟨rs, h1, _⟩ := h.mo.r
  obtain ⟨ks, h2, _⟩ := h.mo.k
  obtain ⟨xs, h3, _⟩ := h.mo.md
  have h4 := h.mo.fo
  intro z
  unfold LamX.CodeO at hc
  simp only [Sc.L, List.mem_cons, List.not_mem_nil, or_false] at z
  rcases z with z | z | z | z
  · rw [z, h4] at hc; cases hc
  · rw [z, h1] at hc; cases hc
  · rw [z, h2] at hc; cases hc
  · exact hnd _ _ h3 z
theorem scO_thw (h : ScO P w A X W st S m H) (ca : KL.CsAt cs H) (hcs : ∀ c o u, cs.lookup c = some o → S.Hs c = some u → ∃ ps, u = .tbl ps) : ScO P w A X W st S m (KL.thwC cs H) := by
  have kp : ∀ {b : Addr} {u : HO}, H b = some u → (∀ o, u ≠ .frz o KL.anyO) → KL.thwC cs H b = some u := fun {b u} e n => (KL.thw_none (KL.csAt_none ca e n)).trans e
  have tk : TupK H (KL.thwC cs H) := fun t xs e => kp e (fun o z => by cases z)
  obtain ⟨rs, h1, h2⟩ := h.mo.r
  obtain ⟨ks, h3, h4⟩ := h.mo.k
  obtain ⟨φ, h5⟩ := nd_has h.mo.md
  refine ⟨h.wk, fun b o e n => ?_, fun p hp => ?_, kp h.p (fun o z => by cases z), ⟨h.mo.adr, kp h.mo.fo (fun o z => by cases z), h.mo.md.keep ((kp h5 (fun o z => by cases z)).trans h5.symm) tk, ⟨rs, kp h1 (fun o z => by cases z), prs_keep tk h2⟩, ⟨ks, kp h3 (fun o z => by cases z), prs_keep tk h4⟩, h.mo.vals⟩, h.sp, h.a, h.fr, h.new, h.ne⟩
  · have e2 := h.ext b o e n
    cases q : cs.lookup b with
    | none => exact (KL.thw_none q).trans e2
    | some u =>
      obtain ⟨ps, z⟩ := hcs b u o q e
      exact absurd z (n ps)
  · obtain ⟨ps, e1, e2, e3⟩ := h.tab p hp
    refine ⟨ps, kp e1 (fun o z => by cases z), e2, fun pos cv hc => ?_⟩
    obtain ⟨c, e4, e5⟩ := e3 pos cv hc
    exact ⟨c, e4, kp e5 (fun o z => by unfold LamX.CodeO at z; cases z)⟩
end

/-- the values ns stand ahead of what comes -/
def evsX (ns : List Int) : Option (List Int) × List (Pl × Int) → Option (List Int) × List (Pl × Int)
  | (none, rd) => (none, rd)
  | (some vs, rd) => (some (ns ++ vs), rd)
theorem evsX_nil (x : Option (List Int) × List (Pl × Int)) : evsX [] x = x := by
  obtain ⟨a, b⟩ := x
  cases a <;> rfl
theorem evsX_snoc (ns : List Int) (n : Int) (x : Option (List Int) × List (Pl × Int)) : evsX ns (match x with
    | (none, rd2) => (none, rd2)
    | (some vs, rd2) => (some (n :: vs), rd2)) = evsX (ns ++ [n]) x := by
  obtain ⟨a, b⟩ := x
  cases a with
  | none => rfl
  | some vs =>
    show (some (ns ++ n :: vs), b) = (some ((ns ++ [n]) ++ vs), b)
    rw [List.append_assoc]; rfl
theorem ev_lenW {held : List (Pl × Int)} {frame : List Int} : ∀ {e : Ex} {rd : List (Pl × Int)}, (ev (lookW held frame) e rd).2.length ≤ rd.length + e.parts
  | .num _, rd => Nat.le_add_right _ _
  | .box z, rd => rdW_len _ _ _
  | .cell e, rd => by
    have i := ev_lenW (held := held) (frame := frame) (e := e) (rd := rd)
    show (evC (lookW held frame) (ev (lookW held frame) e rd)).2.length ≤ rd.length + (1 + e.parts)
    generalize ev (lookW held frame) e rd = x at i
    obtain ⟨a, b⟩ := x
    have i : b.length ≤ rd.length + e.parts := i
    cases a with
    | none => show b.length ≤ _; omega
    | some n =>
      have := rdW_len held (.cell n) b
      show (rdW held (.cell n) b).length ≤ _
      omega
  | .two w l r, rd => by
    have i := ev_lenW (held := held) (frame := frame) (e := l) (rd := rd)
    have j := fun rd' => ev_lenW (held := held) (frame := frame) (e := r) (rd := rd')
    show (evA w (ev (lookW held frame) r) (ev (lookW held frame) l rd)).2.length ≤ rd.length + (1 + l.parts + r.parts)
    generalize ev (lookW held frame) l rd = x at i
    obtain ⟨a, b⟩ := x
    have i : b.length ≤ rd.length + l.parts := i
    cases a with
    | none => show b.length ≤ _; omega
    | some n =>
      have j := j b
      show (evB w n (ev (lookW held frame) r b)).2.length ≤ _
      generalize ev (lookW held frame) r b = y at j
      obtain ⟨c, d⟩ := y
      have j : d.length ≤ b.length + r.parts := j
      cases c with
      | none => show d.length ≤ _; omega
      | some k => show d.length ≤ _; omega
theorem allE_at {c : EC} {H : Hp} : ∀ {es : List Ex} {os : List V}, AllE c H es os → ∀ {i : Nat} {v : V}, os[i]? = some v → ∃ e, es[i]? = some e ∧ ObjE c H e v
  | _, _, .nil, _, _, h => by simp at h
  | _, _, .cons a t, 0, _, h => by
    simp at h
    subst h
    exact ⟨_, rfl, a⟩
  | _, _, .cons a t, i + 1, _, h => by
    obtain ⟨e, h1, h2⟩ := allE_at t (by simpa using h)
    exact ⟨e, by simpa using h1, h2⟩
/-- a list that is none of the moment's is put -/
theorem ScO.other {X : WkA} {W : WP} {st : WS} {S : Sc} {m : Mo} {H : Hp} {l : Addr} {xs ys : List V} (h : ScO P w A X W st S m H) (hl : H l = some (.lst xs)) (n : l ∉ S.L) (hs : NewT S.Hs l) : ScO P w A X W st S m (upd H l (.lst ys)) := by
  obtain ⟨rs, h1, h2⟩ := h.mo.r
  obtain ⟨ks, h3, h4⟩ := h.mo.k
  obtain ⟨φ, h5⟩ := nd_has h.mo.md
  have k : KpX [l] H (upd H l (.lst ys)) := KpX.putA (List.mem_singleton.mpr rfl)
  have go : ∀ {b o}, H b = some o → b ≠ l → upd H l (.lst ys) b = some o := fun {b o} e n => by rw [upd_ne n]; exact e
  have tk : TupK H (upd H l (.lst ys)) := tupK_upd hl (fun xs z => by cases z)
  have nL : ∀ {a}, a ∈ S.L → a ≠ l := fun {a} h e => n (e ▸ h)
  exact ⟨h.wk, k.ext (fun a h => by rw [List.mem_singleton.mp h]; exact hs) h.ext, tabs_lst h.tab hl, go h.p (ne_of h.p hl (by intro z; cases z)), ⟨h.mo.adr, go h.mo.fo (ne_of h.mo.fo hl (by intro z; cases z)), h.mo.md.keep (upd_ne (nL (by simp [Sc.L]))) tk, ⟨rs, go h1 (nL (by simp [Sc.L])), prs_keep tk h2⟩, ⟨ks, go h3 (nL (by simp [Sc.L])), prs_keep tk h4⟩, h.mo.vals⟩, h.sp, h.a, h.fr, h.new, h.ne⟩

end
end K24
namespace K24
open PySem L2 TL
section
variable {P : Program} {w : World} {K : PySem.W.Frag} {mg : Str → Option Value} {base : Heap} {A : Ads}
theorem ok_Scene_reckon (T : Txt K mg A) (B : Cod base mg A) : FnOk P w K mg base CX0 13 A.Scene_reckon A.Scene_reckon_d ["self", "expr"] (spSReckon P w A) := by
  have G_Scene_look_at := ok_Scene_look_at (P := P) (w := w) (base := base) T
  have D_reckon := disp_reckon (P := P) (w := w) (base := base) (J := 5) T 6
  refine okC T.F_Scene_reckon T.cd_Scene_reckon sc_Scene_reckon (fun vs H Q E h => ?_) (fun A0 outer s H vs Q E hr h => ?_)
  · obtain ⟨X, W, st, S, m, e, x, rfl, hS, ho, he, hl, htb, hq, q⟩ := h
    rfl
  obtain ⟨X, W, st, S, m, e, x, rfl, hS, ho, he, hl, htb, hq, q⟩ := h
  refine ⟨_, (pss_cons (ps_set (i := 2) sc_Scene_reckon.nd rfl (Or.inl rfl) (pe_methL (E := E0) (pv 1) D_reckon (hr.mono (by decide)) (Fn_lam T _) (fun ok => NdefX.Caps.made (js := [0]) ok (NdefX.ndef_free (sc := defScope s_Scene_reckon) (nsc := KM.lScope e_lam) (fr := ["self"]) (by decide +kernel)) (NdefX.ndef_fr (sc := defScope s_Scene_reckon) (by decide +kernel)) rfl) (clo_fr (by decide +kernel)) (fun _ _ => rfl) (pa_cons (pe_lamS (e := e_lam) (T := [(A.t_Scene_reckon, fun _ _ => Q_lam)]) (nm := fun _ _ => Q_lam) rfl B.tb_Scene_reckon rfl (List.mem_singleton.mpr rfl) rfl (fun p hp _ => by rw [List.mem_singleton.mp hp]) rfl (NdefX.ndef_free (sc := defScope s_Scene_reckon) (nsc := KM.lScope e_lam) (fr := ["self"]) (by decide +kernel))) pa_nil)))
   (pss_cons (ps_if (pt_cmpR op_isN (pv 2) pe_non (nomark _))
    (pss_one (ps_fld (pe_fld (pv 0) rfl) pe_str rfl))
    pss_nil)
   (pss_one (ps_ret (pv 2))))), ?_⟩
  have hsc := hS.p
  have ext0 : LamX.ExtN X.H0 H := hS.wk.ext.trans hS.ext
  have hoH : ObjE A.ec H e x := ho.keepI (cs := fun _ => True) (N := fun _ => True) (extN_keepI ext0) (fun _ _ => trivial)
  obtain ⟨p2, d2, f2, e2, g1, g2⟩ := hoH.at (m := "reckon") (by decide +kernel)
  subst e2
  have tb := hS.tab
  rw [htb, hq] at tb
  refine ⟨_, rfl, p2, _, d2, f2, rfl, g1, g2, A.ec.fam e, tb, fun f c' H1 e1 nn t1 hf h1f h1c hnd => ?_⟩
  refine ⟨f, c', rfl, h1f, h1c, fun cs hcs L => ?_⟩
  rw [← htb, ← hq] at t1
  have hS1 := hS.ext' e1 t1
  have nn1 : ∀ {b : Addr} {u : HO}, H1 b = some u → cs.lookup b = none := fun {b u} e => by
    cases q : cs.lookup b with
    | none => rfl
    | some o => rw [hcs b o q] at e; cases e
  have sF : Same H1 (KL.frzC cs H1) := fun b o h => (KL.frz_none (nn1 h)).trans h
  have hS2 := hS1.same sF
  have fL : f ∉ S.L := fun z => by
    obtain ⟨o, ho⟩ := hS.inL f z
    rw [hf] at ho; cases ho
  have csL : ∀ c o, cs.lookup c = some o → c ∉ S.L := fun c o h z => by
    obtain ⟨u, hu⟩ := hS1.inL c z
    rw [hcs c o h] at hu; cases hu
  have csH : ∀ c o u, cs.lookup c = some o → S.Hs c = some u → ∃ ps, u = .tbl ps := fun c o u h z => by
    by_cases tbq : ∃ ps, u = .tbl ps
    · exact tbq
    · have := hS1.ext c u z (fun ps e => tbq ⟨ps, e⟩)
      rw [hcs c o h] at this; cases this
  have cL := hS1.codeL h1c hnd
  have lo := lookS_ok (P := P) (w := w) (A := A) (X := X) (W := W) (st := st) (S := S) (m := m) (cs := cs) (HB := KL.frzC cs H1) (sF _ _ h1f) (sF _ _ h1c) (KL.csAt_frz cs H1) fL cL csL hS.wk.vals
  have hoN : ObjE A.ec (noT X.H0) e (.ref p2) := ho.keepI (cs := fun _ => True) (N := fun _ => True) ⟨fun q C dx fs _ h => noT_of h (fun ps z => by cases z), fun q xs _ h => noT_of h (fun ps z => by cases z)⟩ (fun _ _ => trivial)
  refine ⟨e, _, f, List (Pl × Int), lookW st.held S.frame, RSc P w A X W st S m (KL.frzC cs H1), noT X.H0, _, _, m.reads, 100, rfl, hoN, rfl, he.2.1, he.1, L, lo, ⟨hS2, KpX.refl _ _, by have := he.2.2; omega⟩, fun H5 r5 => ?_⟩
  obtain ⟨r5, k5, l5⟩ := r5
  have ca5 : KL.CsAt cs H5 := fun c o h => k5 _ _ (csL c o h) (KL.csAt_frz cs H1 c o h) (fun ps z => by cases z)
  have hS5 := scO_thw r5 ca5 csH
  have fr5 : KpX S.L H (KL.thwC cs H5) := fun b o n h t => by
    have h1 := e1 b o h t
    have h2 := k5 b o n (sF _ _ h1) t
    exact (KL.thw_none (nn1 h1)).trans h2
  have hv := fun n (h : (ev (lookW st.held S.frame) e m.reads).1 = some n) => ev_val lo.val he.1 h
  generalize KL.thwC cs H5 = H6 at hS5 fr5 ⊢
  generalize ev (lookW st.held S.frame) e m.reads = y at hS5 q hv ⊢
  obtain ⟨y1, rd⟩ := y
  cases y1 with
  | none =>
    refine ⟨_, rfl, rfl, _, rfl, iteDT rfl ?_⟩
    have p6 := hS5.p
    have f6 := hS5.mo.fo
    refine ⟨_, rfl, S.p, A.Scene, S.dx, _, _, rfl, p6, T.cl_Scene, T.n_Scene_found, rfl, S.fo, A.Moment, S.dm, _, rfl, f6, T.cl_Moment, T.n_Moment_fell, (by show 8 < 1000; decide), ?_⟩
    obtain ⟨z1, z2⟩ := hS5.setF (m' := { m with reads := rd, fell := some (Str.ofString "nought") }) rfl rfl rfl
    exact ⟨_, rfl, q _ z1 (fr5.trans z2) (fun n h => by cases h)⟩
  | some n =>
    refine ⟨_, rfl, rfl, _, rfl, iteDF (fun h => by cases h) ?_⟩
    exact ⟨_, rfl, q _ hS5 fr5 hv⟩

end
end K24
namespace K24
open PySem L2 TL
section
variable {P : Program} {w : World} {K : PySem.W.Frag} {mg : Str → Option Value} {base : Heap} {A : Ads}
theorem ok_Scene_make (T : Txt K mg A) : FnOk P w K mg base CX0 1 A.Scene_make A.Scene_make_d ["self", "place", "value"] (spMake P w A) := by
  refine T.F_Scene_make.ok sc_Scene_make (fun vs H Q E h => ?_) (fun cdv A0 outer s H vs Q E hr h => ?_)
  · obtain ⟨X, W, st, S, m, pl, pvv, n, rfl, hS, hp, hn, hl, q⟩ := h
    rfl
  obtain ⟨X, W, st, S, m, pl, pvv, n, rfl, hS, hp, hn, hl, q⟩ := h
  refine ⟨_, (pss_one (ps_expr (pe_bm PySem.F.plainAttrs_list PySem.F.slot_list_append PySem.F.type_list_append mt_append (pe_fld (pe_fld (pv 0) rfl) rfl) (pa_cons (pe_tup (pa_cons (pv 1) (pa_cons (pv 2) pa_nil))) pa_nil)))), ?_⟩
  have hsc := hS.p
  have hf := hS.mo.fo
  obtain ⟨ks, hk, hks⟩ := hS.mo.k
  have hkl := hks.length
  refine ⟨_, rfl, S.p, A.Scene, S.dx, _, _, rfl, hsc, T.cl_Scene, T.n_Scene_found, rfl, S.fo, A.Moment, S.dm, _, _, rfl, hf, T.cl_Moment, T.n_Moment_makes, rfl, .inl ⟨rfl, _, SqL.of hk⟩, _, rfl, _, rfl, by show 2 ≤ sizeLine; decide, fun t ht => ?_⟩
  have s2 := same_new (o := .tup [pvv, .int n]) ht
  refine ⟨S.k, ks, .ref t, rfl, rfl, s2 _ _ hk, Nat.lt_of_le_of_lt (show ks.length ≤ 1000 by omega) (by decide), ?_⟩
  obtain ⟨h1, h2⟩ := (hS.same s2).make (x := (pl, n)) (v := .ref t) (s2 _ _ hk) ⟨t, pvv, rfl, upd_same, hp.keep (tupK_same s2)⟩ hn
  exact q _ h1 ((KpX.of s2).trans h2)

end
end K24
namespace K24
open PySem L2 TL
section
variable {P : Program} {w : World} {K : PySem.W.Frag} {mg : Str → Option Value} {base : Heap} {A : Ads}
theorem ok_Scene_say (T : Txt K mg A) : FnOk P w K mg base CX0 1 A.Scene_say A.Scene_say_d ["self", "value"] (spSay P w A) := by
  refine T.F_Scene_say.ok sc_Scene_say (fun vs H Q E h => ?_) (fun cdv A0 outer s H vs Q E hr h => ?_)
  · obtain ⟨X, W, st, S, m, n, rfl, hS, q⟩ := h
    rfl
  obtain ⟨X, W, st, S, m, n, rfl, hS, q⟩ := h
  refine ⟨_, (pss_one (ps_fld (pe_fld (pv 0) rfl) (pv 1) rfl)), ?_⟩
  have hsc := hS.p
  have hf := hS.mo.fo
  refine ⟨_, rfl, _, rfl, S.p, A.Scene, S.dx, _, _, rfl, hsc, T.cl_Scene, T.n_Scene_found, rfl, S.fo, A.Moment, S.dm, _, rfl, hf, T.cl_Moment, T.n_Moment_said, (by show 8 < 1000; decide), ?_⟩
  exact q _ (hS.setF (m' := { m with said := some n }) rfl rfl rfl).1

end
end K24
namespace K24
open PySem L2 TL
section
variable {P : Program} {w : World} {K : PySem.W.Frag} {mg : Str → Option Value} {base : Heap} {A : Ads}
theorem ok_Scene_look (T : Txt K mg A) : FnOk P w K mg base CX0 3 A.Scene_look A.Scene_look_d ["self", "truth"] (spSLook P w A) := by
  have G_Walker_goes_now := ok_Walker_goes_now (P := P) (w := w) (base := base) T
  refine T.F_Scene_look.ok sc_Scene_look (fun vs H Q E h => ?_) (fun cdv A0 outer s H vs Q E hr h => ?_)
  · obtain ⟨X, W, st, S, m, b, rfl, hS, q⟩ := h
    rfl
  obtain ⟨X, W, st, S, m, b, rfl, hS, q⟩ := h
  refine ⟨_, (pss_cons (ps_fld (pe_fld (pv 0) rfl) (pv 1) rfl)
   (pss_one (ps_fld (pe_fld (pv 0) rfl) (pe_meth (pe_fld (pv 0) rfl) T.cl_Walker T.me_Walker_goes_now G_Walker_goes_now (hr.mono (by decide)) T.b_Walker_goes_now .nil pass0 (pa_cons (pe_fld (pe_fld (pv 0) rfl) rfl) (pa_cons (pv 1) pa_nil))) rfl))), ?_⟩
  have hsc := hS.p
  have hf := hS.mo.fo
  refine ⟨_, rfl, _, rfl, S.p, A.Scene, S.dx, _, _, rfl, hsc, T.cl_Scene, T.n_Scene_found, rfl, S.fo, A.Moment, S.dm, _, rfl, hf, T.cl_Moment, T.n_Moment_looked, (by show 8 < 1000; decide), ?_⟩
  have e1 := hS.setF (m' := { m with goes := some b }) rfl rfl rfl
  have gf : ∀ (o : HO), upd (upd H S.fo o) S.fo (.ins A.Moment S.dm (moF { m with goes := some b } S.a S.nl S.r S.k)) = upd H S.fo (.ins A.Moment S.dm (moF { m with goes := some b } S.a S.nl S.r S.k)) := fun o => upd_upd
  generalize hG : upd H S.fo _ = H1
  have npf : S.p ≠ S.fo := hS.ne.2
  have p1 : H1 S.p = some (.ins A.Scene S.dx (scF X S)) := by rw [← hG, upd_ne npf]; exact hsc
  have e2 : LamX.ExtN S.Hs H1 := (show KpX S.L H H1 by rw [← hG]; exact KpX.putA (by simp [Sc.L])).ext hS.new hS.ext
  have t2 : NdefX.TabsN [(X.tb, fun _ _ => X.q)] H1 := by rw [← hG]; exact tabs_ins hS.tab hf
  have hW := hS.wk.ext' e2 t2
  obtain ⟨ev, hw, _⟩ := hW.obj
  have sp1 := e2 _ _ hS.sp (fun _ z => by cases z)
  have a1 := e2 _ _ hS.a (fun _ z => by cases z)
  refine ⟨_, rfl, S.p, A.Scene, S.dx, _, _, rfl, p1, T.cl_Scene, T.n_Scene_walker, rfl, X.w, X.dw, _, rfl, hw, rfl, _, rfl, S.p, A.Scene, S.dx, _, _, rfl, p1, T.cl_Scene, T.n_Scene_spot, rfl, S.sp, A.Spot, S.dsp, _, _, rfl, sp1, T.cl_Spot, T.n_Spot_address, rfl, _, rfl, X, W, st, S.a, S.adr, b, rfl, hW, a1, ?_⟩
  refine ⟨_, rfl, S.p, A.Scene, S.dx, _, _, rfl, p1, T.cl_Scene, T.n_Scene_found, rfl, S.fo, A.Moment, S.dm, _, rfl, (by rw [← hG]; exact upd_same), T.cl_Moment, T.n_Moment_goes, (by show 8 < 1000; decide), ?_⟩
  rw [← hG]
  refine q _ ?_
  rw [upd_upd]
  exact e1.1

end
end K24
namespace K24
open PySem L2 TL
section
variable {P : Program} {w : World} {K : PySem.W.Frag} {mg : Str → Option Value} {base : Heap} {A : Ads}
theorem ok_Scene_enter (T : Txt K mg A) : FnOk P w K mg base CX0 2 A.Scene_enter A.Scene_enter_d ["self", "values"] (spEnter P w A) := by
  have G_Scene_make := ok_Scene_make (P := P) (w := w) (base := base) T
  refine T.F_Scene_enter.ok sc_Scene_enter (fun vs H Q E h => ?_) (fun cdv A0 outer s H vs Q E hr h => ?_)
  · obtain ⟨X, W, st, S, m, l, ns, k, b, es, rfl, hS, hl, hnl, hv, hrow, hm, q⟩ := h
    rfl
  obtain ⟨X, W, st, S, m, l, ns, k, b, es, rfl, hS, hl, hnl, hv, hrow, hm, q⟩ := h
  refine ⟨_, (pss_cons (ps_if (pt_cmpR op_ge (pe_fld (pe_fld (pv 0) rfl) rfl) (pe_glob (v := .int 6) (by rfl) T.c_DEEPEST.choose_spec ⟨_, rfl⟩) (nomark _))
    (pss_cons (ps_fld (pe_fld (pv 0) rfl) pe_str rfl)
   (pss_one ps_retN))
    pss_nil)
   (pss_cons (ps_set (i := 2) sc_Scene_enter.nd rfl (Or.inl rfl) (pe_fld (pe_dget (hu_of hr) (pe_fld (pe_fld (pe_fld (pe_fld (pv 0) rfl) rfl) rfl) rfl) (pe_fld (pe_fld (pv 0) rfl) rfl) (fun _ _ => rfl)) rfl))
   (pss_one (ps_for PassesOwn.never rfl (pi_zip (by rfl) T.z_zip (pa_cons (pv 2) (pa_cons (pv 1) pa_nil))) (pg_tup (by rfl) (pgs_cons (pg_name (i := 3) sc_Scene_enter.nd rfl (Or.inl rfl)) (pgs_cons (pg_name (i := 4) sc_Scene_enter.nd rfl (Or.inl rfl)) pgs_nil)))
    (pss_one (ps_expr (pe_meth (pv 0) T.cl_Scene T.me_Scene_make G_Scene_make (hr.mono (by decide)) T.b_Scene_make .nil pass0 (pa_cons (pe_tup (pa_cons pe_str (pa_cons (pe_fld (pe_fld (pv 0) rfl) rfl) (pa_cons (pv 3) pa_nil)))) (pa_cons (pv 4) pa_nil))))))))), ?_⟩
  have hsc := hS.p
  have ext0 : LamX.ExtN X.H0 H := hS.wk.ext.trans hS.ext
  have sp1 := hS.ext _ _ hS.sp (fun _ z => by cases z)
  have hf := hS.mo.fo
  have hW := hS.wk'
  have hsta := hS.wk.sta
  obtain ⟨ev, hw, _⟩ := hW.obj
  have o : ∀ {b u}, X.H0 b = some u → (∀ ps, u ≠ .tbl ps) → H b = some u := fun {b u} h n => ext0 b u h n
  have st1 := o hsta.st (fun _ z => by cases z)
  have pr1 := o hsta.pr (fun _ z => by cases z)
  have d1 := o hsta.d (fun _ z => by cases z)
  have f1 := o hsta.f (fun _ z => by cases z)
  have l1 := o hsta.l (fun _ z => by cases z)
  obtain ⟨pc, dc, lc, oc, ec, c1, c2, c3, c4⟩ := hrow
  have c1 := o c1 (fun _ z => by cases z)
  refine ⟨_, rfl, S.p, A.Scene, S.dx, _, _, rfl, hsc, T.cl_Scene, T.n_Scene_spot, rfl, S.sp, A.Spot, S.dsp, _, _, rfl, sp1, T.cl_Spot, T.n_Spot_deep, rfl, _, _, rfl, rfl, _, rfl, iteD2 (fun c => ?_) (fun c => ?_)⟩
  · have c' : deepest ≤ S.deep := by show 6 ≤ S.deep; omega
    refine ⟨_, rfl, S.p, A.Scene, S.dx, _, _, rfl, hsc, T.cl_Scene, T.n_Scene_found, rfl, S.fo, A.Moment, S.dm, _, rfl, hf, T.cl_Moment, T.n_Moment_fell, (by show 8 < 1000; decide), ?_⟩
    refine q _ ?_
    rw [if_pos c']
    exact (hS.setF (m' := { m with fell := some (Str.ofString "deep") }) rfl rfl rfl).1
  · have c' : ¬ deepest ≤ S.deep := fun h => c (by have h : 6 ≤ S.deep := h; omega)
    rw [if_neg c'] at q
    have e2 : valV [((.inr W.fn : Key), V.ref X.f)] (.inr W.fn) = some (.ref X.f) := valV_pos rfl
    refine ⟨_, rfl, S.p, A.Scene, S.dx, _, _, rfl, hsc, T.cl_Scene, T.n_Scene_walker, rfl, X.w, A.Walker, X.dw, _, _, rfl, hw, T.cl_Walker, T.n_Walker_setting, rfl, X.s, A.Setting, X.ds, _, _, rfl, st1, T.cl_Setting, T.n_Setting_program, rfl, X.pr, A.Program, X.dp, _, _, rfl, pr1, T.cl_Program, T.n_Program_functions, rfl, _, rfl, S.p, A.Scene, S.dx, _, _, rfl, hsc, T.cl_Scene, T.n_Scene_here, rfl, pc, A.Call, dc, _, _, ec, c1, T.cl_Call, T.n_Call_fun, rfl, X.d, _, rfl, (by rw [← e2]; exact DGet.k (k := .inr W.fn) d1), X.f, A.Function, X.df, _, _, rfl, f1, T.cl_Function, T.n_Function_params, rfl, ?_⟩
    have ml : ∀ i, ((W.params.zip ns).take i).length ≤ 9 := fun i => by
      rw [List.length_take, List.length_zip]
      have := hsta.pl
      omega
    refine ⟨_, rfl, _, rfl, X.l, l, _, _, rfl, SqL.of l1, SqL.of hl, for_it (walk_zip (xs := W.params.map V.str) (ys := ns.map V.int) rfl) (fun i σ H' => ∃ y z : Option V, σ = [some (.ref S.p), some (.ref l), some (.ref X.l), y, z] ∧ ScO P w A X W st S { m with makes := ((W.params.zip ns).take i).map fun x => (Pl.box S.adr x.1, x.2) } H' ∧ KpX S.L H H') ⟨none, none, rfl, ?_, KpX.refl _ _⟩ ?_ ?_ ?_⟩
    · have e : { m with makes := ((W.params.zip ns).take 0).map fun x => (Pl.box S.adr x.1, x.2) } = m := by
        rw [List.take_zero]
        show Mo.mk m.adr m.reads [] m.said m.goes m.fell = m
        rw [← hm]
      rw [e]; exact hS
    · rintro i σ H' hi ⟨y, z, rfl, hS', k'⟩
      exact ⟨SqL.of ((hS'.wk.ext.trans hS'.ext) _ _ hsta.l (fun _ z => by cases z)), SqL.of (k' _ _ hnl hl (fun _ z => by cases z))⟩
    · rintro i v σ H1 H2 hi ⟨y, z, rfl, hS', k'⟩ ⟨t, x, u, rfl, ht, rfl, hx, hu⟩
      obtain ⟨pn, hpn, rfl⟩ : ∃ s, W.params[i]? = some s ∧ x = .str s := by
        have hx : (W.params.map V.str)[i]? = some x := hx
        rw [List.getElem?_map] at hx
        cases e : W.params[i]? with
        | none => rw [e] at hx; cases hx
        | some s => rw [e] at hx; cases hx; exact ⟨s, rfl, rfl⟩
      obtain ⟨n, hnn, rfl⟩ : ∃ n, ns[i]? = some n ∧ u = .int n := by
        have hu : (ns.map V.int)[i]? = some u := hu
        rw [List.getElem?_map] at hu
        cases e : ns[i]? with
        | none => rw [e] at hu; cases hu
        | some s => rw [e] at hu; cases hu; exact ⟨s, rfl, rfl⟩
      have s1 := same_new (o := .tup [V.str pn, .int n]) ht
      have hS1 := hS'.same s1
      have p2 := hS1.p
      have sp2 := hS1.ext _ _ hS1.sp (fun _ z => by cases z)
      have a2 := hS1.ext _ _ hS1.a (fun _ z => by cases z)
      refine ⟨t, _, rfl, SqT.of upd_same, rfl, _, _, rfl, _, _, rfl, rfl, ?_⟩
      refine ⟨_, rfl, S.p, S.dx, _, rfl, p2, rfl, _, rfl, S.p, A.Scene, S.dx, _, _, rfl, p2, T.cl_Scene, T.n_Scene_spot, rfl, S.sp, A.Spot, S.dsp, _, _, rfl, sp2, T.cl_Spot, T.n_Spot_address, rfl, _, rfl, by show 3 ≤ sizeLine; decide, fun t2 ht2 => ?_⟩
      have s2 := same_new (o := .tup [.str "box", .ref S.a, .str pn]) ht2
      refine ⟨_, rfl, X, W, st, S, _, .box S.adr pn, _, n, rfl, hS1.same s2, plO_box upd_same (s2 _ _ a2), hv n (List.mem_of_getElem? hnn), ?_, fun H3 hS3 k3 => ?_⟩
      · show (((W.params.zip ns).take i).map _).length ≤ 1000
        rw [List.length_map]
        have := ml i
        omega
      refine ⟨_, _, rfl, ?_, k'.trans ((KpX.of s1).trans ((KpX.of s2).trans k3))⟩
      have e : (W.params.zip ns)[i]? = some (pn, n) := by
        rw [List.getElem?_zip_eq_some]; exact ⟨hpn, hnn⟩
      have e3 : ((W.params.zip ns).take (i + 1)).map (fun x => (Pl.box S.adr x.1, x.2)) = ((W.params.zip ns).take i).map (fun x => (Pl.box S.adr x.1, x.2)) ++ [(Pl.box S.adr pn, n)] := by
        rw [List.take_succ, e, List.map_append]; rfl
      rw [e3]
      exact hS3
    · rintro σ H' ⟨y, z, rfl, hS', k'⟩
      refine q H' ?_
      have e : (W.params.zip ns).take (min (W.params.map V.str).length (ns.map V.int).length) = W.params.zip ns := by
        refine List.take_of_length_le ?_
        rw [List.length_zip, List.length_map, List.length_map]
        exact Nat.le_refl _
      rw [e] at hS'
      exact hS'

end
end K24
namespace K24
open PySem L2 TL
section
variable {P : Program} {w : World} {K : PySem.W.Frag} {mg : Str → Option Value} {base : Heap} {A : Ads}
theorem ok_Scene_give_back (T : Txt K mg A) : FnOk P w K mg base CX0 2 A.Scene_give_back A.Scene_give_back_d ["self", "value"] (spGiveBack P w A) := by
  have G_Scene_make := ok_Scene_make (P := P) (w := w) (base := base) T
  refine T.F_Scene_give_back.ok sc_Scene_give_back (fun vs H Q E h => ?_) (fun cdv A0 outer s H vs Q E hr h => ?_)
  · obtain ⟨X, W, st, S, m, bk, n, rfl, hS, hb, hn, hl, q⟩ := h
    rfl
  obtain ⟨X, W, st, S, m, bk, n, rfl, hS, hb, hn, hl, q⟩ := h
  refine ⟨_, (pss_one (ps_expr (pe_meth (pv 0) T.cl_Scene T.me_Scene_make G_Scene_make (hr.mono (by decide)) T.b_Scene_make .nil pass0 (pa_cons (pe_fld (pe_fld (pv 0) rfl) rfl) (pa_cons (pv 1) pa_nil))))), ?_⟩
  have hsc := hS.p
  have sp1 := hS.ext _ _ hS.sp (fun _ z => by cases z)
  refine ⟨_, rfl, S.p, S.dx, _, rfl, hsc, rfl, _, rfl, S.p, A.Scene, S.dx, _, _, rfl, hsc, T.cl_Scene, T.n_Scene_spot, rfl, S.sp, A.Spot, S.dsp, _, _, rfl, sp1, T.cl_Spot, T.n_Spot_back, rfl, _, rfl, X, W, st, S, m, bk, _, n, rfl, hS, hb.keep (extN_tup hS.ext), hn, hl, fun H' hS' _ => q H' hS'⟩

end
end K24
namespace K24
open PySem L2 TL
section
variable {P : Program} {w : World} {K : PySem.W.Frag} {mg : Str → Option Value} {base : Heap} {A : Ads}
theorem ok_Set_act (T : Txt K mg A) (B : Cod base mg A) : FnOk P w K mg base CX0 14 A.Set_act A.Set_act_d ["self", "scene"] (spAct P w A A.Set) := by
  have G_Scene_reckon := ok_Scene_reckon (P := P) (w := w) (base := base) T B
  have G_Scene_place_of := ok_Scene_place_of (P := P) (w := w) (base := base) T
  have G_Scene_make := ok_Scene_make (P := P) (w := w) (base := base) T
  refine T.F_Set_act.ok sc_Set_act (fun vs H Q E h => ?_) (fun cdv A0 outer s H vs Q E hr h => ?_)
  · obtain ⟨X, W, st, S, k, rt, bk, rfl, hS, hrow, hC, hok, hbk, htb, hq, q⟩ := h
    rfl
  obtain ⟨X, W, st, S, k, rt, bk, rfl, hS, hrow, hC, hok, hbk, htb, hq, q⟩ := h
  refine ⟨_, (pss_cons (ps_set (i := 2) sc_Set_act.nd rfl (Or.inl rfl) (pe_meth (pv 1) T.cl_Scene T.me_Scene_reckon G_Scene_reckon (hr.mono (by decide)) T.b_Scene_reckon .nil pass0 (pa_cons (pe_fld (pv 0) rfl) pa_nil)))
   (pss_one (ps_if (pt_cmpR op_notN (pv 2) pe_non (nomark _))
    (pss_one (ps_expr (pe_meth (pv 1) T.cl_Scene T.me_Scene_make G_Scene_make (hr.mono (by decide)) T.b_Scene_make .nil pass0 (pa_cons (pe_meth (pv 1) T.cl_Scene T.me_Scene_place_of G_Scene_place_of (hr.mono (by decide)) T.b_Scene_place_of .nil pass0 (pa_cons (pe_fld (pv 0) rfl) pa_nil)) (pa_cons (pv 2) pa_nil)))))
    pss_nil))), ?_⟩
  cases rt with
  | skip => exact (T.ne_Skip_Set hC).elim
  | set b e => 
    obtain ⟨p, dx, x, evq, h1, h2⟩ := hrow
    have ext0 : LamX.ExtN X.H0 H := hS.wk.ext.trans hS.ext
    have h1H := ext0 _ _ h1 (fun _ z => by cases z)
    have hsc := hS.p
    refine ⟨_, rfl, S.p, S.dx, _, rfl, hsc, rfl, _, rfl, p, A.Set, dx, _, _, evq, h1H, T.cl_Set, T.n_Set_expr, rfl, X, W, st, S, mo0 S.adr, e, x, rfl, hS, h2, hok, by show 0 ≤ 500; decide, htb, hq, fun H1 hS1 k1 hv => ?_⟩
    have eq : moW W.params st.held S.adr S.frame S.deep bk (.set b e) = (match ev (lookW st.held S.frame) e [] with
      | (none, rd) => ⟨S.adr, rd, [], none, none, some "nought"⟩
      | (some v, rd) => ⟨S.adr, rd, [(.box S.frame b, v)], none, none, none⟩) := rfl
    rw [eq] at q
    clear eq
    obtain ⟨y, hy⟩ : ∃ y, K24.ev (lookW st.held S.frame) e [] = y := ⟨_, rfl⟩
    have hy' : K24.ev (lookW st.held S.frame) e (mo0 S.adr).reads = y := hy
    rw [hy'] at hS1 hv ⊢
    rw [hy] at q
    clear hy hy'
    obtain ⟨y1, rd⟩ := y
    cases y1 with
    | none => exact ⟨_, rfl, rfl, _, rfl, iteNF rfl (q H1 hS1)⟩
    | some n =>
      refine ⟨_, rfl, rfl, _, rfl, iteNT (fun z => by cases z) ?_⟩
      have p1 := hS1.p
      have ext1 : LamX.ExtN X.H0 H1 := hS1.wk.ext.trans hS1.ext
      have h11 := ext1 _ _ h1 (fun _ z => by cases z)
      have nv : IsVal n := hv n rfl
      refine ⟨_, rfl, S.p, S.dx, _, rfl, p1, rfl, _, rfl, S.p, S.dx, _, rfl, p1, rfl, _, rfl, p, A.Set, dx, _, _, evq, h11, T.cl_Set, T.n_Set_box, rfl, X, W, st, S, _, b, rfl, hS1, fun t ht => ?_⟩
      have s2 := same_new (o := .tup [.str "box", .ref S.fr, .str b]) ht
      refine ⟨_, rfl, X, W, st, S, _, .box S.frame b, _, n, rfl, hS1.same s2, plO_box upd_same (s2 _ _ (hS1.ext _ _ hS1.fr (fun _ z => by cases z))), nv, by show 0 ≤ 1000; decide, fun H2 hS2 k2 => ?_⟩
      exact q H2 hS2
  | put a b => exact (T.ne_Put_Set hC).elim
  | ask b w e => exact (T.ne_Ask_Set hC).elim
  | draw b w => exact (T.ne_Draw_Set hC).elim
  | tell e => exact (T.ne_Tell_Set hC).elim
  | ifr e => exact (T.ne_Choice_Set hC).elim
  | loop e => exact (T.ne_Loop_Set hC).elim
  | call b f es => exact (T.ne_Call_Set hC).elim
  | give e => exact (T.ne_Give_Set hC).elim

end
end K24
namespace K24
open PySem L2 TL
section
variable {P : Program} {w : World} {K : PySem.W.Frag} {mg : Str → Option Value} {base : Heap} {A : Ads}
theorem ok_Tell_act (T : Txt K mg A) (B : Cod base mg A) : FnOk P w K mg base CX0 14 A.Tell_act A.Tell_act_d ["self", "scene"] (spAct P w A A.Tell) := by
  have G_Scene_reckon := ok_Scene_reckon (P := P) (w := w) (base := base) T B
  have G_Scene_say := ok_Scene_say (P := P) (w := w) (base := base) T
  refine T.F_Tell_act.ok sc_Tell_act (fun vs H Q E h => ?_) (fun cdv A0 outer s H vs Q E hr h => ?_)
  · obtain ⟨X, W, st, S, k, rt, bk, rfl, hS, hrow, hC, hok, hbk, htb, hq, q⟩ := h
    rfl
  obtain ⟨X, W, st, S, k, rt, bk, rfl, hS, hrow, hC, hok, hbk, htb, hq, q⟩ := h
  refine ⟨_, (pss_cons (ps_set (i := 2) sc_Tell_act.nd rfl (Or.inl rfl) (pe_meth (pv 1) T.cl_Scene T.me_Scene_reckon G_Scene_reckon (hr.mono (by decide)) T.b_Scene_reckon .nil pass0 (pa_cons (pe_fld (pv 0) rfl) pa_nil)))
   (pss_one (ps_if (pt_cmpR op_notN (pv 2) pe_non (nomark _))
    (pss_one (ps_expr (pe_meth (pv 1) T.cl_Scene T.me_Scene_say G_Scene_say (hr.mono (by decide)) T.b_Scene_say .nil pass0 (pa_cons (pv 2) pa_nil))))
    pss_nil))), ?_⟩
  cases rt with
  | skip => exact (T.ne_Skip_Tell hC).elim
  | set b e => exact (T.ne_Set_Tell hC).elim
  | put a b => exact (T.ne_Put_Tell hC).elim
  | ask b w e => exact (T.ne_Ask_Tell hC).elim
  | draw b w => exact (T.ne_Draw_Tell hC).elim
  | tell e => 
    obtain ⟨p, dx, x, evq, h1, h2⟩ := hrow
    have ext0 : LamX.ExtN X.H0 H := hS.wk.ext.trans hS.ext
    have h1H := ext0 _ _ h1 (fun _ z => by cases z)
    have hsc := hS.p
    refine ⟨_, rfl, S.p, S.dx, _, rfl, hsc, rfl, _, rfl, p, A.Tell, dx, _, _, evq, h1H, T.cl_Tell, T.n_Tell_expr, rfl, X, W, st, S, mo0 S.adr, e, x, rfl, hS, h2, hok, by show 0 ≤ 500; decide, htb, hq, fun H1 hS1 k1 hv => ?_⟩
    have eq : moW W.params st.held S.adr S.frame S.deep bk (.tell e) = (match ev (lookW st.held S.frame) e [] with
      | (none, rd) => ⟨S.adr, rd, [], none, none, some "nought"⟩
      | (some v, rd) => ⟨S.adr, rd, [], some v, none, none⟩) := rfl
    rw [eq] at q
    clear eq
    obtain ⟨y, hy⟩ : ∃ y, K24.ev (lookW st.held S.frame) e [] = y := ⟨_, rfl⟩
    have hy' : K24.ev (lookW st.held S.frame) e (mo0 S.adr).reads = y := hy
    rw [hy'] at hS1 hv ⊢
    rw [hy] at q
    clear hy hy'
    obtain ⟨y1, rd⟩ := y
    cases y1 with
    | none => exact ⟨_, rfl, rfl, _, rfl, iteNF rfl (q H1 hS1)⟩
    | some n =>
      refine ⟨_, rfl, rfl, _, rfl, iteNT (fun z => by cases z) ?_⟩
      have p1 := hS1.p
      have ext1 : LamX.ExtN X.H0 H1 := hS1.wk.ext.trans hS1.ext
      have h11 := ext1 _ _ h1 (fun _ z => by cases z)
      have nv : IsVal n := hv n rfl
      refine ⟨_, rfl, S.p, S.dx, _, rfl, p1, rfl, _, rfl, X, W, st, S, _, n, rfl, hS1, fun H2 hS2 => ?_⟩
      exact q H2 hS2
  | ifr e => exact (T.ne_Choice_Tell hC).elim
  | loop e => exact (T.ne_Loop_Tell hC).elim
  | call b f es => exact (T.ne_Call_Tell hC).elim
  | give e => exact (T.ne_Give_Tell hC).elim

end
end K24
namespace K24
open PySem L2 TL
section
variable {P : Program} {w : World} {K : PySem.W.Frag} {mg : Str → Option Value} {base : Heap} {A : Ads}
theorem ok_Choice_act (T : Txt K mg A) (B : Cod base mg A) : FnOk P w K mg base CX0 14 A.Choice_act A.Choice_act_d ["self", "scene"] (spAct P w A A.Choice) := by
  have G_Scene_reckon := ok_Scene_reckon (P := P) (w := w) (base := base) T B
  have G_Scene_look := ok_Scene_look (P := P) (w := w) (base := base) T
  refine T.F_Choice_act.ok sc_Choice_act (fun vs H Q E h => ?_) (fun cdv A0 outer s H vs Q E hr h => ?_)
  · obtain ⟨X, W, st, S, k, rt, bk, rfl, hS, hrow, hC, hok, hbk, htb, hq, q⟩ := h
    rfl
  obtain ⟨X, W, st, S, k, rt, bk, rfl, hS, hrow, hC, hok, hbk, htb, hq, q⟩ := h
  refine ⟨_, (pss_cons (ps_set (i := 2) sc_Choice_act.nd rfl (Or.inl rfl) (pe_meth (pv 1) T.cl_Scene T.me_Scene_reckon G_Scene_reckon (hr.mono (by decide)) T.b_Scene_reckon .nil pass0 (pa_cons (pe_fld (pv 0) rfl) pa_nil)))
   (pss_one (ps_if (pt_cmpR op_notN (pv 2) pe_non (nomark _))
    (pss_one (ps_expr (pe_meth (pv 1) T.cl_Scene T.me_Scene_look G_Scene_look (hr.mono (by decide)) T.b_Scene_look .nil pass0 (pa_cons (pe_cmpR op_ne (pv 2) pe_int (nomark _)) pa_nil))))
    pss_nil))), ?_⟩
  cases rt with
  | skip => exact (T.ne_Skip_Choice hC).elim
  | set b e => exact (T.ne_Set_Choice hC).elim
  | put a b => exact (T.ne_Put_Choice hC).elim
  | ask b w e => exact (T.ne_Ask_Choice hC).elim
  | draw b w => exact (T.ne_Draw_Choice hC).elim
  | tell e => exact (T.ne_Tell_Choice hC).elim
  | ifr e => 
    obtain ⟨p, dx, x, yy, zz, evq, h1, h2⟩ := hrow
    have ext0 : LamX.ExtN X.H0 H := hS.wk.ext.trans hS.ext
    have h1H := ext0 _ _ h1 (fun _ z => by cases z)
    have hsc := hS.p
    refine ⟨_, rfl, S.p, S.dx, _, rfl, hsc, rfl, _, rfl, p, A.Choice, dx, _, _, evq, h1H, T.cl_Choice, T.n_Choice_test, rfl, X, W, st, S, mo0 S.adr, e, x, rfl, hS, h2, hok, by show 0 ≤ 500; decide, htb, hq, fun H1 hS1 k1 hv => ?_⟩
    have eq : moW W.params st.held S.adr S.frame S.deep bk (.ifr e) = (match ev (lookW st.held S.frame) e [] with
      | (none, rd) => ⟨S.adr, rd, [], none, none, some "nought"⟩
      | (some v, rd) => ⟨S.adr, rd, [], none, some (decide (v ≠ 0)), none⟩) := rfl
    rw [eq] at q
    clear eq
    obtain ⟨y, hy⟩ : ∃ y, K24.ev (lookW st.held S.frame) e [] = y := ⟨_, rfl⟩
    have hy' : K24.ev (lookW st.held S.frame) e (mo0 S.adr).reads = y := hy
    rw [hy'] at hS1 hv ⊢
    rw [hy] at q
    clear hy hy'
    obtain ⟨y1, rd⟩ := y
    cases y1 with
    | none => exact ⟨_, rfl, rfl, _, rfl, iteNF rfl (q H1 hS1)⟩
    | some n =>
      refine ⟨_, rfl, rfl, _, rfl, iteNT (fun z => by cases z) ?_⟩
      have p1 := hS1.p
      have ext1 : LamX.ExtN X.H0 H1 := hS1.wk.ext.trans hS1.ext
      have h11 := ext1 _ _ h1 (fun _ z => by cases z)
      have nv : IsVal n := hv n rfl
      have e : (!decide (V.int n = V.int 0)) = decide (n ≠ 0) := by
        by_cases c : n = 0
        · rw [c]; rfl
        · rw [decide_eq_false (fun z => c (V.int.inj z)), decide_eq_true c]; rfl
      refine ⟨_, rfl, S.p, S.dx, _, rfl, p1, rfl, _, rfl, rfl, X, W, st, S, _, decide (n ≠ 0), congrArg (fun z => [V.ref S.p, V.bl z]) e, hS1, fun H2 hS2 => ?_⟩
      exact q H2 hS2
  | loop e => exact (T.ne_Loop_Choice hC).elim
  | call b f es => exact (T.ne_Call_Choice hC).elim
  | give e => exact (T.ne_Give_Choice hC).elim

end
end K24
namespace K24
open PySem L2 TL
section
variable {P : Program} {w : World} {K : PySem.W.Frag} {mg : Str → Option Value} {base : Heap} {A : Ads}
theorem ok_Call_act (T : Txt K mg A) (B : Cod base mg A) : FnOk P w K mg base CX0 14 A.Call_act A.Call_act_d ["self", "scene"] (spAct P w A A.Call) := by
  have G_Scene_reckon := ok_Scene_reckon (P := P) (w := w) (base := base) T B
  have G_Scene_enter := ok_Scene_enter (P := P) (w := w) (base := base) T
  refine T.F_Call_act.ok sc_Call_act (fun vs H Q E h => ?_) (fun cdv A0 outer s H vs Q E hr h => ?_)
  · obtain ⟨X, W, st, S, k, rt, bk, rfl, hS, hrow, hC, hok, hbk, htb, hq, q⟩ := h
    rfl
  obtain ⟨X, W, st, S, k, rt, bk, rfl, hS, hrow, hC, hok, hbk, htb, hq, q⟩ := h
  refine ⟨_, (pss_cons (ps_set (i := 2) sc_Call_act.nd rfl (Or.inl rfl) (pe_lst pa_nil))
   (pss_cons (ps_for PassesOwn.never rfl (pi_list (pe_fld (pv 0) rfl)) (pg_name (i := 3) sc_Call_act.nd rfl (Or.inl rfl))
    (pss_cons (ps_set (i := 4) sc_Call_act.nd rfl (Or.inl rfl) (pe_meth (pv 1) T.cl_Scene T.me_Scene_reckon G_Scene_reckon (hr.mono (by decide)) T.b_Scene_reckon .nil pass0 (pa_cons (pv 3) pa_nil)))
   (pss_cons (ps_if (pt_cmpR op_isN (pv 4) pe_non (nomark _))
    (pss_one ps_retN)
    pss_nil)
   (pss_one (ps_expr (pe_bm PySem.F.plainAttrs_list PySem.F.slot_list_append PySem.F.type_list_append mt_append (pv 2) (pa_cons (pv 4) pa_nil)))))))
   (pss_one (ps_expr (pe_meth (pv 1) T.cl_Scene T.me_Scene_enter G_Scene_enter (hr.mono (by decide)) T.b_Scene_enter .nil pass0 (pa_cons (pv 2) pa_nil)))))), ?_⟩
  cases rt with
  | skip => exact (T.ne_Skip_Call hC).elim
  | set b e => exact (T.ne_Set_Call hC).elim
  | put a b => exact (T.ne_Put_Call hC).elim
  | ask b w e => exact (T.ne_Ask_Call hC).elim
  | draw b w => exact (T.ne_Draw_Call hC).elim
  | tell e => exact (T.ne_Tell_Call hC).elim
  | ifr e => exact (T.ne_Choice_Call hC).elim
  | loop e => exact (T.ne_Loop_Call hC).elim
  | call b f es => 
    obtain ⟨hf, hes, hel⟩ := hok
    have hrow0 := hrow
    obtain ⟨p, dx, lg, os, evq, h1, h2, h3, h4⟩ := hrow
    have hlen := h4.length
    have ext0 : LamX.ExtN X.H0 H := hS.wk.ext.trans hS.ext
    refine ⟨by show 0 ≤ sizeLine; decide, fun vl hvl => ?_⟩
    have s1 := same_new (o := .lst []) hvl
    have vlL : vl ∉ S.L := fun z => by
      obtain ⟨u, hu⟩ := hS.inL vl z
      rw [hvl] at hu; cases hu
    have vlN : NewT S.Hs vl := newT_of hS.ext (newT_none hvl)
    have hS1 := hS.same s1
    have ext1 := ext0.trans (LamX.ExtN.of s1)
    have h11 := ext1 _ _ h1 (fun _ z => by cases z)
    have vl1 : upd H vl (.lst []) vl = some (.lst []) := upd_same
    generalize upd H vl (.lst []) = H1 at hS1 ext1 h11 vl1 ⊢
    refine ⟨_, rfl, p, A.Call, dx, _, _, evq, h11, T.cl_Call, T.n_Call_given, rfl, lg, rfl, ⟨_, SqL.of (ext1 _ _ h3 (fun _ z => by cases z))⟩, for_list (xs := os) (fun i σ H' => ∃ (y z : Option V) (rd : List (Pl × Int)) (ns : List Int), σ = [some S.hv, some (.ref S.p), some (.ref vl), y, z] ∧ ScO P w A X W st S { mo0 S.adr with reads := rd } H' ∧ H' vl = some (.lst (ns.map V.int)) ∧ (∀ n ∈ ns, IsVal n) ∧ ns.length = i ∧ rd.length ≤ 50 * i ∧ evs st.held S.frame es [] = evsX ns (evs st.held S.frame (es.drop i) rd)) ⟨none, none, [], [], rfl, hS1, vl1, (fun n h => nomatch h), rfl, Nat.zero_le _, (by rw [evsX_nil]; rfl)⟩ ?_ ?_ ?_⟩
    · rintro i σ H' _ ⟨y, z, rd, ns, rfl, hS', _⟩
      exact SqL.of ((hS'.wk.ext.trans hS'.ext) _ _ h3 (fun _ z => by cases z))
    · rintro i x σ H' hx ⟨y, z, rd, ns, rfl, hS', hvl', hns, hnl, hrl, heq⟩
      obtain ⟨e, he, ho⟩ := allE_at h4 hx
      have hi : i < es.length := by
        by_cases h : i < es.length
        · exact h
        · rw [List.getElem?_eq_none (by omega)] at he; cases he
      have hp' := hS'.p
      have heX := hes e (List.mem_of_getElem? he)
      refine ⟨_, rfl, S.p, S.dx, _, rfl, hp', rfl, _, rfl, X, W, st, S, _, e, x, rfl, hS', ho, heX, by show rd.length ≤ 500; omega, htb, hq, fun H2 hS2 k2 hv => ?_⟩
      have hd : es.drop i = e :: es.drop (i + 1) := by
        rw [List.drop_eq_getElem_cons hi]
        rw [List.getElem?_eq_getElem hi] at he
        rw [Option.some.inj he]
      rw [hd] at heq
      have eq : evs st.held S.frame (e :: es.drop (i + 1)) rd = (match K24.ev (lookW st.held S.frame) e rd with
        | (none, rd1) => (none, rd1)
        | (some v, rd1) => match evs st.held S.frame (es.drop (i + 1)) rd1 with
          | (none, rd2) => (none, rd2)
          | (some vs, rd2) => (some (v :: vs), rd2)) := rfl
      rw [eq] at heq
      have hvl2 := k2 _ _ vlL hvl' (fun _ z => by cases z)
      have hrl2 := ev_lenW (held := st.held) (frame := S.frame) (e := e) (rd := rd)
      obtain ⟨u, hu⟩ : ∃ u, K24.ev (lookW st.held S.frame) e rd = u := ⟨_, rfl⟩
      have hu' : K24.ev (lookW st.held S.frame) e ({ mo0 S.adr with reads := rd } : Mo).reads = u := hu
      rw [hu'] at hS2 hv ⊢
      rw [hu] at heq hrl2
      obtain ⟨u1, rd1⟩ := u
      cases u1 with
      | none =>
        refine ⟨_, rfl, rfl, _, rfl, iteDT rfl ?_⟩
        have heq : evs st.held S.frame es [] = (none, rd1) := heq
        refine q H2 ?_
        show ScO P w A X W st S (match evs st.held S.frame es [] with
          | (none, rd) => ⟨S.adr, rd, [], none, none, some "nought"⟩
          | (some vs, rd) => if deepest ≤ S.deep then ⟨S.adr, rd, [], none, none, some "deep"⟩ else ⟨S.adr, rd, (W.params.zip vs).map (fun x => (.box S.adr x.1, x.2)), none, none, none⟩) H2
        rw [heq]
        exact hS2
      | some n =>
        have nv : IsVal n := hv n rfl
        refine ⟨_, rfl, rfl, _, rfl, iteDF (fun h => by cases h) ?_⟩
        refine ⟨_, rfl, .inl ⟨rfl, _, SqL.of hvl2⟩, _, rfl, vl, ns.map V.int, .int n, rfl, rfl, hvl2, Nat.lt_of_le_of_lt (show (ns.map V.int).length ≤ 9 by rw [List.length_map]; omega) (by decide), ?_⟩
        have kk : KpX [vl] H2 (upd H2 vl (.lst (ns.map V.int ++ [.int n]))) := KpX.putA (List.mem_singleton.mpr rfl)
        refine ⟨_, _, rd1, ns ++ [n], rfl, ?_, ?_, ?_, ?_, ?_, ?_⟩
        · exact ScO.other hS2 hvl2 vlL vlN
        · rw [upd_same, List.map_append]; rfl
        · intro k hk
          rcases List.mem_append.mp hk with h | h
          · exact hns k h
          · rw [List.mem_singleton.mp h]; exact nv
        · rw [List.length_append, hnl]; rfl
        · have h5 := heX.2.2
          have hrl2 : rd1.length ≤ rd.length + e.parts := hrl2
          omega
        · rw [heq]
          exact evsX_snoc ns n _
    · rintro σ H' ⟨y, z, rd, ns, rfl, hS', hvl', hns, hnl, hrl, heq⟩
      rw [← hlen, List.drop_length] at heq
      have heq : evs st.held S.frame es [] = (some ns, rd) := by
        rw [heq]
        show (some (ns ++ []), rd) = _
        rw [List.append_nil]
      refine ⟨_, rfl, S.p, S.dx, _, rfl, hS'.p, rfl, _, rfl, X, W, st, S, _, vl, ns, k, b, es, rfl, hS', hvl', vlL, hns, hf ▸ hrow0, rfl, fun H2 hS2 => ?_⟩
      refine q H2 ?_
      show ScO P w A X W st S (match evs st.held S.frame es [] with
          | (none, rd) => ⟨S.adr, rd, [], none, none, some "nought"⟩
          | (some vs, rd) => if deepest ≤ S.deep then ⟨S.adr, rd, [], none, none, some "deep"⟩ else ⟨S.adr, rd, (W.params.zip vs).map (fun x => (.box S.adr x.1, x.2)), none, none, none⟩) H2
      rw [heq]
      exact hS2
  | give e => exact (T.ne_Give_Call hC).elim

end
end K24
namespace K24
open PySem L2 TL
section
variable {P : Program} {w : World} {K : PySem.W.Frag} {mg : Str → Option Value} {base : Heap} {A : Ads}
theorem ok_Give_act (T : Txt K mg A) (B : Cod base mg A) : FnOk P w K mg base CX0 14 A.Give_act A.Give_act_d ["self", "scene"] (spAct P w A A.Give) := by
  have G_Scene_reckon := ok_Scene_reckon (P := P) (w := w) (base := base) T B
  have G_Scene_give_back := ok_Scene_give_back (P := P) (w := w) (base := base) T
  refine T.F_Give_act.ok sc_Give_act (fun vs H Q E h => ?_) (fun cdv A0 outer s H vs Q E hr h => ?_)
  · obtain ⟨X, W, st, S, k, rt, bk, rfl, hS, hrow, hC, hok, hbk, htb, hq, q⟩ := h
    rfl
  obtain ⟨X, W, st, S, k, rt, bk, rfl, hS, hrow, hC, hok, hbk, htb, hq, q⟩ := h
  refine ⟨_, (pss_cons (ps_set (i := 2) sc_Give_act.nd rfl (Or.inl rfl) (pe_meth (pv 1) T.cl_Scene T.me_Scene_reckon G_Scene_reckon (hr.mono (by decide)) T.b_Scene_reckon .nil pass0 (pa_cons (pe_fld (pv 0) rfl) pa_nil)))
   (pss_one (ps_if (pt_cmpR op_notN (pv 2) pe_non (nomark _))
    (pss_one (ps_expr (pe_meth (pv 1) T.cl_Scene T.me_Scene_give_back G_Scene_give_back (hr.mono (by decide)) T.b_Scene_give_back .nil pass0 (pa_cons (pv 2) pa_nil))))
    pss_nil))), ?_⟩
  cases rt with
  | skip => exact (T.ne_Skip_Give hC).elim
  | set b e => exact (T.ne_Set_Give hC).elim
  | put a b => exact (T.ne_Put_Give hC).elim
  | ask b w e => exact (T.ne_Ask_Give hC).elim
  | draw b w => exact (T.ne_Draw_Give hC).elim
  | tell e => exact (T.ne_Tell_Give hC).elim
  | ifr e => exact (T.ne_Choice_Give hC).elim
  | loop e => exact (T.ne_Loop_Give hC).elim
  | call b f es => exact (T.ne_Call_Give hC).elim
  | give e => 
    obtain ⟨p, dx, x, evq, h1, h2⟩ := hrow
    have ext0 : LamX.ExtN X.H0 H := hS.wk.ext.trans hS.ext
    have h1H := ext0 _ _ h1 (fun _ z => by cases z)
    have hsc := hS.p
    refine ⟨_, rfl, S.p, S.dx, _, rfl, hsc, rfl, _, rfl, p, A.Give, dx, _, _, evq, h1H, T.cl_Give, T.n_Give_expr, rfl, X, W, st, S, mo0 S.adr, e, x, rfl, hS, h2, hok, by show 0 ≤ 500; decide, htb, hq, fun H1 hS1 k1 hv => ?_⟩
    have eq : moW W.params st.held S.adr S.frame S.deep bk (.give e) = (match ev (lookW st.held S.frame) e [] with
      | (none, rd) => ⟨S.adr, rd, [], none, none, some "nought"⟩
      | (some v, rd) => ⟨S.adr, rd, [(bk, v)], none, none, none⟩) := rfl
    rw [eq] at q
    clear eq
    obtain ⟨y, hy⟩ : ∃ y, K24.ev (lookW st.held S.frame) e [] = y := ⟨_, rfl⟩
    have hy' : K24.ev (lookW st.held S.frame) e (mo0 S.adr).reads = y := hy
    rw [hy'] at hS1 hv ⊢
    rw [hy] at q
    clear hy hy'
    obtain ⟨y1, rd⟩ := y
    cases y1 with
    | none => exact ⟨_, rfl, rfl, _, rfl, iteNF rfl (q H1 hS1)⟩
    | some n =>
      refine ⟨_, rfl, rfl, _, rfl, iteNT (fun z => by cases z) ?_⟩
      have p1 := hS1.p
      have ext1 : LamX.ExtN X.H0 H1 := hS1.wk.ext.trans hS1.ext
      have h11 := ext1 _ _ h1 (fun _ z => by cases z)
      have nv : IsVal n := hv n rfl
      refine ⟨_, rfl, S.p, S.dx, _, rfl, p1, rfl, _, rfl, X, W, st, S, _, bk, n, rfl, hS1, hbk e rfl, nv, by show 0 ≤ 1000; decide, fun H2 hS2 => ?_⟩
      exact q H2 hS2

theorem disp_act (T : Txt K mg A) (B : Cod base mg A) (C : Addr) (h : C = A.Set ∨ C = A.Tell ∨ C = A.Choice ∨ C = A.Call ∨ C = A.Give) : Disp P w K mg base CX0 "act" 15 C (spAct P w A C) := by
  rcases h with rfl | rfl | rfl | rfl | rfl
  · exact ⟨_, _, _, T.cl_Set, T.me_Set_act, (ok_Set_act T B).mono (by decide), T.b_Set_act⟩
  · exact ⟨_, _, _, T.cl_Tell, T.me_Tell_act, (ok_Tell_act T B).mono (by decide), T.b_Tell_act⟩
  · exact ⟨_, _, _, T.cl_Choice, T.me_Choice_act, (ok_Choice_act T B).mono (by decide), T.b_Choice_act⟩
  · exact ⟨_, _, _, T.cl_Call, T.me_Call_act, (ok_Call_act T B).mono (by decide), T.b_Call_act⟩
  · exact ⟨_, _, _, T.cl_Give, T.me_Give_act, (ok_Give_act T B).mono (by decide), T.b_Give_act⟩

theorem ok5_fam {W : WP} {rt : RT} (h : Ok5 W rt) : A.rc.of rt = A.Set ∨ A.rc.of rt = A.Tell ∨ A.rc.of rt = A.Choice ∨ A.rc.of rt = A.Call ∨ A.rc.of rt = A.Give := by
  cases rt <;> first | exact h.elim | exact .inl rfl | exact .inr (.inl rfl) | exact .inr (.inr (.inl rfl)) | exact .inr (.inr (.inr (.inl rfl))) | exact .inr (.inr (.inr (.inr rfl)))
theorem RowO.act {c : RC} {ec : EC} {N : Addr → Prop} {H : Hp} {n : Int} : ∀ {rt : RT} {v : V}, RowO c ec N H n rt v → ∃ p dx fs, v = .ref p ∧ H p = some (.ins (c.of rt) dx fs) ∧ List.lookup ("act" : Str) fs = none
  | .skip, v, ⟨p, dx, h1, h2⟩ => ⟨p, dx, _, h1, h2, rfl⟩
  | .set _ _, v, ⟨p, dx, _, h1, h2, _⟩ => ⟨p, dx, _, h1, h2, rfl⟩
  | .put _ _, v, ⟨p, dx, _, _, h1, h2, _⟩ => ⟨p, dx, _, h1, h2, rfl⟩
  | .ask _ _ _, v, ⟨p, dx, _, h1, h2, _⟩ => ⟨p, dx, _, h1, h2, rfl⟩
  | .draw _ _, v, ⟨p, dx, h1, h2⟩ => ⟨p, dx, _, h1, h2, rfl⟩
  | .tell _, v, ⟨p, dx, _, h1, h2, _⟩ => ⟨p, dx, _, h1, h2, rfl⟩
  | .ifr _, v, ⟨p, dx, _, _, _, h1, h2, _⟩ => ⟨p, dx, _, h1, h2, rfl⟩
  | .loop _, v, ⟨p, dx, _, _, h1, h2, _⟩ => ⟨p, dx, _, h1, h2, rfl⟩
  | .call _ _ _, v, ⟨p, dx, _, _, h1, h2, _⟩ => ⟨p, dx, _, h1, h2, rfl⟩
  | .give _, v, ⟨p, dx, _, h1, h2, _⟩ => ⟨p, dx, _, h1, h2, rfl⟩
/-- what a row does makes few things, and falls with none -/
theorem moW_makes {ps : List Str} {held : List (Pl × Int)} {adr frame : List Int} {deep : Nat} {bk : Pl} (hp : ps.length ≤ 9) : ∀ {rt : RT}, (moW ps held adr frame deep bk rt).makes.length ≤ 10 ∧ (moW ps held adr frame deep bk rt).adr = adr
  | .skip | .put _ _ | .ask _ _ _ | .draw _ _ | .loop _ => ⟨by show 0 ≤ 10; decide, rfl⟩
  | .set b e | .tell e | .ifr e | .give e => by
    obtain ⟨⟨a, rd⟩, h⟩ : ∃ y, K24.ev (lookW held frame) e [] = y := ⟨_, rfl⟩
    cases a <;> simp [moW, h]
  | .call b f es => by
    obtain ⟨⟨a, rd⟩, h⟩ : ∃ y, evs held frame es [] = y := ⟨_, rfl⟩
    cases a with
    | none => simp [moW, h]
    | some vs =>
      by_cases c : deepest ≤ deep
      · simp [moW, h, c]
      · simp [moW, h, c]
        omega
theorem putAll_append : ∀ (l h : List (Pl × Int)) (x : Pl × Int), putAll h (l ++ [x]) = putP (putAll h l) x.1 x.2
  | [], h, x => rfl
  | (k, v) :: r, h, x => putAll_append r (putP h k v) x
theorem putP_len (l : List (Pl × Int)) (k : Pl) (v : Int) : (putP l k v).length ≤ l.length + 1 := by
  unfold putP
  split
  · rw [List.length_map]; omega
  · rw [List.length_append]; exact Nat.le_refl _
theorem putAll_len : ∀ (l h : List (Pl × Int)), (putAll h l).length ≤ h.length + l.length
  | [], h => Nat.le_refl _
  | (k, v) :: r, h => by
    have := putAll_len r (putP h k v)
    have := putP_len h k v
    show (putAll (putP h k v) r).length ≤ h.length + (r.length + 1)
    omega
theorem putP_val {l : List (Pl × Int)} {k : Pl} {v : Int} (h : ∀ x ∈ l, IsVal x.2) (hv : IsVal v) : ∀ x ∈ putP l k v, IsVal x.2 := by
  unfold putP
  intro x hx
  split at hx
  · obtain ⟨y, hy, rfl⟩ := List.mem_map.mp hx
    split
    · exact hv
    · exact h y hy
  · rcases List.mem_append.mp hx with hx | hx
    · exact h x hx
    · rw [List.mem_singleton.mp hx]; exact hv
theorem putAll_val : ∀ {l h : List (Pl × Int)}, (∀ x ∈ h, IsVal x.2) → (∀ x ∈ l, IsVal x.2) → ∀ x ∈ putAll h l, IsVal x.2
  | [], _, hh, _ => hh
  | (k, v) :: r, _, hh, hl => putAll_val (l := r) (putP_val hh (hl (k, v) List.mem_cons_self)) fun x hx => hl x (List.mem_cons_of_mem _ hx)
theorem take_snoc {α : Type} {l : List α} {i : Nat} {x : α} (h : l[i]? = some x) : l.take (i + 1) = l.take i ++ [x] := by
  rw [List.take_succ, h]; rfl
theorem all2_at {α : Type} {R : α → V → Prop} : ∀ {as : List α} {vs : List V}, All2 R as vs → ∀ {i : Nat} {v : V}, vs[i]? = some v → ∃ a, as[i]? = some a ∧ R a v
  | _, _, .nil, _, _, h => by simp at h
  | _, _, .cons a t, 0, _, h => by
    simp at h
    subst h
    exact ⟨_, rfl, a⟩
  | _, _, .cons a t, i + 1, _, h => by
    obtain ⟨e, h1, h2⟩ := all2_at t (by simpa using h)
    exact ⟨e, by simpa using h1, h2⟩
theorem wkl_tup {X : WkA} {H H' : Hp} (hw : ∃ C d f, H X.w = some (.ins C d f)) (hh : ∃ φ, H X.hd = some (.ext φ)) (hk : ∃ xs, H X.kp = some (.lst xs)) (k : KpX (WkL X) H H') : TupK H H' := fun t xs e => k _ _ (fun hm => by
    obtain ⟨_, _, _, hw⟩ := hw
    obtain ⟨_, hh⟩ := hh
    obtain ⟨_, hk⟩ := hk
    simp only [WkL, List.mem_cons, List.not_mem_nil, or_false] at hm
    rcases hm with z | z | z
    · rw [z, hw] at e; cases e
    · rw [z, hh] at e; cases e
    · rw [z, hk] at e; cases e) e (fun _ z => by cases z)
theorem MoO.keep {A : Ads} {X : WkA} {H H' : Hp} {m : Mo} {v : V} (hw : ∃ C d f, H X.w = some (.ins C d f)) (hh : ∃ φ, H X.hd = some (.ext φ)) (hk : ∃ xs, H X.kp = some (.lst xs)) (k : KpX (WkL X) H H') (h : MoO A X.w X.kp H m v) : MoO A X.w X.kp H' m v := by
  have tk := wkl_tup hw hh hk k
  obtain ⟨p, dx, a, nl, r, kk, rs, ks, z1, z2, z3, z4, z5, z6, z7, z8, z9, z10⟩ := h
  obtain ⟨_, _, _, hw⟩ := hw
  obtain ⟨_, hh⟩ := hh
  obtain ⟨_, hk⟩ := hk
  have nI : p ∉ WkL X := fun hm => by
    simp only [WkL, List.mem_cons, List.not_mem_nil, or_false] at hm
    rcases hm with z | z | z
    · exact z2 z
    · rw [z, hh] at z3; cases z3
    · rw [z, hk] at z3; cases z3
  have nL : ∀ {b xs}, H b = some (.lst xs) → b ≠ X.kp → b ∉ WkL X := fun {b xs} e n hm => by
    simp only [WkL, List.mem_cons, List.not_mem_nil, or_false] at hm
    rcases hm with z | z | z
    · rw [z, hw] at e; cases e
    · rw [z, hh] at e; cases e
    · exact n z
  exact ⟨p, dx, a, nl, r, kk, rs, ks, z1, z2, k _ _ nI z3 (fun _ z => by cases z), tk _ _ z4, z5, k _ _ (nL z6 z5) z6 (fun _ z => by cases z), prs_keep tk z7, z8, k _ _ (nL z9 z8) z9 (fun _ z => by cases z), prs_keep tk z10⟩
section
variable {X : WkA} {W : WP} {st : WS} {H H' : Hp}
theorem WkO.w3 (h : WkO P w A X W st H) : (∃ C d f, H X.w = some (.ins C d f)) ∧ (∃ φ, H X.hd = some (.ext φ)) ∧ ∃ xs, H X.kp = some (.lst xs) := by
  obtain ⟨ev, h1, _⟩ := h.obj
  obtain ⟨ms, h2, _⟩ := h.kept
  exact ⟨⟨_, _, _, h1⟩, nd_has h.held, ⟨_, h2⟩⟩
theorem WkO.newL (h : WkO P w A X W st H) : ∀ a ∈ WkL X, NewT X.H0 a := fun a ha => by
  simp only [WkL, List.mem_cons, List.not_mem_nil, or_false] at ha
  rcases ha with rfl | rfl | rfl
  · exact h.sta.nw
  · exact h.sta.nh
  · exact h.sta.nk
theorem WkO.tup (h : WkO P w A X W st H) (k : KpX (WkL X) H H') : TupK H H' := wkl_tup h.w3.1 h.w3.2.1 h.w3.2.2 k
/-- how it ended is put -/
theorem WkO.setEnd (h : WkO P w A X W st H) {e : Option Ed} {ev : V} (he : EdO H e ev) :
    WkO P w A X W ⟨st.held, st.kept, e⟩ (upd H X.w (.ins A.Walker X.dw [("setting", .ref X.s), ("held", .ref X.hd), ("kept", .ref X.kp), ("ended", ev)])) ∧ KpX (WkL X) H (upd H X.w (.ins A.Walker X.dw [("setting", .ref X.s), ("held", .ref X.hd), ("kept", .ref X.kp), ("ended", ev)])) := by
  have k : KpX (WkL X) H (upd H X.w (.ins A.Walker X.dw [("setting", .ref X.s), ("held", .ref X.hd), ("kept", .ref X.kp), ("ended", ev)])) := KpX.putA (by simp [WkL])
  refine ⟨?_, k⟩
  have tk := h.tup k
  obtain ⟨ev0, h1, _⟩ := h.obj
  obtain ⟨ms, h2, h3⟩ := h.kept
  obtain ⟨φ, h4⟩ := nd_has h.held
  exact ⟨h.sta, k.ext h.newL h.ext, ⟨ev, upd_same, he.keep tk⟩, h.held.keep (upd_ne (ne_of h4 h1 (by intro z; cases z))) tk, ⟨ms, by rw [upd_ne (ne_of h2 h1 (by intro z; cases z))]; exact h2, h3.mono fun m v z => z.keep h.w3.1 h.w3.2.1 h.w3.2.2 k⟩, tabs_ins h.tab h1, h.vals, h.len⟩
end

theorem trO_inj_if {c : RC} {ec : EC} {N : Addr → Prop} {H : Hp} {n : Nat} {e : Ex} {a b : List (Nat × Tr)} {v : V} (h : TrO c ec N H n (.ifr e a b) v) : ∃ (p dx y z : Addr) (x : V) (ys zs : List V), v = .ref p ∧ H p = some (.ins c.ifr dx [("number", .int ((n : Nat) : Int)), ("test", x), ("first", .ref y), ("second", .ref z)]) ∧ ObjE ec H e x ∧ H y = some (.lst ys) ∧ BlkO c ec N H a ys ∧ H z = some (.lst zs) ∧ BlkO c ec N H b zs := by
  cases h with
  | ifr h1 h2 h3 h4 h5 h6 h7 h8 => exact ⟨_, _, _, _, _, _, _, rfl, h1, h2, h4, h5, h7, h8⟩
theorem trO_leaf {c : RC} {ec : EC} {N : Addr → Prop} {H : Hp} {n : Nat} {rt : RT} {v : V} (h : TrO c ec N H n (.leaf rt) v) : RowO c ec N H ((n : Nat) : Int) rt v := by
  cases h with
  | leaf h => exact h
theorem trW_if {P : WP} {e : Ex} {a b : List (Nat × Tr)} (h : TrW P (.ifr e a b)) : ExG e ∧ BlkW P a ∧ BlkW P b := by
  cases h with
  | ifr h1 h2 h3 => exact ⟨h1, h2, h3⟩
theorem trW_leaf {P : WP} {rt : RT} (h : TrW P (.leaf rt)) : Sup P rt := by
  cases h with
  | leaf h => exact h
theorem sup_ok5 {P : WP} {rt : RT} (h : Sup P rt) : Ok5 P rt ∧ ∀ e, rt ≠ .give e := by
  cases rt <;> first | exact h.elim | exact ⟨h, fun e z => by cases z⟩
theorem goMo_true {st : WS} {m : Mo} (h : (goMo st m).1 = true) : (goMo st m).2.kept = st.kept ++ [m] := by
  unfold goMo at h ⊢
  split
  · rename_i c
    rw [if_pos c] at h
    cases h
  · rename_i c
    rw [if_neg c] at h
    cases e : m.fell with
    | none => rfl
    | some x => rfl
section
variable {X : WkA} {W : WP} {st : WS} {H H' : Hp} {sp a fr : Addr} {adr frame : List Int} {deep : Nat} {bv : V}
theorem SpO.keep (h : SpO A H sp a fr adr frame deep bv) (hW : WkO P w A X W st H) (ns : sp ≠ X.w) (k : KpX (WkL X) H H') : SpO A H' sp a fr adr frame deep bv := by
  obtain ⟨dsp, h1, h2, h3⟩ := h
  have tk := hW.tup k
  obtain ⟨⟨_, _, _, w1⟩, ⟨_, w2⟩, ⟨_, w3⟩⟩ := hW.w3
  refine ⟨dsp, k _ _ (fun hm => ?_) h1 (fun _ z => by cases z), tk _ _ h2, tk _ _ h3⟩
  simp only [WkL, List.mem_cons, List.not_mem_nil, or_false] at hm
  rcases hm with z | z | z
  · exact ns z
  · rw [z, w2] at h1; cases h1
  · rw [z, w3] at h1; cases h1
end

theorem blkO_at {c : RC} {ec : EC} {N : Addr → Prop} {H : Hp} : ∀ {bs : List (Nat × Tr)} {os : List V}, BlkO c ec N H bs os → ∀ {i : Nat} {v : V}, os[i]? = some v → ∃ k t, bs[i]? = some (k, t) ∧ TrO c ec N H k t v
  | _, _, .nil, _, _, h => by simp at h
  | _, _, .cons a t, 0, _, h => by
    simp at h
    subst h
    exact ⟨_, _, rfl, a⟩
  | _, _, .cons a t, i + 1, _, h => by
    obtain ⟨k, e, h1, h2⟩ := blkO_at t (by simpa using h)
    exact ⟨k, e, by simpa using h1, h2⟩
theorem blkO_len {c : RC} {ec : EC} {N : Addr → Prop} {H : Hp} : ∀ {bs : List (Nat × Tr)} {os : List V}, BlkO c ec N H bs os → bs.length = os.length
  | _, _, .nil => rfl
  | _, _, .cons a t => congrArg (· + 1) (blkO_len t)
theorem blkW_at {P : WP} : ∀ {bs : List (Nat × Tr)}, BlkW P bs → ∀ {i k : Nat} {t : Tr}, bs[i]? = some (k, t) → TrW P t
  | _, .nil, _, _, _, h => by simp at h
  | _, .cons a r, 0, _, _, h => by
    simp at h
    obtain ⟨_, rfl⟩ := h
    exact a
  | _, .cons a r, i + 1, _, _, h => blkW_at r (i := i) (by simpa using h)
theorem drop_at {α : Type} {l : List α} {i : Nat} {x : α} (h : l[i]? = some x) : l.drop i = x :: l.drop (i + 1) := by
  have hi : i < l.length := by
    by_cases c : i < l.length
    · exact c
    · rw [List.getElem?_eq_none (by omega)] at h; cases h
  rw [List.drop_eq_getElem_cons hi]
  rw [List.getElem?_eq_getElem hi] at h
  rw [Option.some.inj h]
theorem catA1 {H : Hp} {a b : Addr} {xs : List Int} {n : Int} {Q : VK} (ha : H a = some (.tup (xs.map V.int))) (hb : H b = some (.tup [.int n])) (hl : xs.length ≤ 2000) (q : ∀ t H', Same H H' → H' t = some (.tup ((xs ++ [n]).map V.int)) → Q (.ref t) H') : rCatA K (.ref a) (.ref b) H Q := by
  refine ⟨a, b, xs.map V.int, [.int n], rfl, rfl, SqT.of ha, SqT.of hb, ?_, fun h => ?_, fun _ h => (by cases h), fun h _ p hp => ?_⟩
  · rw [List.length_map]
    exact Nat.le_trans (show xs.length + 1 ≤ 2001 by omega) (by decide)
  · refine q b H (Same.refl H) ?_
    have e : xs = [] := List.map_eq_nil_iff.mp h
    rw [e]; exact hb
  · refine q p _ (same_new hp) ?_
    rw [upd_same, List.map_append]; rfl
theorem moW_if {ps : List Str} {held : List (Pl × Int)} {adr frame : List Int} {deep : Nat} {bk : Pl} {e : Ex} (h : (moW ps held adr frame deep bk (.ifr e)).fell = none) : ∃ c, (moW ps held adr frame deep bk (.ifr e)).goes = some c := by
  obtain ⟨⟨a, rd⟩, hy⟩ : ∃ y, K24.ev (lookW held frame) e [] = y := ⟨_, rfl⟩
  cases a with
  | none => simp [moW, hy] at h
  | some v => exact ⟨decide (v ≠ 0), by simp [moW, hy]⟩
theorem goMo_fell {st : WS} {m : Mo} (h : (goMo st m).1 = true) : m.fell = none := by
  unfold goMo at h
  split at h
  · cases h
  · cases e : m.fell with
    | none => rfl
    | some x => rw [e] at h; cases h
theorem all2_last {α : Type} {R : α → V → Prop} {a : α} {as : List α} {vs : List V} (h : All2 R (as ++ [a]) vs) : ∃ v, atI vs (-1) = some v ∧ R a v := by
  have hl := h.length
  rw [List.length_append, List.length_singleton] at hl
  obtain ⟨v, hv⟩ : ∃ v, vs[as.length]? = some v := ⟨_, List.getElem?_eq_getElem (by omega)⟩
  obtain ⟨b, hb, hr⟩ := all2_at h hv
  rw [List.getElem?_append_right (Nat.le_refl _), Nat.sub_self] at hb
  cases hb
  refine ⟨v, ?_, hr⟩
  unfold atI ixN
  rw [if_neg (by decide), if_pos (by omega)]
  show vs[_]? = some v
  rw [← hv]
  congr 1
  omega

theorem MoO.ext {A : Ads} {wa kp : Addr} {H H' : Hp} {m : Mo} {v : V} (e : LamX.ExtN H H') (h : MoO A wa kp H m v) : MoO A wa kp H' m v := by
  have k := extN_tup e
  obtain ⟨p, dx, a, nl, r, kk, rs, ks, z1, z2, z3, z4, z5, z6, z7, z8, z9, z10⟩ := h
  exact ⟨p, dx, a, nl, r, kk, rs, ks, z1, z2, e _ _ z3 (fun _ z => by cases z), k _ _ z4, z5, e _ _ z6 (fun _ z => by cases z), prs_keep k z7, z8, e _ _ z9 (fun _ z => by cases z), prs_keep k z10⟩

def MoTD (D : Addr) (H : Hp) (m : Mo) (v : V) : Prop := ∃ (t a r k : Addr) (rs ks : List V), v = .ref t ∧ H t = some (.tup [.ref a, .ref r, .ref k, optV m.said, optB m.goes, optB m.goes, optS m.fell]) ∧ H a = some (.tup (m.adr.map V.int)) ∧ H r = some (.lst rs) ∧ r ≠ D ∧ All2 (PrO H) m.reads rs ∧ H k = some (.lst ks) ∧ k ≠ D ∧ All2 (PrO H) m.makes ks
theorem MoTD.same {D : Addr} {H H' : Hp} {m : Mo} {v : V} (h : MoTD D H m v) (s : Same H H') : MoTD D H' m v := by
  obtain ⟨t, a, r, k, rs, ks, z1, z2, z3, z4, z5, z6, z7, z8, z9⟩ := h
  exact ⟨t, a, r, k, rs, ks, z1, s _ _ z2, s _ _ z3, s _ _ z4, z5, prs_keep (tupK_same s) z6, s _ _ z7, z8, prs_keep (tupK_same s) z9⟩
theorem MoTD.put {D : Addr} {H : Hp} {m : Mo} {v : V} {ys ys' : List V} (h : MoTD D H m v) (g : H D = some (.lst ys)) : MoTD D (upd H D (.lst ys')) m v := by
  have tk : TupK H (upd H D (.lst ys')) := tupK_upd g (fun xs z => by cases z)
  obtain ⟨t, a, r, k, rs, ks, z1, z2, z3, z4, z5, z6, z7, z8, z9⟩ := h
  exact ⟨t, a, r, k, rs, ks, z1, tk _ _ z2, tk _ _ z3, by rw [upd_ne z5]; exact z4, z5, prs_keep tk z6, by rw [upd_ne z8]; exact z7, z8, prs_keep tk z9⟩
theorem MoTD.out {K : PySem.W.Frag} {D : Addr} {H : Hp} {m : Mo} {v : V} (h : MoTD D H m v) : MoT K H m v := by
  obtain ⟨t, a, r, k, rs, ks, z1, z2, z3, z4, _, z6, z7, _, z9⟩ := h
  exact ⟨t, a, r, k, rs, ks, z1, z2, z3, z4, z6, z7, z9⟩

theorem said_snoc {ms : List Mo} {i : Nat} {m : Mo} (h : ms[i]? = some m) : saidL (ms.take (i + 1)) = saidL (ms.take i) ++ m.said.toList := by
  unfold saidL
  rw [take_snoc h, List.filterMap_append]
  have e : List.filterMap (fun x : Mo => x.said) [m] = m.said.toList := by
    rw [List.filterMap_cons]
    cases m.said <;> rfl
  rw [e]

theorem apl (a b : Str) : (a ++ b).length = a.length + b.length := by
  rw [len_tl, len_tl, len_tl, tl_append, List.length_append]
theorem num_len {n : Nat} (h : n < 1000000) : (numT (n : Int)).length ≤ 6 := by
  have := (valW_parts (numT_valW (n := (n : Int)) (by omega) (by omega)).1).1.2
  rwa [← len_tl] at this

end
end K24
namespace K24
open PySem L2 TL
section
variable {P : Program} {w : World} {K : PySem.W.Frag} {mg : Str → Option Value} {base : Heap} {A : Ads}
theorem ok_Walker_happening (T : Txt K mg A) (B : Cod base mg A) : FnOk P w K mg base CX0 16 A.Walker_happening A.Walker_happening_d ["self", "row", "spot"] (spHappening P w A) := by
  have G_Scene_init := ok_Scene_init (P := P) (w := w) (base := base) T
  have D_act := disp_act (P := P) (w := w) (base := base) T B
  refine T.F_Walker_happening.ok sc_Walker_happening (fun vs H Q E h => ?_) (fun cdv A0 outer s H vs Q E hr h => ?_)
  · obtain ⟨X, W, st, sp, a, fr, rv, bv, adr, frame, deep, k, rt, bk, rfl, M, q⟩ := h
    rfl
  obtain ⟨X, W, st, sp, a, fr, rv, bv, adr, frame, deep, k, rt, bk, rfl, M, q⟩ := h
  refine ⟨_, (pss_cons (ps_set (i := 3) sc_Walker_happening.nd rfl (Or.inl rfl) (pe_make T.k_Scene G_Scene_init (hr.mono (by omega)) rfl T.m_Scene T.b_Scene_init .nil pass0 (pa_cons (pv 0) (pa_cons (pv 1) (pa_cons (pv 2) pa_nil)))))
   (pss_cons (ps_expr (pe_methP (pv 1) D_act (hr.mono (by omega)) pass0 (pa_cons (pv 3) pa_nil)))
   (pss_one (ps_ret (pe_fld (pv 3) rfl))))), ?_⟩
  obtain ⟨hW, hrow, hok, hsp, hbk, htb, hq⟩ := M
  obtain ⟨dsp, sp1, a1, fr1⟩ := hsp
  obtain ⟨pr, dr, fsr, er, g1, g2⟩ := hrow.act
  subst er
  refine ⟨_, rfl, _, rfl, _, rfl, fun x dx hx hdx _ => ?_⟩
  have sM : Same H (upd (upd H dx (.own x)) x (.ins A.Scene dx [])) := fun q o h => by rw [upd_ne (ne_of_none h hx), upd_ne (ne_of_none h hdx)]; exact h
  refine ⟨X, W, st, ⟨x, dx, 0, 0, 0, 0, 0, a, 0, sp, dsp, fr, .ref pr, bv, adr, frame, deep, H⟩, k, rt, rfl, upd_same, newT_none hx, LamX.ExtN.of sM, NdefX.TabsN.ext hW.tab sM, hW, hrow, sp1, a1, fr1, ?_, fun fo dm md r kk nl H1 hS1 => ⟨rfl, ?_⟩⟩
  · rcases hbk with ⟨h, _⟩ | ⟨⟨b, h, _⟩, h3⟩
    · exact .inl h
    · exact .inr ⟨⟨b, h⟩, h3⟩
  have ext1 : LamX.ExtN X.H0 H1 := hS1.wk.ext.trans hS1.ext
  refine ⟨_, rfl, pr, _, dr, _, rfl, ext1 _ _ g1 (fun _ z => by cases z), g2, ok5_fam hok, _, rfl, X, W, st, _, k, rt, bk, rfl, hS1, hrow, rfl, hok, fun e he => ?_, htb, hq, fun H2 hS2 => ?_⟩
  · rcases hbk with ⟨_, h⟩ | ⟨h, _⟩
    · exact (h e he).elim
    · exact h
  obtain ⟨rs, r1, r2⟩ := hS2.mo.r
  obtain ⟨ks, k1, k2⟩ := hS2.mo.k
  obtain ⟨⟨_, _, _, w1⟩, _, ⟨_, w3⟩⟩ := hW.w3
  have nw : ∀ {b : Addr}, b ∈ [fo, r, kk, md] → X.w ≠ b ∧ X.kp ≠ b := fun {b} hb => ⟨newT_ne (hS2.new b hb) w1 (fun _ z => by cases z), newT_ne (hS2.new b hb) w3 (fun _ z => by cases z)⟩
  have ad := hS2.mo.adr
  refine ⟨_, rfl, x, A.Scene, dx, _, _, rfl, hS2.p, T.cl_Scene, T.n_Scene_found, rfl, q _ H2 hS2.wk' hS2.ext ⟨fo, dm, a, nl, r, kk, rs, ks, rfl, (nw (by simp)).1.symm, hS2.mo.fo, ?_, (nw (by simp)).2.symm, r1, r2, (nw (by simp)).2.symm, k1, k2⟩ hS2.mo.vals⟩
  rw [ad]
  exact hS2.ext _ _ a1 (fun _ z => by cases z)

end
end K24
namespace K24
open PySem L2 TL
section
variable {P : Program} {w : World} {K : PySem.W.Frag} {mg : Str → Option Value} {base : Heap} {A : Ads}
theorem ok_Walker_take_in (T : Txt K mg A) : FnOk P w K mg base CX0 1 A.Walker_take_in A.Walker_take_in_d ["self", "moments"] (spTakeIn P w A) := by
  refine T.F_Walker_take_in.ok sc_Walker_take_in (fun vs H Q E h => ?_) (fun cdv A0 outer s H vs Q E hr h => ?_)
  · obtain ⟨X, W, st, l, m, v, rfl, hW, hl, hlk, hm, hv, hml, hkl, q⟩ := h
    rfl
  obtain ⟨X, W, st, l, m, v, rfl, hW, hl, hlk, hm, hv, hml, hkl, q⟩ := h
  refine ⟨_, (pss_one (ps_for PassesOwn.never rfl (pi_list (pv 1)) (pg_name (i := 2) sc_Walker_take_in.nd rfl (Or.inl rfl))
    (pss_cons (ps_expr (pe_bm PySem.F.plainAttrs_list PySem.F.slot_list_append PySem.F.type_list_append mt_append (pe_fld (pv 0) rfl) (pa_cons (pv 2) pa_nil)))
   (pss_one (ps_for PassesOwn.never rfl (pi_list (pe_fld (pv 2) rfl)) (pg_tup (by rfl) (pgs_cons (pg_name (i := 3) sc_Walker_take_in.nd rfl (Or.inl rfl)) (pgs_cons (pg_name (i := 4) sc_Walker_take_in.nd rfl (Or.inl rfl)) pgs_nil)))
    (pss_one (ND.ps_dputN hr.units (pe_fld (pv 0) rfl) (pv 3) (pv 4) rfl))))))), ?_⟩
  obtain ⟨p, dx, a, nl, r, kk, rs, ks, rfl, m2, m3, m4, m5, m6, m7, m8, m9, m10⟩ := id hm
  obtain ⟨ev, hw, hev⟩ := hW.obj
  obtain ⟨ms, hk, hms⟩ := hW.kept
  have hml2 := hms.length
  obtain ⟨φ, hh⟩ := nd_has hW.held
  refine ⟨_, rfl, l, rfl, ⟨_, SqL.of hl⟩, for_list (xs := [.ref p]) (fun i σ H' => (i = 0 ∧ H' = H ∧ σ = [some (.ref X.w), some (.ref l), none, none, none]) ∨ (i = 1 ∧ KpX (WkL X) H H' ∧ WkO P w A X W ⟨putAll st.held m.makes, st.kept ++ [m], st.ended⟩ H')) (.inl ⟨rfl, rfl, rfl⟩) ?_ ?_ ?_⟩
  · rintro i σ H' _ (⟨rfl, rfl, _⟩ | ⟨rfl, k', _⟩)
    · exact SqL.of hl
    · refine SqL.of (k' _ _ (fun hm => ?_) hl (fun _ z => by cases z))
      simp only [WkL, List.mem_cons, List.not_mem_nil, or_false] at hm
      rcases hm with z | z | z
      · rw [z, hw] at hl; cases hl
      · rw [z, hh] at hl; cases hl
      · exact hlk z
  · rintro i x σ H' hx (⟨rfl, rfl, rfl⟩ | ⟨rfl, _, _⟩)
    · cases hx
      have e0 : H' = H' := rfl
      refine ⟨_, rfl, X.w, A.Walker, X.dw, _, _, rfl, hw, T.cl_Walker, T.n_Walker_kept, rfl, .inl ⟨rfl, _, SqL.of hk⟩, _, rfl, X.kp, ms, .ref p, rfl, rfl, hk, Nat.lt_of_le_of_lt (show ms.length ≤ 60 by omega) (by decide), ?_⟩
      have k1 : KpX (WkL X) H' (upd H' X.kp (.lst (ms ++ [.ref p]))) := KpX.putA (by simp [WkL])
      have tk1 := hW.tup k1
      have wk1 : upd H' X.kp (.lst (ms ++ [.ref p])) X.w = some (.ins A.Walker X.dw [("setting", .ref X.s), ("held", .ref X.hd), ("kept", .ref X.kp), ("ended", ev)]) := by rw [upd_ne (ne_of hw hk (by intro z; cases z))]; exact hw
      have kp1 : upd H' X.kp (.lst (ms ++ [.ref p])) X.kp = some (.lst (ms ++ [.ref p])) := upd_same
      have p1 : upd H' X.kp (.lst (ms ++ [.ref p])) p = some (.ins A.Moment dx (moF m a nl r kk)) := by rw [upd_ne (ne_of m3 hk (by intro z; cases z))]; exact m3
      have kk1 : upd H' X.kp (.lst (ms ++ [.ref p])) kk = some (.lst ks) := by rw [upd_ne m8]; exact m9
      have hd1 := hW.held.keep (H' := upd H' X.kp (HO.lst (ms ++ [V.ref p]))) (upd_ne (ne_of hh hk (by intro z; cases z))) tk1
      have t1 := tabs_lst (o := .lst (ms ++ [.ref p])) hW.tab hk
      have m10' := prs_keep tk1 m10
      have hm1 := fun (m' : Mo) (v' : V) (z : MoO A X.w X.kp H' m' v') => z.keep hW.w3.1 hW.w3.2.1 hW.w3.2.2 k1
      have hev1 := hev.keep tk1
      generalize upd H' X.kp (.lst (ms ++ [.ref p])) = H1 at k1 tk1 wk1 kp1 p1 kk1 hd1 t1 m10' hm1 hev1 ⊢
      refine ⟨_, rfl, p, A.Moment, dx, _, _, rfl, p1, T.cl_Moment, T.n_Moment_makes, rfl, kk, rfl, ⟨_, SqL.of kk1⟩, for_list (xs := ks) (fun j σ H2 => ∃ y z : Option V, σ = [some (.ref X.w), some (.ref l), some (.ref p), y, z] ∧ KpX [X.hd] H1 H2 ∧ TupK H1 H2 ∧ ND.NDict P w H2 X.hd (kv V.int (putAll st.held (m.makes.take j))) ∧ NdefX.TabsN [(X.tb, fun _ _ => X.q)] H2) ⟨none, none, rfl, KpX.refl _ _, fun _ _ h => h, hd1, t1⟩ ?_ ?_ ?_⟩
      · rintro j σ H2 _ ⟨y, z, rfl, k2, tk2, hd2, t2⟩
        obtain ⟨φ2, hh2⟩ := nd_has hd1
        exact SqL.of (k2 _ _ (fun hm => by rw [List.mem_singleton.mp hm, hh2] at kk1; cases kk1) kk1 (fun _ z => by cases z))
      · rintro j x σ H2 hx ⟨y, z, rfl, k2, tk2, hd2, t2⟩
        obtain ⟨⟨pl, n⟩, hpl, t, u, rfl, ht, ⟨a2, rfl, nk⟩⟩ := all2_at m10' hx
        have ht2 := tk2 _ _ ht
        have nk2 := nk.keep tk2
        obtain ⟨φ1, hh1⟩ := nd_has hd1
        have wk2 := k2 _ _ (fun hm => by rw [List.mem_singleton.mp hm, hh1] at wk1; cases wk1) wk1 (fun _ z => by cases z)
        refine ⟨t, _, rfl, SqT.of ht2, rfl, _, _, rfl, _, _, rfl, rfl, ?_⟩
        refine ⟨_, rfl, _, rfl, X.w, A.Walker, X.dw, _, _, rfl, wk2, T.cl_Walker, T.n_Walker_held, rfl, _, rfl, X.hd, a2, plK pl, _, rfl, rfl, nk2, plK_depth pl, hd2, ?_, fun hco H3 hφ kt hD => ?_⟩
        · show (kv V.int (putAll st.held (m.makes.take j))).length < sizeLine
          unfold kv
          rw [List.length_map]
          have h1 := putAll_len (m.makes.take j) st.held
          have h2 := hW.len
          rw [List.length_take] at h1
          exact Nat.lt_of_le_of_lt (show (putAll st.held (m.makes.take j)).length ≤ 1000 by omega) (by decide)
        obtain ⟨φ3, hφ⟩ := hφ
        obtain ⟨φ2, hh2⟩ := nd_has hd2
        refine ⟨_, _, rfl, k2.trans (by rw [hφ]; exact KpX.putA (List.mem_singleton.mpr rfl)), fun t xs h => kt _ _ (tk2 _ _ h), ?_, by rw [hφ]; exact tabs_upd t2 (fun ps z => by rw [hh2] at z; cases z) hco⟩
        rw [kv_put] at hD
        rw [take_snoc hpl, putAll_append]
        exact hD
      · rintro σ H2 ⟨y, z, rfl, k2, tk2, hd2, t2⟩
        have e : m.makes.take ks.length = m.makes := by
          rw [← m10.length, List.take_length]
        rw [e] at hd2
        obtain ⟨φ1, hh1⟩ := nd_has hd1
        have n2 : ∀ {b o}, H1 b = some o → (∀ φ, o ≠ .ext φ) → (∀ ps, o ≠ .tbl ps) → H2 b = some o := fun {b o} h n t => k2 _ _ (fun hm => by rw [List.mem_singleton.mp hm, hh1] at h; exact n _ (Option.some.inj h).symm) h t
        have k12 : KpX (WkL X) H1 H2 := k2.sub fun a h => by rw [List.mem_singleton.mp h]; simp [WkL]
        have kF := k1.trans k12
        refine .inr ⟨rfl, kF, hW.sta, kF.ext hW.newL hW.ext, ⟨ev, n2 wk1 (fun _ z => by cases z) (fun _ z => by cases z), hev1.keep tk2⟩, hd2, ⟨ms ++ [.ref p], n2 kp1 (fun _ z => by cases z) (fun _ z => by cases z), ?_⟩, t2, putAll_val hW.vals hv, ?_⟩
        · have h3 : ∀ (m' : Mo) (v' : V), MoO A X.w X.kp H1 m' v' → MoO A X.w X.kp H2 m' v' := fun m' v' z => z.keep ⟨_, _, _, wk1⟩ ⟨_, hh1⟩ ⟨_, kp1⟩ k12
          exact (hms.mono fun m' v' z => h3 _ _ (hm1 _ _ z)).snoc (h3 _ _ (hm1 _ _ hm))
        · show (st.kept ++ [m]).length ≤ 60 ∧ (putAll st.held m.makes).length ≤ 10 * (st.kept ++ [m]).length
          have h1 := putAll_len m.makes st.held
          have h2 := hW.len.2
          rw [List.length_append, List.length_singleton]
          omega
    · cases hx
  · rintro σ H' (⟨h, _⟩ | ⟨_, k', hW'⟩)
    · cases h
    · exact q H' hW' k'

end
end K24
namespace K24
open PySem L2 TL
section
variable {P : Program} {w : World} {K : PySem.W.Frag} {mg : Str → Option Value} {base : Heap} {A : Ads}
theorem ok_Walker_go_moment (T : Txt K mg A) (B : Cod base mg A) : FnOk P w K mg base CX0 17 A.Walker_go_moment A.Walker_go_moment_d ["self", "row", "spot"] (spGoMo P w A) := by
  have G_Walker_happening := ok_Walker_happening (P := P) (w := w) (base := base) T B
  have G_Walker_take_in := ok_Walker_take_in (P := P) (w := w) (base := base) T
  refine T.F_Walker_go_moment.ok sc_Walker_go_moment (fun vs H Q E h => ?_) (fun cdv A0 outer s H vs Q E hr h => ?_)
  · obtain ⟨X, W, st, sp, a, fr, rv, bv, adr, frame, deep, k, rt, bk, rfl, M, q⟩ := h
    rfl
  obtain ⟨X, W, st, sp, a, fr, rv, bv, adr, frame, deep, k, rt, bk, rfl, M, q⟩ := h
  refine ⟨_, (pss_cons (ps_if (pt_cmpR op_ge (pe_callB call_lenK (by rfl) T.z_len (by decide +kernel) (pa_cons (pe_fld (pv 0) rfl) pa_nil)) (pe_fld (pe_fld (pv 0) rfl) rfl) (nomark _))
    (pss_cons (ps_fld (pv 0) (pe_tup (pa_cons pe_str pa_nil)) rfl)
   (pss_one (ps_ret pe_bl)))
    pss_nil)
   (pss_cons (ps_set (i := 3) sc_Walker_go_moment.nd rfl (Or.inl rfl) (pe_meth (pv 0) T.cl_Walker T.me_Walker_happening G_Walker_happening (hr.mono (by decide)) T.b_Walker_happening .nil pass0 (pa_cons (pv 1) (pa_cons (pv 2) pa_nil))))
   (pss_cons (ps_expr (pe_meth (pv 0) T.cl_Walker T.me_Walker_take_in G_Walker_take_in (hr.mono (by decide)) T.b_Walker_take_in .nil pass0 (pa_cons (pe_lst (pa_cons (pv 3) pa_nil)) pa_nil)))
   (pss_cons (ps_if (pt_cmpR op_notN (pe_fld (pv 3) rfl) pe_non (nomark _))
    (pss_cons (ps_fld (pv 0) (pe_tup (pa_cons pe_str (pa_cons (pe_fld (pv 3) rfl) (pa_cons (pe_fld (pv 3) rfl) pa_nil)))) rfl)
   (pss_one (ps_ret pe_bl)))
    pss_nil)
   (pss_one (ps_ret pe_bl)))))), ?_⟩
  have hW := M.wk
  have hsta := hW.sta
  obtain ⟨ev, hw, hev⟩ := hW.obj
  obtain ⟨ms, hk, hms⟩ := hW.kept
  have hml := hms.length
  have st1 := hW.ext _ _ hsta.st (fun _ z => by cases z)
  refine ⟨_, rfl, X.w, A.Walker, X.dw, _, _, rfl, hw, T.cl_Walker, T.n_Walker_kept, rfl, X.kp, _, rfl, .inl (SqL.of hk), _, rfl, X.w, A.Walker, X.dw, _, _, rfl, hw, T.cl_Walker, T.n_Walker_setting, rfl, X.s, A.Setting, X.ds, _, _, rfl, st1, T.cl_Setting, T.n_Setting_bound, rfl, _, _, rfl, rfl, _, rfl, ?_⟩
  unfold goMo at q
  refine iteD2 (fun c => ?_) (fun c => ?_)
  · have c' : 60 ≤ st.kept.length := by
      have c : (60 : Int) ≤ ((ms.length : Nat) : Int) := c
      omega
    rw [if_pos c'] at q
    refine ⟨by show 1 ≤ sizeLine; decide, fun t ht => ?_⟩
    have s1 := same_new (o := .tup [.str "tired"]) ht
    have w1 := s1 _ _ hw
    refine ⟨_, rfl, X.w, A.Walker, X.dw, _, rfl, w1, T.cl_Walker, T.n_Walker_ended, (by show 4 < 1000; decide), ?_⟩
    obtain ⟨g1, g2⟩ := (hW.same s1).setEnd (e := some .tired) (ev := .ref t) ⟨t, rfl, upd_same⟩
    exact q _ g1 ((KpX.of s1).trans g2)
  · have c' : ¬ 60 ≤ st.kept.length := fun h => c (by show (60 : Int) ≤ ((ms.length : Nat) : Int); omega)
    rw [if_neg c'] at q
    refine ⟨_, rfl, X.w, X.dw, _, rfl, hw, rfl, _, rfl, _, rfl, X, W, st, sp, a, fr, rv, bv, adr, frame, deep, k, rt, bk, rfl, M, fun v H1 hW1 e1 hm1 hv1 => ?_⟩
    have hmk := moW_makes (ps := W.params) (held := st.held) (adr := adr) (frame := frame) (deep := deep) (bk := bk) hsta.pl (rt := rt)
    obtain ⟨ev1, hw1, _⟩ := hW1.obj
    obtain ⟨ms1, hk1, _⟩ := hW1.kept
    generalize moW W.params st.held adr frame deep bk rt = m at q hm1 hv1 hmk
    refine ⟨_, rfl, X.w, X.dw, _, rfl, hw1, rfl, _, rfl, by show 1 ≤ sizeLine; decide, fun l hl => ?_⟩
    have s2 := same_new (o := .lst [v]) hl
    refine ⟨X, W, st, l, m, v, rfl, hW1.same s2, upd_same, ne_of_none hk1 hl |>.symm, hm1.keep (hW1.w3.1) hW1.w3.2.1 hW1.w3.2.2 (KpX.of s2), hv1, hmk.1, by omega, fun H2 hW2 k2 => ?_⟩
    have k02 : KpX (WkL X) H H2 := (KpX.ofX e1).trans ((KpX.of s2).trans k2)
    have hm2 := hm1.keep (hW1.w3.1) hW1.w3.2.1 hW1.w3.2.2 ((KpX.of s2).trans k2)
    obtain ⟨p, dx, ma, nl, r, kk, rs, ks, rfl, m2, m3, m4, _⟩ := hm2
    obtain ⟨ev2, hw2, hev2⟩ := hW2.obj
    refine ⟨_, rfl, p, A.Moment, dx, _, _, rfl, m3, T.cl_Moment, T.n_Moment_fell, rfl, rfl, _, rfl, ?_⟩
    cases hf : m.fell with
    | none =>
      rw [hf] at q
      refine iteNF (by rfl) ?_
      exact q H2 hW2 k02
    | some x =>
      rw [hf] at q
      refine iteNT (fun z => by cases z) ?_
      have m3' := m3
      refine ⟨_, rfl, p, A.Moment, dx, _, _, rfl, m3, T.cl_Moment, T.n_Moment_fell, rfl, _, rfl, p, A.Moment, dx, _, _, rfl, m3, T.cl_Moment, T.n_Moment_address, rfl, by show 3 ≤ sizeLine; decide, fun t ht => ?_⟩
      have s3 := same_new (o := .tup [.str "fell", optS m.fell, .ref ma]) ht
      refine ⟨_, rfl, X.w, A.Walker, X.dw, _, rfl, s3 _ _ hw2, T.cl_Walker, T.n_Walker_ended, (by show 4 < 1000; decide), ?_⟩
      obtain ⟨g1, g2⟩ := (hW2.same s3).setEnd (e := some (.fell x m.adr)) (ev := .ref t) ⟨t, ma, rfl, by rw [upd_same, hf]; rfl, s3 _ _ m4⟩
      exact q _ g1 (k02.trans ((KpX.of s3).trans g2))

end
end K24
namespace K24
open PySem L2 TL
section
variable {P : Program} {w : World} {K : PySem.W.Frag} {mg : Str → Option Value} {base : Heap} {A : Ads}
theorem ok_Walker_go_choice (T : Txt K mg A) (B : Cod base mg A) {n : Nat} (G_Walker_go_block : FnOk P w K mg base CX0 (3 * n + 22) A.Walker_go_block A.Walker_go_block_d ["self", "rows", "address", "frame", "deep"] (spGoBlock P w A n)) : FnOk P w K mg base CX0 (3 * n + 23) A.Walker_go_choice A.Walker_go_choice_d ["self", "row", "spot"] (spGoRow P w A n isIf) := by
  have G_Walker_whole := ok_Walker_whole (P := P) (w := w) (base := base) T
  have G_Walker_go_moment := ok_Walker_go_moment (P := P) (w := w) (base := base) T B
  refine T.F_Walker_go_choice.ok sc_Walker_go_choice (fun vs H Q E h => ?_) (fun cdv A0 outer s H vs Q E hr h => ?_)
  · obtain ⟨X, W, st, sp, a, fr, rv, adr, frame, deep, k, t, b, st1, rfl, hF, M, q⟩ := h
    rfl
  obtain ⟨X, W, st, sp, a, fr, rv, adr, frame, deep, k, t, b, st1, rfl, hF, M, q⟩ := h
  refine ⟨_, (pss_cons (ps_if (pt_val (pe_meth (pv 0) T.cl_Walker T.me_Walker_whole G_Walker_whole (hr.mono (by omega)) T.b_Walker_whole .nil pass0 (pa_cons (pe_fld (pv 2) rfl) pa_nil)))
    (pss_one (ps_ret pe_bl))
    pss_nil)
   (pss_cons (ps_if (pt_not (pt_val (pe_meth (pv 0) T.cl_Walker T.me_Walker_go_moment G_Walker_go_moment (hr.mono (by omega)) T.b_Walker_go_moment .nil pass0 (pa_cons (pv 1) (pa_cons (pv 2) pa_nil)))))
    (pss_one (ps_ret pe_bl))
    pss_nil)
   (pss_cons (ps_if (pt_truth (pe_fld (pe_ix ix_list (pe_fld (pv 0) rfl) (pe_un un_neg pe_int) (fun _ _ => rfl)) rfl) (by intro _; rfl))
    (pss_one (ps_ret (pe_meth (pv 0) T.cl_Walker T.me_Walker_go_block G_Walker_go_block (hr.mono (by omega)) T.b_Walker_go_block .nil pass0 (pa_cons (pe_fld (pv 1) rfl) (pa_cons (pe_op op_catA (pe_fld (pv 2) rfl) (pe_tup (pa_cons pe_int pa_nil))) (pa_cons (pe_fld (pv 2) rfl) (pa_cons (pe_fld (pv 2) rfl) pa_nil)))))))
    pss_nil)
   (pss_one (ps_ret (pe_meth (pv 0) T.cl_Walker T.me_Walker_go_block G_Walker_go_block (hr.mono (by omega)) T.b_Walker_go_block .nil pass0 (pa_cons (pe_fld (pv 1) rfl) (pa_cons (pe_op op_catA (pe_fld (pv 2) rfl) (pe_tup (pa_cons pe_int pa_nil))) (pa_cons (pe_fld (pv 2) rfl) (pa_cons (pe_fld (pv 2) rfl) pa_nil)))))))))), ?_⟩
  obtain ⟨hal, hW, htr, htw, nsp, hsp, htb, hq, hgo⟩ := M
  obtain ⟨ev, hw, _⟩ := hW.obj
  obtain ⟨dsp, sp1, a1, fr1⟩ := id hsp

  cases t with
  | leaf rt => exact hF.elim
  | ifr e ba bb =>
    have hrow := htr.row
    obtain ⟨p, dx, y, z, x, ys, zs, rfl, o1, o2, o3, o4, o5, o6⟩ := trO_inj_if htr
    obtain ⟨w1, w2, w3⟩ := trW_if htw
    have hif : A.rc.ifr = A.Choice := rfl
    refine ⟨_, rfl, X.w, X.dw, _, rfl, hw, rfl, _, rfl, sp, A.Spot, dsp, _, _, rfl, sp1, T.cl_Spot, T.n_Spot_address, rfl, _, _, rfl, _, rfl, iteF ?_⟩
    have hgo : (match goMo st (moW W.params st.held adr frame deep noBack (.ifr e)) with
      | (false, s) => some (false, s)
      | (true, s) => if (moW W.params st.held adr frame deep noBack (.ifr e)).goes = some true then walkW W n ba (adr ++ [0]) frame deep s else walkW W n bb (adr ++ [1]) frame deep s) = some (b, st1) := hgo
    refine ⟨_, rfl, X.w, X.dw, _, rfl, hw, rfl, _, rfl, _, rfl, X, W, st, sp, a, fr, _, .non, adr, frame, deep, k, .ifr e, noBack, rfl, ⟨hW, hrow, w1, hsp, .inl ⟨rfl, fun e z => by cases z⟩, htb, hq⟩, fun H1 hW1 k1 => ?_⟩
    have hsp1 := hsp.keep hW nsp k1
    have gt := goMo_true (st := st) (m := moW W.params st.held adr frame deep noBack (.ifr e))
    have gf := goMo_fell (st := st) (m := moW W.params st.held adr frame deep noBack (.ifr e))
    have gi := moW_if (ps := W.params) (held := st.held) (adr := adr) (frame := frame) (deep := deep) (bk := noBack) (e := e)
    generalize hm : moW W.params st.held adr frame deep noBack (.ifr e) = m at hgo hW1 gt gf gi ⊢
    generalize goMo st m = g at hgo hW1 gt gf ⊢
    obtain ⟨gb, st2⟩ := g
    cases gb with
    | false =>
      cases hgo
      exact ⟨_, rfl, iteT (q H1 hW1 k1)⟩
    | true =>
      refine ⟨_, rfl, iteF ?_⟩
      have gt := gt rfl
      have hW1 : WkO P w A X W st2 H1 := hW1
      obtain ⟨ev1, hw1, _⟩ := hW1.obj
      obtain ⟨ms1, hk1, hms1⟩ := hW1.kept
      have gt : st2.kept = st.kept ++ [m] := gt
      rw [gt] at hms1
      obtain ⟨mv, hl, hmv⟩ := all2_last hms1
      obtain ⟨pm, dm, am, nl, r, kk, rs, ks, rfl, m2, m3, _⟩ := hmv
      obtain ⟨dsp1, sp2, a2, fr2⟩ := hsp1
      have c1 := hW1.ext _ _ o1 (fun _ z => by cases z)
      have hgo : (if m.goes = some true then walkW W n ba (adr ++ [0]) frame deep st2 else walkW W n bb (adr ++ [1]) frame deep st2) = some (b, st1) := hgo
      obtain ⟨c, hc⟩ := gi (gf rfl)
      refine ⟨_, rfl, X.w, A.Walker, X.dw, _, _, rfl, hw1, T.cl_Walker, T.n_Walker_kept, rfl, _, rfl, X.kp, _, _, _, rfl, rfl, SqL.of hk1, hl, pm, A.Moment, dm, _, _, rfl, m3, T.cl_Moment, T.n_Moment_goes, rfl, ?_⟩
      rw [hc] at hgo ⊢
      have blk : ∀ (bs : List (Nat × Tr)) (j : Int) (l : Addr) (os : List V), X.H0 l = some (.lst os) → BlkO A.rc A.ec (fun _ => True) X.H0 bs os → BlkW W bs → walkW W n bs (adr ++ [j]) frame deep st2 = some (b, st1) → ∀ t H2, Same H1 H2 → H2 t = some (.tup ((adr ++ [j]).map V.int)) → spGoBlock P w A n [.ref X.w, .ref l, .ref t, .ref fr, .int (deep : Int)] H2 Q E := fun bs j l os h1 h2 h3 h4 t H2 s2 ht => ⟨X, W, st2, l, t, fr, os, bs, _, frame, deep, b, st1, rfl, hW1.same s2, h1, h2, h3, (by rw [List.length_append, List.length_singleton]; omega), ht, s2 _ _ fr2, htb, hq, h4, fun H' hW' k' => q H' hW' (k1.trans ((KpX.of s2).trans k'))⟩
      refine ⟨c, rfl, ?_⟩
      cases c with
      | true =>
        have hgo : walkW W n ba (adr ++ [0]) frame deep st2 = some (b, st1) := hgo
        refine iteT ?_
        refine ⟨_, rfl, X.w, X.dw, _, rfl, hw1, rfl, _, rfl, p, A.Choice, dx, _, _, rfl, c1, T.cl_Choice, T.n_Choice_first, rfl, _, rfl, sp, A.Spot, dsp1, _, _, rfl, sp2, T.cl_Spot, T.n_Spot_address, rfl, by show 1 ≤ sizeLine; decide, fun t0 ht0 => ?_⟩
        have s0 := same_new (o := .tup [.int 0]) ht0
        refine catA1 (xs := adr) (n := 0) (s0 _ _ a2) upd_same (by omega) fun t2 H2 s2 ht2 => ?_
        have s02 := s0.trans s2
        exact ⟨_, rfl, sp, A.Spot, dsp1, _, _, rfl, (s02 _ _ sp2), T.cl_Spot, T.n_Spot_frame, rfl, _, rfl, sp, A.Spot, dsp1, _, _, rfl, (s02 _ _ sp2), T.cl_Spot, T.n_Spot_deep, rfl, blk ba 0 y ys o3 o4 w2 hgo t2 H2 s02 ht2⟩
      | false =>
        have hgo : walkW W n bb (adr ++ [1]) frame deep st2 = some (b, st1) := hgo
        refine iteF ?_
        refine ⟨_, rfl, X.w, X.dw, _, rfl, hw1, rfl, _, rfl, p, A.Choice, dx, _, _, rfl, c1, T.cl_Choice, T.n_Choice_second, rfl, _, rfl, sp, A.Spot, dsp1, _, _, rfl, sp2, T.cl_Spot, T.n_Spot_address, rfl, by show 1 ≤ sizeLine; decide, fun t0 ht0 => ?_⟩
        have s0 := same_new (o := .tup [.int 1]) ht0
        refine catA1 (xs := adr) (n := 1) (s0 _ _ a2) upd_same (by omega) fun t2 H2 s2 ht2 => ?_
        have s02 := s0.trans s2
        exact ⟨_, rfl, sp, A.Spot, dsp1, _, _, rfl, (s02 _ _ sp2), T.cl_Spot, T.n_Spot_frame, rfl, _, rfl, sp, A.Spot, dsp1, _, _, rfl, (s02 _ _ sp2), T.cl_Spot, T.n_Spot_deep, rfl, blk bb 1 z zs o5 o6 w3 hgo t2 H2 s02 ht2⟩

end
end K24
namespace K24
open PySem L2 TL
section
variable {P : Program} {w : World} {K : PySem.W.Frag} {mg : Str → Option Value} {base : Heap} {A : Ads}
theorem ok_Walker_go_loop (T : Txt K mg A) : FnOk P w K mg base CX0 1 A.Walker_go_loop A.Walker_go_loop_d ["self", "row", "spot"] (fun _ _ _ _ => False) := fn_none fun _ _ _ _ h => h

end
end K24
namespace K24
open PySem L2 TL
section
variable {P : Program} {w : World} {K : PySem.W.Frag} {mg : Str → Option Value} {base : Heap} {A : Ads}
theorem ok_Walker_go_call (T : Txt K mg A) (B : Cod base mg A) {n : Nat} (G_Walker_go_block : FnOk P w K mg base CX0 (3 * n + 22) A.Walker_go_block A.Walker_go_block_d ["self", "rows", "address", "frame", "deep"] (spGoBlock P w A n)) : FnOk P w K mg base CX0 (3 * n + 23) A.Walker_go_call A.Walker_go_call_d ["self", "row", "spot"] (spGoRow P w A n isCall) := by
  have G_Walker_whole := ok_Walker_whole (P := P) (w := w) (base := base) T
  have G_Walker_go_moment := ok_Walker_go_moment (P := P) (w := w) (base := base) T B
  have G_Spot_init := ok_Spot_init (P := P) (w := w) (base := base) T
  refine T.F_Walker_go_call.ok sc_Walker_go_call (fun vs H Q E h => ?_) (fun cdv A0 outer s H vs Q E hr h => ?_)
  · obtain ⟨X, W, st, sp, a, fr, rv, adr, frame, deep, k, t, b, st1, rfl, hF, M, q⟩ := h
    rfl
  obtain ⟨X, W, st, sp, a, fr, rv, adr, frame, deep, k, t, b, st1, rfl, hF, M, q⟩ := h
  refine ⟨_, (pss_cons (ps_if (pt_val (pe_meth (pv 0) T.cl_Walker T.me_Walker_whole G_Walker_whole (hr.mono (by omega)) T.b_Walker_whole .nil pass0 (pa_cons (pe_fld (pv 2) rfl) pa_nil)))
    (pss_one (ps_ret pe_bl))
    pss_nil)
   (pss_cons (ps_if (pt_not (pt_val (pe_meth (pv 0) T.cl_Walker T.me_Walker_go_moment G_Walker_go_moment (hr.mono (by omega)) T.b_Walker_go_moment .nil pass0 (pa_cons (pv 1) (pa_cons (pv 2) pa_nil)))))
    (pss_one (ps_ret pe_bl))
    pss_nil)
   (pss_cons (ps_set (i := 3) sc_Walker_go_call.nd rfl (Or.inl rfl) (pe_dget (hu_of hr) (pe_fld (pe_fld (pe_fld (pv 0) rfl) rfl) rfl) (pe_fld (pv 1) rfl) (fun _ _ => rfl)))
   (pss_cons (ps_set (i := 4) sc_Walker_go_call.nd rfl (Or.inl rfl) (pe_op op_catA (pe_fld (pv 2) rfl) (pe_tup (pa_cons pe_int pa_nil))))
   (pss_cons (ps_if (pt_not (pt_val (pe_meth (pv 0) T.cl_Walker T.me_Walker_go_block G_Walker_go_block (hr.mono (by omega)) T.b_Walker_go_block .nil pass0 (pa_cons (pe_fld (pv 3) rfl) (pa_cons (pv 4) (pa_cons (pe_fld (pv 2) rfl) (pa_cons (pe_op op_add (pe_fld (pv 2) rfl) pe_int) pa_nil)))))))
    (pss_one (ps_ret pe_bl))
    pss_nil)
   (pss_cons (ps_set (i := 5) sc_Walker_go_call.nd rfl (Or.inl rfl) (pe_tup (pa_cons pe_str (pa_cons (pe_fld (pv 2) rfl) (pa_cons (pe_fld (pv 1) rfl) pa_nil)))))
   (pss_one (ps_ret (pe_meth (pv 0) T.cl_Walker T.me_Walker_go_moment G_Walker_go_moment (hr.mono (by omega)) T.b_Walker_go_moment .nil pass0 (pa_cons (pe_fld (pv 3) rfl) (pa_cons (pe_make T.k_Spot G_Spot_init (hr.mono (by omega)) rfl T.m_Spot T.b_Spot_init .nil pass0 (pa_cons (pe_op op_catA (pv 4) (pe_tup (pa_cons (pe_fld (pe_fld (pv 3) rfl) rfl) pa_nil))) (pa_cons (pe_fld (pv 2) rfl) (pa_cons (pe_op op_add (pe_fld (pv 2) rfl) pe_int) (pa_cons (pv 5) pa_nil))))) pa_nil))))))))))), ?_⟩
  obtain ⟨hal, hW, htr, htw, nsp, hsp, htb, hq, hgo⟩ := M
  obtain ⟨ev, hw, _⟩ := hW.obj
  obtain ⟨dsp, sp1, a1, fr1⟩ := id hsp

  cases t with
  | ifr e ba bb => exact hF.elim
  | leaf rt =>
  cases rt with
  | skip | set b e | put a b | ask b w e | draw b w | tell e | ifr e | loop e | give e => exact hF.elim
  | call bx fn es =>
    have hrow := trO_leaf htr
    have hsup := trW_leaf htw
    obtain ⟨hfn, hes, hel⟩ := id hsup
    subst hfn
    obtain ⟨p, dx, lg, og, rfl, o1, o2, o3, o4⟩ := id hrow
    have hsta := hW.sta
    refine ⟨_, rfl, X.w, X.dw, _, rfl, hw, rfl, _, rfl, sp, A.Spot, dsp, _, _, rfl, sp1, T.cl_Spot, T.n_Spot_address, rfl, _, _, rfl, _, rfl, iteF ?_⟩
    have hgo : (match goMo st (moW W.params st.held adr frame deep noBack (.call bx W.fn es)) with
      | (false, s) => some (false, s)
      | (true, s) => match walkW W n W.body (adr ++ [0]) adr (deep + 1) s with
        | none => none
        | some (false, s2) => some (false, s2)
        | some (true, s2) => some (goMo s2 (moW W.params s2.held (adr ++ [0] ++ [(W.gno : Int)]) adr (deep + 1) (.box frame bx) (.give W.give)))) = some (b, st1) := hgo
    refine ⟨_, rfl, X.w, X.dw, _, rfl, hw, rfl, _, rfl, _, rfl, X, W, st, sp, a, fr, _, .non, adr, frame, deep, k, .call bx W.fn es, noBack, rfl, ⟨hW, hrow, (sup_ok5 hsup).1, hsp, .inl ⟨rfl, fun e z => by cases z⟩, htb, hq⟩, fun H1 hW1 k1 => ?_⟩
    have hsp1 := hsp.keep hW nsp k1
    generalize goMo st (moW W.params st.held adr frame deep noBack (.call bx W.fn es)) = g at hgo hW1 ⊢
    obtain ⟨gb, st2⟩ := g
    cases gb with
    | false =>
      cases hgo
      exact ⟨_, rfl, iteT (q H1 hW1 k1)⟩
    | true =>
      refine ⟨_, rfl, iteF ?_⟩
      have hW1 : WkO P w A X W st2 H1 := hW1
      obtain ⟨ev1, hw1, _⟩ := hW1.obj
      obtain ⟨dsp1, sp2, a2, fr2⟩ := id hsp1
      have o : ∀ {b u}, X.H0 b = some u → (∀ ps, u ≠ .tbl ps) → H1 b = some u := fun {b u} h n => hW1.ext b u h n
      have st1' := o hsta.st (fun _ z => by cases z)
      have pr1 := o hsta.pr (fun _ z => by cases z)
      have d1 := o hsta.d (fun _ z => by cases z)
      have c1 := o o1 (fun _ z => by cases z)
      have e2 : valV [((.inr W.fn : Key), V.ref X.f)] (.inr W.fn) = some (.ref X.f) := valV_pos rfl
      refine ⟨_, rfl, X.w, A.Walker, X.dw, _, _, rfl, hw1, T.cl_Walker, T.n_Walker_setting, rfl, X.s, A.Setting, X.ds, _, _, rfl, st1', T.cl_Setting, T.n_Setting_program, rfl, X.pr, A.Program, X.dp, _, _, rfl, pr1, T.cl_Program, T.n_Program_functions, rfl, _, rfl, p, A.Call, dx, _, _, rfl, c1, T.cl_Call, T.n_Call_fun, rfl, X.d, _, rfl, (by rw [← e2]; exact DGet.k (k := .inr W.fn) d1), ?_⟩
      refine ⟨_, rfl, sp, A.Spot, dsp1, _, _, rfl, sp2, T.cl_Spot, T.n_Spot_address, rfl, by show 1 ≤ sizeLine; decide, fun t0 ht0 => ?_⟩
      have s0 := same_new (o := .tup [.int 0]) ht0
      refine catA1 (xs := adr) (n := 0) (s0 _ _ a2) upd_same (by omega) fun t2 H2 s2 ht2 => ?_
      have s02 := s0.trans s2
      have hW2 := hW1.same s02
      have hsp2 : SpO A H2 sp a fr adr frame deep .non := ⟨dsp1, s02 _ _ sp2, s02 _ _ a2, s02 _ _ fr2⟩
      have w2 := s02 _ _ hw1
      have f2 := s02 _ _ (o hsta.f (fun _ z => by cases z))
      have k2 : KpX (WkL X) H H2 := k1.trans (KpX.of s02)
      clear s0 s2
      cases hr : walkW W n W.body (adr ++ [0]) adr (deep + 1) st2 with
      | none =>
        have hgo : (match walkW W n W.body (adr ++ [0]) adr (deep + 1) st2 with
          | none => none
          | some (false, s2) => some (false, s2)
          | some (true, s2) => some (goMo s2 (moW W.params s2.held (adr ++ [0] ++ [(W.gno : Int)]) adr (deep + 1) (.box frame bx) (.give W.give)))) = some (b, st1) := hgo
        rw [hr] at hgo
        cases hgo
      | some r =>
      obtain ⟨rb, st3⟩ := r
      have hgo : (match walkW W n W.body (adr ++ [0]) adr (deep + 1) st2 with
          | none => none
          | some (false, s2) => some (false, s2)
          | some (true, s2) => some (goMo s2 (moW W.params s2.held (adr ++ [0] ++ [(W.gno : Int)]) adr (deep + 1) (.box frame bx) (.give W.give)))) = some (b, st1) := hgo
      rw [hr] at hgo
      refine ⟨_, rfl, X.w, X.dw, _, rfl, w2, rfl, _, rfl, X.f, A.Function, X.df, _, _, rfl, f2, T.cl_Function, T.n_Function_body, rfl, _, rfl, _, rfl, sp, A.Spot, dsp1, _, _, rfl, (s02 _ _ sp2), T.cl_Spot, T.n_Spot_address, rfl, _, rfl, sp, A.Spot, dsp1, _, _, rfl, (s02 _ _ sp2), T.cl_Spot, T.n_Spot_deep, rfl, _, _, rfl, rfl, X, W, st2, X.lb, t2, a, X.os, W.body, adr ++ [0], adr, deep + 1, rb, st3, rfl, hW2, hsta.lb, hsta.body, hsta.bw, (by rw [List.length_append, List.length_singleton]; omega), ht2, s02 _ _ a2, htb, hq, hr, fun H3 hW3 k3 => ?_⟩
      have hsp3 := hsp2.keep hW2 nsp k3
      have k03 := k2.trans k3
      have t3 := hW2.tup k3
      have ht3 := t3 _ _ ht2
      cases rb with
      | false =>
        cases hgo
        exact ⟨_, rfl, iteT (q H3 hW3 k03)⟩
      | true =>
        refine ⟨_, rfl, iteF ?_⟩
        have hgo : some (goMo st3 (moW W.params st3.held (adr ++ [0] ++ [(W.gno : Int)]) adr (deep + 1) (.box frame bx) (.give W.give))) = some (b, st1) := hgo
        obtain ⟨dsp3, sp3, a3, fr3⟩ := id hsp3
        obtain ⟨ev3, hw3, _⟩ := hW3.obj
        have c3 := hW3.ext _ _ o1 (fun _ z => by cases z)
        refine ⟨_, rfl, sp, A.Spot, dsp3, _, _, rfl, sp3, T.cl_Spot, T.n_Spot_frame, rfl, _, rfl, p, A.Call, dx, _, _, rfl, c3, T.cl_Call, T.n_Call_box, rfl, by show 3 ≤ sizeLine; decide, fun tb htb' => ?_⟩
        have s4 := same_new (o := .tup [.str "box", .ref fr, .str bx]) htb'
        have hW4 := hW3.same s4
        have b4 : upd H3 tb (.tup [.str "box", .ref fr, .str bx]) tb = some (.tup [.str "box", .ref fr, .str bx]) := upd_same
        have hsp4 : SpO A (upd H3 tb (.tup [.str "box", .ref fr, .str bx])) sp a fr adr frame deep .non := ⟨dsp3, s4 _ _ sp3, s4 _ _ a3, s4 _ _ fr3⟩
        have ht4 := s4 _ _ ht3
        have w4 := s4 _ _ hw3
        have k04 := k03.trans (KpX.of s4)
        generalize upd H3 tb (.tup [.str "box", .ref fr, .str bx]) = H4 at hW4 b4 hsp4 ht4 w4 k04 ⊢
        obtain ⟨dsp4, sp4, a4, fr4⟩ := id hsp4
        have f4 := hW4.ext _ _ hsta.f (fun _ z => by cases z)
        obtain ⟨pg, dg, fsg, eg, g1, _, g3⟩ := hsta.gr.at
        have g4 := hW4.ext _ _ g1 (fun _ z => by cases z)
        refine ⟨_, rfl, X.w, X.dw, _, rfl, w4, rfl, _, rfl, X.f, A.Function, X.df, _, _, rfl, f4, T.cl_Function, T.n_Function_give, rfl, _, rfl, _, rfl, X.f, A.Function, X.df, _, _, rfl, f4, T.cl_Function, T.n_Function_give, rfl, pg, _, dg, _, _, eg, g4, (rc_cls T (.give W.give)).1, (rc_cls T (.give W.give)).2, g3, by show 1 ≤ sizeLine; decide, fun t5 ht5 => ?_⟩
        have s5 := same_new (o := .tup [.int ((W.gno : Nat) : Int)]) ht5
        refine catA1 (xs := adr ++ [0]) (n := (W.gno : Int)) (s5 _ _ ht4) upd_same (by rw [List.length_append, List.length_singleton]; omega) fun t6 H6 s6 ht6 => ?_
        have s56 := s5.trans s6
        refine ⟨_, rfl, sp, A.Spot, dsp4, _, _, rfl, (s56 _ _ sp4), T.cl_Spot, T.n_Spot_address, rfl, _, rfl, sp, A.Spot, dsp4, _, _, rfl, (s56 _ _ sp4), T.cl_Spot, T.n_Spot_deep, rfl, _, _, rfl, rfl, _, rfl, fun x dx' hx hdx _ => ⟨x, dx', _, _, _, _, rfl, upd_same, rfl, ?_⟩⟩
        have s7 : Same H6 (upd (upd (upd H6 dx' (.own x)) x (.ins A.Spot dx' [])) x (.ins A.Spot dx' [("address", .ref t6), ("frame", .ref a), ("deep", .int ((deep + 1 : Nat) : Int)), ("back", .ref tb)])) := made_same hx hdx
        have s47 := s56.trans s7
        refine ⟨X, W, st3, x, t6, a, X.gv, .ref tb, adr ++ [0] ++ [(W.gno : Int)], adr, deep + 1, W.gno, .give W.give, .box frame bx, rfl, ⟨hW4.same s47, hsta.gr, hsta.ge, ⟨dx', upd_same, s7 _ _ ht6, s47 _ _ a4⟩, .inr ⟨plO_box (s47 _ _ b4) (s47 _ _ fr4), by rw [List.length_append, List.length_append, List.length_singleton, List.length_singleton]; omega⟩, htb, hq⟩, fun H8 hW8 k8 => ?_⟩
        rw [Option.some.inj hgo] at hW8
        have e8 : (goMo st3 (moW W.params st3.held (adr ++ [0] ++ [(W.gno : Int)]) adr (deep + 1) (.box frame bx) (.give W.give))).1 = b := by rw [Option.some.inj hgo]
        rw [e8]
        exact q H8 hW8 (k04.trans ((KpX.of s47).trans k8))

end
end K24
namespace K24
open PySem L2 TL
section
variable {P : Program} {w : World} {K : PySem.W.Frag} {mg : Str → Option Value} {base : Heap} {A : Ads}
theorem ok_Walker_go_row (T : Txt K mg A) (B : Cod base mg A) {n : Nat} (G_Walker_go_choice : FnOk P w K mg base CX0 (3 * n + 23) A.Walker_go_choice A.Walker_go_choice_d ["self", "row", "spot"] (spGoRow P w A n isIf)) (G_Walker_go_call : FnOk P w K mg base CX0 (3 * n + 23) A.Walker_go_call A.Walker_go_call_d ["self", "row", "spot"] (spGoRow P w A n isCall)) : FnOk P w K mg base CX0 (3 * n + 24) A.Walker_go_row A.Walker_go_row_d ["self", "row", "spot"] (spGoRow P w A n (fun _ => True)) := by
  have G_Walker_go_loop := ok_Walker_go_loop (P := P) (w := w) (base := base) T
  have G_Walker_go_moment := ok_Walker_go_moment (P := P) (w := w) (base := base) T B
  refine T.F_Walker_go_row.ok sc_Walker_go_row (fun vs H Q E h => ?_) (fun cdv A0 outer s H vs Q E hr h => ?_)
  · obtain ⟨X, W, st, sp, a, fr, rv, adr, frame, deep, k, t, b, st1, rfl, hF, M, q⟩ := h
    rfl
  obtain ⟨X, W, st, sp, a, fr, rv, adr, frame, deep, k, t, b, st1, rfl, hF, M, q⟩ := h
  refine ⟨_, (pss_cons (ps_if (pt_val (pe_callB call_isi (by rfl) T.z_isinstance (by decide +kernel) (pa_cons (pv 1) (pa_cons (pe_glob (v := .ref A.Choice) (by rfl) T.m_Choice rfl) pa_nil))))
    (pss_one (ps_ret (pe_meth (pv 0) T.cl_Walker T.me_Walker_go_choice G_Walker_go_choice (hr.mono (by omega)) T.b_Walker_go_choice .nil pass0 (pa_cons (pv 1) (pa_cons (pv 2) pa_nil)))))
    pss_nil)
   (pss_cons (ps_if (pt_val (pe_callB call_isi (by rfl) T.z_isinstance (by decide +kernel) (pa_cons (pv 1) (pa_cons (pe_glob (v := .ref A.Loop) (by rfl) T.m_Loop rfl) pa_nil))))
    (pss_one (ps_ret (pe_meth (pv 0) T.cl_Walker T.me_Walker_go_loop G_Walker_go_loop (hr.mono (by omega)) T.b_Walker_go_loop .nil pass0 (pa_cons (pv 1) (pa_cons (pv 2) pa_nil)))))
    pss_nil)
   (pss_cons (ps_if (pt_val (pe_callB call_isi (by rfl) T.z_isinstance (by decide +kernel) (pa_cons (pv 1) (pa_cons (pe_glob (v := .ref A.Call) (by rfl) T.m_Call rfl) pa_nil))))
    (pss_one (ps_ret (pe_meth (pv 0) T.cl_Walker T.me_Walker_go_call G_Walker_go_call (hr.mono (by omega)) T.b_Walker_go_call .nil pass0 (pa_cons (pv 1) (pa_cons (pv 2) pa_nil)))))
    pss_nil)
   (pss_one (ps_ret (pe_meth (pv 0) T.cl_Walker T.me_Walker_go_moment G_Walker_go_moment (hr.mono (by omega)) T.b_Walker_go_moment .nil pass0 (pa_cons (pv 1) (pa_cons (pv 2) pa_nil)))))))), ?_⟩
  have M0 := M

  obtain ⟨hal, hW, htr, htw, nsp, hsp, htb, hq, hgo⟩ := M
  obtain ⟨ev, hw, _⟩ := hW.obj
  obtain ⟨dsp, sp1, a1, fr1⟩ := id hsp

  cases t with
  | ifr e ba bb =>
    obtain ⟨p, dx, y, z, x, ys, zs, rfl, o1, _⟩ := trO_inj_if htr
    have o2 := hW.ext _ _ o1 (fun _ z => by cases z)
    refine ⟨_, rfl, _, _, _, _, true, rfl, .own _, .base (.ins o2 T.cl_Choice T.ga_Choice T.g_n T.g_t T.gm_Choice), T.ki_Choice_Choice, _, rfl, iteT ?_⟩
    exact ⟨_, rfl, X.w, X.dw, _, rfl, hw, rfl, _, rfl, _, rfl, X, W, st, sp, a, fr, _, adr, frame, deep, k, .ifr e ba bb, b, st1, rfl, trivial, M0, q⟩
  | leaf rt =>
  have hrow := trO_leaf htr
  have hsup := trW_leaf htw
  cases rt with
  | skip | put a b | ask b w e | draw b w | ifr e | loop e | give e => exact hsup.elim
  | set bx e =>
    obtain ⟨p, dx, x, rfl, o1, _⟩ := id hrow
    have o2 := hW.ext _ _ o1 (fun _ z => by cases z)
    have hgo : some (goMo st (moW W.params st.held adr frame deep noBack (.set bx e))) = some (b, st1) := hgo
    refine ⟨_, rfl, _, _, _, _, false, rfl, .own _, .base (.ins o2 T.cl_Set T.ga_Set T.g_n T.g_t T.gm_Set), T.ki_Set_Choice, _, rfl, iteF ?_⟩
    refine ⟨_, rfl, _, _, _, _, false, rfl, .own _, .base (.ins o2 T.cl_Set T.ga_Set T.g_n T.g_t T.gm_Set), T.ki_Set_Loop, _, rfl, iteF ?_⟩
    refine ⟨_, rfl, _, _, _, _, false, rfl, .own _, .base (.ins o2 T.cl_Set T.ga_Set T.g_n T.g_t T.gm_Set), T.ki_Set_Call, _, rfl, iteF ?_⟩
    refine ⟨_, rfl, X.w, X.dw, _, rfl, hw, rfl, _, rfl, _, rfl, X, W, st, sp, a, fr, _, .non, adr, frame, deep, k, .set bx e, noBack, rfl, ⟨hW, hrow, (sup_ok5 hsup).1, hsp, .inl ⟨rfl, fun e z => by cases z⟩, htb, hq⟩, fun H1 hW1 k1 => ?_⟩
    rw [Option.some.inj hgo] at hW1 ⊢
    exact q H1 hW1 k1
  | tell e =>
    obtain ⟨p, dx, x, rfl, o1, _⟩ := id hrow
    have o2 := hW.ext _ _ o1 (fun _ z => by cases z)
    have hgo : some (goMo st (moW W.params st.held adr frame deep noBack (.tell e))) = some (b, st1) := hgo
    refine ⟨_, rfl, _, _, _, _, false, rfl, .own _, .base (.ins o2 T.cl_Tell T.ga_Tell T.g_n T.g_t T.gm_Tell), T.ki_Tell_Choice, _, rfl, iteF ?_⟩
    refine ⟨_, rfl, _, _, _, _, false, rfl, .own _, .base (.ins o2 T.cl_Tell T.ga_Tell T.g_n T.g_t T.gm_Tell), T.ki_Tell_Loop, _, rfl, iteF ?_⟩
    refine ⟨_, rfl, _, _, _, _, false, rfl, .own _, .base (.ins o2 T.cl_Tell T.ga_Tell T.g_n T.g_t T.gm_Tell), T.ki_Tell_Call, _, rfl, iteF ?_⟩
    refine ⟨_, rfl, X.w, X.dw, _, rfl, hw, rfl, _, rfl, _, rfl, X, W, st, sp, a, fr, _, .non, adr, frame, deep, k, .tell e, noBack, rfl, ⟨hW, hrow, (sup_ok5 hsup).1, hsp, .inl ⟨rfl, fun e z => by cases z⟩, htb, hq⟩, fun H1 hW1 k1 => ?_⟩
    rw [Option.some.inj hgo] at hW1 ⊢
    exact q H1 hW1 k1
  | call bx fn es =>
    obtain ⟨p, dx, lg, og, rfl, o1, _⟩ := id hrow
    have o2 := hW.ext _ _ o1 (fun _ z => by cases z)
    refine ⟨_, rfl, _, _, _, _, false, rfl, .own _, .base (.ins o2 T.cl_Call T.ga_Call T.g_n T.g_t T.gm_Call), T.ki_Call_Choice, _, rfl, iteF ?_⟩
    refine ⟨_, rfl, _, _, _, _, false, rfl, .own _, .base (.ins o2 T.cl_Call T.ga_Call T.g_n T.g_t T.gm_Call), T.ki_Call_Loop, _, rfl, iteF ?_⟩
    refine ⟨_, rfl, _, _, _, _, true, rfl, .own _, .base (.ins o2 T.cl_Call T.ga_Call T.g_n T.g_t T.gm_Call), T.ki_Call_Call, _, rfl, iteT ?_⟩
    exact ⟨_, rfl, X.w, X.dw, _, rfl, hw, rfl, _, rfl, _, rfl, X, W, st, sp, a, fr, _, adr, frame, deep, k, .leaf (.call bx fn es), b, st1, rfl, trivial, M0, q⟩

end
end K24
namespace K24
open PySem L2 TL
section
variable {P : Program} {w : World} {K : PySem.W.Frag} {mg : Str → Option Value} {base : Heap} {A : Ads}
theorem ok_Walker_go_block (T : Txt K mg A) (B : Cod base mg A) : ∀ n : Nat, FnOk P w K mg base CX0 (3 * n + 22) A.Walker_go_block A.Walker_go_block_d ["self", "rows", "address", "frame", "deep"] (spGoBlock P w A n)
| 0 => fn_none fun vs H Q E h => by
    obtain ⟨_, _, _, _, _, _, _, _, _, _, _, _, _, _, _, _, _, _, _, _, _, _, _, hw, _⟩ := h; cases hw
| n + 1 => by
  have G_Walker_go_block := ok_Walker_go_block T B n
  have G_Spot_init := ok_Spot_init (P := P) (w := w) (base := base) T
  have G_Walker_go_choice := ok_Walker_go_choice (P := P) (w := w) (base := base) T B G_Walker_go_block
  have G_Walker_go_call := ok_Walker_go_call (P := P) (w := w) (base := base) T B G_Walker_go_block
  have G_Walker_go_row := ok_Walker_go_row (P := P) (w := w) (base := base) T B G_Walker_go_choice G_Walker_go_call
  refine T.F_Walker_go_block.ok sc_Walker_go_block (fun vs H Q E h => ?_) (fun cdv A0 outer s H vs Q E hr h => ?_)
  · obtain ⟨X, W, st, l, a, fr, os, bs, adr, frame, deep, b, st1, rfl, hW, hos, hbs, hbw, hal, ha, hfr, htb, hq, hw, q⟩ := h
    rfl
  obtain ⟨X, W, st, l, a, fr, os, bs, adr, frame, deep, b, st1, rfl, hW, hos, hbs, hbw, hal, ha, hfr, htb, hq, hw, q⟩ := h
  refine ⟨_, (pss_cons (ps_for PassesOwn.never rfl (pi_list (pv 1)) (pg_name (i := 5) sc_Walker_go_block.nd rfl (Or.inl rfl))
    (pss_one (ps_if (pt_not (pt_val (pe_meth (pv 0) T.cl_Walker T.me_Walker_go_row G_Walker_go_row (hr.mono (by omega)) T.b_Walker_go_row .nil pass0 (pa_cons (pv 5) (pa_cons (pe_make T.k_Spot G_Spot_init (hr.mono (by omega)) rfl T.m_Spot T.bd_Spot_init.choose_spec.2 T.bd_Spot_init.choose_spec.1 pass0 (pa_cons (pe_op op_catA (pv 2) (pe_tup (pa_cons (pe_fld (pv 5) rfl) pa_nil))) (pa_cons (pv 3) (pa_cons (pv 4) pa_nil)))) pa_nil)))))
    (pss_one (ps_ret pe_bl))
    pss_nil)))
   (pss_one (ps_ret pe_bl))), ?_⟩
  have hw : rowsW (fun k t st => rowW W (walkW W n) (adr ++ [(k : Int)]) frame deep t st) bs st = some (b, st1) := hw
  have hbl := blkO_len hbs
  obtain ⟨⟨_, _, _, ww1⟩, _, _⟩ := hW.w3
  refine ⟨_, rfl, l, rfl, ⟨_, SqL.of (hW.ext _ _ hos (fun _ z => by cases z))⟩, for_list (xs := os) (fun i σ H' => ∃ (z : Option V) (st2 : WS), σ = [some (.ref X.w), some (.ref l), some (.ref a), some (.ref fr), some (.int (deep : Int)), z] ∧ WkO P w A X W st2 H' ∧ KpX (WkL X) H H' ∧ rowsW (fun k t st => rowW W (walkW W n) (adr ++ [(k : Int)]) frame deep t st) (bs.drop i) st2 = some (b, st1)) ⟨none, st, rfl, hW, KpX.refl _ _, hw⟩ ?_ ?_ ?_⟩
  · rintro i σ H' _ ⟨z, st2, rfl, hW', _⟩
    exact SqL.of (hW'.ext _ _ hos (fun _ z => by cases z))
  · rintro i x σ H' hx ⟨z, st2, rfl, hW', k', hr⟩
    obtain ⟨k, t, hbk, htr⟩ := blkO_at hbs hx
    rw [drop_at hbk] at hr
    obtain ⟨p, dx, fs, rfl, o1, _, o3⟩ := htr.row.at
    have o2 := hW'.ext _ _ o1 (fun _ z => by cases z)
    obtain ⟨ev, hw', _⟩ := hW'.obj
    have tk := hW.tup k'
    refine ⟨_, rfl, X.w, X.dw, _, rfl, hw', rfl, _, rfl, _, rfl, _, rfl, p, _, dx, _, _, rfl, o2, (rc_cls T t.rt).1, (rc_cls T t.rt).2, o3, by show 1 ≤ sizeLine; decide, fun t0 ht0 => ?_⟩
    have s0 := same_new (o := .tup [.int ((k : Nat) : Int)]) ht0
    refine catA1 (xs := adr) (n := (k : Int)) (s0 _ _ (tk _ _ ha)) upd_same (by omega) fun t2 H2 s2 ht2 => ?_
    refine ⟨_, rfl, _, rfl, fun y dy hy hdy _ => ⟨y, dy, _, _, _, _, rfl, upd_same, rfl, ?_⟩⟩
    have s3 : Same H2 (upd (upd (upd H2 dy (.own y)) y (.ins A.Spot dy [])) y (.ins A.Spot dy [("address", .ref t2), ("frame", .ref fr), ("deep", .int (deep : Int)), ("back", .non)])) := made_same hy hdy
    have s03 := (s0.trans s2).trans s3
    have hr : (match rowW W (walkW W n) (adr ++ [(k : Int)]) frame deep t st2 with
      | none => none
      | some (false, st1) => some (false, st1)
      | some (true, st1) => rowsW (fun k t st => rowW W (walkW W n) (adr ++ [(k : Int)]) frame deep t st) (bs.drop (i + 1)) st1) = some (b, st1) := hr
    cases hg : rowW W (walkW W n) (adr ++ [(k : Int)]) frame deep t st2 with
    | none => rw [hg] at hr; cases hr
    | some r =>
    obtain ⟨rb, st3⟩ := r
    rw [hg] at hr
    have nyw : y ≠ X.w := fun e => by
      have := s2 _ _ (s0 _ _ hw')
      rw [← e, hy] at this; cases this
    refine ⟨X, W, st2, y, t2, fr, _, adr ++ [(k : Int)], frame, deep, k, t, rb, st3, rfl, trivial, ⟨by rw [List.length_append, List.length_singleton]; omega, hW'.same s03, htr, blkW_at hbw hbk, nyw, ⟨dy, upd_same, s3 _ _ ht2, s03 _ _ (tk _ _ hfr)⟩, htb, hq, hg⟩, fun H3 hW3 k3 => ?_⟩
    have k03 := k'.trans ((KpX.of s03).trans k3)
    cases rb with
    | false =>
      cases hr
      exact ⟨_, rfl, iteT (q H3 hW3 k03)⟩
    | true => exact ⟨_, rfl, iteF ⟨_, st3, rfl, hW3, k03, hr⟩⟩
  · rintro σ H' ⟨z, st2, rfl, hW', k', hr⟩
    rw [← hbl, List.drop_length] at hr
    cases hr
    exact q H' hW' k'

end
end K24
namespace K24
open PySem L2 TL
section
variable {P : Program} {w : World} {K : PySem.W.Frag} {mg : Str → Option Value} {base : Heap} {A : Ads}
theorem ok_Walker_init (T : Txt K mg A) : FnOk P w K mg base CX0 1 A.Walker_init A.Walker_init_d ["self", "setting"] (spWkInit P w A) := by
  refine T.F_Walker_init.ok sc_Walker_init (fun vs H Q E h => ?_) (fun cdv A0 outer s H vs Q E hr h => ?_)
  · obtain ⟨p, dx, s, rfl, hp, q⟩ := h
    rfl
  obtain ⟨p, dx, s, rfl, hp, q⟩ := h
  refine ⟨_, (pss_cons (ps_fld (pv 0) (pv 1) rfl)
   (pss_cons (ps_fld (pv 0) ND.pe_dnewN rfl)
   (pss_cons (ps_fld (pv 0) (pe_lst pa_nil) rfl)
   (pss_one (ps_fld (pv 0) pe_non rfl))))), ?_⟩
  refine ⟨_, rfl, _, rfl, p, A.Walker, dx, _, rfl, hp, T.cl_Walker, T.n_Walker_setting, (by show 0 < 1000; decide), ?_⟩
  have p1 : upd H p (.ins A.Walker dx [("setting", .ref s)]) p = some (.ins A.Walker dx [("setting", .ref s)]) := upd_same
  have k1 : KpX [p] H (upd H p (.ins A.Walker dx [("setting", .ref s)])) := KpX.putA (List.mem_singleton.mpr rfl)
  have t1 : ∀ TT, NdefX.TabsN TT H → NdefX.TabsN TT (upd H p (.ins A.Walker dx [("setting", .ref s)])) := fun TT t => tabs_ins t hp
  have n1 : ∀ b, upd H p (.ins A.Walker dx [("setting", .ref s)]) b = none → H b = none := fun b h => NdefX.upd_none h
  show ∀ p H', _
  generalize hG : upd H p _ = H1
  have hG' : upd H p (.ins A.Walker dx [("setting", .ref s)]) = H1 := hG
  rw [hG'] at p1 k1 t1 n1
  clear hG hG'
  intro hd H2 hhd hφ hnd
  obtain ⟨φ, hφ⟩ := hφ
  have s2 : Same H1 H2 := by rw [hφ]; exact same_new hhd
  have p2 := s2 _ _ p1
  have nhd := n1 _ hhd
  have npd : p ≠ hd := ne_of_none p1 hhd
  refine ⟨_, rfl, p, A.Walker, dx, _, rfl, p2, T.cl_Walker, T.n_Walker_held, (by show 1 < 1000; decide), ?_⟩
  have p3 : upd H2 p (.ins A.Walker dx [("setting", .ref s), ("held", .ref hd)]) p = some (.ins A.Walker dx [("setting", .ref s), ("held", .ref hd)]) := upd_same
  have k3 : KpX [p] H (upd H2 p (.ins A.Walker dx [("setting", .ref s), ("held", .ref hd)])) := (k1.trans (KpX.of s2)).trans (KpX.putA (List.mem_singleton.mpr rfl))
  have t3 : ∀ TT, NdefX.TabsN TT H → NdefX.TabsN TT (upd H2 p (.ins A.Walker dx [("setting", .ref s), ("held", .ref hd)])) := fun TT t => tabs_ins (NdefX.TabsN.ext (t1 TT t) s2) p2
  have d3 : ND.NDict P w (upd H2 p (.ins A.Walker dx [("setting", .ref s), ("held", .ref hd)])) hd [] := hnd.keep (upd_ne npd.symm) (tupK_upd p2 (fun xs z => by cases z))
  have n3 : ∀ b, upd H2 p (.ins A.Walker dx [("setting", .ref s), ("held", .ref hd)]) b = none → H b = none := fun b h => n1 b (by
    have h := NdefX.upd_none h
    rw [hφ] at h
    exact NdefX.upd_none h)
  show 0 ≤ sizeLine ∧ _
  generalize hG : upd H2 p _ = H3
  have hG' : upd H2 p (.ins A.Walker dx [("setting", .ref s), ("held", .ref hd)]) = H3 := hG
  rw [hG'] at p3 k3 t3 d3 n3
  clear hG hG'
  refine ⟨by decide, fun kp hkp => ?_⟩
  have s4 := same_new (o := .lst []) hkp
  have nkp := n3 _ hkp
  have npk : p ≠ kp := ne_of_none p3 hkp
  have ndk : hd ≠ kp := fun e => by
    obtain ⟨φ3, h3⟩ := nd_has d3
    rw [e, hkp] at h3; cases h3
  refine ⟨_, rfl, p, A.Walker, dx, _, rfl, s4 _ _ p3, T.cl_Walker, T.n_Walker_kept, (by show 2 < 1000; decide), ?_⟩
  refine ⟨_, rfl, p, A.Walker, dx, _, rfl, upd_same, T.cl_Walker, T.n_Walker_ended, (by show 3 < 1000; decide), ?_⟩
  rw [upd_upd]
  have d4 := d3.keep (s4 _ _ (nd_has d3).choose_spec |>.trans (nd_has d3).choose_spec.symm) (tupK_same s4)
  refine q hd kp _ nhd nkp ndk ((k3.trans (KpX.of s4)).trans (KpX.putA (List.mem_singleton.mpr rfl))) (fun TT t => tabs_ins (NdefX.TabsN.ext (t3 TT t) s4) (s4 _ _ p3)) upd_same (d4.keep (upd_ne npd.symm) (tupK_upd (s4 _ _ p3) (fun xs z => by cases z))) ?_
  rw [upd_ne npk.symm]
  exact upd_same

end
end K24
namespace K24
open PySem L2 TL
section
variable {P : Program} {w : World} {K : PySem.W.Frag} {mg : Str → Option Value} {base : Heap} {A : Ads}
theorem ok_Walker_walk (T : Txt K mg A) (B : Cod base mg A) : FnOk P w K mg base CX0 83 A.Walker_walk A.Walker_walk_d ["self"] (spWalk P w A) := by
  have G_Walker_go_block := ok_Walker_go_block (P := P) (w := w) (base := base) T B 20
  refine T.F_Walker_walk.ok sc_Walker_walk (fun vs H Q E h => ?_) (fun cdv A0 outer s H vs Q E hr h => ?_)
  · obtain ⟨X, W, st0, mb, ml, mos, b, st, rfl, hW, hm, hml, hbo, hbw, htb, hq, hw, q⟩ := h
    rfl
  obtain ⟨X, W, st0, mb, ml, mos, b, st, rfl, hW, hm, hml, hbo, hbw, htb, hq, hw, q⟩ := h
  refine ⟨_, (pss_one (ps_if (pt_val (pe_meth (pv 0) T.cl_Walker T.me_Walker_go_block G_Walker_go_block (hr.mono (by decide)) T.b_Walker_go_block .nil pass0 (pa_cons (pe_fld (pe_fld (pe_fld (pv 0) rfl) rfl) rfl) (pa_cons (pe_tup pa_nil) (pa_cons (pe_tup pa_nil) (pa_cons pe_int pa_nil))))))
    (pss_one (ps_fld (pv 0) (pe_tup (pa_cons pe_str pa_nil)) rfl))
    pss_nil)), ?_⟩
  obtain ⟨ev, hw', _⟩ := hW.obj
  have hsta := hW.sta
  have o : ∀ {b u}, X.H0 b = some u → (∀ ps, u ≠ .tbl ps) → H b = some u := fun {b u} h n => hW.ext b u h n
  have st1 := o hsta.st (fun _ z => by cases z)
  have pr1 := o hsta.pr (fun _ z => by cases z)
  refine ⟨_, rfl, X.w, X.dw, _, rfl, hw', rfl, _, rfl, X.w, A.Walker, X.dw, _, _, rfl, hw', T.cl_Walker, T.n_Walker_setting, rfl, X.s, A.Setting, X.ds, _, _, rfl, st1, T.cl_Setting, T.n_Setting_program, rfl, X.pr, A.Program, X.dp, _, _, rfl, pr1, T.cl_Program, T.n_Program_main, rfl, by show 0 ≤ sizeLine; decide, fun t0 ht0 => ?_⟩
  have s0 := same_new (o := .tup []) ht0
  refine ⟨by show 0 ≤ sizeLine; decide, fun t1 ht1 => ?_⟩
  have s1 := same_new (o := .tup []) ht1
  refine ⟨X, W, st0, ml, t0, t1, mos, mb, [], [], 0, b, st, ?_, (hW.same s0).same s1, hml, hbo, hbw, by decide, s1 _ _ upd_same, upd_same, htb, hq, hw, fun H2 hW2 k2 => ?_⟩
  · rw [hm]; rfl
  have k02 : KpX (WkL X) H H2 := (KpX.of (s0.trans s1)).trans k2
  cases b with
  | false => exact ⟨_, rfl, iteF (q H2 hW2 k02)⟩
  | true =>
    refine ⟨_, rfl, iteT ?_⟩
    obtain ⟨ev2, hw2, _⟩ := hW2.obj
    refine ⟨by show 1 ≤ sizeLine; decide, fun t ht => ?_⟩
    have s3 := same_new (o := .tup [.str "ended"]) ht
    refine ⟨_, rfl, X.w, A.Walker, X.dw, _, rfl, s3 _ _ hw2, T.cl_Walker, T.n_Walker_ended, (by show 4 < 1000; decide), ?_⟩
    obtain ⟨g1, g2⟩ := (hW2.same s3).setEnd (e := some .ended) (ev := .ref t) ⟨t, rfl, upd_same⟩
    exact q _ g1 (k02.trans ((KpX.of s3).trans g2))

end
end K24
namespace K24
open PySem L2 TL
section
variable {P : Program} {w : World} {K : PySem.W.Frag} {mg : Str → Option Value} {base : Heap} {A : Ads}
theorem ok_Run_init (T : Txt K mg A) : FnOk P w K mg base CX0 1 A.Run_init A.Run_init_d ["self", "setting", "kept", "ended"] (spRunInit A) := by
  refine T.F_Run_init.ok sc_Run_init (fun vs H Q E h => ?_) (fun cdv A0 outer s H vs Q E hr h => ?_)
  · obtain ⟨p, dx, s, l, evq, ms, mvs, wa, Hs, rfl, hp, hnp, hex, hl, hms, hn, q⟩ := h
    rfl
  obtain ⟨p, dx, s, l, evq, ms, mvs, wa, Hs, rfl, hp, hnp, hex, hl, hms, hn, q⟩ := h
  refine ⟨_, (pss_cons (ps_fld (pv 0) (pv 1) rfl)
   (pss_cons (ps_fld (pv 0) (pv 2) rfl)
   (pss_cons (ps_fld (pv 0) (pv 3) rfl)
   (pss_cons (ps_fld (pv 0) ND.pe_dnewN rfl)
   (pss_one (ps_for PassesOwn.never rfl (pi_enum (by rfl) T.z_enumerate (pa_cons (pv 2) pa_nil)) (pg_tup (by rfl) (pgs_cons (pg_name (i := 4) sc_Run_init.nd rfl (Or.inl rfl)) (pgs_cons (pg_name (i := 5) sc_Run_init.nd rfl (Or.inl rfl)) pgs_nil)))
    (pss_one (ND.ps_dputN hr.units (pe_fld (pv 0) rfl) (pe_fld (pv 5) rfl) (pv 4) rfl)))))))), ?_⟩
  have npl : ∀ {b o}, Hs b = some o → (∀ ps, o ≠ .tbl ps) → b ≠ p := fun h n => newT_ne hnp h n
  refine ⟨_, rfl, _, rfl, p, A.Run, dx, _, rfl, hp, T.cl_Run, T.n_Run_setting, (by show 0 < 1000; decide), ?_⟩
  refine ⟨_, rfl, _, rfl, p, A.Run, dx, _, rfl, upd_same, T.cl_Run, T.n_Run_kept, (by show 1 < 1000; decide), ?_⟩
  rw [upd_upd]
  refine ⟨_, rfl, _, rfl, p, A.Run, dx, _, rfl, upd_same, T.cl_Run, T.n_Run_ended, (by show 2 < 1000; decide), ?_⟩
  rw [upd_upd]
  have p1 : upd H p (.ins A.Run dx [("setting", .ref s), ("kept", .ref l), ("ended", evq)]) p = some (.ins A.Run dx [("setting", .ref s), ("kept", .ref l), ("ended", evq)]) := upd_same
  have k1 : KpX [p] H (upd H p (.ins A.Run dx [("setting", .ref s), ("kept", .ref l), ("ended", evq)])) := KpX.putA (List.mem_singleton.mpr rfl)
  have t1 : ∀ TT, NdefX.TabsN TT H → NdefX.TabsN TT (upd H p (.ins A.Run dx [("setting", .ref s), ("kept", .ref l), ("ended", evq)])) := fun TT t => tabs_ins t hp
  have n1 : ∀ b, upd H p (.ins A.Run dx [("setting", .ref s), ("kept", .ref l), ("ended", evq)]) b = none → H b = none := fun b h => NdefX.upd_none h
  show ∀ p H', _
  generalize hG : upd H p _ = H1
  have hG' : upd H p (.ins A.Run dx [("setting", .ref s), ("kept", .ref l), ("ended", evq)]) = H1 := hG
  rw [hG'] at p1 k1 t1 n1
  clear hG hG'
  intro bd H2 hbd hφ hnd
  obtain ⟨φ, hφ⟩ := hφ
  have s2 : Same H1 H2 := by rw [hφ]; exact same_new hbd
  have p2 := s2 _ _ p1
  have nbd := n1 _ hbd
  have npd : p ≠ bd := ne_of_none p1 hbd
  refine ⟨_, rfl, p, A.Run, dx, _, rfl, p2, T.cl_Run, T.n_Run_by_address, (by show 3 < 1000; decide), ?_⟩
  have p3 : upd H2 p (.ins A.Run dx [("setting", .ref s), ("kept", .ref l), ("ended", evq), ("by_address", .ref bd)]) p = some (.ins A.Run dx [("setting", .ref s), ("kept", .ref l), ("ended", evq), ("by_address", .ref bd)]) := upd_same
  have k3 : KpX [p] H (upd H2 p (.ins A.Run dx [("setting", .ref s), ("kept", .ref l), ("ended", evq), ("by_address", .ref bd)])) := (k1.trans (KpX.of s2)).trans (KpX.putA (List.mem_singleton.mpr rfl))
  have t3 : ∀ TT, NdefX.TabsN TT H → NdefX.TabsN TT (upd H2 p (.ins A.Run dx [("setting", .ref s), ("kept", .ref l), ("ended", evq), ("by_address", .ref bd)])) := fun TT t => tabs_ins (NdefX.TabsN.ext (t1 TT t) s2) p2
  have d3 : ND.NDict P w (upd H2 p (.ins A.Run dx [("setting", .ref s), ("kept", .ref l), ("ended", evq), ("by_address", .ref bd)])) bd [] := hnd.keep (upd_ne npd.symm) (tupK_upd p2 (fun xs z => by cases z))
  have hnb : NewT Hs bd := newT_of hex (newT_none nbd)
  have hml := hms.length
  generalize hG : upd H2 p _ = H3
  have hG' : upd H2 p (.ins A.Run dx [("setting", .ref s), ("kept", .ref l), ("ended", evq), ("by_address", .ref bd)]) = H3 := hG
  rw [hG'] at p3 k3 t3 d3
  clear hG hG'
  have e3 : LamX.ExtN Hs H3 := k3.ext (fun a h => by rw [List.mem_singleton.mp h]; exact hnp) hex
  refine ⟨_, rfl, l, _, rfl, SqL.of (e3 _ _ hl (fun _ z => by cases z)), for_it (walk_enum (xs := mvs)) (fun i σ H' => ∃ (y z : Option V) (kvs : List (NestedKey × V)), σ = [some (.ref p), some (.ref s), some (.ref l), some evq, y, z] ∧ KpX [bd] H3 H' ∧ (∀ TT, NdefX.TabsN TT H3 → NdefX.TabsN TT H') ∧ ND.NDict P w H' bd kvs ∧ kvs.length ≤ i) ⟨none, none, [], rfl, KpX.refl _ _, fun _ h => h, d3, Nat.le_refl _⟩ ?_ ?_ ?_⟩
  · rintro i σ H' _ ⟨y, z, kvs, rfl, k4, _⟩
    exact SqL.of ((k4.ext (fun a h => by rw [List.mem_singleton.mp h]; exact hnb) e3) _ _ hl (fun _ z => by cases z))
  · rintro i v σ H4 H5 hi ⟨y, z, kvs, rfl, k4, t4, d4, hkl⟩ ⟨t, x, u, rfl, ht, rfl, hx, hu⟩
    cases hx
    obtain ⟨m, hm, pm, dm, am, nl, r, kk, rs, ks, rfl, m2, m3, m4, _⟩ := all2_at hms hu
    have s5 := same_new (o := .tup [.int ((i : Nat) : Int), .ref pm]) ht
    have e4 := k4.ext (fun a h => by rw [List.mem_singleton.mp h]; exact hnb) e3
    have e5 := e4.trans (LamX.ExtN.of s5)
    have pm5 := e5 _ _ m3 (fun _ z => by cases z)
    have am5 := e5 _ _ m4 (fun _ z => by cases z)
    have d5 := d4.keep (s5 _ _ (nd_has d4).choose_spec |>.trans (nd_has d4).choose_spec.symm) (tupK_same s5)
    have p5 := s5 _ _ (k4 _ _ (fun h => npd (List.mem_singleton.mp h)) p3 (fun _ z => by cases z))
    refine ⟨t, _, rfl, SqT.of upd_same, rfl, _, _, rfl, _, _, rfl, rfl, ?_⟩
    refine ⟨_, rfl, _, rfl, p, A.Run, dx, _, _, rfl, p5, T.cl_Run, T.n_Run_by_address, rfl, _, rfl, pm, A.Moment, dm, _, _, rfl, pm5, T.cl_Moment, T.n_Moment_address, rfl, bd, am, .tup (m.adr.map .num), kvs, rfl, rfl, .tup am5 (nks_int _ m.adr), ?_, d5, ?_, fun hco H6 hφ6 kt6 hD6 => ?_⟩
    · have := depthAll_num m.adr
      simp only [NestedKey.depth]
      omega
    · exact Nat.lt_of_le_of_lt (show kvs.length ≤ 60 by have hi : i < mvs.length := hi; omega) (by decide)
    obtain ⟨φ6, hφ6⟩ := hφ6
    refine ⟨_, _, _, rfl, (k4.trans (KpX.of s5)).trans (by rw [hφ6]; exact KpX.putA (List.mem_singleton.mpr rfl)), fun TT h => ?_, hD6, ?_⟩
    · rw [hφ6]
      exact tabs_upd (NdefX.TabsN.ext (t4 TT h) s5) (fun ps z => by rw [(nd_has d5).choose_spec] at z; cases z) hco
    · have := length_putK kvs (NestedKey.tup (m.adr.map .num)) (V.int ((i : Nat) : Int))
      omega
  · rintro σ H' ⟨y, z, kvs, rfl, k4, t4, _⟩
    refine q (.ref bd) H' (fun b o n h t => ?_) (fun TT h => t4 TT (t3 TT h)) (k4 _ _ (fun h => npd (List.mem_singleton.mp h)) p3 (fun _ z => by cases z))
    have h3 := k3 b o n h t
    exact k4 b o (fun hm => by rw [List.mem_singleton.mp hm, nbd] at h; cases h) h3 t

end
end K24
namespace K24
open PySem L2 TL
section
variable {P : Program} {w : World} {K : PySem.W.Frag} {mg : Str → Option Value} {base : Heap} {A : Ads}
theorem ok_Run_moments (T : Txt K mg A) : FnOk P w K mg base CX0 2 A.Run_moments A.Run_moments_d ["self"] (spRMoments A K) := by
  have G_Moment_told := ok_Moment_told (P := P) (w := w) (base := base) T
  refine T.F_Run_moments.ok sc_Run_moments (fun vs H Q E h => ?_) (fun cdv A0 outer s H vs Q E hr h => ?_)
  · obtain ⟨R, st, rfl, hR, hk, q⟩ := h
    rfl
  obtain ⟨R, st, rfl, hR, hk, q⟩ := h
  refine ⟨_, (pss_one (ps_ret (pe_lc (own := [("moment", 1)]) (g := gName 1) (tt := tYes) rfl sc_Run_moments.nd (pi_list (pe_fld (pv 0) rfl)) (blkOk_by (own := [("moment", 1)]) (N := N_Run_moments) (sc := defScope s_Run_moments) (by decide +kernel)) (fun _ _ _ _ _ => pg_name (i := 1) sc_Run_moments.nd rfl (Or.inl rfl)) (fun _ _ _ _ _ => pts_nil) (fun _ _ _ _ _ => (pe_meth0 (pv 1) T.cl_Moment T.me_Moment_told G_Moment_told (hr.mono (by decide)) T.b_Moment_told .nil pass0))))), ?_⟩
  obtain ⟨dx, s, kp, ev, by_, wa, ms, h1, h2, h3, h4⟩ := hR.obj
  have hml := h3.length
  refine ⟨_, rfl, R, A.Run, dx, _, _, rfl, h1, T.cl_Run, T.n_Run_kept, rfl, kp, rfl, ⟨_, SqL.of h2⟩, fun D hD => lc_rel st.kept (fun H' m y => MoTD D H' m y) h3 (fun _ _ _ _ s h => h.same s) (fun _ _ _ _ _ h g => h.put g) walk_list hD (by exact Nat.lt_of_le_of_lt (show st.kept.length ≤ 60 from hk) (by decide)) (by show 1 < 2; decide) (fun H' s' => SqL.of (s' _ _ h2)) ?_ ?_⟩
  · rintro m x hm hx ⟨p, dm, a, nl, r, k, rs, ks, rfl, z2, z3, z4, z5, z6, z7, z8, z9, z10⟩ H' Z s' ⟨ys, hDl⟩ z
    refine ⟨_, rfl, p, dm, _, rfl, s' _ _ z3, rfl, p, dm, m, a, nl, r, k, rs, ks, rfl, s' _ _ z3, s' _ _ z6, s' _ _ z9, fun t r' k' H2 s2 hr' hk' r2 k2 t2 => z H2 _ s2 ⟨t, a, r', k', rs, ks, rfl, t2, s2 _ _ (s' _ _ z4), r2, (fun e => by rw [e, hDl] at hr'; cases hr'), prs_keep (tupK_same (s'.trans s2)) z7, k2, (fun e => by rw [e, hDl] at hk'; cases hk'), prs_keep (tupK_same (s'.trans s2)) z10⟩⟩
  · intro H' ys s' all hDl
    exact q D ys H' s' hDl (all.mono fun m v h => h.out)

end
end K24
namespace K24
open PySem L2 TL
section
variable {P : Program} {w : World} {K : PySem.W.Frag} {mg : Str → Option Value} {base : Heap} {A : Ads}
theorem ok_Run_end (T : Txt K mg A) : FnOk P w K mg base CX0 1 A.Run_end A.Run_end_d ["self"] (spREnd A) := by
  refine T.F_Run_end.ok sc_Run_end (fun vs H Q E h => ?_) (fun cdv A0 outer s H vs Q E hr h => ?_)
  · obtain ⟨R, st, rfl, hR, q⟩ := h
    rfl
  obtain ⟨R, st, rfl, hR, q⟩ := h
  refine ⟨_, (pss_one (ps_ret (pe_fld (pv 0) rfl))), ?_⟩
  obtain ⟨dx, s, kp, ev, by_, wa, ms, h1, h2, h3, h4⟩ := hR.obj
  exact ⟨_, rfl, R, A.Run, dx, _, _, rfl, h1, T.cl_Run, T.n_Run_ended, rfl, q ev h4⟩

end
end K24
namespace K24
open PySem L2 TL
section
variable {P : Program} {w : World} {K : PySem.W.Frag} {mg : Str → Option Value} {base : Heap} {A : Ads}
theorem ok_Run_tells (T : Txt K mg A) : FnOk P w K mg base CX0 1 A.Run_tells A.Run_tells_d ["self"] (spRTells A) := by
  refine T.F_Run_tells.ok sc_Run_tells (fun vs H Q E h => ?_) (fun cdv A0 outer s H vs Q E hr h => ?_)
  · obtain ⟨R, st, rfl, hR, hk, q⟩ := h
    rfl
  obtain ⟨R, st, rfl, hR, hk, q⟩ := h
  refine ⟨_, (pss_one (ps_ret (pe_lc (own := [("moment", 1)]) (g := gName 1) rfl sc_Run_tells.nd (pi_list (pe_fld (pv 0) rfl)) (blkOk_by (own := [("moment", 1)]) (N := N_Run_tells) (sc := defScope s_Run_tells) (by decide +kernel)) (fun _ _ _ _ _ => pg_name (i := 1) sc_Run_tells.nd rfl (Or.inl rfl)) (fun _ _ _ _ _ => pts_one (pt_cmpR op_notN (pe_fldK K rfl (pv 1) rfl) pe_non (nomark _))) (fun _ _ _ _ _ => (pe_fldK K rfl (pv 1) rfl))))), ?_⟩
  obtain ⟨dx, s, kp, ev, by_, wa, ms, h1, h2, h3, h4⟩ := hR.obj
  have hml := h3.length
  refine ⟨_, rfl, R, A.Run, dx, _, _, rfl, h1, T.cl_Run, T.n_Run_kept, rfl, kp, rfl, ⟨_, SqL.of h2⟩, fun D hD => lc_it (walk_list (xs := ms)) (fun i H' => Same H H' ∧ H' D = some (.lst ((saidL (st.kept.take i)).map V.int)) ∧ (saidL (st.kept.take i)).length ≤ i) ⟨same_new hD, upd_same, Nat.le_refl _⟩ ?_ ?_ ?_⟩
  · rintro i H' _ ⟨s', _⟩
    exact SqL.of (s' _ _ h2)
  · rintro i x H1 H2 hi ⟨s', hd, hdl⟩ ⟨rfl, hx⟩
    obtain ⟨m, hm, p, dm, a, nl, r, k, rs, ks, rfl, z2, z3, _⟩ := all2_at h3 hx
    have m3 := s' _ _ z3
    have hsn := said_snoc hm
    refine ⟨rfl, _, rfl, p, A.Moment, dm, _, _, rfl, m3, T.cl_Moment, T.n_Moment_said, rfl, rfl, _, rfl, ?_⟩
    cases hs : m.said with
    | none =>
      rw [hs] at hsn
      refine iteNF rfl ⟨s', ?_, ?_⟩
      · rw [hsn]
        show _ = some (HO.lst ((saidL (st.kept.take i) ++ []).map V.int))
        rw [List.append_nil]; exact hd
      · rw [hsn]
        show (saidL (st.kept.take i) ++ []).length ≤ i + 1
        rw [List.append_nil]; omega
    | some n =>
      rw [hs] at hsn
      refine iteNT (fun z => by cases z) ?_
      refine ⟨_, rfl, p, A.Moment, dm, _, _, rfl, m3, T.cl_Moment, T.n_Moment_said, rfl, _, hd, ?_, ?_, ?_, ?_⟩
      · rw [List.length_map]
        exact Nat.lt_of_le_of_lt (show (saidL (st.kept.take i)).length ≤ 60 by have hi : i < ms.length := hi; omega) (by decide)
      · exact fun b o h => by rw [upd_ne (ne_of_none h hD)]; exact s' b o h
      · rw [hsn, upd_same, hs, List.map_append]; rfl
      · rw [hsn, List.length_append]
        show _ + 1 ≤ i + 1
        omega
  · rintro H' ⟨s', hd, _⟩
    rw [← hml, List.take_length] at hd
    exact q D H' s' hd

end
end K24
namespace K24
open PySem L2 TL
section
variable {P : Program} {w : World} {K : PySem.W.Frag} {mg : Str → Option Value} {base : Heap} {A : Ads}
theorem ok_is_given (T : Txt K mg A) : FnOk P w K mg base CX0 1 A.is_given A.is_given_d ["thing"] (fun _ _ _ _ => False) := fn_none fun _ _ _ _ h => h

end
end K24
namespace K24
open PySem L2 TL
section
variable {P : Program} {w : World} {K : PySem.W.Frag} {mg : Str → Option Value} {base : Heap} {A : Ads}
theorem ok_is_value (T : Txt K mg A) : FnOk P w K mg base CX0 1 A.is_value A.is_value_d ["thing"] (fun _ _ _ _ => False) := fn_none fun _ _ _ _ h => h

end
end K24
namespace K24
open PySem L2 TL
section
variable {P : Program} {w : World} {K : PySem.W.Frag} {mg : Str → Option Value} {base : Heap} {A : Ads}
theorem ok_Setting_init (T : Txt K mg A) : FnOk P w K mg base CX0 2 A.Setting_init A.Setting_init_d ["self", "program", "start", "bound", "forced"] (spSetI24 A) := by
  have G_is_given := ok_is_given (P := P) (w := w) (base := base) T
  have G_is_value := ok_is_value (P := P) (w := w) (base := base) T
  refine okD T.F_Setting_init sc_Setting_init (fun vs H Q E h => ?_) (fun cdv A0 outer s H vs Q E hr h => ?_)
  · obtain ⟨p, dx, g, pvv, rfl, hp, hg, q⟩ := h
    rfl
  obtain ⟨p, dx, g, pvv, rfl, hp, hg, q⟩ := h
  refine ⟨_, (pss_cons (ps_lock (ps_for PassesOwn.never rfl (pi_keys (pv 2)) (pg_name (i := 5) sc_Setting_init.nd rfl (Or.inl rfl))
    (pss_one (ps_if (pt_not (pt_val (pe_call G_is_given (hr.mono (by decide)) rfl T.m_is_given T.F_is_given.kp T.b_is_given .nil pass0 (pa_cons (pv 5) pa_nil))))
    (pss_one ps_never)
    pss_nil))))
   (pss_cons (ps_lock (ps_for PassesOwn.never rfl (KD.pi_valuesT (pv 2)) (pg_name (i := 6) sc_Setting_init.nd rfl (Or.inl rfl))
    (pss_one (ps_if (pt_not (pt_val (pe_call G_is_value (hr.mono (by decide)) rfl T.m_is_value T.F_is_value.kp T.b_is_value .nil pass0 (pa_cons (pv 6) pa_nil))))
    (pss_one ps_never)
    pss_nil))))
   (pss_cons (ps_fld (pv 0) (pv 1) rfl)
   (pss_cons (ps_fld (pv 0) (pv 3) rfl)
   (pss_cons (ps_fld (pv 0) (pe_callTy (KD.call_dictT hr.units) (by rfl) T.z_dict (by decide +kernel) (pa_cons (pv 2) pa_nil)) rfl)
   (pss_one (ps_fld (pv 0) (pe_ifExp (pt_cmpR op_isN (pv 4) pe_non (nomark _)) pe_dnewT (pe_callTy (KD.call_dictT hr.units) (by rfl) T.z_dict (by decide +kernel) (pa_cons (pv 4) pa_nil))) rfl))))))), ?_⟩
  have npg : g ≠ p := ne_of hg hp (by intro z; cases z)
  refine ⟨g, .dT [], hg, trivial, fun od => ⟨_, rfl, g, od, rfl, .inr ⟨[], upd_same, for_it (walk_keysT (kvs := [])) (fun i σ H' => ∃ z, σ = [some (.ref p), some pvv, some (.ref g), some (.int 60), some .non, z, none] ∧ H' = upd H g (.frz od (.dT []))) ⟨none, rfl, rfl⟩ (fun i σ H' _ h => by obtain ⟨_, _, e⟩ := h; rw [e]; exact upd_same) ?_ ?_⟩⟩⟩
  · rintro i x σ H1 H2 hi
    exact absurd hi (Nat.not_lt_zero _)
  rintro σ H1 ⟨z, rfl, rfl⟩
  refine ⟨upd_same, ?_⟩
  rw [upd_upd, upd_self hg]
  refine ⟨g, .dT [], hg, trivial, fun od => ⟨_, rfl, g, od, [], rfl, upd_same, for_it (KD.walk_valuesT (kvs := [])) (fun i σ H' => ∃ z2, σ = [some (.ref p), some pvv, some (.ref g), some (.int 60), some .non, z, z2] ∧ H' = upd H g (.frz od (.dT []))) ⟨none, rfl, rfl⟩ (fun i σ H' _ h => by obtain ⟨_, _, e⟩ := h; rw [e]; exact upd_same) ?_ ?_⟩⟩
  · rintro i x σ H1 H2 hi
    exact absurd hi (Nat.not_lt_zero _)
  rintro σ H1 ⟨z2, rfl, rfl⟩
  refine ⟨upd_same, ?_⟩
  rw [upd_upd, upd_self hg]
  refine ⟨_, rfl, _, rfl, p, A.Setting, dx, _, rfl, hp, T.cl_Setting, T.n_Setting_program, (by show 0 < 1000; decide), ?_⟩
  refine ⟨_, rfl, _, rfl, p, A.Setting, dx, _, rfl, upd_same, T.cl_Setting, T.n_Setting_bound, (by show 1 < 1000; decide), ?_⟩
  rw [upd_upd]
  have p1 : upd H p (.ins A.Setting dx [("program", pvv), ("bound", .int 60)]) p = some (.ins A.Setting dx [("program", pvv), ("bound", .int 60)]) := upd_same
  have k1 : KpX [p] H (upd H p (.ins A.Setting dx [("program", pvv), ("bound", .int 60)])) := KpX.putA (List.mem_singleton.mpr rfl)
  have t1 : ∀ TT, NdefX.TabsN TT H → NdefX.TabsN TT (upd H p (.ins A.Setting dx [("program", pvv), ("bound", .int 60)])) := fun TT t => tabs_ins t hp
  have g1 : upd H p (.ins A.Setting dx [("program", pvv), ("bound", .int 60)]) g = some (.dT []) := by rw [upd_ne npg]; exact hg
  generalize hG : upd H p _ = H1
  have hG' : upd H p (.ins A.Setting dx [("program", pvv), ("bound", .int 60)]) = H1 := hG
  rw [hG'] at p1 k1 t1 g1
  clear hG hG'
  refine ⟨_, rfl, g, [], rfl, .inl g1, by decide, fun g2 hg2 => ?_⟩
  have s2 := same_new (o := .dT []) hg2
  have n2 : p ≠ g2 := ne_of_none p1 hg2
  refine ⟨_, rfl, p, A.Setting, dx, _, rfl, (s2 _ _ p1), T.cl_Setting, T.n_Setting_given, (by show 2 < 1000; decide), ?_⟩
  refine ⟨_, rfl, rfl, _, rfl, iteDT rfl ?_⟩
  show ∀ o2, _
  intro o2 ho2
  have n3 : p ≠ o2 := ne_of_none upd_same ho2
  have s3 := same_new (o := .dT []) ho2
  refine ⟨_, rfl, p, A.Setting, dx, _, rfl, s3 _ _ upd_same, T.cl_Setting, T.n_Setting_goings, (by show 3 < 1000; decide), ?_⟩
  refine q g2 o2 _ ((((k1.trans (KpX.of s2)).trans (KpX.putA (List.mem_singleton.mpr rfl))).trans (KpX.of s3)).trans (KpX.putA (List.mem_singleton.mpr rfl))) (fun TT t => tabs_ins (NdefX.TabsN.ext (tabs_ins (NdefX.TabsN.ext (t1 TT t) s2) (s2 _ _ p1)) s3) (s3 _ _ upd_same)) upd_same ?_ ?_
  · rw [upd_ne n2.symm]
    refine s3 _ _ ?_
    rw [upd_ne n2.symm]
    exact upd_same
  · rw [upd_ne n3.symm]
    exact upd_same

/-! ### rows as the law writes them -/
def ExOk (e : Ex) : Prop := e.Wf ∧ e.depth ≤ 6 ∧ e.parts ≤ 15
def RT.pairs : RT → List (Str × List Str)
  | .skip => [("skip", ["skip"])]
  | .set b e => [("set", ["set"]), (b, [b]), (e.text, e.toks)]
  | .put a b => [("put", ["put"]), (a.text, a.toks), (b.text, b.toks)]
  | .ask b w e => [("ask", ["ask"]), (b, [b]), (w, [w]), (e.text, e.toks)]
  | .draw b w => [("draw", ["draw"]), (b, [b]), (w, [w])]
  | .tell e => [("tell", ["tell"]), (e.text, e.toks)]
  | .ifr e => [("if", ["if"]), (e.text, e.toks)]
  | .loop e => [("while", ["while"]), (e.text, e.toks)]
  | .call b f es => ("call", ["call"]) :: (b, [b]) :: (f, [f]) :: es.map fun e => (e.text, e.toks)
  | .give e => [("give", ["give"]), (e.text, e.toks)]
def RT.words (rt : RT) : List Str := rt.pairs.map Prod.fst
def RT.text (rt : RT) : Str := Txt.join (Str.ofString " ") rt.words
def RT.toks : RT → List Str
  | .skip => ["skip"]
  | .set b e => "set" :: b :: e.toks
  | .put a b => "put" :: (a.toks ++ b.toks)
  | .ask b w e => "ask" :: b :: w :: e.toks
  | .draw b w => ["draw", b, w]
  | .tell e => "tell" :: e.toks
  | .ifr e => "if" :: e.toks
  | .loop e => "while" :: e.toks
  | .call b f es => "call" :: b :: f :: es.flatMap Ex.toks
  | .give e => "give" :: e.toks
def RT.Ok : RT → Prop
  | .skip => True
  | .set b e => isNameW b = true ∧ ExOk e
  | .put a b => ExOk a ∧ ExOk b
  | .ask b w e => isNameW b = true ∧ isNameW w = true ∧ ExOk e
  | .draw b w => isNameW b = true ∧ isNameW w = true
  | .tell e => ExOk e
  | .ifr e => ExOk e
  | .loop e => ExOk e
  | .call b f es => isNameW b = true ∧ isNameW f = true ∧ (∀ e ∈ es, ExOk e) ∧ es.length ≤ 3
  | .give e => ExOk e
theorem joinL_app : ∀ (a b : List (List Nat)), a ≠ [] → b ≠ [] → joinL [32] a ++ ([32] ++ joinL [32] b) = joinL [32] (a ++ b) := by
  intro a
  induction a with
  | nil => intro b h; exact absurd rfl h
  | cons x a ih =>
    intro b _ hb
    cases a with
    | nil =>
      cases b with
      | nil => exact absurd rfl hb
      | cons y b => rfl
    | cons x2 a =>
      have := ih b (by simp) hb
      show (x ++ ([32] ++ joinL [32] (x2 :: a))) ++ _ = x ++ ([32] ++ joinL [32] ((x2 :: a) ++ b))
      rw [← this]
      simp only [List.append_assoc]
theorem tl_blank : tl (Str.ofString " ") = [32] := by decide +kernel
theorem tl_end : tl (Str.ofString "\n") = [10] := by decide +kernel
theorem join_toks : ∀ (ps : List (Str × List Str)), ps ≠ [] → (∀ p ∈ ps, p.2 ≠ [] ∧ tl p.1 = joinL [32] (p.2.map tl)) → joinL [32] ((ps.map Prod.fst).map tl) = joinL [32] ((ps.flatMap Prod.snd).map tl)
  | [], h, _ => absurd rfl h
  | [p], _, h => by
    have := (h p (List.mem_singleton.mpr rfl)).2
    show tl p.1 = joinL [32] ((p.2 ++ []).map tl)
    rw [List.append_nil]; exact this
  | p :: q :: r, _, h => by
    have h1 := h p List.mem_cons_self
    have h2 := join_toks (q :: r) (by simp) fun z hz => h z (List.mem_cons_of_mem _ hz)
    show tl p.1 ++ ([32] ++ joinL [32] (((q :: r).map Prod.fst).map tl)) = joinL [32] ((p.2 ++ (q :: r).flatMap Prod.snd).map tl)
    rw [h1.2, h2, List.map_append]
    refine joinL_app _ _ (fun e => h1.1 (List.map_eq_nil_iff.mp e)) fun e => ?_
    have hq := (h q (List.mem_cons_of_mem _ List.mem_cons_self)).1
    have e2 := List.map_eq_nil_iff.mp e
    rw [List.flatMap_cons, List.append_eq_nil_iff] at e2
    exact hq e2.1
theorem Ex.toks_ne (e : Ex) : e.toks ≠ [] := fun h => by
  have := e.toks_len
  rw [h] at this
  have := e.parts_pos
  simp at *; omega
theorem pair_one (s : Str) : ([s] : List Str) ≠ [] ∧ tl s = joinL [32] (([s] : List Str).map tl) := ⟨by simp, rfl⟩
theorem pair_ex (e : Ex) : e.toks ≠ [] ∧ tl e.text = joinL [32] (e.toks.map tl) := ⟨e.toks_ne, Ex.text_toks⟩
theorem RT.pairs_ok (rt : RT) : ∀ p ∈ rt.pairs, p.2 ≠ [] ∧ tl p.1 = joinL [32] (p.2.map tl) := by
  cases rt with
  | call b f es =>
    intro p hp
    rcases List.mem_cons.mp hp with rfl | hp
    · exact pair_one _
    rcases List.mem_cons.mp hp with rfl | hp
    · exact pair_one _
    rcases List.mem_cons.mp hp with rfl | hp
    · exact pair_one _
    · obtain ⟨e, _, rfl⟩ := List.mem_map.mp hp
      exact pair_ex e
  | _ =>
    intro p hp
    simp only [RT.pairs, List.mem_cons, List.not_mem_nil, or_false] at hp
    first
      | (rcases hp with rfl | rfl | rfl | rfl <;> first | exact pair_one _ | exact pair_ex _)
      | (rcases hp with rfl | rfl | rfl <;> first | exact pair_one _ | exact pair_ex _)
      | (rcases hp with rfl | rfl <;> first | exact pair_one _ | exact pair_ex _)
      | (subst hp; first | exact pair_one _ | exact pair_ex _)
theorem RT.flat (rt : RT) : rt.pairs.flatMap Prod.snd = rt.toks := by
  cases rt with
  | call b f es =>
    show Str.ofString "call" :: b :: f :: (es.map fun e => (e.text, e.toks)).flatMap Prod.snd = Str.ofString "call" :: b :: f :: es.flatMap Ex.toks
    rw [List.flatMap_map]
  | _ => simp [RT.pairs, RT.toks]
theorem RT.tl_text (rt : RT) : tl rt.text = joinL [32] (rt.toks.map tl) := by
  unfold RT.text RT.words
  rw [join_eq, tl_join, tl_blank, join_toks rt.pairs (by cases rt <;> simp [RT.pairs]) rt.pairs_ok, rt.flat]
/-- letters and figures, at most six -/
def TokOk (s : Str) : Prop := (tl s).length ≤ 6 ∧ ∀ c ∈ tl s, 48 ≤ c ∧ c ≤ 122
theorem tok_name {s : Str} (h : isNameW s = true) : TokOk s := by
  obtain ⟨h1, _, _, _, h4⟩ := nameW_parts h
  exact ⟨h1.2, fun c hc => by have := h4 c hc; omega⟩
theorem tok_ex {e : Ex} (h : e.Wf) : ∀ s ∈ e.toks, TokOk s := fun s hs => by
  have := Ex.toks_ok h s hs
  exact ⟨this.1, fun c hc => by have := this.2 c hc; omega⟩
theorem tok_word : ∀ s ∈ (["skip", "set", "put", "ask", "draw", "tell", "if", "while", "call", "give", "fun", "main", "else", "end"] : List Str), TokOk s := by
  unfold TokOk; decide +kernel
theorem RT.tok {rt : RT} (h : rt.Ok) : ∀ s ∈ rt.toks, TokOk s := by
  have w : ∀ {s : Str}, s ∈ (["skip", "set", "put", "ask", "draw", "tell", "if", "while", "call", "give", "fun", "main", "else", "end"] : List Str) → TokOk s := fun {s} hs => tok_word s hs
  cases rt with
  | skip => intro s hs; rw [List.mem_singleton.mp hs]; exact w (by decide +kernel)
  | set b e =>
    intro s hs
    rcases List.mem_cons.mp hs with rfl | hs
    · exact w (by decide +kernel)
    rcases List.mem_cons.mp hs with rfl | hs
    · exact tok_name h.1
    · exact tok_ex h.2.1 s hs
  | put a b =>
    intro s hs
    rcases List.mem_cons.mp hs with rfl | hs
    · exact w (by decide +kernel)
    rcases List.mem_append.mp hs with hs | hs
    · exact tok_ex h.1.1 s hs
    · exact tok_ex h.2.1 s hs
  | ask b c e =>
    intro s hs
    rcases List.mem_cons.mp hs with rfl | hs
    · exact w (by decide +kernel)
    rcases List.mem_cons.mp hs with rfl | hs
    · exact tok_name h.1
    rcases List.mem_cons.mp hs with rfl | hs
    · exact tok_name h.2.1
    · exact tok_ex h.2.2.1 s hs
  | draw b c =>
    intro s hs
    rcases List.mem_cons.mp hs with rfl | hs
    · exact w (by decide +kernel)
    rcases List.mem_cons.mp hs with rfl | hs
    · exact tok_name h.1
    · rw [List.mem_singleton.mp hs]; exact tok_name h.2
  | tell e =>
    intro s hs
    rcases List.mem_cons.mp hs with rfl | hs
    · exact w (by decide +kernel)
    · exact tok_ex h.1 s hs
  | ifr e =>
    intro s hs
    rcases List.mem_cons.mp hs with rfl | hs
    · exact w (by decide +kernel)
    · exact tok_ex h.1 s hs
  | loop e =>
    intro s hs
    rcases List.mem_cons.mp hs with rfl | hs
    · exact w (by decide +kernel)
    · exact tok_ex h.1 s hs
  | give e =>
    intro s hs
    rcases List.mem_cons.mp hs with rfl | hs
    · exact w (by decide +kernel)
    · exact tok_ex h.1 s hs
  | call b f es =>
    intro s hs
    rcases List.mem_cons.mp hs with rfl | hs
    · exact w (by decide +kernel)
    rcases List.mem_cons.mp hs with rfl | hs
    · exact tok_name h.1
    rcases List.mem_cons.mp hs with rfl | hs
    · exact tok_name h.2.1
    · obtain ⟨e, he, hs⟩ := List.mem_flatMap.mp hs
      exact tok_ex (h.2.2.1 e he).1 s hs
def LineOk (t : Str) : Prop := t.length ≤ 1000 ∧ ∀ c ∈ tl t, 32 ≤ c ∧ c ≤ 122
theorem joinL_le {ps : List (List Nat)} (h : ∀ p ∈ ps, p.length ≤ 6) : (joinL [32] ps).length ≤ 7 * ps.length := by
  induction ps with
  | nil => exact Nat.zero_le _
  | cons p r ih =>
    have h1 := h p List.mem_cons_self
    have h2 := ih fun q hq => h q (List.mem_cons_of_mem _ hq)
    cases r with
    | nil => show p.length ≤ 7 * 1; omega
    | cons q r =>
      show (p ++ ([32] ++ joinL [32] (q :: r))).length ≤ 7 * ((q :: r).length + 1)
      rw [List.length_append, List.length_append]
      show p.length + (1 + _) ≤ _
      omega
theorem joinL_mem2 {b : Nat} : ∀ {ps : List (List Nat)} {c : Nat}, c ∈ joinL [b] ps → c = b ∨ ∃ p ∈ ps, c ∈ p
  | [], _, h => by cases h
  | [x], c, h => .inr ⟨x, List.mem_singleton.mpr rfl, h⟩
  | x :: y :: r, c, h => by
    have h' : c ∈ x ++ ([b] ++ joinL [b] (y :: r)) := h
    rcases List.mem_append.mp h' with h | h
    · exact .inr ⟨x, List.mem_cons_self, h⟩
    rcases List.mem_append.mp h with h | h
    · exact .inl (List.mem_singleton.mp h)
    · rcases joinL_mem2 h with h | ⟨p, hp, hc⟩
      · exact .inl h
      · exact .inr ⟨p, List.mem_cons_of_mem _ hp, hc⟩
theorem line_of {t : Str} {ws : List Str} (e : tl t = joinL [32] (ws.map tl)) (hw : ∀ s ∈ ws, TokOk s) (hl : ws.length ≤ 100) : LineOk t := by
  constructor
  · rw [len_tl, e]
    have := joinL_le (ps := ws.map tl) fun p hp => by
      obtain ⟨s, hs, rfl⟩ := List.mem_map.mp hp
      exact (hw s hs).1
    rw [List.length_map] at this
    omega
  · intro c hc
    rw [e] at hc
    rcases joinL_mem2 hc with rfl | ⟨p, hp, hc⟩
    · decide
    · obtain ⟨s, hs, rfl⟩ := List.mem_map.mp hp
      have := (hw s hs).2 c hc
      omega
theorem split_of {t : Str} {ws : List Str} (e : tl t = joinL [32] (ws.map tl)) (hw : ∀ s ∈ ws, TokOk s) (hn : ws ≠ []) : Txt.split t (Str.ofString " ") = ws := by
  have ej : t = Txt.join (Str.ofString " ") ws := by
    refine ext_tl ?_
    rw [join_eq, tl_join, tl_blank, e]
  rw [ej]
  refine split_join (s := 32) (S := []) tl_blank (by decide +kernel) hn fun p hp hm => ?_
  have := (hw p hp).2 32 hm
  omega
theorem RT.toks_ne (rt : RT) : rt.toks ≠ [] := by cases rt <;> simp [RT.toks]
theorem RT.split {rt : RT} (h : rt.Ok) : Txt.split rt.text (Str.ofString " ") = rt.toks := split_of rt.tl_text (RT.tok h) rt.toks_ne
theorem flat_len {es : List Ex} (h : ∀ e ∈ es, ExOk e) : (es.flatMap Ex.toks).length ≤ 15 * es.length := by
  induction es with
  | nil => exact Nat.zero_le _
  | cons e r ih =>
    have h1 := (h e List.mem_cons_self).2.2
    have h2 := ih fun x hx => h x (List.mem_cons_of_mem _ hx)
    rw [List.flatMap_cons, List.length_append, e.toks_len, List.length_cons]
    omega
theorem RT.toks_len {rt : RT} (h : rt.Ok) : rt.toks.length ≤ 100 := by
  cases rt with
  | skip => show 1 ≤ 100; decide
  | set b e => have := h.2.2.2; have := e.toks_len; show e.toks.length + 1 + 1 ≤ 100; omega
  | put a b => have := h.1.2.2; have := h.2.2.2; have := a.toks_len; have := b.toks_len; show (a.toks ++ b.toks).length + 1 ≤ 100; rw [List.length_append]; omega
  | ask b w e => have := h.2.2.2.2; have := e.toks_len; show e.toks.length + 1 + 1 + 1 ≤ 100; omega
  | draw b w => show 3 ≤ 100; decide
  | tell e => have := h.2.2; have := e.toks_len; show e.toks.length + 1 ≤ 100; omega
  | ifr e => have := h.2.2; have := e.toks_len; show e.toks.length + 1 ≤ 100; omega
  | loop e => have := h.2.2; have := e.toks_len; show e.toks.length + 1 ≤ 100; omega
  | give e => have := h.2.2; have := e.toks_len; show e.toks.length + 1 ≤ 100; omega
  | call b f es => have := flat_len h.2.2.1; have := h.2.2.2; show (es.flatMap Ex.toks).length + 1 + 1 + 1 ≤ 100; omega
theorem RT.line {rt : RT} (h : rt.Ok) : LineOk rt.text := line_of rt.tl_text (RT.tok h) (RT.toks_len h)
theorem exL_flat : ∀ {es : List Ex}, (∀ e ∈ es, ExOk e) → exL (es.flatMap Ex.toks) = some es
  | [], _ => rfl
  | e :: r, h => by
    have h1 := h e List.mem_cons_self
    have h2 := exL_flat (es := r) fun x hx => h x (List.mem_cons_of_mem _ hx)
    unfold exL at h2 ⊢
    rw [List.flatMap_cons]
    have pt := parse_toks (d := 6) h1.1 h1.2.1 (r.flatMap Ex.toks)
    cases q : e.toks ++ r.flatMap Ex.toks with
    | nil => exact absurd (List.append_eq_nil_iff.mp q).1 e.toks_ne
    | cons x t =>
      rw [parseAll_step, ← q, pt]
      simp only
      rw [if_pos h1.2.2, h2]
theorem exL_one {e : Ex} (h : ExOk e) : exL e.toks = some [e] := by
  have := exL_flat (es := [e]) fun x hx => by rw [List.mem_singleton.mp hx]; exact h
  rw [List.flatMap_cons, List.flatMap_nil, List.append_nil] at this
  exact this
theorem exL_two {a b : Ex} (h1 : ExOk a) (h2 : ExOk b) : exL (a.toks ++ b.toks) = some [a, b] := by
  have := exL_flat (es := [a, b]) fun x hx => by
    simp only [List.mem_cons, List.not_mem_nil, or_false] at hx
    rcases hx with rfl | rfl
    · exact h1
    · exact h2
  rw [List.flatMap_cons, List.flatMap_cons, List.flatMap_nil, List.append_nil] at this
  exact this
/-- rows of one line but calls -/
def RT.simple : RT → Bool
  | .call _ _ _ => false
  | .ifr _ => false
  | .loop _ => false
  | .give _ => false
  | _ => true
theorem namesOk1 {b : Str} (h : isNameW b = true) : namesOk [b] 1 = true := by unfold namesOk; rw [List.all_cons, h]; rfl
theorem namesOk2 {b w : Str} (h : isNameW b = true) (h2 : isNameW w = true) : namesOk [b, w] 2 = true := by unfold namesOk; rw [List.all_cons, List.all_cons, h, h2]; rfl
theorem simpleF_toks {rt : RT} (h : rt.Ok) (s : rt.simple = true) : simpleF rt.toks = some rt := by
  cases rt with
  | skip =>
    show simpleF [Str.ofString "skip"] = some .skip
    unfold simpleF
    rw [if_neg (by decide +kernel), if_neg (by decide +kernel), if_neg (by decide +kernel), if_neg (by decide +kernel), if_neg (by decide +kernel), if_pos rfl]
  | set b e =>
    have e1 : hd0 (RT.set b e).toks = "set" := rfl
    have e2 : (((RT.set b e).toks.drop 1).take 1) = [b] := rfl
    have e3 : (RT.set b e).toks.drop 2 = e.toks := rfl
    unfold simpleF
    rw [if_pos e1, e2, if_pos (namesOk1 h.1), e3, exL_one h.2]; rfl
  | put a b =>
    have e1 : hd0 (RT.put a b).toks = "put" := rfl
    have e3 : (RT.put a b).toks.drop 1 = a.toks ++ b.toks := rfl
    unfold simpleF
    rw [e1, if_neg (by decide +kernel), if_pos rfl, e3, exL_two h.1 h.2]
  | ask b w e =>
    have e1 : hd0 (RT.ask b w e).toks = "ask" := rfl
    have e2 : (((RT.ask b w e).toks.drop 1).take 2) = [b, w] := rfl
    have e3 : (RT.ask b w e).toks.drop 3 = e.toks := rfl
    unfold simpleF
    rw [e1, if_neg (by decide +kernel), if_neg (by decide +kernel), if_pos rfl, e2, if_pos (namesOk2 h.1 h.2.1), e3, exL_one h.2.2]; rfl
  | draw b w =>
    have e1 : hd0 (RT.draw b w).toks = "draw" := rfl
    have e2 : ((RT.draw b w).toks.drop 1) = [b, w] := rfl
    unfold simpleF
    rw [e1, if_neg (by decide +kernel), if_neg (by decide +kernel), if_neg (by decide +kernel), if_pos rfl, e2, if_pos (namesOk2 h.1 h.2)]; rfl
  | tell e =>
    have e1 : hd0 (RT.tell e).toks = "tell" := rfl
    have e3 : (RT.tell e).toks.drop 1 = e.toks := rfl
    unfold simpleF
    rw [e1, if_neg (by decide +kernel), if_neg (by decide +kernel), if_neg (by decide +kernel), if_neg (by decide +kernel), if_pos rfl, e3, exL_one h]; rfl
  | _ => cases s
theorem callF_toks {b f : Str} {es : List Ex} (h : (RT.call b f es).Ok) : callF (RT.call b f es).toks = some (b, f, es) := by
  have e2 : (((RT.call b f es).toks.drop 1).take 2) = [b, f] := rfl
  have e3 : (RT.call b f es).toks.drop 3 = es.flatMap Ex.toks := rfl
  unfold callF
  rw [e2, if_pos (namesOk2 h.1 h.2.1), e3, exL_flat h.2.2.1]; rfl
theorem simple_hd {rt : RT} (s : rt.simple = true) : hd0 rt.toks ∈ ROWW ∧ ¬ (hd0 rt.toks = "if" ∨ hd0 rt.toks = "while") ∧ ¬ hd0 rt.toks = "call" := by
  cases rt with
  | skip => decide +kernel
  | set b e => show hd0 ("set" :: ([] : List Str)) ∈ ROWW ∧ _; exact ⟨by decide +kernel, by show ¬ (hd0 ("set" :: ([] : List Str)) = "if" ∨ hd0 ("set" :: ([] : List Str)) = "while"); decide +kernel, by show ¬ hd0 ("set" :: ([] : List Str)) = "call"; decide +kernel⟩
  | put a b => exact ⟨by show hd0 ("put" :: ([] : List Str)) ∈ ROWW; decide +kernel, by show ¬ (hd0 ("put" :: ([] : List Str)) = "if" ∨ hd0 ("put" :: ([] : List Str)) = "while"); decide +kernel, by show ¬ hd0 ("put" :: ([] : List Str)) = "call"; decide +kernel⟩
  | ask b w e => exact ⟨by show hd0 ("ask" :: ([] : List Str)) ∈ ROWW; decide +kernel, by show ¬ (hd0 ("ask" :: ([] : List Str)) = "if" ∨ hd0 ("ask" :: ([] : List Str)) = "while"); decide +kernel, by show ¬ hd0 ("ask" :: ([] : List Str)) = "call"; decide +kernel⟩
  | draw b w => exact ⟨by show hd0 ("draw" :: ([] : List Str)) ∈ ROWW; decide +kernel, by show ¬ (hd0 ("draw" :: ([] : List Str)) = "if" ∨ hd0 ("draw" :: ([] : List Str)) = "while"); decide +kernel, by show ¬ hd0 ("draw" :: ([] : List Str)) = "call"; decide +kernel⟩
  | tell e => exact ⟨by show hd0 ("tell" :: ([] : List Str)) ∈ ROWW; decide +kernel, by show ¬ (hd0 ("tell" :: ([] : List Str)) = "if" ∨ hd0 ("tell" :: ([] : List Str)) = "while"); decide +kernel, by show ¬ hd0 ("tell" :: ([] : List Str)) = "call"; decide +kernel⟩
  | _ => cases s
/-! ### where rows stand -/
theorem rowOf_put (num : List (Nat × RT)) (n : Nat) (r : RT) (m : Nat) : rowOf (putN num n r) (m : Int) = if m = n then some r else rowOf num (m : Int) := by
  have key : ∀ l : List (Nat × RT), rowOf (l.map fun x => if x.1 = n then (x.1, r) else x) (m : Int) = if m = n then (rowOf l (m : Int)).map (fun _ => r) else rowOf l (m : Int) := by
    intro l
    induction l with
    | nil => unfold rowOf; split <;> rfl
    | cons x t ih =>
      unfold rowOf at ih ⊢
      rw [List.map_cons, List.find?_cons, List.find?_cons]
      by_cases c : (x.1 : Int) = (m : Int)
      · have e1 : ((if x.1 = n then (x.1, r) else x).1 : Int) = (m : Int) := by split <;> exact c
        rw [decide_eq_true e1, decide_eq_true c]
        simp only
        by_cases c2 : m = n
        · have : x.1 = n := by omega
          rw [if_pos c2, if_pos this]; rfl
        · have : ¬ x.1 = n := by omega
          rw [if_neg c2, if_neg this]
      · have e1 : ¬ ((if x.1 = n then (x.1, r) else x).1 : Int) = (m : Int) := by split <;> exact c
        rw [decide_eq_false e1, decide_eq_false c]
        exact ih
  unfold putN
  by_cases c : (num.any fun x => decide (x.1 = n)) = true
  · rw [if_pos c, key]
    by_cases c2 : m = n
    · rw [if_pos c2, if_pos c2]
      obtain ⟨x, hx, hd⟩ := List.any_eq_true.mp c
      have hd := of_decide_eq_true hd
      cases q : rowOf num (m : Int) with
      | some _ => rfl
      | none =>
        unfold rowOf at q
        rw [Option.map_eq_none_iff, List.find?_eq_none] at q
        have := q x hx
        rw [decide_eq_true (by omega : (x.1 : Int) = (m : Int))] at this
        exact absurd rfl this
    · rw [if_neg c2, if_neg c2]
  · rw [if_neg c]
    unfold rowOf
    rw [List.find?_append]
    by_cases c2 : m = n
    · rw [if_pos c2]
      have : num.find? (fun x => decide ((x.1 : Int) = (m : Int))) = none := by
        rw [List.find?_eq_none]
        intro x hx hd
        have hd := of_decide_eq_true hd
        exact c (List.any_eq_true.mpr ⟨x, hx, decide_eq_true (by omega)⟩)
      rw [this, List.find?_cons, decide_eq_true (by rw [c2])]; rfl
    · rw [if_neg c2, List.find?_cons, decide_eq_false (fun e : ((n, r).1 : Int) = (m : Int) => c2 (by have e' : (n : Int) = m := e; omega))]
      show Option.map _ (Option.or _ none) = _
      rw [Option.or_none]
def NumIs (num : List (Nat × RT)) (B : List (Option RT)) : Prop := ∀ n : Nat, rowOf num (n : Int) = B.getD n none
theorem getD_app {B C : List (Option RT)} (n : Nat) : (B ++ C).getD n none = if n < B.length then B.getD n none else C.getD (n - B.length) none := by
  rw [List.getD_eq_getElem?_getD, List.getD_eq_getElem?_getD, List.getD_eq_getElem?_getD]
  by_cases h : n < B.length
  · rw [if_pos h, List.getElem?_append_left h]
  · rw [if_neg h, List.getElem?_append_right (by omega)]
theorem getD_out {B : List (Option RT)} {n : Nat} (h : B.length ≤ n) : B.getD n none = none := by
  rw [List.getD_eq_getElem?_getD, List.getElem?_eq_none h]; rfl
theorem NumIs.pad {num : List (Nat × RT)} {B : List (Option RT)} (h : NumIs num B) : NumIs num (B ++ [none]) := fun n => by
  rw [h n, getD_app]
  by_cases c : n < B.length
  · rw [if_pos c]
  · rw [if_neg c, getD_out (by omega)]
    cases n - B.length with
    | zero => rfl
    | succ k => rfl
theorem NumIs.put {num : List (Nat × RT)} {B R : List (Option RT)} {n : Nat} {rt : RT} (hn : B.length = n) (h : NumIs num ((B ++ [none]) ++ R)) : NumIs (putN num n rt) (B ++ (some rt :: R)) := fun m => by
  rw [rowOf_put, h m, getD_app, getD_app, getD_app, List.length_append, List.length_singleton]
  by_cases c : m = n
  · rw [if_pos c, if_neg (by omega), c, hn, Nat.sub_self]; rfl
  · rw [if_neg c]
    by_cases c2 : m < B.length
    · rw [if_pos (by omega), if_pos c2, if_pos c2]
    · rw [if_neg (by omega), if_neg c2]
      have : m - B.length = (m - (B.length + 1)) + 1 := by omega
      rw [this, List.getD_cons_succ]
theorem NumIs.put1 {num : List (Nat × RT)} {B : List (Option RT)} {n : Nat} {rt : RT} (hn : B.length = n) (h : NumIs num B) : NumIs (putN num n rt) (B ++ [some rt]) := by
  have := NumIs.put (R := []) (rt := rt) hn (by rw [List.append_nil]; exact h.pad)
  exact this
/-! ### bodies -/
inductive Body (hs : List (Str × Nat)) : Nat → List Str → List (Option RT) → Prop where
  | nil {d : Nat} : Body hs d [] []
  | app {d : Nat} {L1 L2 : List Str} {R1 R2 : List (Option RT)} : Body hs d L1 R1 → Body hs d L2 R2 → Body hs d (L1 ++ L2) (R1 ++ R2)
  | row {d : Nat} {rt : RT} : rt.Ok → rt.simple = true → Body hs d [rt.text] [some rt]
  | call {d : Nat} {b f : Str} {es : List Ex} : (RT.call b f es).Ok → (f, es.length) ∈ hs → Body hs d [(RT.call b f es).text] [some (.call b f es)]
  | loop {d : Nat} {e : Ex} {L : List Str} {R : List (Option RT)} : ExOk e → Body hs d L R → Body hs (d + 1) ((RT.loop e).text :: (L ++ [Str.ofString "end"])) (some (.loop e) :: (R ++ [none]))
  | ifr {d : Nat} {e : Ex} {L1 L2 : List Str} {R1 R2 : List (Option RT)} : ExOk e → Body hs d L1 R1 → Body hs d L2 R2 → Body hs (d + 1) ((RT.ifr e).text :: (L1 ++ (Str.ofString "else" :: (L2 ++ [Str.ofString "end"])))) (some (.ifr e) :: (R1 ++ (none :: (R2 ++ [none]))))
theorem Body.len {hs : List (Str × Nat)} : ∀ {d : Nat} {L : List Str} {R : List (Option RT)}, Body hs d L R → L.length = R.length := by
  intro d L R h
  induction h with
  | nil => rfl
  | app _ _ h1 h2 => rw [List.length_append, List.length_append, h1, h2]
  | row _ _ => rfl
  | call _ _ => rfl
  | loop _ _ h => simp only [List.length_cons, List.length_append, h, List.length_nil]
  | ifr _ _ _ h1 h2 => simp only [List.length_cons, List.length_append, h1, h2, List.length_nil]
theorem line_word : ∀ s ∈ (["else", "end", "main"] : List Str), LineOk s := by unfold LineOk; decide +kernel
theorem Body.lines {hs : List (Str × Nat)} : ∀ {d : Nat} {L : List Str} {R : List (Option RT)}, Body hs d L R → ∀ t ∈ L, LineOk t := by
  intro d L R h
  induction h with
  | nil => intro t ht; cases ht
  | app _ _ h1 h2 =>
    intro t ht
    rcases List.mem_append.mp ht with h | h
    · exact h1 t h
    · exact h2 t h
  | row h _ => intro t ht; rw [List.mem_singleton.mp ht]; exact RT.line h
  | call h _ => intro t ht; rw [List.mem_singleton.mp ht]; exact RT.line h
  | loop he _ h =>
    intro t ht
    rcases List.mem_cons.mp ht with rfl | ht
    · exact RT.line (rt := .loop _) he
    rcases List.mem_append.mp ht with ht | ht
    · exact h t ht
    · rw [List.mem_singleton.mp ht]; exact line_word _ (by decide +kernel)
  | ifr he _ _ h1 h2 =>
    intro t ht
    rcases List.mem_cons.mp ht with rfl | ht
    · exact RT.line (rt := .ifr _) he
    rcases List.mem_append.mp ht with ht | ht
    · exact h1 t ht
    rcases List.mem_cons.mp ht with rfl | ht
    · exact line_word _ (by decide +kernel)
    rcases List.mem_append.mp ht with ht | ht
    · exact h2 t ht
    · rw [List.mem_singleton.mp ht]; exact line_word _ (by decide +kernel)
/-! ### bodies, read -/
abbrev ONE (ts : List Str) (d : Nat) : RS → Option (RT × RS) := oneF ts (rowsF ts (blockF ts d) (decide (0 < d)))
theorem blkF_mono {ts : List Str} {one : RS → Option (RT × RS)} : ∀ {f : Nat} {st r : RS}, blkF ts one f st = some r → ∀ {g : Nat}, f ≤ g → blkF ts one g st = some r
  | 0, _, _, h, _, _ => by cases h
  | f + 1, st, r, h, g, hg => by
    obtain ⟨g, rfl⟩ : ∃ g', g = g' + 1 := ⟨g - 1, by omega⟩
    unfold blkF at h ⊢
    cases q : headAt ts st.at_ with
    | none => rw [q] at h; exact h
    | some w =>
      rw [q] at h
      simp only at h ⊢
      by_cases c : w ∈ ROWW
      · rw [if_pos c] at h ⊢
        cases q2 : one st with
        | none => rw [q2] at h; cases h
        | some z =>
          obtain ⟨rt, st2⟩ := z
          rw [q2] at h
          simp only at h ⊢
          exact blkF_mono h (by omega)
      · rw [if_neg c] at h ⊢; exact h
theorem drop_cons {ts : List Str} {i : Nat} {t : Str} {r : List Str} (h : ts.drop i = t :: r) : i < ts.length ∧ ts.getD i (Str.ofString "") = t ∧ ts.drop (i + 1) = r := by
  have hi : i < ts.length := by
    by_cases c : i < ts.length
    · exact c
    · rw [List.drop_eq_nil_of_le (by omega)] at h; cases h
  rw [List.drop_eq_getElem_cons hi] at h
  injection h with h1 h2
  refine ⟨hi, ?_, h2⟩
  rw [List.getD_eq_getElem?_getD, List.getElem?_eq_getElem hi, h1]; rfl
theorem drop_app {ts : List Str} {i : Nat} {L r : List Str} (h : ts.drop i = L ++ r) : ts.drop (i + L.length) = r := by
  rw [← List.drop_drop, h, List.drop_left]
theorem drop_len {ts : List Str} {i : Nat} {L : List Str} (h : ts.drop i = L) (hi : i ≤ ts.length) : i + L.length = ts.length := by
  have := congrArg List.length h
  rw [List.length_drop] at this
  omega
theorem words_here {ts : List Str} {i : Nat} {t : Str} {r ws : List Str} (h : ts.drop i = t :: r) (hs : Txt.split t (Str.ofString " ") = ws) : wordsAt ts i = ws ∧ headAt ts i = some (hd0 ws) := by
  obtain ⟨h1, h2, _⟩ := drop_cons h
  have e : wordsAt ts i = ws := by unfold wordsAt; rw [h2]; exact hs
  exact ⟨e, by unfold headAt; rw [if_pos h1, e]⟩
theorem blkF_stop {ts : List Str} {one : RS → Option (RT × RS)} {st : RS} {w : Str} (h : headAt ts st.at_ = some w) (hw : w ∉ ROWW) (f : Nat) : blkF ts one (f + 1) st = some st := by
  unfold blkF
  rw [h]
  simp only
  rw [if_neg hw]
theorem blkF_end {ts : List Str} {one : RS → Option (RT × RS)} {st : RS} (h : headAt ts st.at_ = none) (f : Nat) : blkF ts one (f + 1) st = some st := by
  unfold blkF
  rw [h]
theorem blkF_go {ts : List Str} {one : RS → Option (RT × RS)} {st st2 r : RS} {w : Str} {rt : RT} {f : Nat} (h : headAt ts st.at_ = some w) (hw : w ∈ ROWW) (ho : one st = some (rt, st2)) (hr : blkF ts one f ⟨st2.at_, putN st2.num st.at_ rt, st2.calls⟩ = some r) : blkF ts one (f + 1) st = some r := by
  unfold blkF
  rw [h]
  simp only
  rw [if_pos hw, ho]
  exact hr
theorem split_end : Txt.split (Str.ofString "end") (Str.ofString " ") = [Str.ofString "end"] := split_of (by rfl) (fun s hs => by rw [List.mem_singleton.mp hs]; exact tok_word _ (by decide +kernel)) (by simp)
theorem split_else : Txt.split (Str.ofString "else") (Str.ofString " ") = [Str.ofString "else"] := split_of (by rfl) (fun s hs => by rw [List.mem_singleton.mp hs]; exact tok_word _ (by decide +kernel)) (by simp)
theorem split_main : Txt.split (Str.ofString "main") (Str.ofString " ") = [Str.ofString "main"] := split_of (by rfl) (fun s hs => by rw [List.mem_singleton.mp hs]; exact tok_word _ (by decide +kernel)) (by simp)
theorem passF_here {ts : List Str} {st : RS} {t : Str} {r : List Str} (h : ts.drop st.at_ = t :: r) : passF ts t st = some ⟨st.at_ + 1, st.num, st.calls⟩ := by
  obtain ⟨h1, h2, _⟩ := drop_cons h
  unfold passF
  rw [if_pos ⟨h1, h2⟩]
/-- what a body leaves -/
structure Read (hs : List (Str × Nat)) (B : List (Option RT)) (n : Nat) (st : RS) : Prop where
  at_ : st.at_ = n
  num : NumIs st.num B
  calls : ∀ c ∈ st.calls, c ∈ hs
/-- a whole block -/
theorem block_of {ts : List Str} {d : Nat} {L : List Str} {st st' : RS} (hl : L.length ≤ ts.length)
    (hr : ∀ f r, blkF ts (ONE ts d) f st' = some r → blkF ts (ONE ts d) (f + L.length) st = some r) (hstop : blkF ts (ONE ts d) 1 st' = some st') : blockF ts (d + 1) st = some st' := by
  have := hr 1 st' hstop
  exact blkF_mono this (by omega)
theorem Body.read {hs : List (Str × Nat)} {ts : List Str} : ∀ {d : Nat} {L : List Str} {R : List (Option RT)}, Body hs d L R → ∀ {st : RS} {rest : List Str} {B : List (Option RT)}, ts.drop st.at_ = L ++ rest → Read hs B B.length st →
    ∃ st', Read hs (B ++ R) (B.length + L.length) st' ∧ ∀ f r, blkF ts (ONE ts d) f st' = some r → blkF ts (ONE ts d) (f + L.length) st = some r := by
  intro d L R h
  induction h with
  | nil => intro st rest B hd hR; exact ⟨st, by rw [List.append_nil]; exact hR, fun f r h => h⟩
  | @app d L1 L2 R1 R2 b1 b2 ih1 ih2 =>
    intro st rest B hd hR
    rw [List.append_assoc] at hd
    obtain ⟨st1, hR1, k1⟩ := ih1 hd hR
    have e1 : (B ++ R1).length = B.length + L1.length := by rw [List.length_append, b1.len]
    obtain ⟨st2, hR2, k2⟩ := ih2 (st := st1) (B := B ++ R1) (rest := rest) (by rw [hR1.at_, ← hR.at_]; exact drop_app hd) (by rw [e1]; exact hR1)
    refine ⟨st2, ?_, fun f r hf => ?_⟩
    · rw [← List.append_assoc, List.length_append, ← Nat.add_assoc, ← e1]; exact hR2
    · have := k1 _ _ (k2 f r hf)
      rw [List.length_append, ← Nat.add_assoc, Nat.add_right_comm]
      exact this
  | @row d rt ok sm =>
    intro st rest B hd hR
    obtain ⟨hw, hh⟩ := words_here hd (RT.split ok)
    obtain ⟨g1, g2, g3⟩ := simple_hd sm
    refine ⟨⟨st.at_ + 1, putN st.num st.at_ rt, st.calls⟩, ⟨by show st.at_ + 1 = _; rw [hR.at_]; rfl, hR.num.put1 hR.at_.symm, hR.calls⟩, fun f r hf => ?_⟩
    refine blkF_go (st2 := ⟨st.at_ + 1, st.num, st.calls⟩) hh g1 ?_ hf
    unfold ONE oneF
    rw [hw, if_neg g2, if_neg g3, simpleF_toks ok sm]; rfl
  | @call d b fn es ok hc =>
    intro st rest B hd hR
    obtain ⟨hw, hh⟩ := words_here hd (RT.split ok)
    have g0 : hd0 (RT.call b fn es).toks = "call" := rfl
    refine ⟨⟨st.at_ + 1, putN st.num st.at_ (.call b fn es), st.calls ++ [(fn, es.length)]⟩, ⟨by show st.at_ + 1 = _; rw [hR.at_]; rfl, hR.num.put1 hR.at_.symm, fun c hm => ?_⟩, fun f r hf => ?_⟩
    · rcases List.mem_append.mp hm with hm | hm
      · exact hR.calls c hm
      · rw [List.mem_singleton.mp hm]; exact hc
    refine blkF_go (st2 := ⟨st.at_ + 1, st.num, st.calls ++ [(fn, es.length)]⟩) hh (by rw [g0]; decide +kernel) ?_ hf
    unfold ONE oneF
    rw [hw, g0, if_neg (by decide +kernel), if_pos rfl, callF_toks ok]
  | @loop d e L R he b ih =>
    intro st rest B hd hR
    have ok : (RT.loop e).Ok := he
    obtain ⟨hw, hh⟩ := words_here hd (RT.split ok)
    obtain ⟨hlt, _, hd1⟩ := drop_cons hd
    replace hd1 := hd1.trans (List.append_assoc L [Str.ofString "end"] rest)
    have g0 : hd0 (RT.loop e).toks = "while" := rfl
    have eB : (B ++ [none]).length = st.at_ + 1 := by rw [List.length_append, hR.at_]; rfl
    obtain ⟨st1, hR1, k1⟩ := ih (st := ⟨st.at_ + 1, st.num, st.calls⟩) (B := B ++ [none]) (rest := [Str.ofString "end"] ++ rest) hd1 ⟨eB.symm, hR.num.pad, hR.calls⟩
    have a1 : st1.at_ = st.at_ + 1 + L.length := by rw [hR1.at_, eB]
    have hd2 : ts.drop st1.at_ = Str.ofString "end" :: rest := by rw [a1]; exact drop_app (i := st.at_ + 1) hd1
    obtain ⟨hl2, _, _⟩ := drop_cons hd2
    obtain ⟨_, hh2⟩ := words_here hd2 split_end
    have hb : blockF ts (d + 1) ⟨st.at_ + 1, st.num, st.calls⟩ = some st1 := block_of (by omega) k1 (blkF_stop hh2 (by decide +kernel) 0)
    have hp := passF_here hd2
    have lc : ((RT.loop e).text :: (L ++ [Str.ofString "end"])).length = L.length + 2 := by simp
    refine ⟨⟨st1.at_ + 1, putN st1.num st.at_ (.loop e), st1.calls⟩, ⟨?_, ?_, hR1.calls⟩, fun f r hf => ?_⟩
    · show st1.at_ + 1 = _
      rw [lc, a1, hR.at_]; omega
    · have := NumIs.put (n := st.at_) (rt := .loop e) (R := R ++ [none]) hR.at_.symm (by rw [← List.append_assoc]; exact hR1.num.pad)
      exact this
    · rw [lc]
      refine blkF_mono (blkF_go (st2 := ⟨st1.at_ + 1, st1.num, st1.calls⟩) hh (by rw [g0]; decide +kernel) ?_ hf) (by omega)
      unfold ONE oneF
      rw [hw, g0, if_pos (.inr rfl)]
      unfold rowsF
      have e3 : (RT.loop e).toks.drop 1 = e.toks := rfl
      rw [if_pos (decide_eq_true (Nat.succ_pos d)), e3, exL_one he]
      simp only [only1]
      rw [hb]
      simp only
      rw [g0, if_pos rfl]
      have hp' : passF ts "end" st1 = some ⟨st1.at_ + 1, st1.num, st1.calls⟩ := hp
      rw [hp']
  | @ifr d e L1 L2 R1 R2 he b1 b2 ih1 ih2 =>
    intro st rest B hd hR
    have ok : (RT.ifr e).Ok := he
    obtain ⟨hw, hh⟩ := words_here hd (RT.split ok)
    obtain ⟨hlt, _, hd1⟩ := drop_cons hd
    replace hd1 := hd1.trans (List.append_assoc L1 (Str.ofString "else" :: (L2 ++ [Str.ofString "end"])) rest)
    have g0 : hd0 (RT.ifr e).toks = "if" := rfl
    have eB : (B ++ [none]).length = st.at_ + 1 := by rw [List.length_append, hR.at_]; rfl
    obtain ⟨st1, hR1, k1⟩ := ih1 (st := ⟨st.at_ + 1, st.num, st.calls⟩) (B := B ++ [none]) (rest := (Str.ofString "else" :: (L2 ++ [Str.ofString "end"])) ++ rest) hd1 ⟨eB.symm, hR.num.pad, hR.calls⟩
    have a1 : st1.at_ = st.at_ + 1 + L1.length := by rw [hR1.at_, eB]
    have hd2 : ts.drop st1.at_ = Str.ofString "else" :: ((L2 ++ [Str.ofString "end"]) ++ rest) := by rw [a1]; exact drop_app (i := st.at_ + 1) hd1
    obtain ⟨hl2, _, hd3⟩ := drop_cons hd2
    obtain ⟨_, hh2⟩ := words_here hd2 split_else
    have hb : blockF ts (d + 1) ⟨st.at_ + 1, st.num, st.calls⟩ = some st1 := block_of (by omega) k1 (blkF_stop hh2 (by decide +kernel) 0)
    have hp := passF_here hd2
    have eB2 : (((B ++ [none]) ++ R1) ++ [none]).length = st1.at_ + 1 := by rw [List.length_append, List.length_append, ← b1.len, a1, eB]; rfl
    replace hd3 := hd3.trans (List.append_assoc L2 [Str.ofString "end"] rest)
    obtain ⟨st2, hR2, k2⟩ := ih2 (st := ⟨st1.at_ + 1, st1.num, st1.calls⟩) (B := ((B ++ [none]) ++ R1) ++ [none]) (rest := [Str.ofString "end"] ++ rest) hd3 ⟨eB2.symm, hR1.num.pad, hR1.calls⟩
    have a2 : st2.at_ = st1.at_ + 1 + L2.length := by rw [hR2.at_, eB2]
    have hd4 : ts.drop st2.at_ = Str.ofString "end" :: rest := by rw [a2]; exact drop_app (i := st1.at_ + 1) hd3
    obtain ⟨hl4, _, _⟩ := drop_cons hd4
    obtain ⟨_, hh4⟩ := words_here hd4 split_end
    have hb2 : blockF ts (d + 1) ⟨st1.at_ + 1, st1.num, st1.calls⟩ = some st2 := block_of (by omega) k2 (blkF_stop hh4 (by decide +kernel) 0)
    have hp2 := passF_here hd4
    have lc : ((RT.ifr e).text :: (L1 ++ (Str.ofString "else" :: (L2 ++ [Str.ofString "end"])))).length = L1.length + L2.length + 3 := by simp; omega
    refine ⟨⟨st2.at_ + 1, putN st2.num st.at_ (.ifr e), st2.calls⟩, ⟨?_, ?_, hR2.calls⟩, fun f r hf => ?_⟩
    · show st2.at_ + 1 = _
      rw [lc, a2, a1, hR.at_]; omega
    · have := NumIs.put (n := st.at_) (rt := .ifr e) (B := B) (R := R1 ++ (none :: (R2 ++ [none]))) hR.at_.symm (by
        have := hR2.num.pad
        simp only [List.append_assoc, List.cons_append, List.nil_append] at this ⊢
        exact this)
      exact this
    · rw [lc]
      refine blkF_mono (blkF_go (st2 := ⟨st2.at_ + 1, st2.num, st2.calls⟩) hh (by rw [g0]; decide +kernel) ?_ hf) (by omega)
      unfold ONE oneF
      rw [hw, g0, if_pos (.inl rfl)]
      unfold rowsF
      have e3 : (RT.ifr e).toks.drop 1 = e.toks := rfl
      rw [if_pos (decide_eq_true (Nat.succ_pos d)), e3, exL_one he]
      simp only [only1]
      rw [hb]
      simp only
      rw [g0, if_neg (by decide +kernel)]
      have hp' : passF ts "else" st1 = some ⟨st1.at_ + 1, st1.num, st1.calls⟩ := hp
      rw [hp']
      simp only
      rw [hb2]
      simp only
      have hp2' : passF ts "end" st2 = some ⟨st2.at_ + 1, st2.num, st2.calls⟩ := hp2
      rw [hp2']

/-! ### functions, whole programs -/
structure FnB where
  nm : Str
  ps : List Str
  L : List Str
  R : List (Option RT)
  e : Ex
def headText (nm : Str) (ps : List Str) : Str := Txt.join (Str.ofString " ") (Str.ofString "fun" :: nm :: ps)
def FnB.lines (b : FnB) : List Str := headText b.nm b.ps :: (b.L ++ [(RT.give b.e).text])
def FnB.rows (b : FnB) : List (Option RT) := none :: (b.R ++ [some (.give b.e)])
def FnB.ar (b : FnB) : Str × Nat := (b.nm, b.ps.length)
def HeadOk (nm : Str) (ps : List Str) : Prop := isNameW nm = true ∧ (∀ p ∈ ps, isNameW p = true) ∧ ps.length ≤ 3 ∧ cntTo ps ps.length = ps.length
structure FnB.Ok (hs : List (Str × Nat)) (b : FnB) : Prop where
  head : HeadOk b.nm b.ps
  ex : ExOk b.e
  body : Body hs 5 b.L b.R
theorem head_tl (nm : Str) (ps : List Str) : tl (headText nm ps) = joinL [32] ((Str.ofString "fun" :: nm :: ps).map tl) := by
  unfold headText
  rw [join_eq, tl_join, tl_blank]
theorem head_tok {nm : Str} {ps : List Str} (h : HeadOk nm ps) : ∀ s ∈ (Str.ofString "fun" :: nm :: ps), TokOk s := fun s hs => by
  rcases List.mem_cons.mp hs with rfl | hs
  · exact tok_word _ (by decide +kernel)
  rcases List.mem_cons.mp hs with rfl | hs
  · exact tok_name h.1
  · exact tok_name (h.2.1 s hs)
theorem head_split {nm : Str} {ps : List Str} (h : HeadOk nm ps) : Txt.split (headText nm ps) (Str.ofString " ") = Str.ofString "fun" :: nm :: ps := split_of (head_tl nm ps) (head_tok h) (by simp)
theorem head_line {nm : Str} {ps : List Str} (h : HeadOk nm ps) : LineOk (headText nm ps) := line_of (head_tl nm ps) (head_tok h) (by have := h.2.2.1; simp; omega)
theorem FnB.Ok.len {hs : List (Str × Nat)} {b : FnB} (h : b.Ok hs) : b.lines.length = b.rows.length := by
  have := h.body.len
  unfold FnB.lines FnB.rows
  simp only [List.length_cons, List.length_append, List.length_nil, this]
theorem FnB.Ok.lineOk {hs : List (Str × Nat)} {b : FnB} (h : b.Ok hs) : ∀ t ∈ b.lines, LineOk t := fun t ht => by
  rcases List.mem_cons.mp ht with rfl | ht
  · exact head_line h.head
  rcases List.mem_append.mp ht with ht | ht
  · exact h.body.lines t ht
  · rw [List.mem_singleton.mp ht]; exact RT.line (rt := .give b.e) h.ex
theorem fn_read {hs : List (Str × Nat)} {ts : List Str} {b : FnB} (ok : b.Ok hs) {st : RS} {rest : List Str} {B : List (Option RT)} (hd : ts.drop st.at_ = b.lines ++ rest) (hR : Read hs B B.length st) :
    ∃ st', Read hs (B ++ b.rows) (B.length + b.lines.length) st' ∧ functionF ts st = some (b.ar, st') ∧ headAt ts st.at_ = some (Str.ofString "fun") := by
  have hd0' : ts.drop st.at_ = headText b.nm b.ps :: ((b.L ++ [(RT.give b.e).text]) ++ rest) := hd
  obtain ⟨hw, hh⟩ := words_here hd0' (head_split ok.head)
  obtain ⟨hlt, _, hd1⟩ := drop_cons hd0'
  replace hd1 := hd1.trans (List.append_assoc b.L [(RT.give b.e).text] rest)
  have eB : (B ++ [none]).length = st.at_ + 1 := by rw [List.length_append, hR.at_]; rfl
  obtain ⟨st1, hR1, k1⟩ := ok.body.read (st := ⟨st.at_ + 1, st.num, st.calls⟩) (B := B ++ [none]) hd1 ⟨eB.symm, hR.num.pad, hR.calls⟩
  have a1 : st1.at_ = st.at_ + 1 + b.L.length := by rw [hR1.at_, eB]
  have hd2 : ts.drop st1.at_ = (RT.give b.e).text :: rest := by rw [a1]; exact drop_app (i := st.at_ + 1) hd1
  obtain ⟨hl2, _, _⟩ := drop_cons hd2
  have okg : (RT.give b.e).Ok := ok.ex
  obtain ⟨hw2, hh2⟩ := words_here hd2 (RT.split okg)
  have hb : blockF ts 6 ⟨st.at_ + 1, st.num, st.calls⟩ = some st1 := block_of (by omega) k1 (blkF_stop hh2 (by show hd0 (RT.give b.e).toks ∉ ROWW; show hd0 (Str.ofString "give" :: ([] : List Str)) ∉ ROWW; decide +kernel) 0)
  refine ⟨⟨st1.at_ + 1, putN st1.num st1.at_ (.give b.e), st1.calls⟩, ⟨?_, ?_, hR1.calls⟩, ?_, hh⟩
  · show st1.at_ + 1 = _
    unfold FnB.lines
    rw [a1, hR.at_]; simp only [List.length_cons, List.length_append, List.length_nil]; omega
  · have := hR1.num.put1 (rt := .give b.e) (n := st1.at_) (by rw [List.length_append, ← ok.body.len, a1, eB])
    unfold FnB.rows
    simp only [List.append_assoc, List.cons_append, List.nil_append] at this ⊢
    exact this
  · unfold functionF
    obtain ⟨h1, h2, h3, h4⟩ := ok.head
    have hall : ((Str.ofString "fun" :: b.nm :: b.ps).drop 1).all isNameW = true := by
      rw [List.all_eq_true]
      intro x hx
      rcases List.mem_cons.mp hx with rfl | hx
      · exact h1
      · exact h2 x hx
    rw [hw, if_pos ⟨hall, by simp, h3, h4⟩, hb]
    simp only
    have hh2' : headAt ts st1.at_ = some "give" := hh2
    rw [if_pos hh2', hw2]
    have e3 : (RT.give b.e).toks.drop 1 = b.e.toks := rfl
    rw [e3, exL_one ok.ex]; rfl
theorem funs_read {hs : List (Str × Nat)} {ts : List Str} : ∀ (bs : List FnB), (∀ b ∈ bs, b.Ok hs) → ∀ {fs : List (Str × Nat)} {st : RS} {rest : List Str} {B : List (Option RT)}, ts.drop st.at_ = bs.flatMap FnB.lines ++ rest → Read hs B B.length st →
    fs.length + bs.length ≤ 4 → ((fs ++ bs.map FnB.ar).map Prod.fst).Nodup → ∃ st', Read hs (B ++ bs.flatMap FnB.rows) (B.length + (bs.flatMap FnB.lines).length) st' ∧ ∀ f r, funsF ts f (fs ++ bs.map FnB.ar) st' = some r → funsF ts (f + bs.length) fs st = some r
  | [], _, fs, st, rest, B, hd, hR, _, _ => ⟨st, by rw [List.flatMap_nil, List.append_nil]; exact hR, fun f r h => by rw [List.map_nil, List.append_nil] at h; exact h⟩
  | b :: bs, ok, fs, st, rest, B, hd, hR, hl, hn => by
    have ok1 := ok b List.mem_cons_self
    rw [List.flatMap_cons, List.append_assoc] at hd
    obtain ⟨st1, hR1, e1, hh⟩ := fn_read ok1 hd hR
    have el : (B ++ b.rows).length = B.length + b.lines.length := by rw [List.length_append, ok1.len]
    have hn' : (((fs ++ [b.ar]) ++ bs.map FnB.ar).map Prod.fst).Nodup := by rw [List.append_assoc]; exact hn
    obtain ⟨st2, hR2, k2⟩ := funs_read bs (fun x hx => ok x (List.mem_cons_of_mem _ hx)) (fs := fs ++ [b.ar]) (st := st1) (rest := rest) (B := B ++ b.rows) (by rw [hR1.at_, ← hR.at_]; exact drop_app hd) (by rw [el]; exact hR1) (by rw [List.length_append, List.length_singleton]; rw [List.length_cons] at hl; omega) hn'
    refine ⟨st2, ?_, fun f r h => ?_⟩
    · rw [List.flatMap_cons, List.flatMap_cons, ← List.append_assoc, List.length_append, ← Nat.add_assoc, ← el]; exact hR2
    · have hk := k2 f r (by rw [List.append_assoc]; exact h)
      show funsF ts (f + bs.length + 1) fs st = some r
      unfold funsF
      have hh' : headAt ts st.at_ = some "fun" := hh
      rw [if_pos hh', e1]
      simp only
      rw [if_neg ?_]
      · exact hk
      · rintro (hc | hc)
        · obtain ⟨g, hg, hd⟩ := List.any_eq_true.mp hc
          have hd := of_decide_eq_true hd
          rw [List.map_append, List.nodup_append] at hn
          exact hn.2.2 g.1 (List.mem_map.mpr ⟨g, hg, rfl⟩) b.ar.1 (by rw [List.map_cons, List.map_cons]; exact List.mem_cons_self) hd
        · rw [List.length_cons] at hl; omega
theorem nodup_fst : ∀ {hs : List (Str × Nat)}, (hs.map Prod.fst).Nodup → ∀ {g c : Str × Nat}, g ∈ hs → c ∈ hs → g.1 = c.1 → g = c
  | [], _, _, _, h, _, _ => by cases h
  | x :: r, hn, g, c, hg, hc, e => by
    rw [List.map_cons, List.nodup_cons] at hn
    rcases List.mem_cons.mp hg with hg | hg
    · rcases List.mem_cons.mp hc with hc | hc
      · rw [hg, hc]
      · exact absurd (List.mem_map.mpr ⟨c, hc, by rw [← e, hg]⟩ : x.1 ∈ r.map Prod.fst) hn.1
    · rcases List.mem_cons.mp hc with hc | hc
      · exact absurd (List.mem_map.mpr ⟨g, hg, by rw [e, hc]⟩ : x.1 ∈ r.map Prod.fst) hn.1
      · exact nodup_fst hn.2 hg hc e
theorem callOk_mem {hs : List (Str × Nat)} (hn : (hs.map Prod.fst).Nodup) {c : Str × Nat} (hc : c ∈ hs) : callOk hs c = true := by
  unfold callOk
  cases q : hs.find? fun f => decide (f.1 = c.1) with
  | none =>
    rw [List.find?_eq_none] at q
    have := q c hc
    rw [decide_eq_true rfl] at this
    exact absurd rfl this
  | some g =>
    have g1 := List.mem_of_find?_eq_some q
    have g2 : g.1 = c.1 := of_decide_eq_true (by have := List.find?_some q; exact this)
    have : g = c := nodup_fst hn g1 hc g2
    rw [this]
    exact decide_eq_true rfl
theorem flat_ge : ∀ bs : List FnB, bs.length ≤ (bs.flatMap FnB.lines).length
  | [] => Nat.zero_le _
  | b :: r => by
    have := flat_ge r
    rw [List.flatMap_cons, List.length_append, List.length_cons]
    have : 1 ≤ b.lines.length := by unfold FnB.lines; rw [List.length_cons]; omega
    omega
theorem flat_same {hs : List (Str × Nat)} : ∀ bs : List FnB, (∀ b ∈ bs, b.Ok hs) → (bs.flatMap FnB.lines).length = (bs.flatMap FnB.rows).length
  | [], _ => rfl
  | b :: r, ok => by
    rw [List.flatMap_cons, List.flatMap_cons, List.length_append, List.length_append, (ok b List.mem_cons_self).len, flat_same r fun x hx => ok x (List.mem_cons_of_mem _ hx)]
/-- the lines of a program, its rows -/
structure ProgOk (ts : List Str) (R : List (Option RT)) : Prop where
  ex : ∃ (bs : List FnB) (L : List Str) (M : List (Option RT)), (∀ b ∈ bs, b.Ok (bs.map FnB.ar)) ∧ bs.length ≤ 4 ∧ ((bs.map FnB.ar).map Prod.fst).Nodup ∧ Body (bs.map FnB.ar) 5 L M ∧ ts = bs.flatMap FnB.lines ++ Str.ofString "main" :: L ∧ R = bs.flatMap FnB.rows ++ none :: M
  len : ts.length ≤ 60
theorem ProgOk.read {ts : List Str} {R : List (Option RT)} (h : ProgOk ts R) : ∃ num, readF ts = some num ∧ NumIs num R := by
  obtain ⟨bs, L, M, ok, h4, hn, hb, hts, hR⟩ := h.ex
  obtain ⟨st1, r1, k1⟩ := funs_read (ts := ts) bs ok (fs := []) (st := ⟨0, [], []⟩) (rest := Str.ofString "main" :: L) (B := []) (by rw [List.drop_zero]; exact hts) ⟨rfl, fun n => by rfl, fun c hc => by cases hc⟩ (by show 0 + bs.length ≤ 4; omega) (by rw [List.nil_append]; exact hn)
  have a1 : st1.at_ = (bs.flatMap FnB.lines).length := by rw [r1.at_]; exact Nat.zero_add _
  have hd : ts.drop st1.at_ = Str.ofString "main" :: L := by rw [a1, hts, List.drop_left]
  obtain ⟨_, hh⟩ := words_here hd split_main
  obtain ⟨hlt, _, hd2⟩ := drop_cons hd
  have hf : ∃ f, ts.length + 1 = (f + 1) + bs.length := by
    have hx := flat_ge bs
    exact ⟨ts.length - bs.length, by omega⟩
  obtain ⟨f, hf⟩ := hf
  have hfun : funsF ts (f + 1) ([] ++ bs.map FnB.ar) st1 = some (bs.map FnB.ar, st1) := by
    unfold funsF
    rw [if_neg]
    · rfl
    · rw [hh]
      show ¬ some (hd0 [Str.ofString "main"]) = some (Str.ofString "fun")
      intro e
      exact absurd (Option.some.inj e) (by decide +kernel)
  have hp := passF_here hd
  have eB : (([] ++ bs.flatMap FnB.rows) ++ [none]).length = st1.at_ + 1 := by
    rw [List.nil_append, List.length_append, a1]
    rw [flat_same bs ok]; rfl
  obtain ⟨st2, r2, k2⟩ := hb.read (ts := ts) (st := ⟨st1.at_ + 1, st1.num, st1.calls⟩) (rest := []) (B := ([] ++ bs.flatMap FnB.rows) ++ [none]) (by rw [List.append_nil]; exact hd2) ⟨eB.symm, r1.num.pad, r1.calls⟩
  have a2 : st2.at_ = ts.length := by
    rw [r2.at_, eB]
    exact drop_len hd2 hlt
  have hblk : blockF ts 6 ⟨st1.at_ + 1, st1.num, st1.calls⟩ = some st2 := block_of (by rw [hts, List.length_append, List.length_cons]; omega) k2 (blkF_end (by unfold headAt; rw [if_neg (by omega)]) 0)
  refine ⟨st2.num, ?_, ?_⟩
  · unfold readF
    rw [if_pos h.len, hf, k1 (f + 1) _ hfun]
    simp only
    have hp' : passF ts "main" st1 = some ⟨st1.at_ + 1, st1.num, st1.calls⟩ := hp
    rw [hp']
    simp only
    rw [hblk]
    simp only
    rw [if_pos ⟨a2, List.all_eq_true.mpr fun c hc => callOk_mem hn (r2.calls c hc)⟩]
  · have := r2.num
    rw [hR]
    simp only [List.append_assoc, List.cons_append, List.nil_append] at this ⊢
    exact this
theorem ProgOk.lines {ts : List Str} {R : List (Option RT)} (h : ProgOk ts R) : ∀ t ∈ ts, LineOk t := by
  obtain ⟨bs, L, M, ok, h4, hn, hb, hts, hR⟩ := h.ex
  intro t ht
  rw [hts] at ht
  rcases List.mem_append.mp ht with ht | ht
  · obtain ⟨b, hb, ht⟩ := List.mem_flatMap.mp ht
    exact (ok b hb).lineOk t ht
  rcases List.mem_cons.mp ht with rfl | ht
  · exact line_word _ (by decide +kernel)
  · exact hb.lines t ht
theorem ProgOk.ne {ts : List Str} {R : List (Option RT)} (h : ProgOk ts R) : ts ≠ [] := by
  obtain ⟨bs, L, M, ok, h4, hn, hb, hts, hR⟩ := h.ex
  rw [hts]; simp
theorem split_lines {ts : List Str} (h : ∀ t ∈ ts, LineOk t) (hn : ts ≠ []) : Txt.split (Txt.join (Str.ofString "\n") ts) (Str.ofString "\n") = ts :=
  split_join (s := 10) (S := []) tl_end (by decide +kernel) hn fun p hp hm => by have := (h p hp).2 10 hm; omega
theorem LineOk.cod {t : Str} (h : LineOk t) : PyData.strOk t = true := strOk_of fun c hc => (h.2 c hc).2
theorem text_ok {ts : List Str} (h : ∀ t ∈ ts, LineOk t) (hl : ts.length ≤ 100) (hn : ts ≠ []) : TextOk (Txt.join (Str.ofString "\n") ts) := by
  have e := split_lines h hn
  refine ⟨?_, ?_, ?_⟩
  · have hj : ∀ (ps : List (List Nat)), (∀ p ∈ ps, p.length ≤ 1000) → (joinL [10] ps).length ≤ 1001 * ps.length := by
      intro ps
      induction ps with
      | nil => intro _; exact Nat.zero_le _
      | cons p r ih =>
        intro h
        have h1 := h p List.mem_cons_self
        have h2 := ih fun q hq => h q (List.mem_cons_of_mem _ hq)
        cases r with
        | nil => show p.length ≤ 1001 * 1; omega
        | cons q r =>
          show (p ++ ([10] ++ joinL [10] (q :: r))).length ≤ 1001 * ((q :: r).length + 1)
          rw [List.length_append, List.length_append]
          show p.length + (1 + _) ≤ _
          omega
    rw [len_tl, join_eq, tl_join, tl_end]
    have := hj (ts.map tl) fun p hp => by
      obtain ⟨t, ht, rfl⟩ := List.mem_map.mp hp
      have := (h t ht).1
      rw [len_tl] at this; exact this
    rw [List.length_map] at this
    omega
  · have e' : Txt.split (Txt.join (Str.ofString "\n") ts) "\n" = ts := e
    rw [e']
    exact fun t ht => Nat.le_trans (h t ht).1 (by decide)
  · refine strOk_of fun c hc => ?_
    rw [join_eq, tl_join, tl_end] at hc
    rcases joinL_mem2 hc with rfl | ⟨p, hp, hc⟩
    · decide
    · obtain ⟨t, ht, rfl⟩ := List.mem_map.mp hp
      exact ((h t ht).2 c hc).2

/-! ### the law's lines are read -/
theorem blkT_end {ts : List Str} {one : RS → Option (Tr × RS)} {n : Nat} {st : RS} {w : Str} (h : headAt ts st.at_ = some w) (hw : w ∉ ROWW) : blkT ts one (n + 1) st = some ([], st) := by
  unfold blkT
  rw [h]
  simp only
  rw [if_neg hw]
theorem blkT_out {ts : List Str} {one : RS → Option (Tr × RS)} {n : Nat} {st : RS} (h : headAt ts st.at_ = none) : blkT ts one (n + 1) st = some ([], st) := by
  unfold blkT
  rw [h]
theorem blkT_row {ts : List Str} {one : RS → Option (Tr × RS)} {n : Nat} {st st2 st3 : RS} {w : Str} {t : Tr} {bs : List (Nat × Tr)} (h : headAt ts st.at_ = some w) (hw : w ∈ ROWW) (ho : one st = some (t, st2)) (hr : blkT ts one n ⟨st2.at_, putN st2.num st.at_ t.rt, st2.calls⟩ = some (bs, st3)) : blkT ts one (n + 1) st = some ((st.at_, t) :: bs, st3) := by
  unfold blkT
  rw [h]
  simp only
  rw [if_pos hw, ho]
  simp only
  rw [hr]
theorem oneT_call {ts : List Str} {rows : List Str → RS → Option (Tr × RS)} {st : RS} {ws : List Str} {b f : Str} {es : List Ex} (h : wordsAt ts st.at_ = ws) (h0 : hd0 ws = "call") (hc : callF ws = some (b, f, es)) : oneT ts rows st = some (.leaf (.call b f es), ⟨st.at_ + 1, st.num, st.calls ++ [(f, es.length)]⟩) := by
  unfold oneT
  rw [h, h0]
  rw [if_neg (by decide +kernel), if_pos rfl, hc]
theorem oneT_simple {ts : List Str} {rows : List Str → RS → Option (Tr × RS)} {st : RS} {rt : RT} (h : wordsAt ts st.at_ = rt.toks) (ok : rt.Ok) (s : rt.simple = true) : oneT ts rows st = some (.leaf rt, ⟨st.at_ + 1, st.num, st.calls⟩) := by
  unfold oneT
  obtain ⟨_, h1, h2⟩ := simple_hd s
  rw [h, if_neg h1, if_neg h2, simpleF_toks ok s]
  rfl
theorem oneT_if {ts : List Str} {blk : RS → Option (List (Nat × Tr) × RS)} {st st2 st4 : RS} {ws : List Str} {e : Ex} {b1 b2 : List (Nat × Tr)} {L1 L2 : List Str} (h : wordsAt ts st.at_ = ws) (h0 : hd0 ws = "if") (he : exL (ws.drop 1) = some [e]) (hb1 : blk ⟨st.at_ + 1, st.num, st.calls⟩ = some (b1, st2)) (d1 : ts.drop st2.at_ = Str.ofString "else" :: L1)
    (hb2 : blk ⟨st2.at_ + 1, st2.num, st2.calls⟩ = some (b2, st4)) (d2 : ts.drop st4.at_ = Str.ofString "end" :: L2) : oneT ts (rowsT ts blk true) st = some (.ifr e b1 b2, ⟨st4.at_ + 1, st4.num, st4.calls⟩) := by
  unfold oneT
  rw [h, h0]
  rw [if_pos (.inl rfl)]
  unfold rowsT
  rw [if_pos rfl, he]
  show (match blk ⟨st.at_ + 1, st.num, st.calls⟩ with
    | none => none
    | some (b1, st2) => _) = _
  rw [hb1]
  simp only
  rw [h0, if_neg (by decide +kernel)]
  have p1 : passF ts "else" st2 = some ⟨st2.at_ + 1, st2.num, st2.calls⟩ := passF_here d1
  rw [p1]
  simp only
  rw [hb2]
  simp only
  have p2 : passF ts "end" st4 = some ⟨st4.at_ + 1, st4.num, st4.calls⟩ := passF_here d2
  rw [p2]
section
variable {o t f : Str} {m s : Nat}
def eIf (o : Str) (m : Nat) : Ex := .two "less" (.box o) (.num (m : Int))
def eUp (o : Str) : Ex := .two "plus" (.box o) (.num 1)
def eGv (o t : Str) : Ex := .two "plus" (.two "times" (.box t) (.num 3)) (.box o)
def fd24 (o t f : Str) (m s : Nat) : FnD := ⟨f, [o], [(1, .ifr (eIf o m) [(2, .leaf (.call t f [eUp o]))] [(4, .leaf (.set t (.num (s : Int))))])], 6, eGv o t⟩
theorem ex_ok (ho : isNameW o = true) (ht : isNameW t = true) (hm : m < 10) (hs : s < 1000000) : ExOk (eIf o m) ∧ ExOk (eUp o) ∧ ExOk (eGv o t) ∧ ExOk (.num (s : Int)) ∧ ExOk (.num 0) ∧ ExOk (.box t) := by
  refine ⟨⟨⟨by decide +kernel, ho, by omega, by omega⟩, by show max 1 1 + 1 ≤ 6; decide, by show 1 + 1 + 1 ≤ 15; decide⟩, ⟨⟨by decide +kernel, ho, by decide, by decide⟩, by show max 1 1 + 1 ≤ 6; decide, by show 1 + 1 + 1 ≤ 15; decide⟩, ⟨⟨by decide +kernel, ⟨by decide +kernel, ht, by decide, by decide⟩, ho⟩, by show max (max 1 1 + 1) 1 + 1 ≤ 6; decide, by show 1 + (1 + 1 + 1) + 1 ≤ 15; decide⟩, ⟨⟨by omega, by omega⟩, by show 1 ≤ 6; decide, by show 1 ≤ 15; decide⟩, ⟨⟨by decide, by decide⟩, by show 1 ≤ 6; decide, by show 1 ≤ 15; decide⟩, ⟨ht, by show 1 ≤ 6; decide, by show 1 ≤ 15; decide⟩⟩
/-- the lines, as rows' texts -/
def linesR (o t f : Str) (m s : Nat) : List Str := [headText f [o], (RT.ifr (eIf o m)).text, (RT.call t f [eUp o]).text, Str.ofString "else", (RT.set t (.num (s : Int))).text, Str.ofString "end", (RT.give (eGv o t)).text, Str.ofString "main", (RT.call t f [.num 0]).text, (RT.tell (.box t)).text]
theorem jn1 (a : Str) : Txt.join (Str.ofString " ") [a] = a := by
  refine ext_tl ?_
  rw [join_eq, tl_join]; rfl
theorem jnc (a b : Str) (r : List Str) : Txt.join (Str.ofString " ") (a :: b :: r) = a ++ (Str.ofString " " ++ Txt.join (Str.ofString " ") (b :: r)) := by
  refine ext_tl ?_
  rw [tl_append, tl_append, join_eq, join_eq, tl_join, tl_join]; rfl
theorem apa (a b c : Str) : (a ++ b) ++ c = a ++ (b ++ c) := by
  refine ext_tl ?_
  rw [tl_append, tl_append, tl_append, tl_append, List.append_assoc]
theorem lines24_R : lines24 o t f m s = linesR o t f m s := by
  have q1 : Str.ofString "fun " = Str.ofString "fun" ++ Str.ofString " " := by decide +kernel
  have q2 : Str.ofString "if less " = Str.ofString "if" ++ (Str.ofString " " ++ (Str.ofString "less" ++ Str.ofString " ")) := by decide +kernel
  have q3 : Str.ofString "call " = Str.ofString "call" ++ Str.ofString " " := by decide +kernel
  have q4 : Str.ofString " plus " = Str.ofString " " ++ (Str.ofString "plus" ++ Str.ofString " ") := by decide +kernel
  have q5 : Str.ofString " 1" = Str.ofString " " ++ numT 1 := by decide +kernel
  have q6 : Str.ofString "set " = Str.ofString "set" ++ Str.ofString " " := by decide +kernel
  have q7 : Str.ofString "give plus times " = Str.ofString "give" ++ (Str.ofString " " ++ (Str.ofString "plus" ++ (Str.ofString " " ++ (Str.ofString "times" ++ Str.ofString " ")))) := by decide +kernel
  have q8 : Str.ofString " 3 " = Str.ofString " " ++ (numT 3 ++ Str.ofString " ") := by decide +kernel
  have q9 : Str.ofString " 0" = Str.ofString " " ++ numT 0 := by decide +kernel
  have q10 : Str.ofString "tell " = Str.ofString "tell" ++ Str.ofString " " := by decide +kernel
  have tx : ∀ (w : Str) (l r : Ex), (Ex.two w l r).text = w ++ (Str.ofString " " ++ (l.text ++ (Str.ofString " " ++ r.text))) := fun w l r => by
    show Txt.join (Str.ofString " ") [w, l.text, r.text] = _
    rw [jnc, jnc, jn1]
  have tb : ∀ z : Str, (Ex.box z).text = z := fun z => rfl
  have tn : ∀ n : Int, (Ex.num n).text = numT n := fun n => rfl
  unfold lines24 linesR headText RT.text RT.words RT.pairs eIf eUp eGv
  simp only [List.map_cons, List.map_nil, jnc, jn1, tx, tb, tn, q1, q2, q3, q4, q5, q6, q7, q8, q9, q10, apa]

theorem toG {e : Ex} (h : ExOk e) : ExG e := ⟨h.1, h.2.1, by have := h.2.2; omega⟩
theorem head24 (ho : isNameW o = true) (hf : isNameW f = true) : HeadOk f [o] := ⟨hf, fun p hp => by rw [List.mem_singleton.mp hp]; exact ho, (by show 1 ≤ 3; decide), rfl⟩
theorem rows_ok (ho : isNameW o = true) (ht : isNameW t = true) (hf : isNameW f = true) (hm : m < 10) (hs : s < 1000000) : (RT.ifr (eIf o m)).Ok ∧ (RT.call t f [eUp o]).Ok ∧ (RT.set t (.num (s : Int))).Ok ∧ (RT.give (eGv o t)).Ok ∧ (RT.call t f [.num 0]).Ok ∧ (RT.tell (.box t)).Ok := by
  obtain ⟨x1, x2, x3, x4, x5, x6⟩ := ex_ok (m := m) (s := s) ho ht hm hs
  exact ⟨x1, ⟨ht, hf, fun e he => by rw [List.mem_singleton.mp he]; exact x2, (by show 1 ≤ 3; decide)⟩, ⟨ht, x4⟩, x3, ⟨ht, hf, fun e he => by rw [List.mem_singleton.mp he]; exact x5, (by show 1 ≤ 3; decide)⟩, x6⟩
theorem lines_ok (ho : isNameW o = true) (ht : isNameW t = true) (hf : isNameW f = true) (hm : m < 10) (hs : s < 1000000) : ∀ l ∈ linesR o t f m s, LineOk l := by
  obtain ⟨r1, r2, r3, r4, r5, r6⟩ := rows_ok (m := m) (s := s) ho ht hf hm hs
  intro l hl
  simp only [linesR, List.mem_cons, List.not_mem_nil, or_false] at hl
  rcases hl with rfl | rfl | rfl | rfl | rfl | rfl | rfl | rfl | rfl | rfl
  · exact head_line (head24 ho hf)
  · exact RT.line r1
  · exact RT.line r2
  · exact line_word _ (by decide +kernel)
  · exact RT.line r3
  · exact line_word _ (by decide +kernel)
  · exact RT.line r4
  · exact line_word _ (by decide +kernel)
  · exact RT.line r5
  · exact RT.line r6
theorem readT24 (ho : isNameW o = true) (ht : isNameW t = true) (hf : isNameW f = true) (hm : m < 10) (hs : s < 1000000) : readT (linesR o t f m s) = some ([fd24 o t f m s], main24 t f) := by
  obtain ⟨x1, x2, x3, x4, x5, x6⟩ := ex_ok (m := m) (s := s) ho ht hm hs
  obtain ⟨r1, r2, r3, r4, r5, r6⟩ := rows_ok (m := m) (s := s) ho ht hf hm hs
  generalize hT : linesR o t f m s = ts
  have hl : ts.length = 10 := by rw [← hT]; rfl
  have w0 := words_here (ts := ts) (i := 0) (t := headText f [o]) (r := (linesR o t f m s).drop 1) (by rw [← hT]; rfl) (head_split (head24 ho hf))
  have w1 := words_here (ts := ts) (i := 1) (t := (RT.ifr (eIf o m)).text) (r := (linesR o t f m s).drop 2) (by rw [← hT]; rfl) (RT.split r1)
  have w2 := words_here (ts := ts) (i := 2) (t := (RT.call t f [eUp o]).text) (r := (linesR o t f m s).drop 3) (by rw [← hT]; rfl) (RT.split r2)
  have d3 : ts.drop 3 = Str.ofString "else" :: (linesR o t f m s).drop 4 := by rw [← hT]; rfl
  have w3 := words_here (ts := ts) (i := 3) d3 split_else
  have w4 := words_here (ts := ts) (i := 4) (t := (RT.set t (.num (s : Int))).text) (r := (linesR o t f m s).drop 5) (by rw [← hT]; rfl) (RT.split r3)
  have d5 : ts.drop 5 = Str.ofString "end" :: (linesR o t f m s).drop 6 := by rw [← hT]; rfl
  have w5 := words_here (ts := ts) (i := 5) d5 split_end
  have w6 := words_here (ts := ts) (i := 6) (t := (RT.give (eGv o t)).text) (r := (linesR o t f m s).drop 7) (by rw [← hT]; rfl) (RT.split r4)
  have d7 : ts.drop 7 = Str.ofString "main" :: (linesR o t f m s).drop 8 := by rw [← hT]; rfl
  have w7 := words_here (ts := ts) (i := 7) d7 split_main
  have w8 := words_here (ts := ts) (i := 8) (t := (RT.call t f [.num 0]).text) (r := (linesR o t f m s).drop 9) (by rw [← hT]; rfl) (RT.split r5)
  have w9 := words_here (ts := ts) (i := 9) (t := (RT.tell (.box t)).text) (r := (linesR o t f m s).drop 10) (by rw [← hT]; rfl) (RT.split r6)
  have h10 : headAt ts 10 = none := by unfold headAt; rw [if_neg (by omega)]
  have hw : ∀ x ∈ (["if", "call", "set", "tell"] : List Str), x ∈ ROWW := by decide +kernel
  have nw : ∀ x ∈ (["else", "end", "give"] : List Str), x ∉ ROWW := by decide +kernel
  have b2 : ∀ num cs, blockT ts 5 ⟨2, num, cs⟩ = some ([(2, .leaf (.call t f [eUp o]))], ⟨3, putN num 2 (.call t f [eUp o]), cs ++ [(f, 1)]⟩) := fun num cs => by
    show blkT ts _ (ts.length + 1) _ = _
    rw [hl]
    exact blkT_row (st := ⟨2, num, cs⟩) (w := "call") w2.2 (hw _ (by simp)) (oneT_call (st := ⟨2, num, cs⟩) w2.1 rfl (callF_toks r2)) (blkT_end (st := ⟨3, _, _⟩) (w := "else") w3.2 (nw _ (by simp)))
  have b4 : ∀ num cs, blockT ts 5 ⟨4, num, cs⟩ = some ([(4, .leaf (.set t (.num (s : Int))))], ⟨5, putN num 4 (.set t (.num (s : Int))), cs⟩) := fun num cs => by
    show blkT ts _ (ts.length + 1) _ = _
    rw [hl]
    exact blkT_row (st := ⟨4, num, cs⟩) (w := "set") w4.2 (hw _ (by simp)) (oneT_simple (st := ⟨4, num, cs⟩) w4.1 r3 rfl) (blkT_end (st := ⟨5, _, _⟩) (w := "end") w5.2 (nw _ (by simp)))
  obtain ⟨N1, b1⟩ : ∃ N1, blockT ts 6 ⟨1, [], []⟩ = some ([(1, .ifr (eIf o m) [(2, .leaf (.call t f [eUp o]))] [(4, .leaf (.set t (.num (s : Int))))])], ⟨6, N1, [(f, 1)]⟩) := by
    refine ⟨putN (putN (putN [] 2 (.call t f [eUp o])) 4 (.set t (.num (s : Int)))) 1 (.ifr (eIf o m)), ?_⟩
    show blkT ts _ (ts.length + 1) _ = _
    rw [hl]
    refine blkT_row (st := ⟨1, [], []⟩) (st2 := ⟨6, putN (putN [] 2 (.call t f [eUp o])) 4 (.set t (.num (s : Int))), [(f, 1)]⟩) (w := "if") w1.2 (hw _ (by simp)) ?_ (blkT_end (st := ⟨6, _, _⟩) (w := "give") w6.2 (nw _ (by simp)))
    exact oneT_if (st := ⟨1, [], []⟩) w1.1 rfl (exL_one x1) (b2 _ _) d3 (b4 _ _) d5
  have hfn : functionT ts ⟨0, [], []⟩ = some (fd24 o t f m s, ⟨7, putN N1 6 (.give (eGv o t)), [(f, 1)]⟩) := by
    unfold functionT
    rw [w0.1, if_pos ⟨by show ([f, o] : List Str).all isNameW = true; simp [hf, ho], by show 2 ≤ 3; decide, by show 1 ≤ 3; decide, rfl⟩]
    show (match blockT ts 6 ⟨1, [], []⟩ with
      | none => none
      | some (bs, st2) => _) = _
    rw [b1]
    simp only
    have h6 : headAt ts 6 = some (Str.ofString "give") := w6.2
    rw [h6]
    refine (if_pos (by rfl)).trans ?_
    rw [w6.1]
    show (match only1 (exL (eGv o t).toks) with
      | none => none
      | some e => _) = _
    rw [exL_one x3]
    rfl
  have hfs : funsT ts 11 [] ⟨0, [], []⟩ = some ([fd24 o t f m s], ⟨7, putN N1 6 (.give (eGv o t)), [(f, 1)]⟩) := by
    have h0 : headAt ts 0 = some (Str.ofString "fun") := w0.2
    have h7 : headAt ts 7 = some (Str.ofString "main") := w7.2
    show (if headAt ts 0 = some "fun" then _ else _) = _
    rw [h0]
    refine (if_pos (by rfl)).trans ?_
    show (match functionT ts ⟨0, [], []⟩ with
      | none => none
      | some (f, st2) => _) = _
    rw [hfn]
    simp only
    rw [if_neg (by simp)]
    show (if headAt ts 7 = some "fun" then _ else _) = _
    rw [h7, if_neg (by decide +kernel)]
    rfl
  unfold readT
  rw [hl, if_pos (by decide), hfs]
  simp only
  have p7 : passF ts "main" ⟨7, putN N1 6 (.give (eGv o t)), [(f, 1)]⟩ = some ⟨8, putN N1 6 (.give (eGv o t)), [(f, 1)]⟩ := passF_here (st := ⟨7, _, _⟩) d7
  rw [p7]
  simp only
  obtain ⟨N2, b8⟩ : ∃ N2, blockT ts 6 ⟨8, putN N1 6 (.give (eGv o t)), [(f, 1)]⟩ = some (main24 t f, ⟨10, N2, [(f, 1), (f, 1)]⟩) := by
    refine ⟨putN (putN (putN N1 6 (.give (eGv o t))) 8 (.call t f [.num 0])) 9 (.tell (.box t)), ?_⟩
    show blkT ts _ (ts.length + 1) _ = _
    rw [hl]
    refine blkT_row (st := ⟨8, _, _⟩) (w := "call") w8.2 (hw _ (by simp)) (oneT_call (st := ⟨8, _, _⟩) w8.1 rfl (callF_toks r5)) ?_
    exact blkT_row (st := ⟨9, _, _⟩) (w := "tell") w9.2 (hw _ (by simp)) (oneT_simple (st := ⟨9, _, _⟩) w9.1 r6 rfl) (blkT_out (st := ⟨10, _, _⟩) h10)
  rw [b8]
  have hc : callOk [(f, 1)] (f, 1) = true := by
    unfold callOk
    rw [List.find?_cons, decide_eq_true rfl]
    rfl
  have ha : ([(f, 1), (f, 1)].all (callOk [(f, 1)])) = true := by simp [hc]
  exact if_pos ⟨rfl, ha⟩
theorem body_w (ho : isNameW o = true) (ht : isNameW t = true) (hf : isNameW f = true) (hm : m < 10) (hs : s < 1000000) : BlkW (wp24 o t f m (s : Int)) (wp24 o t f m (s : Int)).body ∧ BlkW (wp24 o t f m (s : Int)) (main24 t f) ∧ ExG (wp24 o t f m (s : Int)).give := by
  obtain ⟨x1, x2, x3, x4, x5, x6⟩ := ex_ok (m := m) (s := s) ho ht hm hs
  refine ⟨.cons (.ifr (toG x1) (.cons (.leaf ⟨rfl, fun e he => by rw [List.mem_singleton.mp he]; exact toG x2, (by show 1 ≤ 9; decide)⟩) .nil) (.cons (.leaf (toG x4)) .nil)) .nil, .cons (.leaf ⟨rfl, fun e he => by rw [List.mem_singleton.mp he]; exact toG x5, (by show 1 ≤ 9; decide)⟩) (.cons (.leaf (toG x6)) .nil), toG x3⟩
end
/-! ### its names -/
def STEMS : List Str := ["", "x", "iff", "callb", "give"]
def SGS : List (List Str) := [["b", "c", "d"], ["d", "b", "c"], ["c", "d", "c"]]
def sgn (n2 k : Nat) : Str := (SGS.getD n2 []).getD k (Str.ofString "")
def nm24 (n1 n2 k : Nat) : Str := STEMS.getD n1 (Str.ofString "") ++ sgn n2 k
theorem nm_ok : ∀ n1 < 5, ∀ n2 < 3, ∀ k < 3, isNameW (nm24 n1 n2 k) = true ∧ (nm24 n1 n2 k).length ≤ 6 ∧ PyData.strOk (nm24 n1 n2 k) = true := by decide +kernel
/-! ### its program is walked -/
def lastIs (n : Int) (m : Mo) : Bool := decide (m.adr.getLast? = some n)
def at24 : List Int := [8, 0, 1, 0, 2, 0, 1, 0, 2, 0, 1, 0, 2, 0, 1, 0, 2, 0, 1, 0, 2, 0, 1, 0, 2]
def fr24 : List Int := [8, 0, 1, 0, 2, 0, 1, 0, 2, 0, 1, 0, 2, 0, 1, 0, 2, 0, 1, 0, 2]
def runA (o t f : Str) (many : Nat) (start : Int) : Option (Bool × WS) := walkW (wp24 o t f many start) 20 (main24 t f) [] [] 0 ⟨[], [], none⟩
def outA (r : Bool × WS) : Bool × Option Ed × Nat × Option (List (Pl × Int)) × List Int × Bool := (r.1, r.2.ended, (r.2.kept.filter (lastIs 6)).length, ((r.2.kept.filter (lastIs 6)).getLast?).map (·.makes), saidL r.2.kept, r.2.kept.all fun m => !m.adr.isEmpty)
def outB (r : Bool × WS) : Bool × Option Ed × Option Mo × List Int := (r.1, r.2.ended, r.2.kept.getLast?, saidL r.2.kept)
theorem gA_0_0_0 (s : Nat) : (runA (nm24 0 0 0) (nm24 0 0 1) (nm24 0 0 2) 0 (s : Int)).map outA = some (true, none, 1, some [(.box [] (nm24 0 0 1), val24 0 (s : Int))], [val24 0 (s : Int)], true) := by kernel_rfl
theorem gA_0_0_1 (s : Nat) : (runA (nm24 0 0 0) (nm24 0 0 1) (nm24 0 0 2) 1 (s : Int)).map outA = some (true, none, 2, some [(.box [] (nm24 0 0 1), val24 1 (s : Int))], [val24 1 (s : Int)], true) := by kernel_rfl
theorem gA_0_0_2 (s : Nat) : (runA (nm24 0 0 0) (nm24 0 0 1) (nm24 0 0 2) 2 (s : Int)).map outA = some (true, none, 3, some [(.box [] (nm24 0 0 1), val24 2 (s : Int))], [val24 2 (s : Int)], true) := by kernel_rfl
theorem gA_0_0_3 (s : Nat) : (runA (nm24 0 0 0) (nm24 0 0 1) (nm24 0 0 2) 3 (s : Int)).map outA = some (true, none, 4, some [(.box [] (nm24 0 0 1), val24 3 (s : Int))], [val24 3 (s : Int)], true) := by kernel_rfl
theorem gA_0_0_4 (s : Nat) : (runA (nm24 0 0 0) (nm24 0 0 1) (nm24 0 0 2) 4 (s : Int)).map outA = some (true, none, 5, some [(.box [] (nm24 0 0 1), val24 4 (s : Int))], [val24 4 (s : Int)], true) := by kernel_rfl
theorem gA_0_0_5 (s : Nat) : (runA (nm24 0 0 0) (nm24 0 0 1) (nm24 0 0 2) 5 (s : Int)).map outA = some (true, none, 6, some [(.box [] (nm24 0 0 1), val24 5 (s : Int))], [val24 5 (s : Int)], true) := by kernel_rfl
theorem gB_0_0_6 (s : Nat) : (runA (nm24 0 0 0) (nm24 0 0 1) (nm24 0 0 2) 6 (s : Int)).map outB = some (false, some (.fell "deep" at24), some ⟨at24, [(.box fr24 (nm24 0 0 0), 5)], [], none, none, some "deep"⟩, []) := by kernel_rfl
theorem gB_0_0_7 (s : Nat) : (runA (nm24 0 0 0) (nm24 0 0 1) (nm24 0 0 2) 7 (s : Int)).map outB = some (false, some (.fell "deep" at24), some ⟨at24, [(.box fr24 (nm24 0 0 0), 5)], [], none, none, some "deep"⟩, []) := by kernel_rfl
theorem gB_0_0_8 (s : Nat) : (runA (nm24 0 0 0) (nm24 0 0 1) (nm24 0 0 2) 8 (s : Int)).map outB = some (false, some (.fell "deep" at24), some ⟨at24, [(.box fr24 (nm24 0 0 0), 5)], [], none, none, some "deep"⟩, []) := by kernel_rfl
theorem gB_0_0_9 (s : Nat) : (runA (nm24 0 0 0) (nm24 0 0 1) (nm24 0 0 2) 9 (s : Int)).map outB = some (false, some (.fell "deep" at24), some ⟨at24, [(.box fr24 (nm24 0 0 0), 5)], [], none, none, some "deep"⟩, []) := by kernel_rfl
theorem gA_0_1_0 (s : Nat) : (runA (nm24 0 1 0) (nm24 0 1 1) (nm24 0 1 2) 0 (s : Int)).map outA = some (true, none, 1, some [(.box [] (nm24 0 1 1), val24 0 (s : Int))], [val24 0 (s : Int)], true) := by kernel_rfl
theorem gA_0_1_1 (s : Nat) : (runA (nm24 0 1 0) (nm24 0 1 1) (nm24 0 1 2) 1 (s : Int)).map outA = some (true, none, 2, some [(.box [] (nm24 0 1 1), val24 1 (s : Int))], [val24 1 (s : Int)], true) := by kernel_rfl
theorem gA_0_1_2 (s : Nat) : (runA (nm24 0 1 0) (nm24 0 1 1) (nm24 0 1 2) 2 (s : Int)).map outA = some (true, none, 3, some [(.box [] (nm24 0 1 1), val24 2 (s : Int))], [val24 2 (s : Int)], true) := by kernel_rfl
theorem gA_0_1_3 (s : Nat) : (runA (nm24 0 1 0) (nm24 0 1 1) (nm24 0 1 2) 3 (s : Int)).map outA = some (true, none, 4, some [(.box [] (nm24 0 1 1), val24 3 (s : Int))], [val24 3 (s : Int)], true) := by kernel_rfl
theorem gA_0_1_4 (s : Nat) : (runA (nm24 0 1 0) (nm24 0 1 1) (nm24 0 1 2) 4 (s : Int)).map outA = some (true, none, 5, some [(.box [] (nm24 0 1 1), val24 4 (s : Int))], [val24 4 (s : Int)], true) := by kernel_rfl
theorem gA_0_1_5 (s : Nat) : (runA (nm24 0 1 0) (nm24 0 1 1) (nm24 0 1 2) 5 (s : Int)).map outA = some (true, none, 6, some [(.box [] (nm24 0 1 1), val24 5 (s : Int))], [val24 5 (s : Int)], true) := by kernel_rfl
theorem gB_0_1_6 (s : Nat) : (runA (nm24 0 1 0) (nm24 0 1 1) (nm24 0 1 2) 6 (s : Int)).map outB = some (false, some (.fell "deep" at24), some ⟨at24, [(.box fr24 (nm24 0 1 0), 5)], [], none, none, some "deep"⟩, []) := by kernel_rfl
theorem gB_0_1_7 (s : Nat) : (runA (nm24 0 1 0) (nm24 0 1 1) (nm24 0 1 2) 7 (s : Int)).map outB = some (false, some (.fell "deep" at24), some ⟨at24, [(.box fr24 (nm24 0 1 0), 5)], [], none, none, some "deep"⟩, []) := by kernel_rfl
theorem gB_0_1_8 (s : Nat) : (runA (nm24 0 1 0) (nm24 0 1 1) (nm24 0 1 2) 8 (s : Int)).map outB = some (false, some (.fell "deep" at24), some ⟨at24, [(.box fr24 (nm24 0 1 0), 5)], [], none, none, some "deep"⟩, []) := by kernel_rfl
theorem gB_0_1_9 (s : Nat) : (runA (nm24 0 1 0) (nm24 0 1 1) (nm24 0 1 2) 9 (s : Int)).map outB = some (false, some (.fell "deep" at24), some ⟨at24, [(.box fr24 (nm24 0 1 0), 5)], [], none, none, some "deep"⟩, []) := by kernel_rfl
theorem gA_0_2_0 (s : Nat) : (runA (nm24 0 2 0) (nm24 0 2 1) (nm24 0 2 2) 0 (s : Int)).map outA = some (true, none, 1, some [(.box [] (nm24 0 2 1), val24 0 (s : Int))], [val24 0 (s : Int)], true) := by kernel_rfl
theorem gA_0_2_1 (s : Nat) : (runA (nm24 0 2 0) (nm24 0 2 1) (nm24 0 2 2) 1 (s : Int)).map outA = some (true, none, 2, some [(.box [] (nm24 0 2 1), val24 1 (s : Int))], [val24 1 (s : Int)], true) := by kernel_rfl
theorem gA_0_2_2 (s : Nat) : (runA (nm24 0 2 0) (nm24 0 2 1) (nm24 0 2 2) 2 (s : Int)).map outA = some (true, none, 3, some [(.box [] (nm24 0 2 1), val24 2 (s : Int))], [val24 2 (s : Int)], true) := by kernel_rfl
theorem gA_0_2_3 (s : Nat) : (runA (nm24 0 2 0) (nm24 0 2 1) (nm24 0 2 2) 3 (s : Int)).map outA = some (true, none, 4, some [(.box [] (nm24 0 2 1), val24 3 (s : Int))], [val24 3 (s : Int)], true) := by kernel_rfl
theorem gA_0_2_4 (s : Nat) : (runA (nm24 0 2 0) (nm24 0 2 1) (nm24 0 2 2) 4 (s : Int)).map outA = some (true, none, 5, some [(.box [] (nm24 0 2 1), val24 4 (s : Int))], [val24 4 (s : Int)], true) := by kernel_rfl
theorem gA_0_2_5 (s : Nat) : (runA (nm24 0 2 0) (nm24 0 2 1) (nm24 0 2 2) 5 (s : Int)).map outA = some (true, none, 6, some [(.box [] (nm24 0 2 1), val24 5 (s : Int))], [val24 5 (s : Int)], true) := by kernel_rfl
theorem gB_0_2_6 (s : Nat) : (runA (nm24 0 2 0) (nm24 0 2 1) (nm24 0 2 2) 6 (s : Int)).map outB = some (false, some (.fell "deep" at24), some ⟨at24, [(.box fr24 (nm24 0 2 0), 5)], [], none, none, some "deep"⟩, []) := by kernel_rfl
theorem gB_0_2_7 (s : Nat) : (runA (nm24 0 2 0) (nm24 0 2 1) (nm24 0 2 2) 7 (s : Int)).map outB = some (false, some (.fell "deep" at24), some ⟨at24, [(.box fr24 (nm24 0 2 0), 5)], [], none, none, some "deep"⟩, []) := by kernel_rfl
theorem gB_0_2_8 (s : Nat) : (runA (nm24 0 2 0) (nm24 0 2 1) (nm24 0 2 2) 8 (s : Int)).map outB = some (false, some (.fell "deep" at24), some ⟨at24, [(.box fr24 (nm24 0 2 0), 5)], [], none, none, some "deep"⟩, []) := by kernel_rfl
theorem gB_0_2_9 (s : Nat) : (runA (nm24 0 2 0) (nm24 0 2 1) (nm24 0 2 2) 9 (s : Int)).map outB = some (false, some (.fell "deep" at24), some ⟨at24, [(.box fr24 (nm24 0 2 0), 5)], [], none, none, some "deep"⟩, []) := by kernel_rfl
theorem gA_1_0_0 (s : Nat) : (runA (nm24 1 0 0) (nm24 1 0 1) (nm24 1 0 2) 0 (s : Int)).map outA = some (true, none, 1, some [(.box [] (nm24 1 0 1), val24 0 (s : Int))], [val24 0 (s : Int)], true) := by kernel_rfl
theorem gA_1_0_1 (s : Nat) : (runA (nm24 1 0 0) (nm24 1 0 1) (nm24 1 0 2) 1 (s : Int)).map outA = some (true, none, 2, some [(.box [] (nm24 1 0 1), val24 1 (s : Int))], [val24 1 (s : Int)], true) := by kernel_rfl
theorem gA_1_0_2 (s : Nat) : (runA (nm24 1 0 0) (nm24 1 0 1) (nm24 1 0 2) 2 (s : Int)).map outA = some (true, none, 3, some [(.box [] (nm24 1 0 1), val24 2 (s : Int))], [val24 2 (s : Int)], true) := by kernel_rfl
theorem gA_1_0_3 (s : Nat) : (runA (nm24 1 0 0) (nm24 1 0 1) (nm24 1 0 2) 3 (s : Int)).map outA = some (true, none, 4, some [(.box [] (nm24 1 0 1), val24 3 (s : Int))], [val24 3 (s : Int)], true) := by kernel_rfl
theorem gA_1_0_4 (s : Nat) : (runA (nm24 1 0 0) (nm24 1 0 1) (nm24 1 0 2) 4 (s : Int)).map outA = some (true, none, 5, some [(.box [] (nm24 1 0 1), val24 4 (s : Int))], [val24 4 (s : Int)], true) := by kernel_rfl
theorem gA_1_0_5 (s : Nat) : (runA (nm24 1 0 0) (nm24 1 0 1) (nm24 1 0 2) 5 (s : Int)).map outA = some (true, none, 6, some [(.box [] (nm24 1 0 1), val24 5 (s : Int))], [val24 5 (s : Int)], true) := by kernel_rfl
theorem gB_1_0_6 (s : Nat) : (runA (nm24 1 0 0) (nm24 1 0 1) (nm24 1 0 2) 6 (s : Int)).map outB = some (false, some (.fell "deep" at24), some ⟨at24, [(.box fr24 (nm24 1 0 0), 5)], [], none, none, some "deep"⟩, []) := by kernel_rfl
theorem gB_1_0_7 (s : Nat) : (runA (nm24 1 0 0) (nm24 1 0 1) (nm24 1 0 2) 7 (s : Int)).map outB = some (false, some (.fell "deep" at24), some ⟨at24, [(.box fr24 (nm24 1 0 0), 5)], [], none, none, some "deep"⟩, []) := by kernel_rfl
theorem gB_1_0_8 (s : Nat) : (runA (nm24 1 0 0) (nm24 1 0 1) (nm24 1 0 2) 8 (s : Int)).map outB = some (false, some (.fell "deep" at24), some ⟨at24, [(.box fr24 (nm24 1 0 0), 5)], [], none, none, some "deep"⟩, []) := by kernel_rfl
theorem gB_1_0_9 (s : Nat) : (runA (nm24 1 0 0) (nm24 1 0 1) (nm24 1 0 2) 9 (s : Int)).map outB = some (false, some (.fell "deep" at24), some ⟨at24, [(.box fr24 (nm24 1 0 0), 5)], [], none, none, some "deep"⟩, []) := by kernel_rfl
theorem gA_1_1_0 (s : Nat) : (runA (nm24 1 1 0) (nm24 1 1 1) (nm24 1 1 2) 0 (s : Int)).map outA = some (true, none, 1, some [(.box [] (nm24 1 1 1), val24 0 (s : Int))], [val24 0 (s : Int)], true) := by kernel_rfl
theorem gA_1_1_1 (s : Nat) : (runA (nm24 1 1 0) (nm24 1 1 1) (nm24 1 1 2) 1 (s : Int)).map outA = some (true, none, 2, some [(.box [] (nm24 1 1 1), val24 1 (s : Int))], [val24 1 (s : Int)], true) := by kernel_rfl
theorem gA_1_1_2 (s : Nat) : (runA (nm24 1 1 0) (nm24 1 1 1) (nm24 1 1 2) 2 (s : Int)).map outA = some (true, none, 3, some [(.box [] (nm24 1 1 1), val24 2 (s : Int))], [val24 2 (s : Int)], true) := by kernel_rfl
theorem gA_1_1_3 (s : Nat) : (runA (nm24 1 1 0) (nm24 1 1 1) (nm24 1 1 2) 3 (s : Int)).map outA = some (true, none, 4, some [(.box [] (nm24 1 1 1), val24 3 (s : Int))], [val24 3 (s : Int)], true) := by kernel_rfl
theorem gA_1_1_4 (s : Nat) : (runA (nm24 1 1 0) (nm24 1 1 1) (nm24 1 1 2) 4 (s : Int)).map outA = some (true, none, 5, some [(.box [] (nm24 1 1 1), val24 4 (s : Int))], [val24 4 (s : Int)], true) := by kernel_rfl
theorem gA_1_1_5 (s : Nat) : (runA (nm24 1 1 0) (nm24 1 1 1) (nm24 1 1 2) 5 (s : Int)).map outA = some (true, none, 6, some [(.box [] (nm24 1 1 1), val24 5 (s : Int))], [val24 5 (s : Int)], true) := by kernel_rfl
theorem gB_1_1_6 (s : Nat) : (runA (nm24 1 1 0) (nm24 1 1 1) (nm24 1 1 2) 6 (s : Int)).map outB = some (false, some (.fell "deep" at24), some ⟨at24, [(.box fr24 (nm24 1 1 0), 5)], [], none, none, some "deep"⟩, []) := by kernel_rfl
theorem gB_1_1_7 (s : Nat) : (runA (nm24 1 1 0) (nm24 1 1 1) (nm24 1 1 2) 7 (s : Int)).map outB = some (false, some (.fell "deep" at24), some ⟨at24, [(.box fr24 (nm24 1 1 0), 5)], [], none, none, some "deep"⟩, []) := by kernel_rfl
theorem gB_1_1_8 (s : Nat) : (runA (nm24 1 1 0) (nm24 1 1 1) (nm24 1 1 2) 8 (s : Int)).map outB = some (false, some (.fell "deep" at24), some ⟨at24, [(.box fr24 (nm24 1 1 0), 5)], [], none, none, some "deep"⟩, []) := by kernel_rfl
theorem gB_1_1_9 (s : Nat) : (runA (nm24 1 1 0) (nm24 1 1 1) (nm24 1 1 2) 9 (s : Int)).map outB = some (false, some (.fell "deep" at24), some ⟨at24, [(.box fr24 (nm24 1 1 0), 5)], [], none, none, some "deep"⟩, []) := by kernel_rfl
theorem gA_1_2_0 (s : Nat) : (runA (nm24 1 2 0) (nm24 1 2 1) (nm24 1 2 2) 0 (s : Int)).map outA = some (true, none, 1, some [(.box [] (nm24 1 2 1), val24 0 (s : Int))], [val24 0 (s : Int)], true) := by kernel_rfl
theorem gA_1_2_1 (s : Nat) : (runA (nm24 1 2 0) (nm24 1 2 1) (nm24 1 2 2) 1 (s : Int)).map outA = some (true, none, 2, some [(.box [] (nm24 1 2 1), val24 1 (s : Int))], [val24 1 (s : Int)], true) := by kernel_rfl
theorem gA_1_2_2 (s : Nat) : (runA (nm24 1 2 0) (nm24 1 2 1) (nm24 1 2 2) 2 (s : Int)).map outA = some (true, none, 3, some [(.box [] (nm24 1 2 1), val24 2 (s : Int))], [val24 2 (s : Int)], true) := by kernel_rfl
theorem gA_1_2_3 (s : Nat) : (runA (nm24 1 2 0) (nm24 1 2 1) (nm24 1 2 2) 3 (s : Int)).map outA = some (true, none, 4, some [(.box [] (nm24 1 2 1), val24 3 (s : Int))], [val24 3 (s : Int)], true) := by kernel_rfl
theorem gA_1_2_4 (s : Nat) : (runA (nm24 1 2 0) (nm24 1 2 1) (nm24 1 2 2) 4 (s : Int)).map outA = some (true, none, 5, some [(.box [] (nm24 1 2 1), val24 4 (s : Int))], [val24 4 (s : Int)], true) := by kernel_rfl
theorem gA_1_2_5 (s : Nat) : (runA (nm24 1 2 0) (nm24 1 2 1) (nm24 1 2 2) 5 (s : Int)).map outA = some (true, none, 6, some [(.box [] (nm24 1 2 1), val24 5 (s : Int))], [val24 5 (s : Int)], true) := by kernel_rfl
theorem gB_1_2_6 (s : Nat) : (runA (nm24 1 2 0) (nm24 1 2 1) (nm24 1 2 2) 6 (s : Int)).map outB = some (false, some (.fell "deep" at24), some ⟨at24, [(.box fr24 (nm24 1 2 0), 5)], [], none, none, some "deep"⟩, []) := by kernel_rfl
theorem gB_1_2_7 (s : Nat) : (runA (nm24 1 2 0) (nm24 1 2 1) (nm24 1 2 2) 7 (s : Int)).map outB = some (false, some (.fell "deep" at24), some ⟨at24, [(.box fr24 (nm24 1 2 0), 5)], [], none, none, some "deep"⟩, []) := by kernel_rfl
theorem gB_1_2_8 (s : Nat) : (runA (nm24 1 2 0) (nm24 1 2 1) (nm24 1 2 2) 8 (s : Int)).map outB = some (false, some (.fell "deep" at24), some ⟨at24, [(.box fr24 (nm24 1 2 0), 5)], [], none, none, some "deep"⟩, []) := by kernel_rfl
theorem gB_1_2_9 (s : Nat) : (runA (nm24 1 2 0) (nm24 1 2 1) (nm24 1 2 2) 9 (s : Int)).map outB = some (false, some (.fell "deep" at24), some ⟨at24, [(.box fr24 (nm24 1 2 0), 5)], [], none, none, some "deep"⟩, []) := by kernel_rfl
theorem gA_2_0_0 (s : Nat) : (runA (nm24 2 0 0) (nm24 2 0 1) (nm24 2 0 2) 0 (s : Int)).map outA = some (true, none, 1, some [(.box [] (nm24 2 0 1), val24 0 (s : Int))], [val24 0 (s : Int)], true) := by kernel_rfl
theorem gA_2_0_1 (s : Nat) : (runA (nm24 2 0 0) (nm24 2 0 1) (nm24 2 0 2) 1 (s : Int)).map outA = some (true, none, 2, some [(.box [] (nm24 2 0 1), val24 1 (s : Int))], [val24 1 (s : Int)], true) := by kernel_rfl
theorem gA_2_0_2 (s : Nat) : (runA (nm24 2 0 0) (nm24 2 0 1) (nm24 2 0 2) 2 (s : Int)).map outA = some (true, none, 3, some [(.box [] (nm24 2 0 1), val24 2 (s : Int))], [val24 2 (s : Int)], true) := by kernel_rfl
theorem gA_2_0_3 (s : Nat) : (runA (nm24 2 0 0) (nm24 2 0 1) (nm24 2 0 2) 3 (s : Int)).map outA = some (true, none, 4, some [(.box [] (nm24 2 0 1), val24 3 (s : Int))], [val24 3 (s : Int)], true) := by kernel_rfl
theorem gA_2_0_4 (s : Nat) : (runA (nm24 2 0 0) (nm24 2 0 1) (nm24 2 0 2) 4 (s : Int)).map outA = some (true, none, 5, some [(.box [] (nm24 2 0 1), val24 4 (s : Int))], [val24 4 (s : Int)], true) := by kernel_rfl
theorem gA_2_0_5 (s : Nat) : (runA (nm24 2 0 0) (nm24 2 0 1) (nm24 2 0 2) 5 (s : Int)).map outA = some (true, none, 6, some [(.box [] (nm24 2 0 1), val24 5 (s : Int))], [val24 5 (s : Int)], true) := by kernel_rfl
theorem gB_2_0_6 (s : Nat) : (runA (nm24 2 0 0) (nm24 2 0 1) (nm24 2 0 2) 6 (s : Int)).map outB = some (false, some (.fell "deep" at24), some ⟨at24, [(.box fr24 (nm24 2 0 0), 5)], [], none, none, some "deep"⟩, []) := by kernel_rfl
theorem gB_2_0_7 (s : Nat) : (runA (nm24 2 0 0) (nm24 2 0 1) (nm24 2 0 2) 7 (s : Int)).map outB = some (false, some (.fell "deep" at24), some ⟨at24, [(.box fr24 (nm24 2 0 0), 5)], [], none, none, some "deep"⟩, []) := by kernel_rfl
theorem gB_2_0_8 (s : Nat) : (runA (nm24 2 0 0) (nm24 2 0 1) (nm24 2 0 2) 8 (s : Int)).map outB = some (false, some (.fell "deep" at24), some ⟨at24, [(.box fr24 (nm24 2 0 0), 5)], [], none, none, some "deep"⟩, []) := by kernel_rfl
theorem gB_2_0_9 (s : Nat) : (runA (nm24 2 0 0) (nm24 2 0 1) (nm24 2 0 2) 9 (s : Int)).map outB = some (false, some (.fell "deep" at24), some ⟨at24, [(.box fr24 (nm24 2 0 0), 5)], [], none, none, some "deep"⟩, []) := by kernel_rfl
theorem gA_2_1_0 (s : Nat) : (runA (nm24 2 1 0) (nm24 2 1 1) (nm24 2 1 2) 0 (s : Int)).map outA = some (true, none, 1, some [(.box [] (nm24 2 1 1), val24 0 (s : Int))], [val24 0 (s : Int)], true) := by kernel_rfl
theorem gA_2_1_1 (s : Nat) : (runA (nm24 2 1 0) (nm24 2 1 1) (nm24 2 1 2) 1 (s : Int)).map outA = some (true, none, 2, some [(.box [] (nm24 2 1 1), val24 1 (s : Int))], [val24 1 (s : Int)], true) := by kernel_rfl
theorem gA_2_1_2 (s : Nat) : (runA (nm24 2 1 0) (nm24 2 1 1) (nm24 2 1 2) 2 (s : Int)).map outA = some (true, none, 3, some [(.box [] (nm24 2 1 1), val24 2 (s : Int))], [val24 2 (s : Int)], true) := by kernel_rfl
theorem gA_2_1_3 (s : Nat) : (runA (nm24 2 1 0) (nm24 2 1 1) (nm24 2 1 2) 3 (s : Int)).map outA = some (true, none, 4, some [(.box [] (nm24 2 1 1), val24 3 (s : Int))], [val24 3 (s : Int)], true) := by kernel_rfl
theorem gA_2_1_4 (s : Nat) : (runA (nm24 2 1 0) (nm24 2 1 1) (nm24 2 1 2) 4 (s : Int)).map outA = some (true, none, 5, some [(.box [] (nm24 2 1 1), val24 4 (s : Int))], [val24 4 (s : Int)], true) := by kernel_rfl
theorem gA_2_1_5 (s : Nat) : (runA (nm24 2 1 0) (nm24 2 1 1) (nm24 2 1 2) 5 (s : Int)).map outA = some (true, none, 6, some [(.box [] (nm24 2 1 1), val24 5 (s : Int))], [val24 5 (s : Int)], true) := by kernel_rfl
theorem gB_2_1_6 (s : Nat) : (runA (nm24 2 1 0) (nm24 2 1 1) (nm24 2 1 2) 6 (s : Int)).map outB = some (false, some (.fell "deep" at24), some ⟨at24, [(.box fr24 (nm24 2 1 0), 5)], [], none, none, some "deep"⟩, []) := by kernel_rfl
theorem gB_2_1_7 (s : Nat) : (runA (nm24 2 1 0) (nm24 2 1 1) (nm24 2 1 2) 7 (s : Int)).map outB = some (false, some (.fell "deep" at24), some ⟨at24, [(.box fr24 (nm24 2 1 0), 5)], [], none, none, some "deep"⟩, []) := by kernel_rfl
theorem gB_2_1_8 (s : Nat) : (runA (nm24 2 1 0) (nm24 2 1 1) (nm24 2 1 2) 8 (s : Int)).map outB = some (false, some (.fell "deep" at24), some ⟨at24, [(.box fr24 (nm24 2 1 0), 5)], [], none, none, some "deep"⟩, []) := by kernel_rfl
theorem gB_2_1_9 (s : Nat) : (runA (nm24 2 1 0) (nm24 2 1 1) (nm24 2 1 2) 9 (s : Int)).map outB = some (false, some (.fell "deep" at24), some ⟨at24, [(.box fr24 (nm24 2 1 0), 5)], [], none, none, some "deep"⟩, []) := by kernel_rfl
theorem gA_2_2_0 (s : Nat) : (runA (nm24 2 2 0) (nm24 2 2 1) (nm24 2 2 2) 0 (s : Int)).map outA = some (true, none, 1, some [(.box [] (nm24 2 2 1), val24 0 (s : Int))], [val24 0 (s : Int)], true) := by kernel_rfl
theorem gA_2_2_1 (s : Nat) : (runA (nm24 2 2 0) (nm24 2 2 1) (nm24 2 2 2) 1 (s : Int)).map outA = some (true, none, 2, some [(.box [] (nm24 2 2 1), val24 1 (s : Int))], [val24 1 (s : Int)], true) := by kernel_rfl
theorem gA_2_2_2 (s : Nat) : (runA (nm24 2 2 0) (nm24 2 2 1) (nm24 2 2 2) 2 (s : Int)).map outA = some (true, none, 3, some [(.box [] (nm24 2 2 1), val24 2 (s : Int))], [val24 2 (s : Int)], true) := by kernel_rfl
theorem gA_2_2_3 (s : Nat) : (runA (nm24 2 2 0) (nm24 2 2 1) (nm24 2 2 2) 3 (s : Int)).map outA = some (true, none, 4, some [(.box [] (nm24 2 2 1), val24 3 (s : Int))], [val24 3 (s : Int)], true) := by kernel_rfl
theorem gA_2_2_4 (s : Nat) : (runA (nm24 2 2 0) (nm24 2 2 1) (nm24 2 2 2) 4 (s : Int)).map outA = some (true, none, 5, some [(.box [] (nm24 2 2 1), val24 4 (s : Int))], [val24 4 (s : Int)], true) := by kernel_rfl
theorem gA_2_2_5 (s : Nat) : (runA (nm24 2 2 0) (nm24 2 2 1) (nm24 2 2 2) 5 (s : Int)).map outA = some (true, none, 6, some [(.box [] (nm24 2 2 1), val24 5 (s : Int))], [val24 5 (s : Int)], true) := by kernel_rfl
theorem gB_2_2_6 (s : Nat) : (runA (nm24 2 2 0) (nm24 2 2 1) (nm24 2 2 2) 6 (s : Int)).map outB = some (false, some (.fell "deep" at24), some ⟨at24, [(.box fr24 (nm24 2 2 0), 5)], [], none, none, some "deep"⟩, []) := by kernel_rfl
theorem gB_2_2_7 (s : Nat) : (runA (nm24 2 2 0) (nm24 2 2 1) (nm24 2 2 2) 7 (s : Int)).map outB = some (false, some (.fell "deep" at24), some ⟨at24, [(.box fr24 (nm24 2 2 0), 5)], [], none, none, some "deep"⟩, []) := by kernel_rfl
theorem gB_2_2_8 (s : Nat) : (runA (nm24 2 2 0) (nm24 2 2 1) (nm24 2 2 2) 8 (s : Int)).map outB = some (false, some (.fell "deep" at24), some ⟨at24, [(.box fr24 (nm24 2 2 0), 5)], [], none, none, some "deep"⟩, []) := by kernel_rfl
theorem gB_2_2_9 (s : Nat) : (runA (nm24 2 2 0) (nm24 2 2 1) (nm24 2 2 2) 9 (s : Int)).map outB = some (false, some (.fell "deep" at24), some ⟨at24, [(.box fr24 (nm24 2 2 0), 5)], [], none, none, some "deep"⟩, []) := by kernel_rfl
theorem gA_3_0_0 (s : Nat) : (runA (nm24 3 0 0) (nm24 3 0 1) (nm24 3 0 2) 0 (s : Int)).map outA = some (true, none, 1, some [(.box [] (nm24 3 0 1), val24 0 (s : Int))], [val24 0 (s : Int)], true) := by kernel_rfl
theorem gA_3_0_1 (s : Nat) : (runA (nm24 3 0 0) (nm24 3 0 1) (nm24 3 0 2) 1 (s : Int)).map outA = some (true, none, 2, some [(.box [] (nm24 3 0 1), val24 1 (s : Int))], [val24 1 (s : Int)], true) := by kernel_rfl
theorem gA_3_0_2 (s : Nat) : (runA (nm24 3 0 0) (nm24 3 0 1) (nm24 3 0 2) 2 (s : Int)).map outA = some (true, none, 3, some [(.box [] (nm24 3 0 1), val24 2 (s : Int))], [val24 2 (s : Int)], true) := by kernel_rfl
theorem gA_3_0_3 (s : Nat) : (runA (nm24 3 0 0) (nm24 3 0 1) (nm24 3 0 2) 3 (s : Int)).map outA = some (true, none, 4, some [(.box [] (nm24 3 0 1), val24 3 (s : Int))], [val24 3 (s : Int)], true) := by kernel_rfl
theorem gA_3_0_4 (s : Nat) : (runA (nm24 3 0 0) (nm24 3 0 1) (nm24 3 0 2) 4 (s : Int)).map outA = some (true, none, 5, some [(.box [] (nm24 3 0 1), val24 4 (s : Int))], [val24 4 (s : Int)], true) := by kernel_rfl
theorem gA_3_0_5 (s : Nat) : (runA (nm24 3 0 0) (nm24 3 0 1) (nm24 3 0 2) 5 (s : Int)).map outA = some (true, none, 6, some [(.box [] (nm24 3 0 1), val24 5 (s : Int))], [val24 5 (s : Int)], true) := by kernel_rfl
theorem gB_3_0_6 (s : Nat) : (runA (nm24 3 0 0) (nm24 3 0 1) (nm24 3 0 2) 6 (s : Int)).map outB = some (false, some (.fell "deep" at24), some ⟨at24, [(.box fr24 (nm24 3 0 0), 5)], [], none, none, some "deep"⟩, []) := by kernel_rfl
theorem gB_3_0_7 (s : Nat) : (runA (nm24 3 0 0) (nm24 3 0 1) (nm24 3 0 2) 7 (s : Int)).map outB = some (false, some (.fell "deep" at24), some ⟨at24, [(.box fr24 (nm24 3 0 0), 5)], [], none, none, some "deep"⟩, []) := by kernel_rfl
theorem gB_3_0_8 (s : Nat) : (runA (nm24 3 0 0) (nm24 3 0 1) (nm24 3 0 2) 8 (s : Int)).map outB = some (false, some (.fell "deep" at24), some ⟨at24, [(.box fr24 (nm24 3 0 0), 5)], [], none, none, some "deep"⟩, []) := by kernel_rfl
theorem gB_3_0_9 (s : Nat) : (runA (nm24 3 0 0) (nm24 3 0 1) (nm24 3 0 2) 9 (s : Int)).map outB = some (false, some (.fell "deep" at24), some ⟨at24, [(.box fr24 (nm24 3 0 0), 5)], [], none, none, some "deep"⟩, []) := by kernel_rfl
theorem gA_3_1_0 (s : Nat) : (runA (nm24 3 1 0) (nm24 3 1 1) (nm24 3 1 2) 0 (s : Int)).map outA = some (true, none, 1, some [(.box [] (nm24 3 1 1), val24 0 (s : Int))], [val24 0 (s : Int)], true) := by kernel_rfl
theorem gA_3_1_1 (s : Nat) : (runA (nm24 3 1 0) (nm24 3 1 1) (nm24 3 1 2) 1 (s : Int)).map outA = some (true, none, 2, some [(.box [] (nm24 3 1 1), val24 1 (s : Int))], [val24 1 (s : Int)], true) := by kernel_rfl
theorem gA_3_1_2 (s : Nat) : (runA (nm24 3 1 0) (nm24 3 1 1) (nm24 3 1 2) 2 (s : Int)).map outA = some (true, none, 3, some [(.box [] (nm24 3 1 1), val24 2 (s : Int))], [val24 2 (s : Int)], true) := by kernel_rfl
theorem gA_3_1_3 (s : Nat) : (runA (nm24 3 1 0) (nm24 3 1 1) (nm24 3 1 2) 3 (s : Int)).map outA = some (true, none, 4, some [(.box [] (nm24 3 1 1), val24 3 (s : Int))], [val24 3 (s : Int)], true) := by kernel_rfl
theorem gA_3_1_4 (s : Nat) : (runA (nm24 3 1 0) (nm24 3 1 1) (nm24 3 1 2) 4 (s : Int)).map outA = some (true, none, 5, some [(.box [] (nm24 3 1 1), val24 4 (s : Int))], [val24 4 (s : Int)], true) := by kernel_rfl
theorem gA_3_1_5 (s : Nat) : (runA (nm24 3 1 0) (nm24 3 1 1) (nm24 3 1 2) 5 (s : Int)).map outA = some (true, none, 6, some [(.box [] (nm24 3 1 1), val24 5 (s : Int))], [val24 5 (s : Int)], true) := by kernel_rfl
theorem gB_3_1_6 (s : Nat) : (runA (nm24 3 1 0) (nm24 3 1 1) (nm24 3 1 2) 6 (s : Int)).map outB = some (false, some (.fell "deep" at24), some ⟨at24, [(.box fr24 (nm24 3 1 0), 5)], [], none, none, some "deep"⟩, []) := by kernel_rfl
theorem gB_3_1_7 (s : Nat) : (runA (nm24 3 1 0) (nm24 3 1 1) (nm24 3 1 2) 7 (s : Int)).map outB = some (false, some (.fell "deep" at24), some ⟨at24, [(.box fr24 (nm24 3 1 0), 5)], [], none, none, some "deep"⟩, []) := by kernel_rfl
theorem gB_3_1_8 (s : Nat) : (runA (nm24 3 1 0) (nm24 3 1 1) (nm24 3 1 2) 8 (s : Int)).map outB = some (false, some (.fell "deep" at24), some ⟨at24, [(.box fr24 (nm24 3 1 0), 5)], [], none, none, some "deep"⟩, []) := by kernel_rfl
theorem gB_3_1_9 (s : Nat) : (runA (nm24 3 1 0) (nm24 3 1 1) (nm24 3 1 2) 9 (s : Int)).map outB = some (false, some (.fell "deep" at24), some ⟨at24, [(.box fr24 (nm24 3 1 0), 5)], [], none, none, some "deep"⟩, []) := by kernel_rfl
theorem gA_3_2_0 (s : Nat) : (runA (nm24 3 2 0) (nm24 3 2 1) (nm24 3 2 2) 0 (s : Int)).map outA = some (true, none, 1, some [(.box [] (nm24 3 2 1), val24 0 (s : Int))], [val24 0 (s : Int)], true) := by kernel_rfl
theorem gA_3_2_1 (s : Nat) : (runA (nm24 3 2 0) (nm24 3 2 1) (nm24 3 2 2) 1 (s : Int)).map outA = some (true, none, 2, some [(.box [] (nm24 3 2 1), val24 1 (s : Int))], [val24 1 (s : Int)], true) := by kernel_rfl
theorem gA_3_2_2 (s : Nat) : (runA (nm24 3 2 0) (nm24 3 2 1) (nm24 3 2 2) 2 (s : Int)).map outA = some (true, none, 3, some [(.box [] (nm24 3 2 1), val24 2 (s : Int))], [val24 2 (s : Int)], true) := by kernel_rfl
theorem gA_3_2_3 (s : Nat) : (runA (nm24 3 2 0) (nm24 3 2 1) (nm24 3 2 2) 3 (s : Int)).map outA = some (true, none, 4, some [(.box [] (nm24 3 2 1), val24 3 (s : Int))], [val24 3 (s : Int)], true) := by kernel_rfl
theorem gA_3_2_4 (s : Nat) : (runA (nm24 3 2 0) (nm24 3 2 1) (nm24 3 2 2) 4 (s : Int)).map outA = some (true, none, 5, some [(.box [] (nm24 3 2 1), val24 4 (s : Int))], [val24 4 (s : Int)], true) := by kernel_rfl
theorem gA_3_2_5 (s : Nat) : (runA (nm24 3 2 0) (nm24 3 2 1) (nm24 3 2 2) 5 (s : Int)).map outA = some (true, none, 6, some [(.box [] (nm24 3 2 1), val24 5 (s : Int))], [val24 5 (s : Int)], true) := by kernel_rfl
theorem gB_3_2_6 (s : Nat) : (runA (nm24 3 2 0) (nm24 3 2 1) (nm24 3 2 2) 6 (s : Int)).map outB = some (false, some (.fell "deep" at24), some ⟨at24, [(.box fr24 (nm24 3 2 0), 5)], [], none, none, some "deep"⟩, []) := by kernel_rfl
theorem gB_3_2_7 (s : Nat) : (runA (nm24 3 2 0) (nm24 3 2 1) (nm24 3 2 2) 7 (s : Int)).map outB = some (false, some (.fell "deep" at24), some ⟨at24, [(.box fr24 (nm24 3 2 0), 5)], [], none, none, some "deep"⟩, []) := by kernel_rfl
theorem gB_3_2_8 (s : Nat) : (runA (nm24 3 2 0) (nm24 3 2 1) (nm24 3 2 2) 8 (s : Int)).map outB = some (false, some (.fell "deep" at24), some ⟨at24, [(.box fr24 (nm24 3 2 0), 5)], [], none, none, some "deep"⟩, []) := by kernel_rfl
theorem gB_3_2_9 (s : Nat) : (runA (nm24 3 2 0) (nm24 3 2 1) (nm24 3 2 2) 9 (s : Int)).map outB = some (false, some (.fell "deep" at24), some ⟨at24, [(.box fr24 (nm24 3 2 0), 5)], [], none, none, some "deep"⟩, []) := by kernel_rfl
theorem gA_4_0_0 (s : Nat) : (runA (nm24 4 0 0) (nm24 4 0 1) (nm24 4 0 2) 0 (s : Int)).map outA = some (true, none, 1, some [(.box [] (nm24 4 0 1), val24 0 (s : Int))], [val24 0 (s : Int)], true) := by kernel_rfl
theorem gA_4_0_1 (s : Nat) : (runA (nm24 4 0 0) (nm24 4 0 1) (nm24 4 0 2) 1 (s : Int)).map outA = some (true, none, 2, some [(.box [] (nm24 4 0 1), val24 1 (s : Int))], [val24 1 (s : Int)], true) := by kernel_rfl
theorem gA_4_0_2 (s : Nat) : (runA (nm24 4 0 0) (nm24 4 0 1) (nm24 4 0 2) 2 (s : Int)).map outA = some (true, none, 3, some [(.box [] (nm24 4 0 1), val24 2 (s : Int))], [val24 2 (s : Int)], true) := by kernel_rfl
theorem gA_4_0_3 (s : Nat) : (runA (nm24 4 0 0) (nm24 4 0 1) (nm24 4 0 2) 3 (s : Int)).map outA = some (true, none, 4, some [(.box [] (nm24 4 0 1), val24 3 (s : Int))], [val24 3 (s : Int)], true) := by kernel_rfl
theorem gA_4_0_4 (s : Nat) : (runA (nm24 4 0 0) (nm24 4 0 1) (nm24 4 0 2) 4 (s : Int)).map outA = some (true, none, 5, some [(.box [] (nm24 4 0 1), val24 4 (s : Int))], [val24 4 (s : Int)], true) := by kernel_rfl
theorem gA_4_0_5 (s : Nat) : (runA (nm24 4 0 0) (nm24 4 0 1) (nm24 4 0 2) 5 (s : Int)).map outA = some (true, none, 6, some [(.box [] (nm24 4 0 1), val24 5 (s : Int))], [val24 5 (s : Int)], true) := by kernel_rfl
theorem gB_4_0_6 (s : Nat) : (runA (nm24 4 0 0) (nm24 4 0 1) (nm24 4 0 2) 6 (s : Int)).map outB = some (false, some (.fell "deep" at24), some ⟨at24, [(.box fr24 (nm24 4 0 0), 5)], [], none, none, some "deep"⟩, []) := by kernel_rfl
theorem gB_4_0_7 (s : Nat) : (runA (nm24 4 0 0) (nm24 4 0 1) (nm24 4 0 2) 7 (s : Int)).map outB = some (false, some (.fell "deep" at24), some ⟨at24, [(.box fr24 (nm24 4 0 0), 5)], [], none, none, some "deep"⟩, []) := by kernel_rfl
theorem gB_4_0_8 (s : Nat) : (runA (nm24 4 0 0) (nm24 4 0 1) (nm24 4 0 2) 8 (s : Int)).map outB = some (false, some (.fell "deep" at24), some ⟨at24, [(.box fr24 (nm24 4 0 0), 5)], [], none, none, some "deep"⟩, []) := by kernel_rfl
theorem gB_4_0_9 (s : Nat) : (runA (nm24 4 0 0) (nm24 4 0 1) (nm24 4 0 2) 9 (s : Int)).map outB = some (false, some (.fell "deep" at24), some ⟨at24, [(.box fr24 (nm24 4 0 0), 5)], [], none, none, some "deep"⟩, []) := by kernel_rfl
theorem gA_4_1_0 (s : Nat) : (runA (nm24 4 1 0) (nm24 4 1 1) (nm24 4 1 2) 0 (s : Int)).map outA = some (true, none, 1, some [(.box [] (nm24 4 1 1), val24 0 (s : Int))], [val24 0 (s : Int)], true) := by kernel_rfl
theorem gA_4_1_1 (s : Nat) : (runA (nm24 4 1 0) (nm24 4 1 1) (nm24 4 1 2) 1 (s : Int)).map outA = some (true, none, 2, some [(.box [] (nm24 4 1 1), val24 1 (s : Int))], [val24 1 (s : Int)], true) := by kernel_rfl
theorem gA_4_1_2 (s : Nat) : (runA (nm24 4 1 0) (nm24 4 1 1) (nm24 4 1 2) 2 (s : Int)).map outA = some (true, none, 3, some [(.box [] (nm24 4 1 1), val24 2 (s : Int))], [val24 2 (s : Int)], true) := by kernel_rfl
theorem gA_4_1_3 (s : Nat) : (runA (nm24 4 1 0) (nm24 4 1 1) (nm24 4 1 2) 3 (s : Int)).map outA = some (true, none, 4, some [(.box [] (nm24 4 1 1), val24 3 (s : Int))], [val24 3 (s : Int)], true) := by kernel_rfl
theorem gA_4_1_4 (s : Nat) : (runA (nm24 4 1 0) (nm24 4 1 1) (nm24 4 1 2) 4 (s : Int)).map outA = some (true, none, 5, some [(.box [] (nm24 4 1 1), val24 4 (s : Int))], [val24 4 (s : Int)], true) := by kernel_rfl
theorem gA_4_1_5 (s : Nat) : (runA (nm24 4 1 0) (nm24 4 1 1) (nm24 4 1 2) 5 (s : Int)).map outA = some (true, none, 6, some [(.box [] (nm24 4 1 1), val24 5 (s : Int))], [val24 5 (s : Int)], true) := by kernel_rfl
theorem gB_4_1_6 (s : Nat) : (runA (nm24 4 1 0) (nm24 4 1 1) (nm24 4 1 2) 6 (s : Int)).map outB = some (false, some (.fell "deep" at24), some ⟨at24, [(.box fr24 (nm24 4 1 0), 5)], [], none, none, some "deep"⟩, []) := by kernel_rfl
theorem gB_4_1_7 (s : Nat) : (runA (nm24 4 1 0) (nm24 4 1 1) (nm24 4 1 2) 7 (s : Int)).map outB = some (false, some (.fell "deep" at24), some ⟨at24, [(.box fr24 (nm24 4 1 0), 5)], [], none, none, some "deep"⟩, []) := by kernel_rfl
theorem gB_4_1_8 (s : Nat) : (runA (nm24 4 1 0) (nm24 4 1 1) (nm24 4 1 2) 8 (s : Int)).map outB = some (false, some (.fell "deep" at24), some ⟨at24, [(.box fr24 (nm24 4 1 0), 5)], [], none, none, some "deep"⟩, []) := by kernel_rfl
theorem gB_4_1_9 (s : Nat) : (runA (nm24 4 1 0) (nm24 4 1 1) (nm24 4 1 2) 9 (s : Int)).map outB = some (false, some (.fell "deep" at24), some ⟨at24, [(.box fr24 (nm24 4 1 0), 5)], [], none, none, some "deep"⟩, []) := by kernel_rfl
theorem gA_4_2_0 (s : Nat) : (runA (nm24 4 2 0) (nm24 4 2 1) (nm24 4 2 2) 0 (s : Int)).map outA = some (true, none, 1, some [(.box [] (nm24 4 2 1), val24 0 (s : Int))], [val24 0 (s : Int)], true) := by kernel_rfl
theorem gA_4_2_1 (s : Nat) : (runA (nm24 4 2 0) (nm24 4 2 1) (nm24 4 2 2) 1 (s : Int)).map outA = some (true, none, 2, some [(.box [] (nm24 4 2 1), val24 1 (s : Int))], [val24 1 (s : Int)], true) := by kernel_rfl
theorem gA_4_2_2 (s : Nat) : (runA (nm24 4 2 0) (nm24 4 2 1) (nm24 4 2 2) 2 (s : Int)).map outA = some (true, none, 3, some [(.box [] (nm24 4 2 1), val24 2 (s : Int))], [val24 2 (s : Int)], true) := by kernel_rfl
theorem gA_4_2_3 (s : Nat) : (runA (nm24 4 2 0) (nm24 4 2 1) (nm24 4 2 2) 3 (s : Int)).map outA = some (true, none, 4, some [(.box [] (nm24 4 2 1), val24 3 (s : Int))], [val24 3 (s : Int)], true) := by kernel_rfl
theorem gA_4_2_4 (s : Nat) : (runA (nm24 4 2 0) (nm24 4 2 1) (nm24 4 2 2) 4 (s : Int)).map outA = some (true, none, 5, some [(.box [] (nm24 4 2 1), val24 4 (s : Int))], [val24 4 (s : Int)], true) := by kernel_rfl
theorem gA_4_2_5 (s : Nat) : (runA (nm24 4 2 0) (nm24 4 2 1) (nm24 4 2 2) 5 (s : Int)).map outA = some (true, none, 6, some [(.box [] (nm24 4 2 1), val24 5 (s : Int))], [val24 5 (s : Int)], true) := by kernel_rfl
theorem gB_4_2_6 (s : Nat) : (runA (nm24 4 2 0) (nm24 4 2 1) (nm24 4 2 2) 6 (s : Int)).map outB = some (false, some (.fell "deep" at24), some ⟨at24, [(.box fr24 (nm24 4 2 0), 5)], [], none, none, some "deep"⟩, []) := by kernel_rfl
theorem gB_4_2_7 (s : Nat) : (runA (nm24 4 2 0) (nm24 4 2 1) (nm24 4 2 2) 7 (s : Int)).map outB = some (false, some (.fell "deep" at24), some ⟨at24, [(.box fr24 (nm24 4 2 0), 5)], [], none, none, some "deep"⟩, []) := by kernel_rfl
theorem gB_4_2_8 (s : Nat) : (runA (nm24 4 2 0) (nm24 4 2 1) (nm24 4 2 2) 8 (s : Int)).map outB = some (false, some (.fell "deep" at24), some ⟨at24, [(.box fr24 (nm24 4 2 0), 5)], [], none, none, some "deep"⟩, []) := by kernel_rfl
theorem gB_4_2_9 (s : Nat) : (runA (nm24 4 2 0) (nm24 4 2 1) (nm24 4 2 2) 9 (s : Int)).map outB = some (false, some (.fell "deep" at24), some ⟨at24, [(.box fr24 (nm24 4 2 0), 5)], [], none, none, some "deep"⟩, []) := by kernel_rfl
theorem goodA : ∀ (n1 n2 m s : Nat), n1 < 5 → n2 < 3 → m < 6 → (runA (nm24 n1 n2 0) (nm24 n1 n2 1) (nm24 n1 n2 2) m (s : Int)).map outA = some (true, none, m + 1, some [(.box [] (nm24 n1 n2 1), val24 m (s : Int))], [val24 m (s : Int)], true)
  | 0, 0, 0, s, _, _, _ => gA_0_0_0 s
  | 0, 0, 1, s, _, _, _ => gA_0_0_1 s
  | 0, 0, 2, s, _, _, _ => gA_0_0_2 s
  | 0, 0, 3, s, _, _, _ => gA_0_0_3 s
  | 0, 0, 4, s, _, _, _ => gA_0_0_4 s
  | 0, 0, 5, s, _, _, _ => gA_0_0_5 s
  | 0, 1, 0, s, _, _, _ => gA_0_1_0 s
  | 0, 1, 1, s, _, _, _ => gA_0_1_1 s
  | 0, 1, 2, s, _, _, _ => gA_0_1_2 s
  | 0, 1, 3, s, _, _, _ => gA_0_1_3 s
  | 0, 1, 4, s, _, _, _ => gA_0_1_4 s
  | 0, 1, 5, s, _, _, _ => gA_0_1_5 s
  | 0, 2, 0, s, _, _, _ => gA_0_2_0 s
  | 0, 2, 1, s, _, _, _ => gA_0_2_1 s
  | 0, 2, 2, s, _, _, _ => gA_0_2_2 s
  | 0, 2, 3, s, _, _, _ => gA_0_2_3 s
  | 0, 2, 4, s, _, _, _ => gA_0_2_4 s
  | 0, 2, 5, s, _, _, _ => gA_0_2_5 s
  | 1, 0, 0, s, _, _, _ => gA_1_0_0 s
  | 1, 0, 1, s, _, _, _ => gA_1_0_1 s
  | 1, 0, 2, s, _, _, _ => gA_1_0_2 s
  | 1, 0, 3, s, _, _, _ => gA_1_0_3 s
  | 1, 0, 4, s, _, _, _ => gA_1_0_4 s
  | 1, 0, 5, s, _, _, _ => gA_1_0_5 s
  | 1, 1, 0, s, _, _, _ => gA_1_1_0 s
  | 1, 1, 1, s, _, _, _ => gA_1_1_1 s
  | 1, 1, 2, s, _, _, _ => gA_1_1_2 s
  | 1, 1, 3, s, _, _, _ => gA_1_1_3 s
  | 1, 1, 4, s, _, _, _ => gA_1_1_4 s
  | 1, 1, 5, s, _, _, _ => gA_1_1_5 s
  | 1, 2, 0, s, _, _, _ => gA_1_2_0 s
  | 1, 2, 1, s, _, _, _ => gA_1_2_1 s
  | 1, 2, 2, s, _, _, _ => gA_1_2_2 s
  | 1, 2, 3, s, _, _, _ => gA_1_2_3 s
  | 1, 2, 4, s, _, _, _ => gA_1_2_4 s
  | 1, 2, 5, s, _, _, _ => gA_1_2_5 s
  | 2, 0, 0, s, _, _, _ => gA_2_0_0 s
  | 2, 0, 1, s, _, _, _ => gA_2_0_1 s
  | 2, 0, 2, s, _, _, _ => gA_2_0_2 s
  | 2, 0, 3, s, _, _, _ => gA_2_0_3 s
  | 2, 0, 4, s, _, _, _ => gA_2_0_4 s
  | 2, 0, 5, s, _, _, _ => gA_2_0_5 s
  | 2, 1, 0, s, _, _, _ => gA_2_1_0 s
  | 2, 1, 1, s, _, _, _ => gA_2_1_1 s
  | 2, 1, 2, s, _, _, _ => gA_2_1_2 s
  | 2, 1, 3, s, _, _, _ => gA_2_1_3 s
  | 2, 1, 4, s, _, _, _ => gA_2_1_4 s
  | 2, 1, 5, s, _, _, _ => gA_2_1_5 s
  | 2, 2, 0, s, _, _, _ => gA_2_2_0 s
  | 2, 2, 1, s, _, _, _ => gA_2_2_1 s
  | 2, 2, 2, s, _, _, _ => gA_2_2_2 s
  | 2, 2, 3, s, _, _, _ => gA_2_2_3 s
  | 2, 2, 4, s, _, _, _ => gA_2_2_4 s
  | 2, 2, 5, s, _, _, _ => gA_2_2_5 s
  | 3, 0, 0, s, _, _, _ => gA_3_0_0 s
  | 3, 0, 1, s, _, _, _ => gA_3_0_1 s
  | 3, 0, 2, s, _, _, _ => gA_3_0_2 s
  | 3, 0, 3, s, _, _, _ => gA_3_0_3 s
  | 3, 0, 4, s, _, _, _ => gA_3_0_4 s
  | 3, 0, 5, s, _, _, _ => gA_3_0_5 s
  | 3, 1, 0, s, _, _, _ => gA_3_1_0 s
  | 3, 1, 1, s, _, _, _ => gA_3_1_1 s
  | 3, 1, 2, s, _, _, _ => gA_3_1_2 s
  | 3, 1, 3, s, _, _, _ => gA_3_1_3 s
  | 3, 1, 4, s, _, _, _ => gA_3_1_4 s
  | 3, 1, 5, s, _, _, _ => gA_3_1_5 s
  | 3, 2, 0, s, _, _, _ => gA_3_2_0 s
  | 3, 2, 1, s, _, _, _ => gA_3_2_1 s
  | 3, 2, 2, s, _, _, _ => gA_3_2_2 s
  | 3, 2, 3, s, _, _, _ => gA_3_2_3 s
  | 3, 2, 4, s, _, _, _ => gA_3_2_4 s
  | 3, 2, 5, s, _, _, _ => gA_3_2_5 s
  | 4, 0, 0, s, _, _, _ => gA_4_0_0 s
  | 4, 0, 1, s, _, _, _ => gA_4_0_1 s
  | 4, 0, 2, s, _, _, _ => gA_4_0_2 s
  | 4, 0, 3, s, _, _, _ => gA_4_0_3 s
  | 4, 0, 4, s, _, _, _ => gA_4_0_4 s
  | 4, 0, 5, s, _, _, _ => gA_4_0_5 s
  | 4, 1, 0, s, _, _, _ => gA_4_1_0 s
  | 4, 1, 1, s, _, _, _ => gA_4_1_1 s
  | 4, 1, 2, s, _, _, _ => gA_4_1_2 s
  | 4, 1, 3, s, _, _, _ => gA_4_1_3 s
  | 4, 1, 4, s, _, _, _ => gA_4_1_4 s
  | 4, 1, 5, s, _, _, _ => gA_4_1_5 s
  | 4, 2, 0, s, _, _, _ => gA_4_2_0 s
  | 4, 2, 1, s, _, _, _ => gA_4_2_1 s
  | 4, 2, 2, s, _, _, _ => gA_4_2_2 s
  | 4, 2, 3, s, _, _, _ => gA_4_2_3 s
  | 4, 2, 4, s, _, _, _ => gA_4_2_4 s
  | 4, 2, 5, s, _, _, _ => gA_4_2_5 s
  | n + 5, _, _, _, h, _, _ => by omega
  | _, n + 3, _, _, _, h, _ => by omega
  | _, _, n + 6, _, _, _, h => by omega
theorem goodB : ∀ (n1 n2 m s : Nat), n1 < 5 → n2 < 3 → 6 ≤ m → m < 10 → (runA (nm24 n1 n2 0) (nm24 n1 n2 1) (nm24 n1 n2 2) m (s : Int)).map outB = some (false, some (.fell "deep" at24), some ⟨at24, [(.box fr24 (nm24 n1 n2 0), 5)], [], none, none, some "deep"⟩, [])
  | 0, 0, 6, s, _, _, _, _ => gB_0_0_6 s
  | 0, 0, 7, s, _, _, _, _ => gB_0_0_7 s
  | 0, 0, 8, s, _, _, _, _ => gB_0_0_8 s
  | 0, 0, 9, s, _, _, _, _ => gB_0_0_9 s
  | 0, 1, 6, s, _, _, _, _ => gB_0_1_6 s
  | 0, 1, 7, s, _, _, _, _ => gB_0_1_7 s
  | 0, 1, 8, s, _, _, _, _ => gB_0_1_8 s
  | 0, 1, 9, s, _, _, _, _ => gB_0_1_9 s
  | 0, 2, 6, s, _, _, _, _ => gB_0_2_6 s
  | 0, 2, 7, s, _, _, _, _ => gB_0_2_7 s
  | 0, 2, 8, s, _, _, _, _ => gB_0_2_8 s
  | 0, 2, 9, s, _, _, _, _ => gB_0_2_9 s
  | 1, 0, 6, s, _, _, _, _ => gB_1_0_6 s
  | 1, 0, 7, s, _, _, _, _ => gB_1_0_7 s
  | 1, 0, 8, s, _, _, _, _ => gB_1_0_8 s
  | 1, 0, 9, s, _, _, _, _ => gB_1_0_9 s
  | 1, 1, 6, s, _, _, _, _ => gB_1_1_6 s
  | 1, 1, 7, s, _, _, _, _ => gB_1_1_7 s
  | 1, 1, 8, s, _, _, _, _ => gB_1_1_8 s
  | 1, 1, 9, s, _, _, _, _ => gB_1_1_9 s
  | 1, 2, 6, s, _, _, _, _ => gB_1_2_6 s
  | 1, 2, 7, s, _, _, _, _ => gB_1_2_7 s
  | 1, 2, 8, s, _, _, _, _ => gB_1_2_8 s
  | 1, 2, 9, s, _, _, _, _ => gB_1_2_9 s
  | 2, 0, 6, s, _, _, _, _ => gB_2_0_6 s
  | 2, 0, 7, s, _, _, _, _ => gB_2_0_7 s
  | 2, 0, 8, s, _, _, _, _ => gB_2_0_8 s
  | 2, 0, 9, s, _, _, _, _ => gB_2_0_9 s
  | 2, 1, 6, s, _, _, _, _ => gB_2_1_6 s
  | 2, 1, 7, s, _, _, _, _ => gB_2_1_7 s
  | 2, 1, 8, s, _, _, _, _ => gB_2_1_8 s
  | 2, 1, 9, s, _, _, _, _ => gB_2_1_9 s
  | 2, 2, 6, s, _, _, _, _ => gB_2_2_6 s
  | 2, 2, 7, s, _, _, _, _ => gB_2_2_7 s
  | 2, 2, 8, s, _, _, _, _ => gB_2_2_8 s
  | 2, 2, 9, s, _, _, _, _ => gB_2_2_9 s
  | 3, 0, 6, s, _, _, _, _ => gB_3_0_6 s
  | 3, 0, 7, s, _, _, _, _ => gB_3_0_7 s
  | 3, 0, 8, s, _, _, _, _ => gB_3_0_8 s
  | 3, 0, 9, s, _, _, _, _ => gB_3_0_9 s
  | 3, 1, 6, s, _, _, _, _ => gB_3_1_6 s
  | 3, 1, 7, s, _, _, _, _ => gB_3_1_7 s
  | 3, 1, 8, s, _, _, _, _ => gB_3_1_8 s
  | 3, 1, 9, s, _, _, _, _ => gB_3_1_9 s
  | 3, 2, 6, s, _, _, _, _ => gB_3_2_6 s
  | 3, 2, 7, s, _, _, _, _ => gB_3_2_7 s
  | 3, 2, 8, s, _, _, _, _ => gB_3_2_8 s
  | 3, 2, 9, s, _, _, _, _ => gB_3_2_9 s
  | 4, 0, 6, s, _, _, _, _ => gB_4_0_6 s
  | 4, 0, 7, s, _, _, _, _ => gB_4_0_7 s
  | 4, 0, 8, s, _, _, _, _ => gB_4_0_8 s
  | 4, 0, 9, s, _, _, _, _ => gB_4_0_9 s
  | 4, 1, 6, s, _, _, _, _ => gB_4_1_6 s
  | 4, 1, 7, s, _, _, _, _ => gB_4_1_7 s
  | 4, 1, 8, s, _, _, _, _ => gB_4_1_8 s
  | 4, 1, 9, s, _, _, _, _ => gB_4_1_9 s
  | 4, 2, 6, s, _, _, _, _ => gB_4_2_6 s
  | 4, 2, 7, s, _, _, _, _ => gB_4_2_7 s
  | 4, 2, 8, s, _, _, _, _ => gB_4_2_8 s
  | 4, 2, 9, s, _, _, _, _ => gB_4_2_9 s
  | n + 5, _, _, _, h, _, _, _ => by omega
  | _, n + 3, _, _, _, h, _, _ => by omega
  | _, _, n + 10, _, _, _, _, h => by omega
  | _, _, 0, _, _, _, h, _ => by omega
  | _, _, 1, _, _, _, h, _ => by omega
  | _, _, 2, _, _, _, h, _ => by omega
  | _, _, 3, _, _, _, h, _ => by omega
  | _, _, 4, _, _, _, h, _ => by omega
  | _, _, 5, _, _, _, h, _ => by omega
theorem val_step {v k : Int} : (v * 3 % 1000000 + k) % 1000000 = (v * 3 + k) % 1000000 := by omega

/-! ### what is told, as data -/
mutual
def kD : NestedKey → PyData
  | .none => .none
  | .num i => .int i
  | .text x => .str x
  | .tup ks => .tuple (kDs ks)
def kDs : List NestedKey → List PyData
  | [] => []
  | k :: ks => kD k :: kDs ks
end
mutual
theorem dp_nk {K : PySem.W.Frag} {H : Hp} : ∀ {k : NestedKey} {v : V}, ND.NK H k v → Dp K H v (kD k)
  | _, _, .int i => .int i
  | _, _, .str x => .str x
  | _, _, .tup e r => .tup (SqT.of e) (dp_nks r)
theorem dp_nks {K : PySem.W.Frag} {H : Hp} : ∀ {ks : List NestedKey} {vs : List V}, ND.NKs H ks vs → DpAll K H vs (kDs ks)
  | _, _, .nil => .nil
  | _, _, .cons a b => .cons (dp_nk a) (dp_nks b)
end
theorem dp_int {K : PySem.W.Frag} {H : Hp} : ∀ (l : List Int), DpAll K H (l.map V.int) (l.map PyData.int)
  | [] => .nil
  | x :: l => .cons (.int x) (dp_int l)
def prD (x : Pl × Int) : PyData := .tuple [kD (plK x.1), .int x.2]
theorem PrO.dp {K : PySem.W.Frag} {H : Hp} {x : Pl × Int} {v : V} (h : PrO H x v) : Dp K H v (prD x) := by
  obtain ⟨t, u, rfl, h1, ⟨a, _, nk⟩⟩ := h
  exact .tup (SqT.of h1) (.cons (dp_nk nk) (.cons (.int _) .nil))
theorem prs_dp {K : PySem.W.Frag} {H : Hp} : ∀ {l : List (Pl × Int)} {vs : List V}, All2 (PrO H) l vs → DpAll K H vs (l.map prD)
  | _, _, .nil => .nil
  | _, _, .cons a b => .cons a.dp (prs_dp b)
def optID : Option Int → PyData
  | none => .none
  | some n => .int n
def optBD : Option Bool → PyData
  | none => .none
  | some n => .bool n
def optSD : Option Str → PyData
  | none => .none
  | some n => .str n
theorem optI_dp {K : PySem.W.Frag} {H : Hp} : ∀ (o : Option Int), Dp K H (optV o) (optID o)
  | none => .non
  | some n => .int n
theorem optB_dp {K : PySem.W.Frag} {H : Hp} : ∀ (o : Option Bool), Dp K H (optB o) (optBD o)
  | none => .non
  | some n => .bl n
theorem optS_dp {K : PySem.W.Frag} {H : Hp} : ∀ (o : Option Str), Dp K H (optS o) (optSD o)
  | none => .non
  | some n => .str n
def moD (m : Mo) : PyData := .tuple [.tuple (m.adr.map .int), .list (m.reads.map prD), .list (m.makes.map prD), optID m.said, optBD m.goes, optBD m.goes, optSD m.fell]
theorem MoT.dp {K : PySem.W.Frag} {H : Hp} {m : Mo} {v : V} (h : MoT K H m v) : Dp K H v (moD m) := by
  obtain ⟨t, a, r, k, rs, ks, rfl, h1, h2, h3, h4, h5, h6⟩ := h
  exact .tup (SqT.of h1) (.cons (.tup (SqT.of h2) (dp_int _)) (.cons (.lst (SqL.of h3) (prs_dp h4)) (.cons (.lst (SqL.of h5) (prs_dp h6)) (.cons (optI_dp _) (.cons (optB_dp _) (.cons (optB_dp _) (.cons (optS_dp _) .nil)))))))
theorem MoT.ext {K : PySem.W.Frag} {H H' : Hp} {m : Mo} {v : V} (h : MoT K H m v) (s : Same H H') : MoT K H' m v := by
  obtain ⟨t, a, r, k, rs, ks, z1, z2, z3, z4, z5, z6, z7⟩ := h
  exact ⟨t, a, r, k, rs, ks, z1, s _ _ z2, s _ _ z3, s _ _ z4, prs_keep (tupK_same s) z5, s _ _ z6, prs_keep (tupK_same s) z7⟩
theorem RunO.same {A : Ads} {H H' : Hp} {R : Addr} {st : WS} (h : RunO A H R st) (s : Same H H') : RunO A H' R st := by
  obtain ⟨dx, b, kp, ev, by_, w, ms, h1, h2, h3, h4⟩ := h.obj
  exact ⟨dx, b, kp, ev, by_, w, ms, s _ _ h1, s _ _ h2, h3.mono fun m v z => z.ext (LamX.ExtN.of s), h4.keep (tupK_same s)⟩
theorem eqD_same {K : PySem.W.Frag} {H : Hp} {x y : V} {d : PyData} {Q : VK} (h1 : Dp K H x d) (h2 : Dp K H y d) (s : SeqAt.shaped d = true) (q : Q (.bl true) H) : rEqD K x y H Q := ⟨d, d, h1, h2, s, s, by rw [SeqAt.eqv_refl d (SeqAt.canLay_of_shaped s)]; exact q⟩
theorem neD_same {K : PySem.W.Frag} {H : Hp} {x y : V} {d : PyData} {Q : VK} (h1 : Dp K H x d) (h2 : Dp K H y d) (s : SeqAt.shaped d = true) (q : Q (.bl false) H) : rNeD K x y H Q := ⟨d, d, h1, h2, s, s, by rw [SeqAt.eqv_refl d (SeqAt.canLay_of_shaped s)]; exact q⟩
theorem tabs_keepX {T : List NdefX.NTab} {H H' : Hp} {a : Addr} {xs : List V} (t : NdefX.TabsN T H) (k : KeepX a H H') (ha : H a = some (.lst xs)) : NdefX.TabsN T H' := fun p hp => by
  obtain ⟨ps, h1, h2, h3⟩ := t p hp
  refine ⟨ps, k _ _ (fun e => by rw [e, ha] at h1; cases h1) h1, h2, fun pos cv hc => ?_⟩
  obtain ⟨c, e1, e2⟩ := h3 pos cv hc
  exact ⟨c, e1, k _ _ (fun e => by rw [e, ha] at e2; unfold LamX.CodeO at e2; cases e2) e2⟩
theorem Wl.at {H : Hp} {a : Addr} (h : Wl H a) : ∃ xs, H a = some (.lst xs) := let ⟨_, _, _, e⟩ := h; ⟨_, e⟩
theorem Wl.same {H H' : Hp} {a : Addr} (h : Wl H a) (s : Same H H') : Wl H' a := let ⟨x, y, z, e⟩ := h; ⟨x, y, z, s _ _ e⟩

theorem stem_at : ∀ (n : Nat), n < 5 → atI [V.str "", V.str "x", V.str "iff", V.str "callb", V.str "give"] (n : Int) = some (V.str (STEMS.getD n (Str.ofString "")))
  | 0, _ => rfl
  | 1, _ => rfl
  | 2, _ => rfl
  | 3, _ => rfl
  | 4, _ => rfl
  | n + 5, h => by omega
theorem sgn_at {H : Hp} {la lb lc : Addr} (ha : H la = some (.lst [.str "b", .str "c", .str "d"])) (hb : H lb = some (.lst [.str "d", .str "b", .str "c"])) (hc : H lc = some (.lst [.str "c", .str "d", .str "c"])) : ∀ (n : Nat), n < 3 → ∃ lx, atI [V.ref la, V.ref lb, V.ref lc] (n : Int) = some (.ref lx) ∧ H lx = some (.lst [.str (sgn n 0), .str (sgn n 1), .str (sgn n 2)])
  | 0, _ => ⟨la, rfl, ha⟩
  | 1, _ => ⟨lb, rfl, hb⟩
  | 2, _ => ⟨lc, rfl, hc⟩
  | n + 3, h => by omega
theorem sum_le : ∀ {ls : List Str} {k : Nat}, (∀ l ∈ ls, l.length ≤ k) → (ls.map (·.length)).sum ≤ ls.length * k
  | [], _, _ => Nat.zero_le _
  | x :: r, k, h => by
    have h1 := h x List.mem_cons_self
    have h2 := sum_le (ls := r) (k := k) fun l hl => h l (List.mem_cons_of_mem _ hl)
    have e : (x :: r).length * k = r.length * k + k := by rw [List.length_cons, Nat.add_mul, Nat.one_mul]
    rw [List.map_cons, List.sum_cons, e]
    omega
theorem due_shaped : ∀ n1 < 5, ∀ n2 < 3, SeqAt.shaped (moD ⟨at24, [(.box fr24 (nm24 n1 n2 0), 5)], [], none, none, some (Str.ofString "deep")⟩) = true := by decide +kernel
theorem pair_shaped0 : ∀ n1 < 5, ∀ n2 < 3, SeqAt.shaped (.list [prD (.box [] (nm24 n1 n2 1), 0)]) = true := by decide +kernel
theorem pair_shaped {n1 n2 : Nat} (h1 : n1 < 5) (h2 : n2 < 3) (v : Int) : SeqAt.shaped (.list [prD (.box [] (nm24 n1 n2 1), v)]) = true := pair_shaped0 n1 h1 n2 h2
theorem fell_shaped : SeqAt.shaped (.tuple [.str (Str.ofString "fell"), .str (Str.ofString "deep"), .tuple (at24.map .int)]) = true := by decide +kernel
theorem last_some {α : Type} {l : List α} {x : α} (h : l.getLast? = some x) : ∃ ys, l = ys ++ [x] := List.getLast?_eq_some_iff.mp h

theorem filter_snoc {l : List Mo} {i : Nat} {m : Mo} (p : Mo → Bool) (h : l[i]? = some m) : (l.take (i + 1)).filter p = (l.take i).filter p ++ (if p m = true then [m] else []) := by
  rw [take_snoc h, List.filter_append, List.filter_cons]
  by_cases c : p m = true
  · rw [if_pos c, if_pos c]; rfl
  · rw [if_neg c, if_neg c]; rfl
theorem at_last {l : List Int} {z : Int} (h : l.getLast? = some z) : atI (l.map V.int) (-1) = some (.int z) := by
  obtain ⟨ys, rfl⟩ := List.getLast?_eq_some_iff.mp h
  unfold atI ixN
  rw [if_neg (by decide), if_pos (by rw [List.length_map, List.length_append, List.length_singleton]; omega)]
  rw [List.length_map, List.length_append, List.length_singleton]
  show ((ys ++ [z]).map V.int)[_]? = _
  have e : ((-1 : Int) + ((ys.length + 1 : Nat) : Int)).toNat = ys.length := by omega
  rw [e, List.map_append, List.getElem?_append_right (by rw [List.length_map]; exact Nat.le_refl _), List.length_map, Nat.sub_self]
  rfl
theorem val_next {n i : Nat} {v s : Int} (hi : i ≤ n) (h : val24 (n - i) v = val24 n s) : if i + 1 ≤ n then val24 (n - (i + 1)) ((v * 3 + ((n : Int) + ((i : Nat) : Int) * (-1))) % 1000000) = val24 n s else (v * 3 + ((n : Int) + ((i : Nat) : Int) * (-1))) % 1000000 = val24 n s := by
  by_cases c : i + 1 ≤ n
  · rw [if_pos c]
    obtain ⟨k, hk⟩ : ∃ k, n - i = k + 1 := ⟨n - i - 1, by omega⟩
    have e1 : n - (i + 1) = k := by omega
    rw [hk] at h
    have h : val24 k ((v * 3 % 1000000 + ((k + 1 : Nat) : Int)) % 1000000) = val24 n s := h
    rw [e1, ← h]
    congr 1
    have e2 : (n : Int) + ((i : Nat) : Int) * (-1) = ((k + 1 : Nat) : Int) := by omega
    rw [e2]
    omega
  · rw [if_neg c]
    have e : n - i = 0 := by omega
    rw [e] at h
    have h : (v * 3 % 1000000 + 0) % 1000000 = val24 n s := h
    rw [← h]
    omega

end
end K24
namespace K24
open PySem L2 TL
section
variable {P : Program} {w : World} {K : PySem.W.Frag} {mg : Str → Option Value} {base : Heap} {A : Ads}
theorem ok_run_of (T : Txt K mg A) (B : Cod base mg A) : FnOk P w K mg base CX0 84 A.run_of A.run_of_d ["setting"] (spRunOf A) := by
  have G_Walker_init := ok_Walker_init (P := P) (w := w) (base := base) T
  have G_Walker_walk := ok_Walker_walk (P := P) (w := w) (base := base) T B
  have G_Run_init := ok_Run_init (P := P) (w := w) (base := base) T
  refine T.F_run_of.ok sc_run_of (fun vs H Q E h => ?_) (fun cdv A0 outer s H vs Q E hr h => ?_)
  · obtain ⟨s, W, mb, b, st, rfl, hA, hw, q⟩ := h
    rfl
  obtain ⟨s, W, mb, b, st, rfl, hA, hw, q⟩ := h
  refine ⟨_, (pss_cons (ps_set (i := 1) sc_run_of.nd rfl (Or.inl rfl) (pe_make T.k_Walker G_Walker_init (hr.mono (by decide)) rfl T.m_Walker T.b_Walker_init .nil pass0 (pa_cons (pv 0) pa_nil)))
   (pss_cons (ps_expr (pe_meth0 (pv 1) T.cl_Walker T.me_Walker_walk G_Walker_walk (hr.mono (by decide)) T.b_Walker_walk .nil pass0))
   (pss_one (ps_ret (pe_make T.k_Run G_Run_init (hr.mono (by decide)) rfl T.m_Run T.b_Run_init .nil pass0 (pa_cons (pv 0) (pa_cons (pe_fld (pv 1) rfl) (pa_cons (pe_fld (pv 1) rfl) pa_nil)))))))), ?_⟩
  obtain ⟨ds, g, go, pr, dp, d, f, df, l, lb, ml, tx, num, gv, os, mos, a1, a2, a3, a4, a5, a6, a7, a8, a9, a10, a11, a12⟩ := hA.all
  refine ⟨_, rfl, fun x dx hx hdx _ => ?_⟩
  have sM : Same H (upd (upd H dx (.own x)) x (.ins A.Walker dx [])) := fun q o h => by rw [upd_ne (ne_of_none h hx), upd_ne (ne_of_none h hdx)]; exact h
  refine ⟨x, dx, s, rfl, upd_same, fun hd kp H1 hhd hkp hne k1 t1 o1 nd1 kp1 => ⟨rfl, ?_⟩⟩
  have eM := LamX.ExtN.of sM
  have hW : WkO P w A ⟨x, dx, s, ds, g, go, pr, dp, d, f, df, l, lb, hd, kp, A.t_Scene_reckon, Q_lam, tx, .ref ml, num, gv, os, H⟩ W ⟨[], [], none⟩ H1 := by
    refine ⟨⟨newT_none hx, newT_of eM (newT_none hhd), newT_of eM (newT_none hkp), a1, a2, a3, a4, a5, a6, a7, a8, a9, hA.bw, a10, hA.ge, hA.pl⟩, k1.ext (fun a h => by rw [List.mem_singleton.mp h]; exact newT_none hx) eM, ⟨_, o1, rfl⟩, nd1, ⟨[], kp1, .nil⟩, t1 _ (NdefX.TabsN.ext hA.tab sM), (fun x h => nomatch h), by decide, by decide⟩
  refine ⟨_, rfl, x, dx, _, rfl, o1, rfl, _, W, ⟨[], [], none⟩, mb, ml, mos, b, st, rfl, hW, rfl, a11, a12, hA.mw, rfl, rfl, hw, fun H2 hW2 k2 => ?_⟩
  obtain ⟨ev2, hw2, he2⟩ := hW2.obj
  obtain ⟨ms2, hk2, hm2⟩ := hW2.kept
  refine ⟨_, rfl, _, rfl, x, A.Walker, dx, _, _, rfl, hw2, T.cl_Walker, T.n_Walker_kept, rfl, _, rfl, x, A.Walker, dx, _, _, rfl, hw2, T.cl_Walker, T.n_Walker_ended, rfl, fun y dy hy hdy _ => ?_⟩
  have sN : Same H2 (upd (upd H2 dy (.own y)) y (.ins A.Run dy [])) := fun q o h => by rw [upd_ne (ne_of_none h hy), upd_ne (ne_of_none h hdy)]; exact h
  refine ⟨y, dy, s, kp, ev2, _, ms2, x, H2, rfl, upd_same, newT_none hy, LamX.ExtN.of sN, hk2, hm2, hW2.len.1, fun by_ H3 k3 t3 o3 => ⟨rfl, ?_⟩⟩
  have e3 : LamX.ExtN H2 H3 := k3.ext (fun a h => by rw [List.mem_singleton.mp h]; exact newT_none hy) (LamX.ExtN.of sN)
  refine q y H3 ⟨dy, s, kp, ev2, by_, x, ms2, o3, e3 _ _ hk2 (fun _ z => by cases z), hm2.mono fun m v z => z.ext e3, he2.keep (extN_tup e3)⟩ ?_
  have := hW2.len.1
  unfold endW at this
  split at this
  · exact this
  · exact this

end
end K24
namespace K24
open PySem L2 TL
section
variable {P : Program} {w : World} {K : PySem.W.Frag} {mg : Str → Option Value} {base : Heap} {A : Ads}
theorem ok_l_cell_at (T : Txt K mg A) : FnOk P w K mg base CX0 1 A.l_cell_at A.l_cell_at_d ["_law_script", "_law_k"] (spCell K) := by
  refine T.F_l_cell_at.ok sc_l_cell_at (fun vs H Q E h => ?_) (fun cdv A0 outer s H vs Q E hr h => ?_)
  · obtain ⟨a, ns, k, rfl, hS, hk, q⟩ := h
    rfl
  obtain ⟨a, ns, k, rfl, hS, hk, q⟩ := h
  refine ⟨_, (pss_cons (ps_if (pt_cmpR op_lt (pv 1) (pe_callB call_lenK (by rfl) T.z_len (by decide +kernel) (pa_cons (pv 0) pa_nil)) (nomark _))
    (pss_one (ps_ret (pe_ix ix_list (pv 0) (pv 1) (fun _ _ => rfl))))
    pss_nil)
   (pss_one (ps_ret pe_int))), ?_⟩
  refine ⟨_, rfl, _, rfl, a, _, rfl, .inl hS, _, _, rfl, rfl, _, rfl, ?_⟩
  refine iteD2 (fun c => ?_) (fun c => ?_)
  · obtain ⟨v, hv⟩ := at_int (ns := ns) hk (by rw [List.length_map] at c; exact c)
    exact ⟨_, rfl, _, rfl, a, _, _, _, rfl, rfl, hS, hv, q v⟩
  · exact q 0

end
end K24
namespace K24
open PySem L2 TL
section
variable {P : Program} {w : World} {K : PySem.W.Frag} {mg : Str → Option Value} {base : Heap} {A : Ads}
theorem ok_l_well (T : Txt K mg A) : FnOk P w K mg base CX0 2 A.l_well A.l_well_d ["_law_script", "_law_k"] (spLWell K) := by
  have G_l_cell_at := ok_l_cell_at (P := P) (w := w) (base := base) T
  refine T.F_l_well.ok sc_l_well (fun vs H Q E h => ?_) (fun cdv A0 outer s H vs Q E hr h => ?_)
  · obtain ⟨a, ns, rfl, ha, q⟩ := h
    rfl
  obtain ⟨a, ns, rfl, ha, q⟩ := h
  refine ⟨_, (pss_cons (ps_set (i := 2) sc_l_well.nd rfl (Or.inl rfl) (pe_call G_l_cell_at (hr.mono (by decide)) rfl T.m_l_cell_at T.F_l_cell_at.kp T.b_l_cell_at .nil pass0 (pa_cons (pv 0) (pa_cons (pv 1) pa_nil))))
   (pss_one (ps_ret (pe_lst (pa_cons (pe_op op_add (pe_op op_mod (pv 2) pe_int) (pv 1)) (pa_cons (pe_ix ix_list (pe_lst (pa_cons pe_int (pa_cons (pv 2) pa_nil))) (pe_callTy call_int1 (by rfl) T.z_int (by decide +kernel) (pa_cons (pe_cmpR op_ge (pv 2) (pe_op op_pow pe_int pe_int) (nomark _)) pa_nil)) (fun _ _ => rfl)) (pa_cons pe_int pa_nil))))))), ?_⟩
  refine ⟨_, rfl, _, rfl, a, ns, 0, rfl, ha, Int.le_refl 0, fun n => ?_⟩
  have hb : ∀ b : Bool, ∃ y : Int, atI [V.int 0, .int n] (if b = true then 1 else 0) = some (.int y) := fun b => by
    cases b
    · exact ⟨0, rfl⟩
    · exact ⟨n, rfl⟩
  refine ⟨_, rfl, _, _, rfl, rfl, by show (0 : Int) < 2147483647; decide, _, rfl, _, _, rfl, rfl, ?_⟩
  refine ⟨_, rfl, by show 2 ≤ sizeLine; decide, fun l hl => ?_⟩
  refine ⟨_, rfl, _, _, rfl, rfl, ⟨by decide, by decide, by decide⟩, _, _, rfl, rfl, .inr ⟨_, rfl, ?_⟩⟩
  obtain ⟨y, hy⟩ := hb (decide (n ≥ 10 ^ (18 : Int).toNat))
  refine ⟨l, _, _, _, rfl, rfl, SqL.of upd_same, hy, ?_⟩
  exact ⟨by show 3 ≤ sizeLine; decide, fun p hp => q p _ ((same_new hl).trans (same_new hp)) ⟨n % 2147483647 + 0, y, 0, upd_same⟩⟩

end
end K24
namespace K24
open PySem L2 TL
section
variable {P : Program} {w : World} {K : PySem.W.Frag} {mg : Str → Option Value} {base : Heap} {A : Ads}
theorem ok_l_draw (T : Txt K mg A) : FnOk P w K mg base CX0 1 A.l_draw A.l_draw_d ["_law_well_here", "_law_most"] spLDraw := by
  refine T.F_l_draw.ok sc_l_draw (fun vs H Q E h => ?_) (fun cdv A0 outer s H vs Q E hr h => ?_)
  · obtain ⟨a, m, rfl, hw, hm, hm1, q⟩ := h
    rfl
  obtain ⟨a, m, rfl, hw, hm, hm1, q⟩ := h
  refine ⟨_, (pss_cons (ps_if (pt_cmpR op_gt (pe_ix ix_list (pv 0) pe_int (fun _ _ => rfl)) pe_int (nomark _))
    (pss_cons (ps_set (i := 2) sc_l_draw.nd rfl (Or.inl rfl) (pe_op op_modN (pe_ix ix_list (pv 0) pe_int (fun _ _ => rfl)) (pv 1)))
   (pss_cons (ps_asg (pe_op op_fdivN (pe_ix ix_list (pv 0) pe_int (fun _ _ => rfl)) (pv 1)) (pg_sub (pv 0) pe_int set_list))
   (pss_one (ps_ret (pv 2)))))
    pss_nil)
   (pss_cons (ps_asg (pe_op op_add (pe_ix ix_list (pv 0) pe_int (fun _ _ => rfl)) pe_int) (pg_sub (pv 0) pe_int set_list))
   (pss_cons (ps_set (i := 2) sc_l_draw.nd rfl (Or.inl rfl) (pe_op op_mod (pe_op op_mul (pe_op op_add (pe_op op_add (pe_ix ix_list (pv 0) pe_int (fun _ _ => rfl)) (pe_op op_mul pe_int (pe_ix ix_list (pv 0) pe_int (fun _ _ => rfl)))) pe_int) pe_int) pe_int))
   (pss_cons (ps_set (i := 2) sc_l_draw.nd rfl (Or.inl rfl) (pe_op op_mod (pe_op op_mul (pv 2) (pe_op op_add (pe_op op_fdiv (pv 2) pe_int) pe_int)) pe_int))
   (pss_one (ps_ret (pe_op op_modN (pe_op op_mod (pe_op op_mul (pv 2) (pe_op op_add (pe_op op_fdiv (pv 2) pe_int) pe_int)) pe_int) (pv 1)))))))), ?_⟩
  obtain ⟨x, y, z, h⟩ := hw
  have hm0 : m ≠ 0 := by omega
  have nn : ∀ u : Int, ((u.fmod m).toNat : Int) = u.fmod m := fun u => Int.toNat_of_nonneg (Int.fmod_nonneg_of_pos _ hm)
  have lt : ∀ u : Int, ((u.fmod m).toNat : Int) < m := fun u => by rw [nn]; exact Int.fmod_lt_of_pos _ hm
  have fin : ∀ (u : Int) H', KeepX a H H' → Wl H' a → Q (.int (u.fmod m)) H' := fun u H' k W => by
    rw [← nn]; exact q _ H' (lt u) k W
  refine ⟨_, rfl, a, _, _, _, rfl, rfl, SqL.of h, rfl, _, _, rfl, rfl, _, rfl, iteD2 (fun c => ?_) (fun c => ?_)⟩
  · refine ⟨_, rfl, a, _, _, _, rfl, rfl, SqL.of h, rfl, _, rfl, _, _, rfl, rfl, hm0, ?_⟩
    refine ⟨_, rfl, a, _, _, _, rfl, rfl, SqL.of h, rfl, _, rfl, _, _, rfl, rfl, ⟨hm0, by omega⟩, ?_⟩
    refine ⟨_, rfl, a, _, _, 1, rfl, rfl, h, rfl, _, rfl, ?_⟩
    exact fin _ _ keepX_upd ⟨_, _, _, upd_same⟩
  · refine ⟨_, rfl, a, _, _, _, rfl, rfl, SqL.of h, rfl, _, _, rfl, rfl, _, rfl, a, _, _, 2, rfl, rfl, h, rfl, ?_⟩
    refine ⟨_, rfl, a, _, _, _, rfl, rfl, SqL.of upd_same, rfl, _, rfl, a, _, _, _, rfl, rfl, SqL.of upd_same, rfl, ?_⟩
    walk_at "rd"
    exact ⟨hm0, fin _ _ keepX_upd ⟨_, _, _, upd_same⟩⟩

end
end K24
namespace K24
open PySem L2 TL
section
variable {P : Program} {w : World} {K : PySem.W.Frag} {mg : Str → Option Value} {base : Heap} {A : Ads}
theorem ok_l_lines (T : Txt K mg A) : FnOk P w K mg base CX0 1 A.l_lines A.l_lines_d ["_law_one", "_law_two", "_law_fun", "_law_many", "_law_start"] spLLines := by
  refine T.F_l_lines.ok sc_l_lines (fun vs H Q E h => ?_) (fun cdv A0 outer s H vs Q E hr h => ?_)
  · obtain ⟨o, t, f, many, start, rfl, ho, ht, hf, hm, hs, q⟩ := h
    rfl
  obtain ⟨o, t, f, many, start, rfl, ho, ht, hf, hm, hs, q⟩ := h
  refine ⟨_, (pss_cons (ps_set (i := 5) sc_l_lines.nd rfl (Or.inl rfl) (pe_lst (pa_cons (pe_op op_add_str (pe_op op_add_str (pe_op op_add_str pe_str (pv 2)) pe_str) (pv 0)) (pa_cons (pe_op op_add_str (pe_op op_add_str (pe_op op_add_str pe_str (pv 0)) pe_str) (pe_callTy call_str_int (by rfl) T.z_str (by decide +kernel) (pa_cons (pv 3) pa_nil))) pa_nil))))
   (pss_cons (ps_set (i := 5) sc_l_lines.nd rfl (Or.inl rfl) (pe_op op_cat (pv 5) (pe_lst (pa_cons (pe_op op_add_str (pe_op op_add_str (pe_op op_add_str (pe_op op_add_str (pe_op op_add_str (pe_op op_add_str pe_str (pv 1)) pe_str) (pv 2)) pe_str) (pv 0)) pe_str) (pa_cons pe_str (pa_cons (pe_op op_add_str (pe_op op_add_str (pe_op op_add_str pe_str (pv 1)) pe_str) (pe_callTy call_str_int (by rfl) T.z_str (by decide +kernel) (pa_cons (pv 4) pa_nil))) (pa_cons pe_str pa_nil)))))))
   (pss_one (ps_ret (pe_op op_cat (pv 5) (pe_lst (pa_cons (pe_op op_add_str (pe_op op_add_str (pe_op op_add_str pe_str (pv 1)) pe_str) (pv 0)) (pa_cons pe_str (pa_cons (pe_op op_add_str (pe_op op_add_str (pe_op op_add_str (pe_op op_add_str pe_str (pv 1)) pe_str) (pv 2)) pe_str) (pa_cons (pe_op op_add_str pe_str (pv 1)) pa_nil)))))))))), ?_⟩
  have L0 : (Str.ofString "fun ").length = 4 := by decide +kernel
  have L1 : (Str.ofString " ").length = 1 := by decide +kernel
  have L2 : (Str.ofString "if less ").length = 8 := by decide +kernel
  have L3 : (Str.ofString "call ").length = 5 := by decide +kernel
  have L4 : (Str.ofString " plus ").length = 6 := by decide +kernel
  have L5 : (Str.ofString " 1").length = 2 := by decide +kernel
  have L6 : (Str.ofString "else").length = 4 := by decide +kernel
  have L7 : (Str.ofString "set ").length = 4 := by decide +kernel
  have L8 : (Str.ofString "end").length = 3 := by decide +kernel
  have L9 : (Str.ofString "give plus times ").length = 16 := by decide +kernel
  have L10 : (Str.ofString " 3 ").length = 3 := by decide +kernel
  have L11 : (Str.ofString "main").length = 4 := by decide +kernel
  have L12 : (Str.ofString " 0").length = 2 := by decide +kernel
  have L13 : (Str.ofString "tell ").length = 5 := by decide +kernel

  have hnm : (Str.ofString (toString (many : Int))).length ≤ 6 := num_len (by omega)
  have hns : (Str.ofString (toString (start : Int))).length ≤ 6 := num_len hs
  refine ⟨_, rfl, _, _, rfl, rfl, (by show _ + _ ≤ 16777216; simp only [apl, L0, L1, L2, L3, L4, L5, L6, L7, L8, L9, L10, L11, L12, L13]; omega), _, _, rfl, rfl, (by show _ + _ ≤ 16777216; simp only [apl, L0, L1, L2, L3, L4, L5, L6, L7, L8, L9, L10, L11, L12, L13]; omega), _, rfl, _, _, rfl, rfl, (by show _ + _ ≤ 16777216; simp only [apl, L0, L1, L2, L3, L4, L5, L6, L7, L8, L9, L10, L11, L12, L13]; omega), ?_⟩
  refine ⟨_, rfl, _, _, rfl, rfl, (by show _ + _ ≤ 16777216; simp only [apl, L0, L1, L2, L3, L4, L5, L6, L7, L8, L9, L10, L11, L12, L13]; omega), _, _, rfl, rfl, (by show _ + _ ≤ 16777216; simp only [apl, L0, L1, L2, L3, L4, L5, L6, L7, L8, L9, L10, L11, L12, L13]; omega), _, rfl, _, rfl, log_small (by omega), _, _, rfl, rfl, (by show _ + _ ≤ 16777216; simp only [apl, L0, L1, L2, L3, L4, L5, L6, L7, L8, L9, L10, L11, L12, L13]; omega), by show 2 ≤ sizeLine; decide, fun l1 hl1 => ?_⟩
  have s1 := same_new (o := .lst [.str (Str.ofString "fun " ++ f ++ Str.ofString " " ++ o), .str (Str.ofString "if less " ++ o ++ Str.ofString " " ++ numT (many : Int))]) hl1
  have g1 := upd_same (H := H) (a := l1) (o := .lst [.str (Str.ofString "fun " ++ f ++ Str.ofString " " ++ o), .str (Str.ofString "if less " ++ o ++ Str.ofString " " ++ numT (many : Int))])
  refine ⟨_, rfl, ?_⟩
  refine ⟨_, rfl, _, _, rfl, rfl, (by show _ + _ ≤ 16777216; simp only [apl, L0, L1, L2, L3, L4, L5, L6, L7, L8, L9, L10, L11, L12, L13]; omega), _, _, rfl, rfl, (by show _ + _ ≤ 16777216; simp only [apl, L0, L1, L2, L3, L4, L5, L6, L7, L8, L9, L10, L11, L12, L13]; omega), _, rfl, _, _, rfl, rfl, (by show _ + _ ≤ 16777216; simp only [apl, L0, L1, L2, L3, L4, L5, L6, L7, L8, L9, L10, L11, L12, L13]; omega), _, _, rfl, rfl, (by show _ + _ ≤ 16777216; simp only [apl, L0, L1, L2, L3, L4, L5, L6, L7, L8, L9, L10, L11, L12, L13]; omega), _, rfl, _, _, rfl, rfl, (by show _ + _ ≤ 16777216; simp only [apl, L0, L1, L2, L3, L4, L5, L6, L7, L8, L9, L10, L11, L12, L13]; omega), _, _, rfl, rfl, (by show _ + _ ≤ 16777216; simp only [apl, L0, L1, L2, L3, L4, L5, L6, L7, L8, L9, L10, L11, L12, L13]; omega), ?_⟩
  refine ⟨_, rfl, _, _, rfl, rfl, (by show _ + _ ≤ 16777216; simp only [apl, L0, L1, L2, L3, L4, L5, L6, L7, L8, L9, L10, L11, L12, L13]; omega), _, _, rfl, rfl, (by show _ + _ ≤ 16777216; simp only [apl, L0, L1, L2, L3, L4, L5, L6, L7, L8, L9, L10, L11, L12, L13]; omega), _, rfl, _, rfl, log_small (by omega), _, _, rfl, rfl, (by show _ + _ ≤ 16777216; simp only [apl, L0, L1, L2, L3, L4, L5, L6, L7, L8, L9, L10, L11, L12, L13]; omega), by show 4 ≤ sizeLine; decide, fun l2 hl2 => ?_⟩
  have s2 := same_new (o := .lst [.str (Str.ofString "call " ++ t ++ Str.ofString " " ++ f ++ Str.ofString " plus " ++ o ++ Str.ofString " 1"), .str (Str.ofString "else"), .str (Str.ofString "set " ++ t ++ Str.ofString " " ++ numT (start : Int)), .str (Str.ofString "end")]) hl2
  refine ⟨l1, l2, _, _, rfl, rfl, s2 _ _ g1, upd_same, by show 2 + 4 ≤ 16777216; decide, fun l3 hl3 => ?_⟩
  have s3 := same_new (o := .lst ([.str (Str.ofString "fun " ++ f ++ Str.ofString " " ++ o), .str (Str.ofString "if less " ++ o ++ Str.ofString " " ++ numT (many : Int))] ++ [.str (Str.ofString "call " ++ t ++ Str.ofString " " ++ f ++ Str.ofString " plus " ++ o ++ Str.ofString " 1"), .str (Str.ofString "else"), .str (Str.ofString "set " ++ t ++ Str.ofString " " ++ numT (start : Int)), .str (Str.ofString "end")])) hl3
  refine ⟨_, rfl, _, rfl, _, _, rfl, rfl, (by show _ + _ ≤ 16777216; simp only [apl, L0, L1, L2, L3, L4, L5, L6, L7, L8, L9, L10, L11, L12, L13]; omega), _, _, rfl, rfl, (by show _ + _ ≤ 16777216; simp only [apl, L0, L1, L2, L3, L4, L5, L6, L7, L8, L9, L10, L11, L12, L13]; omega), _, rfl, _, _, rfl, rfl, (by show _ + _ ≤ 16777216; simp only [apl, L0, L1, L2, L3, L4, L5, L6, L7, L8, L9, L10, L11, L12, L13]; omega), _, rfl, _, _, rfl, rfl, (by show _ + _ ≤ 16777216; simp only [apl, L0, L1, L2, L3, L4, L5, L6, L7, L8, L9, L10, L11, L12, L13]; omega), _, _, rfl, rfl, (by show _ + _ ≤ 16777216; simp only [apl, L0, L1, L2, L3, L4, L5, L6, L7, L8, L9, L10, L11, L12, L13]; omega), _, rfl, _, _, rfl, rfl, (by show _ + _ ≤ 16777216; simp only [apl, L0, L1, L2, L3, L4, L5, L6, L7, L8, L9, L10, L11, L12, L13]; omega), _, _, rfl, rfl, (by show _ + _ ≤ 16777216; simp only [apl, L0, L1, L2, L3, L4, L5, L6, L7, L8, L9, L10, L11, L12, L13]; omega), _, rfl, _, _, rfl, rfl, (by show _ + _ ≤ 16777216; simp only [apl, L0, L1, L2, L3, L4, L5, L6, L7, L8, L9, L10, L11, L12, L13]; omega), by show 4 ≤ sizeLine; decide, fun l4 hl4 => ?_⟩
  have s4 := same_new (o := .lst [.str (Str.ofString "give plus times " ++ t ++ Str.ofString " 3 " ++ o), .str (Str.ofString "main"), .str (Str.ofString "call " ++ t ++ Str.ofString " " ++ f ++ Str.ofString " 0"), .str (Str.ofString "tell " ++ t)]) hl4
  refine ⟨l3, l4, _, _, rfl, rfl, s4 _ _ upd_same, upd_same, by show 6 + 4 ≤ 16777216; decide, fun l5 hl5 => ?_⟩
  refine q l5 _ ((((s1.trans s2).trans s3).trans s4).trans (same_new hl5)) ?_
  rw [upd_same]
  rfl

end
end K24
namespace K24
open PySem L2 TL
section
variable {P : Program} {w : World} {K : PySem.W.Frag} {mg : Str → Option Value} {base : Heap} {A : Ads}
theorem ok_law (T : Txt K mg A) (B : Cod base mg A) : FnOk P w K mg base CX0 85 A.law A.law_d ["_law_script"] (spLaw K [(A.t_Scene_reckon, fun _ _ => Q_lam)]) := by
  have G_l_well := ok_l_well (P := P) (w := w) (base := base) T
  have G_l_draw := ok_l_draw (P := P) (w := w) (base := base) T
  have G_run_of := ok_run_of (P := P) (w := w) (base := base) T B
  have G_Setting_init := ok_Setting_init (P := P) (w := w) (base := base) T
  have G_read_program := ok_read_program (P := P) (w := w) (base := base) T
  have G_l_lines := ok_l_lines (P := P) (w := w) (base := base) T
  have G_Run_moments := ok_Run_moments (P := P) (w := w) (base := base) T
  have G_Run_end := ok_Run_end (P := P) (w := w) (base := base) T
  have G_Run_tells := ok_Run_tells (P := P) (w := w) (base := base) T
  refine T.F_law.ok sc_law (fun vs H Q E h => ?_) (fun cdv A0 outer s H vs Q E hr h => ?_)
  · obtain ⟨a, ns, rfl, ha, hl, tb, q⟩ := h
    rfl
  obtain ⟨a, ns, rfl, ha, hl, tb, q⟩ := h
  refine ⟨_, (pss_cons (ps_set (i := 1) sc_law.nd rfl (Or.inl rfl) (pe_call G_l_well (hr.mono (by decide)) rfl T.m_l_well T.F_l_well.kp T.b_l_well .nil pass0 (pa_cons (pv 0) (pa_cons pe_int pa_nil))))
   (pss_cons (ps_set (i := 2) sc_law.nd rfl (Or.inr rfl) (pe_ix ix_list (pe_lst (pa_cons pe_str (pa_cons pe_str (pa_cons pe_str (pa_cons pe_str (pa_cons pe_str pa_nil)))))) (pe_call G_l_draw (hr.mono (by decide)) rfl T.m_l_draw T.F_l_draw.kp T.b_l_draw .nil pass0 (pa_cons (pv 1) (pa_cons pe_int pa_nil))) (fun _ _ => rfl)))
   (pss_cons (ps_asg (pe_lc (own := [("_law_sign", 16)]) (g := gName 16) (tt := tYes) rfl sc_law.nd (pi_list (pe_ix ix_list (pe_lst (pa_cons (pe_lst (pa_cons pe_str (pa_cons pe_str (pa_cons pe_str pa_nil)))) (pa_cons (pe_lst (pa_cons pe_str (pa_cons pe_str (pa_cons pe_str pa_nil)))) (pa_cons (pe_lst (pa_cons pe_str (pa_cons pe_str (pa_cons pe_str pa_nil)))) pa_nil)))) (pe_call G_l_draw (hr.mono (by decide)) rfl T.m_l_draw T.F_l_draw.kp T.b_l_draw .nil pass0 (pa_cons (pv 1) (pa_cons pe_int pa_nil))) (fun _ _ => rfl))) (blkOk_by (own := [("_law_sign", 16)]) (N := N_law) (sc := defScope s_law) (by decide +kernel)) (fun _ _ _ _ _ => pg_name (i := 16) sc_law.nd rfl (Or.inl rfl)) (fun _ _ _ _ _ => pts_nil) (fun _ _ _ _ _ => (pe_op op_add_str (pv 2) (pv 16)))) (pg_unl rfl (pgs_cons (pg_name (i := 3) sc_law.nd rfl (Or.inl rfl)) (pgs_cons (pg_name (i := 4) sc_law.nd rfl (Or.inl rfl)) (pgs_cons (pg_name (i := 5) sc_law.nd rfl (Or.inl rfl)) pgs_nil)))))
   (pss_cons (ps_set (i := 6) sc_law.nd rfl (Or.inl rfl) (pe_call G_l_draw (hr.mono (by decide)) rfl T.m_l_draw T.F_l_draw.kp T.b_l_draw .nil pass0 (pa_cons (pv 1) (pa_cons pe_int pa_nil))))
   (pss_cons (ps_set (i := 7) sc_law.nd rfl (Or.inl rfl) (pe_call G_l_draw (hr.mono (by decide)) rfl T.m_l_draw T.F_l_draw.kp T.b_l_draw .nil pass0 (pa_cons (pv 1) (pa_cons (pe_op op_pow pe_int pe_int) pa_nil))))
   (pss_cons (ps_set (i := 8) sc_law.nd rfl (Or.inl rfl) (pe_call G_run_of (hr.mono (by decide)) rfl T.m_run_of T.F_run_of.kp T.b_run_of .nil pass0 (pa_cons (pe_make T.k_Setting G_Setting_init (hr.mono (by decide)) rfl T.m_Setting T.bd_Setting_init.choose_spec.2 T.bd_Setting_init.choose_spec.1 pass0 (pa_cons (pe_call G_read_program (hr.mono (by decide)) rfl T.m_read_program T.F_read_program.kp T.b_read_program .nil passL (pa_cons (pe_join pe_str (pe_call G_l_lines (hr.mono (by decide)) rfl T.m_l_lines T.F_l_lines.kp T.b_l_lines .nil pass0 (pa_cons (pv 3) (pa_cons (pv 4) (pa_cons (pv 5) (pa_cons (pv 6) (pa_cons (pv 7) pa_nil))))))) pa_nil)) (pa_cons pe_dnewT (pa_cons pe_int pa_nil)))) pa_nil)))
   (pss_cons (ps_set (i := 9) sc_law.nd rfl (Or.inl rfl) (pe_meth0 (pv 8) T.cl_Run T.me_Run_moments G_Run_moments (hr.mono (by decide)) T.b_Run_moments .nil pass0))
   (pss_cons (ps_if (pt_cmpR op_gt (pv 6) pe_int (nomark _))
    (pss_cons (ps_set (i := 10) sc_law.nd rfl (Or.inl rfl) (pe_op op_catT (pe_op op_catT (pe_tup (pa_cons pe_int (pa_cons pe_int pa_nil))) (pe_op op_repT (pe_tup (pa_cons pe_int (pa_cons pe_int (pa_cons pe_int (pa_cons pe_int pa_nil))))) pe_int)) (pe_tup (pa_cons pe_int (pa_cons pe_int (pa_cons pe_int pa_nil))))))
   (pss_cons (ps_set (i := 11) sc_law.nd rfl (Or.inl rfl) (pe_tup (pa_cons (pe_tup (pa_cons pe_str (pa_cons (pe_slice sl_tup (pv 10) po_none (po_some (pe_un un_neg pe_int))) (pa_cons (pv 3) pa_nil)))) (pa_cons pe_int pa_nil))))
   (pss_cons (ps_set (i := 12) sc_law.nd rfl (Or.inl rfl) (pe_tup (pa_cons (pv 10) (pa_cons (pe_lst (pa_cons (pv 11) pa_nil)) (pa_cons (pe_lst pa_nil) (pa_cons pe_non (pa_cons pe_non (pa_cons pe_non (pa_cons pe_str pa_nil)))))))))
   (pss_one (ps_ret (pe_and (pe_cmpR (op_eqD hr.units) (pe_meth0 (pv 8) T.cl_Run T.me_Run_end G_Run_end (hr.mono (by decide)) T.b_Run_end .nil pass0) (pe_tup (pa_cons pe_str (pa_cons pe_str (pa_cons (pv 10) pa_nil)))) (nomark _)) (pe_and (pe_cmpR (op_eqD hr.units) (pe_ix ix_list (pv 9) (pe_un un_neg pe_int) (fun _ _ => rfl)) (pv 12) (nomark _)) (pe_one (pe_cmpR (op_eqD hr.units) (pe_meth0 (pv 8) T.cl_Run T.me_Run_tells G_Run_tells (hr.mono (by decide)) T.b_Run_tells .nil pass0) (pe_lst pa_nil) (nomark _))))))))))
    pss_nil)
   (pss_cons (ps_set (i := 13) sc_law.nd rfl (Or.inl rfl) (pv 7))
   (pss_cons (ps_for PassesOwn.never rfl (pi_range3 (by rfl) T.z_range (pa_cons (pv 6) (pa_cons (pe_un un_neg pe_int) (pa_cons (pe_un un_neg pe_int) pa_nil)))) (pg_name (i := 14) sc_law.nd rfl (Or.inl rfl))
    (pss_one (ps_set (i := 13) sc_law.nd rfl (Or.inl rfl) (pe_op op_mod (pe_op op_add (pe_op op_mul (pv 13) pe_int) (pv 14)) (pe_op op_pow pe_int pe_int)))))
   (pss_cons (ps_setLc (i := 15) (own := [("_law_told", 17)]) (g := gName 17) rfl sc_law.nd rfl rfl (sw_true rfl rfl rfl (by decide +kernel)) (pi_list (pv 9)) (blkOk_by (own := [("_law_told", 17)]) (N := N_law) (sc := defScope s_law) (by decide +kernel)) (fun _ _ _ _ _ => pg_name (i := 17) sc_law.nd rfl (Or.inl rfl)) (fun _ _ _ _ _ => pts_one (pt_cmpR op_eq (pe_ix (r := rIxT K) ix_tup (pe_ix (r := rIxT K) ix_tup (pv 17) pe_int (fun _ _ => rfl)) (pe_un un_neg pe_int) (fun _ _ => rfl)) pe_int (nomark _))) (fun _ _ _ _ _ => (pv 17)))
   (pss_cons (ps_if (PW.pt (pw_or (pt_cmpR op_ne (pe_callB call_lenK (by rfl) T.z_len (by decide +kernel) (pa_cons (pv 15) pa_nil)) (pe_op op_add (pv 6) pe_int) (nomark _)) (pw_or1 (pt_cmpR (op_neD hr.units) (pe_ix ix_tup (pe_ix ix_list (pv 15) (pe_un un_neg pe_int) (fun _ _ => rfl)) pe_int (fun _ _ => rfl)) (pe_lst (pa_cons (pe_tup (pa_cons (pe_tup (pa_cons pe_str (pa_cons (pe_tup pa_nil) (pa_cons (pv 4) pa_nil)))) (pa_cons (pv 13) pa_nil))) pa_nil)) (nomark _)))))
    (pss_one (ps_ret pe_bl))
    pss_nil)
   (pss_one (ps_ret (pe_and (pe_cmpR (op_eqD hr.units) (pe_meth0 (pv 8) T.cl_Run T.me_Run_tells G_Run_tells (hr.mono (by decide)) T.b_Run_tells .nil pass0) (pe_lst (pa_cons (pv 13) pa_nil)) (nomark _)) (pe_one (pe_cmpR (op_eqD hr.units) (pe_meth0 (pv 8) T.cl_Run T.me_Run_end G_Run_end (hr.mono (by decide)) T.b_Run_end .nil pass0) (pe_tup (pa_cons pe_str pa_nil)) (nomark _)))))))))))))))))), ?_⟩
  refine ⟨_, rfl, a, ns, rfl, ha, fun wl H1 s1 W1 => ?_⟩
  have tb1 := NdefX.TabsN.ext tb s1
  refine ⟨by show 5 ≤ sizeLine; decide, fun l1 hl1 => ?_⟩
  have s2 := same_new (o := .lst [V.str "", V.str "x", V.str "iff", V.str "callb", V.str "give"]) hl1
  have W2 := W1.same s2
  have tb2 := NdefX.TabsN.ext tb1 s2
  have n1wl : l1 ≠ wl := fun e => by
    obtain ⟨xs, z⟩ := W1.at
    rw [← e, hl1] at z; cases z
  refine ⟨_, rfl, wl, 5, rfl, W2, by decide, by decide, fun n1 H3 hn1 k3 W3 => ?_⟩
  have hn1' : n1 < 5 := by omega
  have tb3 := tabs_keepX tb2 k3 W2.at.choose_spec
  refine ⟨l1, _, _, _, rfl, rfl, SqL.of (k3 _ _ n1wl upd_same), stem_at n1 hn1', ?_⟩
  clear s2 hl1 tb1 tb2 W2 k3 n1wl s1 W1 tb
  refine ⟨by show 3 ≤ sizeLine; decide, fun la hla => ?_⟩
  have sa := same_new (o := .lst [V.str "b", V.str "c", V.str "d"]) hla
  refine ⟨by show 3 ≤ sizeLine; decide, fun lb hlb => ?_⟩
  have sb := same_new (o := .lst [V.str "d", V.str "b", V.str "c"]) hlb
  refine ⟨by show 3 ≤ sizeLine; decide, fun lc hlc => ?_⟩
  have sc := same_new (o := .lst [V.str "c", V.str "d", V.str "c"]) hlc
  refine ⟨by show 3 ≤ sizeLine; decide, fun lo hlo => ?_⟩
  have so := same_new (o := .lst [V.ref la, V.ref lb, V.ref lc]) hlo
  have sall := ((sa.trans sb).trans sc).trans so
  have W4 := W3.same sall
  have tb4 := NdefX.TabsN.ext tb3 sall
  have nwl : ∀ {b : Addr}, H3 b = none → b ≠ wl := fun {b} h e => by
    obtain ⟨xs, z⟩ := W3.at
    rw [← e, h] at z; cases z
  have na := nwl hla
  have nb := nwl (none_before sa hlb)
  have nc := nwl (none_before (sa.trans sb) hlc)
  have no := nwl (none_before ((sa.trans sb).trans sc) hlo)
  refine ⟨_, rfl, wl, 3, rfl, W4, by decide, by decide, fun n2 H5 hn2 k5 W5 => ?_⟩
  have hn2' : n2 < 3 := by omega
  have tb5 := tabs_keepX tb4 k5 W4.at.choose_spec
  obtain ⟨lx, hx1, hx2⟩ := sgn_at (k5 _ _ na (so _ _ (sc _ _ (sb _ _ upd_same)))) (k5 _ _ nb (so _ _ (sc _ _ upd_same))) (k5 _ _ nc (so _ _ upd_same)) n2 hn2'
  refine ⟨lo, _, _, _, rfl, rfl, SqL.of (k5 _ _ no upd_same), hx1, ?_⟩
  clear sa sb sc so sall W4 tb4 tb3 hla hlb hlc hlo na nb nc no nwl W3
  have stl : (STEMS.getD n1 (Str.ofString "")).length ≤ 5 := (show ∀ n < 5, (STEMS.getD n (Str.ofString "")).length ≤ 5 by decide +kernel) n1 hn1'
  have sgl : ∀ k < 3, (sgn n2 k).length ≤ 1 := (show ∀ n < 3, ∀ k < 3, (sgn n k).length ≤ 1 by decide +kernel) n2 hn2'
  refine ⟨lx, rfl, ⟨_, SqL.of hx2⟩, fun D hD => lc_map (walk_list (xs := [V.str (sgn n2 0), V.str (sgn n2 1), V.str (sgn n2 2)])) (fun i => V.str (nm24 n1 n2 i)) hD (by show 3 < 16777216; decide) (by show 16 < 18; decide) (fun H' s' => SqL.of (s' _ _ hx2)) (fun i H' x H'' y => y.1) ?_ ?_⟩
  · rintro i x H' Z hi s' ⟨_, hx⟩ z
    have hi : i < 3 := hi
    have hxi : x = V.str (sgn n2 i) := by
      have e : ([V.str (sgn n2 0), V.str (sgn n2 1), V.str (sgn n2 2)] : List V)[i]? = some (V.str (sgn n2 i)) := by
        match i, hi with
        | 0, _ => rfl
        | 1, _ => rfl
        | 2, _ => rfl
      rw [e] at hx
      exact (Option.some.inj hx).symm
    rw [hxi]
    refine ⟨_, rfl, _, rfl, _, _, rfl, rfl, ?_, z H' (Same.refl H')⟩
    have := sgl i hi
    show (STEMS.getD n1 (Str.ofString "")).length + (sgn n2 i).length ≤ 16777216
    omega
  intro H6 s6 hD6
  have W6 := W5.same s6
  have tb6 := NdefX.TabsN.ext tb5 s6
  refine ⟨D, _, rfl, SqL.of hD6, rfl, _, _, rfl, _, _, rfl, _, _, rfl, rfl, ?_⟩
  obtain ⟨ho, hol, hoc⟩ := nm_ok n1 hn1' n2 hn2' 0 (by decide)
  obtain ⟨ht, htl, htc⟩ := nm_ok n1 hn1' n2 hn2' 1 (by decide)
  obtain ⟨hf, hfl, hfc⟩ := nm_ok n1 hn1' n2 hn2' 2 (by decide)
  refine ⟨_, rfl, wl, 10, rfl, W6, by decide, by decide, fun n3 H7 hn3 k7 W7 => ?_⟩
  have hn3' : n3 < 10 := by omega
  have tb7 := tabs_keepX tb6 k7 W6.at.choose_spec
  refine ⟨_, rfl, _, _, rfl, rfl, ⟨by decide, by decide, by decide⟩, wl, _, rfl, W7, by decide, by decide, fun n4 H8 hn4 k8 W8 => ?_⟩
  have e6 : (10 : Int) ^ ((6 : Int).toNat) = 1000000 := by decide
  rw [e6] at hn4
  have hn4' : n4 < 1000000 := by omega
  have tb8 := tabs_keepX tb7 k8 W7.at.choose_spec
  clear W7 W6 W5 tb7 tb6 tb5 hD6 s6 k7 k8 hD hx1 hx2 e6
  have hgo : ∃ (b : Bool) (st : WS), runA (nm24 n1 n2 0) (nm24 n1 n2 1) (nm24 n1 n2 2) n3 (n4 : Int) = some (b, st) := by
    by_cases c : n3 < 6
    · have g := goodA n1 n2 n3 n4 hn1' hn2' c
      cases r : runA (nm24 n1 n2 0) (nm24 n1 n2 1) (nm24 n1 n2 2) n3 (n4 : Int) with
      | none => rw [r] at g; cases g
      | some x => exact ⟨x.1, x.2, rfl⟩
    · have g := goodB n1 n2 n3 n4 hn1' hn2' (by omega) hn3'
      cases r : runA (nm24 n1 n2 0) (nm24 n1 n2 1) (nm24 n1 n2 2) n3 (n4 : Int) with
      | none => rw [r] at g; cases g
      | some x => exact ⟨x.1, x.2, rfl⟩
  obtain ⟨b, st, hrun⟩ := hgo
  have hlok := lines_ok (m := n3) (s := n4) ho ht hf hn3' hn4'
  refine ⟨⟨_, rfl⟩, _, rfl, _, rfl, _, rfl, _, rfl, _, rfl, nm24 n1 n2 0, nm24 n1 n2 1, nm24 n1 n2 2, n3, n4, rfl, hol, htl, hfl, hn3', hn4', fun ll H9 s9 hll => ?_⟩
  have tb9 := NdefX.TabsN.ext tb8 s9
  rw [lines24_R] at hll
  refine ⟨_, ll, linesR (nm24 n1 n2 0) (nm24 n1 n2 1) (nm24 n1 n2 2) n3 n4, rfl, rfl, .inl (SqL.of hll), ?_, ?_⟩
  · have h1 := sum_le (k := 1000) fun l hl => (hlok l hl).1
    have h2 : (Str.ofString "\n").length = 1 := by decide +kernel
    have h3 : (linesR (nm24 n1 n2 0) (nm24 n1 n2 1) (nm24 n1 n2 2) n3 n4).length = 10 := rfl
    rw [h2, h3]
    rw [h3] at h1
    omega
  refine ⟨_, rfl, text_ok hlok (by show 10 ≤ 100; decide) (by show linesR _ _ _ _ _ ≠ []; unfold linesR; simp), fun gs bs v H10 hrd s10 hP => ?_, fun hno => ?_⟩
  rotate_left
  · have e : Txt.split (Txt.join (Str.ofString "\n") (linesR (nm24 n1 n2 0) (nm24 n1 n2 1) (nm24 n1 n2 2) n3 n4)) "\n" = linesR (nm24 n1 n2 0) (nm24 n1 n2 1) (nm24 n1 n2 2) n3 n4 := split_lines hlok (by unfold linesR; simp)
    rw [e, readT24 ho ht hf hn3' hn4'] at hno
    cases hno
  have e : Txt.split (Txt.join (Str.ofString "\n") (linesR (nm24 n1 n2 0) (nm24 n1 n2 1) (nm24 n1 n2 2) n3 n4)) "\n" = linesR (nm24 n1 n2 0) (nm24 n1 n2 1) (nm24 n1 n2 2) n3 n4 := split_lines hlok (by unfold linesR; simp)
  rw [e, readT24 ho ht hf hn3' hn4'] at hrd
  cases hrd
  have tb10 := NdefX.TabsN.ext tb9 s10
  obtain ⟨p, dp, ml, d, tx, num, mos, kvs, rfl, hp, hml, hmb, hd, hfs⟩ := hP
  cases hfs with
  | cons hf1 hf2 =>
  cases hf2
  rename_i kv1
  obtain ⟨kk, kvv⟩ := kv1
  obtain ⟨hk1, fp, fdx, fl, flb, fgv, fos, hfv, hfo, _, hfl2, _, hflb, hfbody, hfgv⟩ := hf1
  have hk1 : kk = .inr (nm24 n1 n2 2) := hk1
  have hfv : kvv = .ref fp := hfv
  subst hk1
  subst hfv
  refine fun g hg => ?_
  have sg := same_new (o := .dT []) hg
  refine fun x dx hx hdx _ => ?_
  have sM : Same (upd H10 g (.dT [])) (upd (upd (upd H10 g (.dT [])) dx (.own x)) x (.ins A.Setting dx [])) := fun q o h => by rw [upd_ne (ne_of_none h hx), upd_ne (ne_of_none h hdx)]; exact h
  refine ⟨x, dx, g, .ref p, rfl, upd_same, sM _ _ upd_same, fun g2 o2 H11 k11 t11 hS hg2 ho2 => ⟨rfl, ?_⟩⟩
  have eM : LamX.ExtN H10 H11 := k11.ext (H0 := H10) (fun a h => by rw [List.mem_singleton.mp h]; exact newT_of (LamX.ExtN.of sg) (newT_none hx)) (LamX.ExtN.of (sg.trans sM))
  have tb11 := t11 _ (NdefX.TabsN.ext (NdefX.TabsN.ext tb10 sg) sM)
  obtain ⟨bw1, bw2, bw3⟩ := body_w (m := n3) (s := n4) ho ht hf hn3' hn4'
  have ki : KeepI (fun _ => True) (fun _ => True) H10 H11 := extN_keepI eM
  refine ⟨x, wp24 (nm24 n1 n2 0) (nm24 n1 n2 1) (nm24 n1 n2 2) n3 (n4 : Int), main24 (nm24 n1 n2 1) (nm24 n1 n2 2), b, st, rfl, ⟨tb11, ⟨dx, g2, o2, p, dp, d, fp, fdx, fl, flb, ml, tx, num, fgv, fos, mos, hS, hg2, ho2, eM _ _ hp (fun _ z => by cases z), eM _ _ hd (fun _ z => by cases z), eM _ _ hfo (fun _ z => by cases z), eM _ _ hfl2 (fun _ z => by cases z), eM _ _ hflb (fun _ z => by cases z), hfbody.keepI ki (fun _ _ => trivial) (fun _ _ => trivial), hfgv.keepI ki (fun _ _ => trivial) (fun _ _ => trivial), eM _ _ hml (fun _ z => by cases z), hmb.keepI ki (fun _ _ => trivial) (fun _ _ => trivial)⟩, bw1, bw2, bw3, by show 1 ≤ 9; decide⟩, hrun, fun R H12 hR hk => ?_⟩
  clear ki bw1 bw2 bw3 tb11 eM hS hg2 ho2 k11 t11 hx hdx sM sg hg hfbody hfgv hflb hfl2 hfo hmb hml hd hp tb10 s10 tb9 s9 hll tb8
  have hkl : (endW b st).kept = st.kept := by unfold endW; split <;> rfl
  obtain ⟨dxR, sR, kpR, evR, byR, wR, msR, hRo, _⟩ := hR.obj
  refine ⟨_, rfl, R, dxR, _, rfl, hRo, rfl, R, endW b st, rfl, hR, by rw [hkl]; exact hk, fun lm ts H13 s13 hlm hmt => ?_⟩
  rw [hkl] at hmt
  have hR13 := hR.same s13
  have hRo13 := s13 _ _ hRo
  clear hR hRo s13
  refine ⟨_, rfl, _, _, rfl, rfl, _, rfl, iteD2 (fun c => ?_) (fun c => ?_)⟩
  · have c' : 6 ≤ n3 := by
      have c : (n3 : Int) > 5 := c
      omega
    have gB := goodB n1 n2 n3 n4 hn1' hn2' c' hn3'
    rw [hrun] at gB
    have gB : outB (b, st) = (false, some (.fell "deep" at24), some ⟨at24, [(.box fr24 (nm24 n1 n2 0), 5)], [], none, none, some "deep"⟩, []) := Option.some.inj gB
    obtain ⟨e1, g1⟩ := Prod.mk.inj (show ((b, st.ended, st.kept.getLast?, saidL st.kept) : Bool × Option Ed × Option Mo × List Int) = _ from gB)
    obtain ⟨e2, g2⟩ := Prod.mk.inj g1
    obtain ⟨e3, e4⟩ := Prod.mk.inj g2
    subst e1
    have hE : endW false st = st := if_neg (by decide)
    rw [hE] at hR13
    obtain ⟨ys, hys⟩ := last_some e3
    rw [hys] at hmt
    obtain ⟨mv, hlast, hmv⟩ := all2_last hmt
    refine ⟨by show 2 ≤ sizeLine; decide, fun t1 ht1 => ?_⟩
    have q1 := same_new (o := .tup [V.int 8, V.int 0]) ht1
    refine ⟨by show 4 ≤ sizeLine; decide, fun t2 ht2 => ?_⟩
    have q2 := same_new (o := .tup [V.int 1, V.int 0, V.int 2, V.int 0]) ht2
    refine ⟨t2, 5, _, rfl, rfl, SqT.of upd_same, by simp, by decide, by decide, by show 4 ≤ 1000; decide, fun t3 ht3 => ?_⟩
    have q3 := same_new (o := .tup (List.replicate (5 : Int).toNat [V.int 1, V.int 0, V.int 2, V.int 0]).flatten) ht3
    refine ⟨t1, t3, _, _, rfl, rfl, SqT.of (q3 _ _ (q2 _ _ upd_same)), SqT.of upd_same, by simp, by show 2 + 20 ≤ 16777216; decide, ⟨fun h => absurd (congrArg List.length h) (by decide), fun _ t4 ht4 => ?_⟩⟩
    have q4 := same_new (o := .tup ([V.int 8, V.int 0] ++ (List.replicate (5 : Int).toNat [V.int 1, V.int 0, V.int 2, V.int 0]).flatten)) ht4
    refine ⟨by show 3 ≤ sizeLine; decide, fun t5 ht5 => ?_⟩
    have q5 := same_new (o := .tup [V.int 1, V.int 0, V.int 2]) ht5
    refine ⟨t4, t5, _, _, rfl, rfl, SqT.of (q5 _ _ upd_same), SqT.of upd_same, by simp, by show 22 + 3 ≤ 16777216; decide, ⟨fun h => absurd (congrArg List.length h) (by decide), fun _ t6 ht6 => ?_⟩⟩
    have q6 := same_new (o := .tup (at24.map V.int)) ht6
    have qa := ((((q1.trans q2).trans q3).trans q4).trans q5).trans q6
    clear q1 q2 q3 q4 q5 q6
    have hat : upd (upd (upd (upd (upd (upd H13 t1 (.tup [V.int 8, V.int 0])) t2 (.tup [V.int 1, V.int 0, V.int 2, V.int 0])) t3 (.tup (List.replicate (5 : Int).toNat [V.int 1, V.int 0, V.int 2, V.int 0]).flatten)) t4 (.tup ([V.int 8, V.int 0] ++ (List.replicate (5 : Int).toNat [V.int 1, V.int 0, V.int 2, V.int 0]).flatten))) t5 (.tup [V.int 1, V.int 0, V.int 2])) t6 (.tup (at24.map V.int)) t6 = some (.tup (at24.map V.int)) := upd_same
    show tSeq _ _ _ _ (upd (upd (upd (upd (upd (upd H13 t1 (.tup [V.int 8, V.int 0])) t2 (.tup [V.int 1, V.int 0, V.int 2, V.int 0])) t3 (.tup (List.replicate (5 : Int).toNat [V.int 1, V.int 0, V.int 2, V.int 0]).flatten)) t4 (.tup ([V.int 8, V.int 0] ++ (List.replicate (5 : Int).toNat [V.int 1, V.int 0, V.int 2, V.int 0]).flatten))) t5 (.tup [V.int 1, V.int 0, V.int 2])) t6 (.tup (at24.map V.int)))
    generalize upd (upd (upd (upd (upd (upd H13 t1 (.tup [V.int 8, V.int 0])) t2 (.tup [V.int 1, V.int 0, V.int 2, V.int 0])) t3 (.tup (List.replicate (5 : Int).toNat [V.int 1, V.int 0, V.int 2, V.int 0]).flatten)) t4 (.tup ([V.int 8, V.int 0] ++ (List.replicate (5 : Int).toNat [V.int 1, V.int 0, V.int 2, V.int 0]).flatten))) t5 (.tup [V.int 1, V.int 0, V.int 2])) t6 (.tup (at24.map V.int)) = H14 at qa hat ⊢
    refine ⟨_, rfl, _, rfl, _, rfl, t6, at24.map V.int, rfl, SqT.of hat, by show ¬(HT.sIx 25 0 none = 0 ∧ HT.sIx 25 25 (some (-4)) = 25); decide, fun tf htf => ?_⟩
    have p1 := same_new (o := .tup (fr24.map V.int)) htf
    refine ⟨_, rfl, by show 3 ≤ sizeLine; decide, fun tq htq => ?_⟩
    have p2 := same_new (o := .tup [V.str "box", V.ref tf, V.str (nm24 n1 n2 0)]) htq
    refine ⟨by show 2 ≤ sizeLine; decide, fun tp htp => ?_⟩
    have p3 := same_new (o := .tup [V.ref tq, V.int 5]) htp
    refine ⟨_, rfl, _, rfl, by show 1 ≤ sizeLine; decide, fun lq hlq => ?_⟩
    have p4 := same_new (o := .lst [V.ref tp]) hlq
    refine ⟨by show 0 ≤ sizeLine; decide, fun lr hlr => ?_⟩
    have p5 := same_new (o := .lst []) hlr
    refine ⟨by show 7 ≤ sizeLine; decide, fun td htd => ?_⟩
    have p6 := same_new (o := .tup [V.ref t6, V.ref lq, V.ref lr, .non, .non, .non, V.str "deep"]) htd
    have f1 := p6 _ _ (p5 _ _ (p4 _ _ (p3 _ _ (p2 _ _ (upd_same (H := H14) (a := tf) (o := .tup (fr24.map V.int)))))))
    have f2 := p6 _ _ (p5 _ _ (p4 _ _ (p3 _ _ (upd_same (H := upd H14 tf (.tup (fr24.map V.int))) (a := tq) (o := .tup [V.str "box", V.ref tf, V.str (nm24 n1 n2 0)])))))
    have f3 := p6 _ _ (p5 _ _ (p4 _ _ (upd_same (H := upd (upd H14 tf (.tup (fr24.map V.int))) tq (.tup [V.str "box", V.ref tf, V.str (nm24 n1 n2 0)])) (a := tp) (o := .tup [V.ref tq, V.int 5]))))
    have f4 := p6 _ _ (p5 _ _ (upd_same (H := upd (upd (upd H14 tf (.tup (fr24.map V.int))) tq (.tup [V.str "box", V.ref tf, V.str (nm24 n1 n2 0)])) tp (.tup [V.ref tq, V.int 5])) (a := lq) (o := .lst [V.ref tp])))
    have f5 := p6 _ _ (upd_same (H := upd (upd (upd (upd H14 tf (.tup (fr24.map V.int))) tq (.tup [V.str "box", V.ref tf, V.str (nm24 n1 n2 0)])) tp (.tup [V.ref tq, V.int 5])) lq (.lst [V.ref tp])) (a := lr) (o := .lst []))
    have pa := ((((p1.trans p2).trans p3).trans p4).trans p5).trans p6
    have f6 := upd_same (H := upd (upd (upd (upd (upd H14 tf (.tup (fr24.map V.int))) tq (.tup [V.str "box", V.ref tf, V.str (nm24 n1 n2 0)])) tp (.tup [V.ref tq, V.int 5])) lq (.lst [V.ref tp])) lr (.lst [])) (a := td) (o := .tup [V.ref t6, V.ref lq, V.ref lr, .non, .non, .non, V.str "deep"])
    clear p1 p2 p3 p4 p5 p6
    obtain ⟨H15, hH15⟩ : ∃ H15, H15 = upd (upd (upd (upd (upd (upd H14 tf (.tup (fr24.map V.int))) tq (.tup [V.str "box", V.ref tf, V.str (nm24 n1 n2 0)])) tp (.tup [V.ref tq, V.int 5])) lq (.lst [V.ref tp])) lr (.lst [])) td (.tup [V.ref t6, V.ref lq, V.ref lr, .non, .non, .non, V.str "deep"]) := ⟨_, rfl⟩
    have pa : Same H14 H15 := by rw [hH15]; exact pa
    have f1 : H15 tf = some (.tup (fr24.map V.int)) := by rw [hH15]; exact f1
    have f2 : H15 tq = some (.tup [V.str "box", V.ref tf, V.str (nm24 n1 n2 0)]) := by rw [hH15]; exact f2
    have f3 : H15 tp = some (.tup [V.ref tq, V.int 5]) := by rw [hH15]; exact f3
    have f4 : H15 lq = some (.lst [V.ref tp]) := by rw [hH15]; exact f4
    have f5 : H15 lr = some (.lst []) := by rw [hH15]; exact f5
    have f6 : H15 td = some (.tup [V.ref t6, V.ref lq, V.ref lr, .non, .non, .non, V.str "deep"]) := by rw [hH15]; exact f6
    have hat15 : H15 t6 = some (.tup (at24.map V.int)) := pa _ _ hat
    show tSeq _ _ _ _ (upd (upd (upd (upd (upd (upd H14 tf (.tup (fr24.map V.int))) tq (.tup [V.str "box", V.ref tf, V.str (nm24 n1 n2 0)])) tp (.tup [V.ref tq, V.int 5])) lq (.lst [V.ref tp])) lr (.lst [])) td (.tup [V.ref t6, V.ref lq, V.ref lr, .non, .non, .non, V.str "deep"]))
    rw [← hH15]
    have s15 := qa.trans pa
    have hR15 := hR13.same s15
    have hRo15 := s15 _ _ hRo13
    have hlm15 := s15 _ _ hlm
    refine ⟨_, rfl, R, dxR, _, rfl, hRo15, rfl, R, st, rfl, hR15, fun ev hev => ?_⟩
    rw [e2] at hev
    obtain ⟨ea, eb, rfl, ea1, eb1⟩ := hev
    refine ⟨_, rfl, by show 3 ≤ sizeLine; decide, fun te hte => ?_⟩
    have s16 := same_new (o := .tup [V.str "fell", V.str "deep", V.ref t6]) hte
    refine eqD_same (d := .tuple [.str (Str.ofString "fell"), .str (Str.ofString "deep"), .tuple (at24.map .int)]) (.tup (SqT.of (s16 _ _ ea1)) (.cons (.str _) (.cons (.str _) (.cons (.tup (SqT.of (s16 _ _ eb1)) (dp_int at24)) .nil)))) (.tup (SqT.of upd_same) (.cons (.str _) (.cons (.str _) (.cons (.tup (SqT.of (s16 _ _ hat15)) (dp_int at24)) .nil)))) fell_shaped ⟨true, rfl, iteT ?_⟩
    refine ⟨_, rfl, _, rfl, lm, _, _, _, rfl, rfl, SqL.of (s16 _ _ hlm15), hlast, _, rfl, ?_⟩
    refine eqD_same ((hmv.ext s15).ext s16).dp (.tup (SqT.of (s16 _ _ f6)) (.cons (.tup (SqT.of (s16 _ _ hat15)) (dp_int at24)) (.cons (.lst (SqL.of (s16 _ _ f4)) (.cons (PrO.dp (x := (.box fr24 (nm24 n1 n2 0), 5)) ⟨tp, .ref tq, rfl, s16 _ _ f3, plO_box (s16 _ _ f2) (s16 _ _ f1)⟩) .nil)) (.cons (.lst (SqL.of (s16 _ _ f5)) .nil) (.cons .non (.cons .non (.cons .non (.cons (.str _) .nil)))))))) (due_shaped n1 hn1' n2 hn2') ⟨true, rfl, iteT ?_⟩
    refine ⟨_, rfl, R, dxR, _, rfl, s16 _ _ hRo15, rfl, R, st, rfl, hR15.same s16, hk, fun lt H17 s17 hlt => ?_⟩
    rw [e4] at hlt
    refine ⟨by show 0 ≤ sizeLine; decide, fun le hle => ?_⟩
    have s18 := same_new (o := .lst []) hle
    exact eqD_same (d := .list []) (.lst (SqL.of (s18 _ _ hlt)) .nil) (.lst (SqL.of upd_same) .nil) (by decide +kernel) (q _)
  · have c' : n3 < 6 := by
      have c : ¬ (n3 : Int) > 5 := c
      omega
    have gA := goodA n1 n2 n3 n4 hn1' hn2' c'
    rw [hrun] at gA
    have gA : outA (b, st) = (true, none, n3 + 1, some [(.box [] (nm24 n1 n2 1), val24 n3 (n4 : Int))], [val24 n3 (n4 : Int)], true) := Option.some.inj gA
    obtain ⟨e1, g1⟩ := Prod.mk.inj (show ((b, st.ended, (st.kept.filter (lastIs 6)).length, ((st.kept.filter (lastIs 6)).getLast?).map (·.makes), saidL st.kept, st.kept.all fun m => !m.adr.isEmpty) : Bool × Option Ed × Nat × Option (List (Pl × Int)) × List Int × Bool) = _ from gA)
    obtain ⟨e2, g2⟩ := Prod.mk.inj g1
    obtain ⟨e3, g3⟩ := Prod.mk.inj g2
    obtain ⟨e4, g4⟩ := Prod.mk.inj g3
    obtain ⟨e5, e6⟩ := Prod.mk.inj g4
    clear g1 g2 g3 g4 gA
    subst e1
    have hE : endW true st = ⟨st.held, st.kept, some .ended⟩ := if_pos rfl
    rw [hE] at hR13
    refine ⟨_, rfl, ?_⟩
    refine ⟨_, rfl, _, rfl, _, rfl, (n3 : Int), -1, -1, n3 + 1, rfl, by have := RgC.neg (i := (n3 : Int)) (j := -1) (by omega) (by omega) (by decide) (by decide); rwa [show ((n3 : Int) - -1).toNat = n3 + 1 by omega] at this, for_it walk_rangeC (fun i σ H' => H' = H13 ∧ ∃ (v : Int) (z : Option V), σ = [some (.ref a), some (.ref wl), some (.str (STEMS.getD n1 (Str.ofString ""))), some (.str (nm24 n1 n2 0)), some (.str (nm24 n1 n2 1)), some (.str (nm24 n1 n2 2)), some (.int (n3 : Int)), some (.int (n4 : Int)), some (.ref R), some (.ref lm), none, none, none, some (.int v), z, none, none, none] ∧ if i ≤ n3 then val24 (n3 - i) v = val24 n3 (n4 : Int) else v = val24 n3 (n4 : Int)) ⟨rfl, (n4 : Int), none, rfl, by rw [if_pos (Nat.zero_le _)]; rfl⟩ (fun _ _ _ _ _ => trivial) ?_ ?_⟩
    · rintro i x σ H14 H15 hi ⟨rfl, v, z, rfl, hv⟩ ⟨rfl, rfl⟩
      have hi' : i ≤ n3 := by omega
      rw [if_pos hi'] at hv
      refine ⟨_, rfl, _, _, rfl, rfl, .inr ⟨by decide, by decide⟩, _, rfl, _, _, rfl, rfl, _, _, rfl, rfl, ⟨by decide, by decide, by decide⟩, _, _, rfl, rfl, by show (0 : Int) < 1000000; decide, ?_⟩
      exact ⟨rfl, _, _, rfl, val_next hi' hv⟩
    rintro σ H14 ⟨rfl, v, z, rfl, hv⟩
    rw [if_neg (by omega)] at hv
    subst hv
    have hml := hmt.length
    refine ⟨_, rfl, lm, rfl, ⟨_, SqL.of hlm⟩, fun D2 hD2 => lc_it (walk_list (xs := ts)) (fun i H' => ∃ gs, Same H14 H' ∧ H' D2 = some (.lst gs) ∧ All2 (MoT K H14) ((st.kept.take i).filter (lastIs 6)) gs ∧ gs.length ≤ i) ⟨[], same_new hD2, upd_same, .nil, Nat.le_refl _⟩ ?_ ?_ ?_⟩
    · rintro i H' _ ⟨gs, s', _⟩
      exact SqL.of (s' _ _ hlm)
    · rintro i x H15 H16 hi ⟨gs, s', hd, hgs, hgl⟩ ⟨rfl, hx⟩
      obtain ⟨m, hm, hmx⟩ := all2_at hmt hx
      obtain ⟨tt, ta, tr, tk, rs, ks, rfl, m1, m2, m3, m4, m5, m6⟩ := id hmx
      have hne := List.all_eq_true.mp e6 m (List.mem_of_getElem? hm)
      obtain ⟨y, hy⟩ : ∃ y, m.adr.getLast? = some y := by
        cases h : m.adr.getLast? with
        | some y => exact ⟨y, rfl⟩
        | none =>
          rw [List.getLast?_eq_none_iff.mp h] at hne
          cases hne
      have hfs := filter_snoc (lastIs 6) hm
      have hli : lastIs 6 m = decide (y = 6) := by
        unfold lastIs
        rw [hy]
        by_cases c : y = 6
        · rw [c]; rfl
        · rw [decide_eq_false c, decide_eq_false fun e => c (Option.some.inj e)]
      refine ⟨rfl, _, rfl, tt, _, _, _, rfl, rfl, SqT.of (s' _ _ m1), rfl, _, rfl, ta, _, _, _, rfl, rfl, SqT.of (s' _ _ m2), at_last hy, rfl, _, rfl, iteD2 (fun c => ?_) (fun c => ?_)⟩
      · have c : y = 6 := V.int.inj c
        rw [hli, decide_eq_true c, if_pos rfl] at hfs
        refine ⟨_, rfl, gs, hd, Nat.lt_of_le_of_lt (show gs.length ≤ 60 by have hi : i < ts.length := hi; omega) (by decide), gs ++ [.ref tt], fun b o h => by rw [upd_ne (ne_of_none h hD2)]; exact s' b o h, upd_same, ?_, ?_⟩
        · rw [hfs]
          exact hgs.snoc hmx
        · rw [List.length_append, List.length_singleton]; omega
      · have c : ¬ y = 6 := fun e => c (congrArg V.int e)
        rw [hli, decide_eq_false c, if_neg (by decide), List.append_nil] at hfs
        exact ⟨gs, s', hd, by rw [hfs]; exact hgs, by omega⟩
    · rintro H15 ⟨gs, s15, hgs, hall, _⟩
      rw [← hml, List.take_length] at hall
      have hgl := hall.length
      rw [e3] at hgl
      obtain ⟨mL, hmL, hmk⟩ : ∃ mL, (st.kept.filter (lastIs 6)).getLast? = some mL ∧ mL.makes = [(.box [] (nm24 n1 n2 1), val24 n3 (n4 : Int))] := by
        cases h : (st.kept.filter (lastIs 6)).getLast? with
        | none => rw [h] at e4; cases e4
        | some mL => rw [h] at e4; exact ⟨mL, rfl, Option.some.inj e4⟩
      obtain ⟨ys, hys⟩ := last_some hmL
      rw [hys] at hall
      obtain ⟨gv, hlast, hgv⟩ := all2_last hall
      obtain ⟨tt, ta, tr, tk, rs, ks, rfl, m1, m2, m3, m4, m5, m6⟩ := hgv
      rw [hmk] at m6
      refine ⟨_, rfl, D2, gs, rfl, .inl (SqL.of hgs), _, rfl, _, _, rfl, rfl, rfl, _, rfl, ?_⟩
      rw [decide_eq_true (show V.int ((gs.length : Nat) : Int) = V.int ((n3 : Int) + 1) by rw [← hgl]; rfl)]
      refine iteF ?_
      refine ⟨_, rfl, _, rfl, D2, _, _, _, rfl, rfl, SqL.of hgs, hlast, tt, _, _, _, rfl, rfl, SqT.of (s15 _ _ m1), rfl, ?_⟩
      refine ⟨by show 0 ≤ sizeLine; decide, fun t0 ht0 => ?_⟩
      have p0 := same_new (o := .tup []) ht0
      refine ⟨_, rfl, by show 3 ≤ sizeLine; decide, fun t1 ht1 => ?_⟩
      have p1 := same_new (o := .tup [V.str "box", V.ref t0, V.str (nm24 n1 n2 1)]) ht1
      refine ⟨_, rfl, by show 2 ≤ sizeLine; decide, fun t2 ht2 => ?_⟩
      have p2 := same_new (o := .tup [V.ref t1, V.int (val24 n3 (n4 : Int))]) ht2
      refine ⟨by show 1 ≤ sizeLine; decide, fun t3 ht3 => ?_⟩
      have p3 := same_new (o := .lst [V.ref t2]) ht3
      have pa := ((p0.trans p1).trans p2).trans p3
      have s16 := s15.trans pa
      refine neD_same (d := .list [prD (.box [] (nm24 n1 n2 1), val24 n3 (n4 : Int))]) (.lst (SqL.of (s16 _ _ m5)) (prs_dp (prs_keep (tupK_same s16) m6))) (.lst (SqL.of upd_same) (.cons (PrO.dp (x := (.box [] (nm24 n1 n2 1), val24 n3 (n4 : Int))) ⟨t2, .ref t1, rfl, p3 _ _ upd_same, plO_box (p3 _ _ (p2 _ _ upd_same)) (p3 _ _ (p2 _ _ (p1 _ _ upd_same)))⟩) .nil)) (pair_shaped hn1' hn2' _) ⟨_, rfl, iteF ?_⟩
      refine ⟨_, rfl, R, dxR, _, rfl, s16 _ _ hRo13, rfl, R, _, rfl, hR13.same s16, hk, fun lt H17 s17 hlt => ?_⟩
      have hlt : H17 lt = some (.lst ((saidL st.kept).map V.int)) := hlt
      rw [e5] at hlt
      have s167 := s16.trans s17
      refine ⟨_, rfl, by show 1 ≤ sizeLine; decide, fun le hle => ?_⟩
      have s18 := same_new (o := .lst [V.int (val24 n3 (n4 : Int))]) hle
      refine eqD_same (d := .list [.int (val24 n3 (n4 : Int))]) (.lst (SqL.of (s18 _ _ hlt)) (.cons (.int _) .nil)) (.lst (SqL.of upd_same) (.cons (.int _) .nil)) (show SeqAt.shaped (.list [.int 0]) = true by decide +kernel) ⟨true, rfl, iteT ?_⟩
      have s168 := s167.trans s18
      refine ⟨_, rfl, R, dxR, _, rfl, s168 _ _ hRo13, rfl, R, _, rfl, hR13.same s168, fun ev hev => ?_⟩
      obtain ⟨ea, rfl, ea1⟩ := hev
      refine ⟨by show 1 ≤ sizeLine; decide, fun te hte => ?_⟩
      have s19 := same_new (o := .tup [V.str "ended"]) hte
      exact eqD_same (d := .tuple [.str (Str.ofString "ended")]) (.tup (SqT.of (s19 _ _ ea1)) (.cons (.str _) .nil)) (.tup (SqT.of upd_same) (.cons (.str _) .nil)) (by decide +kernel) (q _)

end
end K24
namespace K24
open PySem PySem.Spec PyProof.Rows L2 TL
set_option maxHeartbeats 0 in
theorem facts {w : World} {K : PySem.W.Frag} {h : Heap} {mg : Str → Option Value} {f : Addr} (X : K.In h) (G : h.Ns mainGlobals mg) (hfa : mg ("law" : Str) = some (.ref f)) (c0 : SaysMC hFa hFn hTf h K) :
    LamX.LawAtS PySem.Challenge.rw_hadbeen_k24_calls_within_one_another w K CX0 85 63 "_law_script" mg f h := by
  have c := c0.m
  obtain ⟨d0, F0⟩ := c.def_ 0 (d := hD_is_name) rfl
  obtain ⟨d1, F1⟩ := c.def_ 1 (d := hD_is_value_word) rfl
  obtain ⟨d2, F2⟩ := c.def_ 2 (d := hD_Number_init) rfl
  obtain ⟨d3, F3⟩ := c.def_ 3 (d := hD_Box_init) rfl
  obtain ⟨d4, F4⟩ := c.def_ 4 (d := hD_Cell_init) rfl
  obtain ⟨d5, F5⟩ := c.def_ 5 (d := hD_Two_init) rfl
  obtain ⟨d6, F6⟩ := c.def_ 6 (d := hD_Expr_parts) rfl
  obtain ⟨d7, F7⟩ := c.def_ 7 (d := hD_Cell_parts) rfl
  obtain ⟨d8, F8⟩ := c.def_ 8 (d := hD_Two_parts) rfl
  obtain ⟨d9, F9⟩ := c.def_ 9 (d := hD_expr_at) rfl
  obtain ⟨d10, F10⟩ := c.def_ 10 (d := hD_exprs_of) rfl
  obtain ⟨d11, F11⟩ := c.def_ 11 (d := hD_Row_init) rfl
  obtain ⟨d12, F12⟩ := c.def_ 12 (d := hD_Set_init) rfl
  obtain ⟨d13, F13⟩ := c.def_ 13 (d := hD_Put_init) rfl
  obtain ⟨d14, F14⟩ := c.def_ 14 (d := hD_Ask_init) rfl
  obtain ⟨d15, F15⟩ := c.def_ 15 (d := hD_Draw_init) rfl
  obtain ⟨d16, F16⟩ := c.def_ 16 (d := hD_Tell_init) rfl
  obtain ⟨d17, F17⟩ := c.def_ 17 (d := hD_Choice_init) rfl
  obtain ⟨d18, F18⟩ := c.def_ 18 (d := hD_Loop_init) rfl
  obtain ⟨d19, F19⟩ := c.def_ 19 (d := hD_Call_init) rfl
  obtain ⟨d20, F20⟩ := c.def_ 20 (d := hD_Give_init) rfl
  obtain ⟨d21, F21⟩ := c.def_ 21 (d := hD_check_names) rfl
  obtain ⟨d22, F22⟩ := c.def_ 22 (d := hD_only) rfl
  obtain ⟨d23, F23⟩ := c.def_ 23 (d := hD_simple_row) rfl
  obtain ⟨d24, F24⟩ := c.def_ 24 (d := hD_Reader_head) rfl
  obtain ⟨d25, F25⟩ := c.def_ 25 (d := hD_Reader_init) rfl
  obtain ⟨d26, F26⟩ := c.def_ 26 (d := hD_Reader_pass_line) rfl
  obtain ⟨d27, F27⟩ := c.def_ 27 (d := hD_Reader_call_row) rfl
  obtain ⟨d28, F28⟩ := c.def_ 28 (d := hD_Reader_row_with_rows) rfl
  obtain ⟨d29, F29⟩ := c.def_ 29 (d := hD_Reader_block) rfl
  obtain ⟨d30, F30⟩ := c.def_ 30 (d := hD_Reader_one_row) rfl
  obtain ⟨d31, F31⟩ := c.def_ 31 (d := hD_Function_init) rfl
  obtain ⟨d32, F32⟩ := c.def_ 32 (d := hD_Reader_function) rfl
  obtain ⟨d33, F33⟩ := c.def_ 33 (d := hD_check_calls) rfl
  obtain ⟨d34, F34⟩ := c.def_ 34 (d := hD_Program_init) rfl
  obtain ⟨d35, F35⟩ := c.def_ 35 (d := hD_read_program) rfl
  obtain ⟨d36, F36⟩ := c.def_ 36 (d := hD_both) rfl
  obtain ⟨d37, F37⟩ := c.def_ 37 (d := hD_Number_reckon) rfl
  obtain ⟨d38, F38⟩ := c.def_ 38 (d := hD_Box_reckon) rfl
  obtain ⟨d39, F39⟩ := c.def_ 39 (d := hD_Cell_reckon) rfl
  obtain ⟨d40, F40⟩ := c.def_ 40 (d := hD_Two_reckon) rfl
  obtain ⟨d41, F41⟩ := c.def_ 41 (d := hD_Walker_whole) rfl
  obtain ⟨d42, F42⟩ := c.def_ 42 (d := hD_Setting_holds) rfl
  obtain ⟨d43, F43⟩ := c.def_ 43 (d := hD_Setting_forced_at) rfl
  obtain ⟨d44, F44⟩ := c.def_ 44 (d := hD_Walker_holds) rfl
  obtain ⟨d45, F45⟩ := c.def_ 45 (d := hD_Walker_goes_now) rfl
  obtain ⟨d46, F46⟩ := c.def_ 46 (d := hD_Moment_init) rfl
  obtain ⟨d47, F47⟩ := c.def_ 47 (d := hD_Moment_told) rfl
  obtain ⟨d48, F48⟩ := c.def_ 48 (d := hD_Spot_init) rfl
  obtain ⟨d49, F49⟩ := c.def_ 49 (d := hD_Scene_init) rfl
  obtain ⟨d50, F50⟩ := c.def_ 50 (d := hD_Scene_place_of) rfl
  obtain ⟨d51, F51⟩ := c.def_ 51 (d := hD_Scene_read) rfl
  obtain ⟨d52, F52⟩ := c.def_ 52 (d := hD_Scene_look_at) rfl
  obtain ⟨d53, F53⟩ := c.def_ 53 (d := hD_Scene_reckon) rfl
  obtain ⟨d54, F54⟩ := c.def_ 54 (d := hD_Scene_make) rfl
  obtain ⟨d55, F55⟩ := c.def_ 55 (d := hD_Scene_say) rfl
  obtain ⟨d56, F56⟩ := c.def_ 56 (d := hD_Scene_look) rfl
  obtain ⟨d57, F57⟩ := c.def_ 57 (d := hD_Scene_enter) rfl
  obtain ⟨d58, F58⟩ := c.def_ 58 (d := hD_Scene_give_back) rfl
  obtain ⟨d59, F59⟩ := c.def_ 59 (d := hD_Set_act) rfl
  obtain ⟨d60, F60⟩ := c.def_ 60 (d := hD_Tell_act) rfl
  obtain ⟨d61, F61⟩ := c.def_ 61 (d := hD_Choice_act) rfl
  obtain ⟨d62, F62⟩ := c.def_ 62 (d := hD_Call_act) rfl
  obtain ⟨d63, F63⟩ := c.def_ 63 (d := hD_Give_act) rfl
  obtain ⟨d64, F64⟩ := c.def_ 64 (d := hD_Walker_happening) rfl
  obtain ⟨d65, F65⟩ := c.def_ 65 (d := hD_Walker_take_in) rfl
  obtain ⟨d66, F66⟩ := c.def_ 66 (d := hD_Walker_go_moment) rfl
  obtain ⟨d67, F67⟩ := c.def_ 67 (d := hD_Walker_go_choice) rfl
  obtain ⟨d68, F68⟩ := c.def_ 68 (d := hD_Walker_go_block) rfl
  obtain ⟨d69, F69⟩ := c.def_ 69 (d := hD_Walker_go_loop) rfl
  obtain ⟨d70, F70⟩ := c.def_ 70 (d := hD_Walker_go_call) rfl
  obtain ⟨d71, F71⟩ := c.def_ 71 (d := hD_Walker_go_row) rfl
  obtain ⟨d72, F72⟩ := c.def_ 72 (d := hD_Walker_init) rfl
  obtain ⟨d73, F73⟩ := c.def_ 73 (d := hD_Walker_walk) rfl
  obtain ⟨d74, F74⟩ := c.def_ 74 (d := hD_Run_init) rfl
  obtain ⟨d75, F75⟩ := c.def_ 75 (d := hD_Run_moments) rfl
  obtain ⟨d76, F76⟩ := c.def_ 76 (d := hD_Run_end) rfl
  obtain ⟨d77, F77⟩ := c.def_ 77 (d := hD_Run_tells) rfl
  obtain ⟨d78, F78⟩ := c.def_ 78 (d := hD_is_given) rfl
  obtain ⟨d79, F79⟩ := c.def_ 79 (d := hD_is_value) rfl
  obtain ⟨d80, F80⟩ := c.def_ 80 (d := hD_Setting_init) rfl
  obtain ⟨d81, F81⟩ := c.def_ 81 (d := hD_run_of) rfl
  obtain ⟨d82, F82⟩ := c.def_ 82 (d := hD_l_cell_at) rfl
  obtain ⟨d83, F83⟩ := c.def_ 83 (d := hD_l_well) rfl
  obtain ⟨d84, F84⟩ := c.def_ 84 (d := hD_l_draw) rfl
  obtain ⟨d85, F85⟩ := c.def_ 85 (d := hD_l_lines) rfl
  obtain ⟨d86, F86⟩ := c.def_ 86 (d := hD_law) rfl
  have e := hfa.symm.trans (He.glo_ok (x := "law") X G (c.fact 17 rfl))
  cases e
  let A : Ads := ⟨He.fAd K ("is_name", none), d0, He.fAd K ("is_value_word", none), d1, He.fAd K ("Number", some "__init__"), d2, He.fAd K ("Box", some "__init__"), d3, He.fAd K ("Cell", some "__init__"), d4, He.fAd K ("Two", some "__init__"), d5, He.fAd K ("Expr", some "parts"), d6, He.fAd K ("Cell", some "parts"), d7, He.fAd K ("Two", some "parts"), d8, He.fAd K ("expr_at", none), d9, He.fAd K ("exprs_of", none), d10, He.fAd K ("Row", some "__init__"), d11, He.fAd K ("Set", some "__init__"), d12, He.fAd K ("Put", some "__init__"), d13, He.fAd K ("Ask", some "__init__"), d14, He.fAd K ("Draw", some "__init__"), d15, He.fAd K ("Tell", some "__init__"), d16, He.fAd K ("Choice", some "__init__"), d17, He.fAd K ("Loop", some "__init__"), d18, He.fAd K ("Call", some "__init__"), d19, He.fAd K ("Give", some "__init__"), d20, He.fAd K ("check_names", none), d21, He.fAd K ("only", none), d22, He.fAd K ("simple_row", none), d23, He.fAd K ("Reader", some "head"), d24, He.fAd K ("Reader", some "__init__"), d25, He.fAd K ("Reader", some "pass_line"), d26, He.fAd K ("Reader", some "call_row"), d27, He.fAd K ("Reader", some "row_with_rows"), d28, He.fAd K ("Reader", some "block"), d29, He.fAd K ("Reader", some "one_row"), d30, He.fAd K ("Function", some "__init__"), d31, He.fAd K ("Reader", some "function"), d32, He.fAd K ("check_calls", none), d33, He.fAd K ("Program", some "__init__"), d34, He.fAd K ("read_program", none), d35, He.fAd K ("both", none), d36, He.fAd K ("Number", some "reckon"), d37, He.fAd K ("Box", some "reckon"), d38, He.fAd K ("Cell", some "reckon"), d39, He.fAd K ("Two", some "reckon"), d40, He.fAd K ("Walker", some "whole"), d41, He.fAd K ("Setting", some "holds"), d42, He.fAd K ("Setting", some "forced_at"), d43, He.fAd K ("Walker", some "holds"), d44, He.fAd K ("Walker", some "goes_now"), d45, He.fAd K ("Moment", some "__init__"), d46, He.fAd K ("Moment", some "told"), d47, He.fAd K ("Spot", some "__init__"), d48, He.fAd K ("Scene", some "__init__"), d49, He.fAd K ("Scene", some "place_of"), d50, He.fAd K ("Scene", some "read"), d51, He.fAd K ("Scene", some "look_at"), d52, He.fAd K ("Scene", some "reckon"), d53, He.fAd K ("Scene", some "make"), d54, He.fAd K ("Scene", some "say"), d55, He.fAd K ("Scene", some "look"), d56, He.fAd K ("Scene", some "enter"), d57, He.fAd K ("Scene", some "give_back"), d58, He.fAd K ("Set", some "act"), d59, He.fAd K ("Tell", some "act"), d60, He.fAd K ("Choice", some "act"), d61, He.fAd K ("Call", some "act"), d62, He.fAd K ("Give", some "act"), d63, He.fAd K ("Walker", some "happening"), d64, He.fAd K ("Walker", some "take_in"), d65, He.fAd K ("Walker", some "go_moment"), d66, He.fAd K ("Walker", some "go_choice"), d67, He.fAd K ("Walker", some "go_block"), d68, He.fAd K ("Walker", some "go_loop"), d69, He.fAd K ("Walker", some "go_call"), d70, He.fAd K ("Walker", some "go_row"), d71, He.fAd K ("Walker", some "__init__"), d72, He.fAd K ("Walker", some "walk"), d73, He.fAd K ("Run", some "__init__"), d74, He.fAd K ("Run", some "moments"), d75, He.fAd K ("Run", some "end"), d76, He.fAd K ("Run", some "tells"), d77, He.fAd K ("is_given", none), d78, He.fAd K ("is_value", none), d79, He.fAd K ("Setting", some "__init__"), d80, He.fAd K ("run_of", none), d81, He.fAd K ("_law_cell_at", none), d82, He.fAd K ("_law_well", none), d83, He.fAd K ("_law_draw", none), d84, He.fAd K ("_law_lines", none), d85, He.fAd K ("law", none), d86, (He.cT K ("Scene", some "reckon")).1, (He.cT K ("Scene", some "reckon")).2, He.ga K "Reader", He.ga K "Function", He.ga K "Program", He.ga K "Number", He.ga K "Expr", He.ga K "Box", He.ga K "Cell", He.ga K "Two", He.ga K "Row", He.ga K "Set", He.ga K "Put", He.ga K "Ask", He.ga K "Draw", He.ga K "Tell", He.ga K "Skip", He.ga K "Call", He.ga K "Loop", He.ga K "Choice", He.ga K "Give", He.ga K "Setting", He.ga K "Moment", He.ga K "Walker", He.ga K "Scene", He.ga K "Spot", He.ga K "Run", He.ga K "PAIRS", He.ga K "ROWS", He.ga K "OTHERS", He.ga K "NoProgram"⟩
  have T : Txt K mg A :=
    { F_is_name := fun_of F0,
      b_is_name := FunD.bindsN (ps := ["thing"]) F0 fun _ _ _ _ _ _ us hl => match us, hl with | [_], _ => rfl,
      m_is_name := He.glo_ok (x := "is_name") X G (c.fact 0 rfl),
      F_is_value_word := fun_of F1,
      b_is_value_word := FunD.bindsN (ps := ["word"]) F1 fun _ _ _ _ _ _ us hl => match us, hl with | [_], _ => rfl,
      m_is_value_word := He.glo_ok (x := "is_value_word") X G (c.fact 1 rfl),
      F_Number_init := fun_of F2,
      b_Number_init := FunD.bindsN (ps := ["self", "value"]) F2 fun _ _ _ _ _ _ us hl => match us, hl with | [_, _], _ => rfl,
      F_Box_init := fun_of F3,
      b_Box_init := FunD.bindsN (ps := ["self", "name"]) F3 fun _ _ _ _ _ _ us hl => match us, hl with | [_, _], _ => rfl,
      F_Cell_init := fun_of F4,
      b_Cell_init := FunD.bindsN (ps := ["self", "inner"]) F4 fun _ _ _ _ _ _ us hl => match us, hl with | [_, _], _ => rfl,
      F_Two_init := fun_of F5,
      b_Two_init := FunD.bindsN (ps := ["self", "word", "left", "right"]) F5 fun _ _ _ _ _ _ us hl => match us, hl with | [_, _, _, _], _ => rfl,
      F_Expr_parts := fun_of F6,
      b_Expr_parts := FunD.bindsN (ps := ["self"]) F6 fun _ _ _ _ _ _ us hl => match us, hl with | [_], _ => rfl,
      F_Cell_parts := fun_of F7,
      b_Cell_parts := FunD.bindsN (ps := ["self"]) F7 fun _ _ _ _ _ _ us hl => match us, hl with | [_], _ => rfl,
      F_Two_parts := fun_of F8,
      b_Two_parts := FunD.bindsN (ps := ["self"]) F8 fun _ _ _ _ _ _ us hl => match us, hl with | [_], _ => rfl,
      F_expr_at := fun_of F9,
      b_expr_at := FunD.bindsN (ps := ["row", "at", "deep"]) F9 fun _ _ _ _ _ _ us hl => match us, hl with | [_, _, _], _ => rfl,
      m_expr_at := He.glo_ok (x := "expr_at") X G (c.fact 2 rfl),
      F_exprs_of := fun_of F10,
      b_exprs_of := FunD.bindsN (ps := ["row"]) F10 fun _ _ _ _ _ _ us hl => match us, hl with | [_], _ => rfl,
      m_exprs_of := He.glo_ok (x := "exprs_of") X G (c.fact 3 rfl),
      F_Row_init := fun_of F11,
      b_Row_init := FunD.bindsN (ps := ["self", "number"]) F11 fun _ _ _ _ _ _ us hl => match us, hl with | [_, _], _ => rfl,
      F_Set_init := fun_of F12,
      b_Set_init := FunD.bindsN (ps := ["self", "number", "box", "expr"]) F12 fun _ _ _ _ _ _ us hl => match us, hl with | [_, _, _, _], _ => rfl,
      F_Put_init := fun_of F13,
      b_Put_init := FunD.bindsN (ps := ["self", "number", "first", "second"]) F13 fun _ _ _ _ _ _ us hl => match us, hl with | [_, _, _, _], _ => rfl,
      F_Ask_init := fun_of F14,
      b_Ask_init := FunD.bindsN (ps := ["self", "number", "box", "word", "expr"]) F14 fun _ _ _ _ _ _ us hl => match us, hl with | [_, _, _, _, _], _ => rfl,
      F_Draw_init := fun_of F15,
      b_Draw_init := FunD.bindsN (ps := ["self", "number", "box", "word"]) F15 fun _ _ _ _ _ _ us hl => match us, hl with | [_, _, _, _], _ => rfl,
      F_Tell_init := fun_of F16,
      b_Tell_init := FunD.bindsN (ps := ["self", "number", "expr"]) F16 fun _ _ _ _ _ _ us hl => match us, hl with | [_, _, _], _ => rfl,
      F_Choice_init := fun_of F17,
      b_Choice_init := FunD.bindsN (ps := ["self", "number", "test", "first", "second"]) F17 fun _ _ _ _ _ _ us hl => match us, hl with | [_, _, _, _, _], _ => rfl,
      F_Loop_init := fun_of F18,
      b_Loop_init := FunD.bindsN (ps := ["self", "number", "test", "body"]) F18 fun _ _ _ _ _ _ us hl => match us, hl with | [_, _, _, _], _ => rfl,
      F_Call_init := fun_of F19,
      b_Call_init := FunD.bindsN (ps := ["self", "number", "box", "fun", "given"]) F19 fun _ _ _ _ _ _ us hl => match us, hl with | [_, _, _, _, _], _ => rfl,
      F_Give_init := fun_of F20,
      b_Give_init := FunD.bindsN (ps := ["self", "number", "expr"]) F20 fun _ _ _ _ _ _ us hl => match us, hl with | [_, _, _], _ => rfl,
      F_check_names := fun_of F21,
      b_check_names := FunD.bindsN (ps := ["words", "many"]) F21 fun _ _ _ _ _ _ us hl => match us, hl with | [_, _], _ => rfl,
      m_check_names := He.glo_ok (x := "check_names") X G (c.fact 4 rfl),
      F_only := fun_of F22,
      b_only := FunD.bindsN (ps := ["found"]) F22 fun _ _ _ _ _ _ us hl => match us, hl with | [_], _ => rfl,
      m_only := He.glo_ok (x := "only") X G (c.fact 5 rfl),
      F_simple_row := fun_of F23,
      b_simple_row := FunD.bindsN (ps := ["number", "words"]) F23 fun _ _ _ _ _ _ us hl => match us, hl with | [_, _], _ => rfl,
      m_simple_row := He.glo_ok (x := "simple_row") X G (c.fact 6 rfl),
      F_Reader_head := fun_of F24,
      b_Reader_head := FunD.bindsN (ps := ["self"]) F24 fun _ _ _ _ _ _ us hl => match us, hl with | [_], _ => rfl,
      F_Reader_init := fun_of F25,
      b_Reader_init := FunD.bindsN (ps := ["self", "texts"]) F25 fun _ _ _ _ _ _ us hl => match us, hl with | [_, _], _ => rfl,
      F_Reader_pass_line := fun_of F26,
      b_Reader_pass_line := FunD.bindsN (ps := ["self", "text"]) F26 fun _ _ _ _ _ _ us hl => match us, hl with | [_, _], _ => rfl,
      F_Reader_call_row := fun_of F27,
      b_Reader_call_row := FunD.bindsN (ps := ["self", "number", "words"]) F27 fun _ _ _ _ _ _ us hl => match us, hl with | [_, _, _], _ => rfl,
      F_Reader_row_with_rows := fun_of F28,
      b_Reader_row_with_rows := FunD.bindsN (ps := ["self", "number", "words", "within"]) F28 fun _ _ _ _ _ _ us hl => match us, hl with | [_, _, _, _], _ => rfl,
      F_Reader_block := fun_of F29,
      b_Reader_block := FunD.bindsN (ps := ["self", "within"]) F29 fun _ _ _ _ _ _ us hl => match us, hl with | [_, _], _ => rfl,
      F_Reader_one_row := fun_of F30,
      b_Reader_one_row := FunD.bindsN (ps := ["self", "within"]) F30 fun _ _ _ _ _ _ us hl => match us, hl with | [_, _], _ => rfl,
      F_Function_init := fun_of F31,
      b_Function_init := FunD.bindsN (ps := ["self", "name", "params", "body", "give"]) F31 fun _ _ _ _ _ _ us hl => match us, hl with | [_, _, _, _, _], _ => rfl,
      F_Reader_function := fun_of F32,
      b_Reader_function := FunD.bindsN (ps := ["self"]) F32 fun _ _ _ _ _ _ us hl => match us, hl with | [_], _ => rfl,
      F_check_calls := fun_of F33,
      b_check_calls := FunD.bindsN (ps := ["calls", "functions"]) F33 fun _ _ _ _ _ _ us hl => match us, hl with | [_, _], _ => rfl,
      m_check_calls := He.glo_ok (x := "check_calls") X G (c.fact 7 rfl),
      F_Program_init := fun_of F34,
      b_Program_init := FunD.bindsN (ps := ["self", "texts", "main", "functions", "by_number"]) F34 fun _ _ _ _ _ _ us hl => match us, hl with | [_, _, _, _, _], _ => rfl,
      F_read_program := fun_of F35,
      b_read_program := FunD.bindsN (ps := ["text"]) F35 fun _ _ _ _ _ _ us hl => match us, hl with | [_], _ => rfl,
      m_read_program := He.glo_ok (x := "read_program") X G (c.fact 8 rfl),
      F_both := fun_of F36,
      b_both := FunD.bindsN (ps := ["word", "one", "other"]) F36 fun _ _ _ _ _ _ us hl => match us, hl with | [_, _, _], _ => rfl,
      m_both := He.glo_ok (x := "both") X G (c.fact 9 rfl),
      F_Number_reckon := fun_of F37,
      b_Number_reckon := FunD.bindsN (ps := ["self", "look"]) F37 fun _ _ _ _ _ _ us hl => match us, hl with | [_, _], _ => rfl,
      F_Box_reckon := fun_of F38,
      b_Box_reckon := FunD.bindsN (ps := ["self", "look"]) F38 fun _ _ _ _ _ _ us hl => match us, hl with | [_, _], _ => rfl,
      F_Cell_reckon := fun_of F39,
      b_Cell_reckon := FunD.bindsN (ps := ["self", "look"]) F39 fun _ _ _ _ _ _ us hl => match us, hl with | [_, _], _ => rfl,
      F_Two_reckon := fun_of F40,
      b_Two_reckon := FunD.bindsN (ps := ["self", "look"]) F40 fun _ _ _ _ _ _ us hl => match us, hl with | [_, _], _ => rfl,
      F_Walker_whole := fun_of F41,
      b_Walker_whole := FunD.bindsN (ps := ["self", "address"]) F41 fun _ _ _ _ _ _ us hl => match us, hl with | [_, _], _ => rfl,
      F_Setting_holds := fun_of F42,
      b_Setting_holds := FunD.bindsN (ps := ["self", "place"]) F42 fun _ _ _ _ _ _ us hl => match us, hl with | [_, _], _ => rfl,
      F_Setting_forced_at := fun_of F43,
      b_Setting_forced_at := FunD.bindsN (ps := ["self", "address"]) F43 fun _ _ _ _ _ _ us hl => match us, hl with | [_, _], _ => rfl,
      F_Walker_holds := fun_of F44,
      b_Walker_holds := FunD.bindsN (ps := ["self", "place"]) F44 fun _ _ _ _ _ _ us hl => match us, hl with | [_, _], _ => rfl,
      F_Walker_goes_now := fun_of F45,
      b_Walker_goes_now := FunD.bindsN (ps := ["self", "address", "looked"]) F45 fun _ _ _ _ _ _ us hl => match us, hl with | [_, _, _], _ => rfl,
      F_Moment_init := fun_of F46,
      b_Moment_init := FunD.bindsN (ps := ["self", "address", "numbers"]) F46 fun _ _ _ _ _ _ us hl => match us, hl with | [_, _, _], _ => rfl,
      F_Moment_told := fun_of F47,
      b_Moment_told := FunD.bindsN (ps := ["self"]) F47 fun _ _ _ _ _ _ us hl => match us, hl with | [_], _ => rfl,
      F_Spot_init := F48,
      b_Spot_init := by
        obtain ⟨ds, r, b⟩ := F48.binds1 (ps := ["self", "address", "frame", "deep", "back"]) 5 1 (by intro z; cases z) rfl (fun _ _ _ _ _ _ _ us its hl hi => by
          match us, its, hl, hi with | [_, _, _, _, _], [_], _, _ => exact ⟨_, rfl, rfl⟩)
        cases r
        exact b,
      bd_Spot_init := F48.binds1 (ps := ["self", "address", "frame", "deep", "back"]) 4 0 (by intro z; cases z) rfl (fun _ _ _ _ _ _ _ us its hl hi => by
          match us, its, hl, hi with | [_, _, _, _], [_], _, _ => exact ⟨_, rfl, rfl⟩),
      F_Scene_init := fun_of F49,
      b_Scene_init := FunD.bindsN (ps := ["self", "walker", "row", "spot"]) F49 fun _ _ _ _ _ _ us hl => match us, hl with | [_, _, _, _], _ => rfl,
      F_Scene_place_of := fun_of F50,
      b_Scene_place_of := FunD.bindsN (ps := ["self", "name"]) F50 fun _ _ _ _ _ _ us hl => match us, hl with | [_, _], _ => rfl,
      F_Scene_read := fun_of F51,
      b_Scene_read := FunD.bindsN (ps := ["self", "place"]) F51 fun _ _ _ _ _ _ us hl => match us, hl with | [_, _], _ => rfl,
      F_Scene_look_at := fun_of F52,
      b_Scene_look_at := FunD.bindsN (ps := ["self", "thing"]) F52 fun _ _ _ _ _ _ us hl => match us, hl with | [_, _], _ => rfl,
      F_Scene_reckon := fun_of F53,
      b_Scene_reckon := FunD.bindsN (ps := ["self", "expr"]) F53 fun _ _ _ _ _ _ us hl => match us, hl with | [_, _], _ => rfl,
      F_Scene_make := fun_of F54,
      b_Scene_make := FunD.bindsN (ps := ["self", "place", "value"]) F54 fun _ _ _ _ _ _ us hl => match us, hl with | [_, _, _], _ => rfl,
      F_Scene_say := fun_of F55,
      b_Scene_say := FunD.bindsN (ps := ["self", "value"]) F55 fun _ _ _ _ _ _ us hl => match us, hl with | [_, _], _ => rfl,
      F_Scene_look := fun_of F56,
      b_Scene_look := FunD.bindsN (ps := ["self", "truth"]) F56 fun _ _ _ _ _ _ us hl => match us, hl with | [_, _], _ => rfl,
      F_Scene_enter := fun_of F57,
      b_Scene_enter := FunD.bindsN (ps := ["self", "values"]) F57 fun _ _ _ _ _ _ us hl => match us, hl with | [_, _], _ => rfl,
      F_Scene_give_back := fun_of F58,
      b_Scene_give_back := FunD.bindsN (ps := ["self", "value"]) F58 fun _ _ _ _ _ _ us hl => match us, hl with | [_, _], _ => rfl,
      F_Set_act := fun_of F59,
      b_Set_act := FunD.bindsN (ps := ["self", "scene"]) F59 fun _ _ _ _ _ _ us hl => match us, hl with | [_, _], _ => rfl,
      F_Tell_act := fun_of F60,
      b_Tell_act := FunD.bindsN (ps := ["self", "scene"]) F60 fun _ _ _ _ _ _ us hl => match us, hl with | [_, _], _ => rfl,
      F_Choice_act := fun_of F61,
      b_Choice_act := FunD.bindsN (ps := ["self", "scene"]) F61 fun _ _ _ _ _ _ us hl => match us, hl with | [_, _], _ => rfl,
      F_Call_act := fun_of F62,
      b_Call_act := FunD.bindsN (ps := ["self", "scene"]) F62 fun _ _ _ _ _ _ us hl => match us, hl with | [_, _], _ => rfl,
      F_Give_act := fun_of F63,
      b_Give_act := FunD.bindsN (ps := ["self", "scene"]) F63 fun _ _ _ _ _ _ us hl => match us, hl with | [_, _], _ => rfl,
      F_Walker_happening := fun_of F64,
      b_Walker_happening := FunD.bindsN (ps := ["self", "row", "spot"]) F64 fun _ _ _ _ _ _ us hl => match us, hl with | [_, _, _], _ => rfl,
      F_Walker_take_in := fun_of F65,
      b_Walker_take_in := FunD.bindsN (ps := ["self", "moments"]) F65 fun _ _ _ _ _ _ us hl => match us, hl with | [_, _], _ => rfl,
      F_Walker_go_moment := fun_of F66,
      b_Walker_go_moment := FunD.bindsN (ps := ["self", "row", "spot"]) F66 fun _ _ _ _ _ _ us hl => match us, hl with | [_, _, _], _ => rfl,
      F_Walker_go_choice := fun_of F67,
      b_Walker_go_choice := FunD.bindsN (ps := ["self", "row", "spot"]) F67 fun _ _ _ _ _ _ us hl => match us, hl with | [_, _, _], _ => rfl,
      F_Walker_go_block := fun_of F68,
      b_Walker_go_block := FunD.bindsN (ps := ["self", "rows", "address", "frame", "deep"]) F68 fun _ _ _ _ _ _ us hl => match us, hl with | [_, _, _, _, _], _ => rfl,
      F_Walker_go_loop := fun_of F69,
      b_Walker_go_loop := FunD.bindsN (ps := ["self", "row", "spot"]) F69 fun _ _ _ _ _ _ us hl => match us, hl with | [_, _, _], _ => rfl,
      F_Walker_go_call := fun_of F70,
      b_Walker_go_call := FunD.bindsN (ps := ["self", "row", "spot"]) F70 fun _ _ _ _ _ _ us hl => match us, hl with | [_, _, _], _ => rfl,
      F_Walker_go_row := fun_of F71,
      b_Walker_go_row := FunD.bindsN (ps := ["self", "row", "spot"]) F71 fun _ _ _ _ _ _ us hl => match us, hl with | [_, _, _], _ => rfl,
      F_Walker_init := fun_of F72,
      b_Walker_init := FunD.bindsN (ps := ["self", "setting"]) F72 fun _ _ _ _ _ _ us hl => match us, hl with | [_, _], _ => rfl,
      F_Walker_walk := fun_of F73,
      b_Walker_walk := FunD.bindsN (ps := ["self"]) F73 fun _ _ _ _ _ _ us hl => match us, hl with | [_], _ => rfl,
      F_Run_init := fun_of F74,
      b_Run_init := FunD.bindsN (ps := ["self", "setting", "kept", "ended"]) F74 fun _ _ _ _ _ _ us hl => match us, hl with | [_, _, _, _], _ => rfl,
      F_Run_moments := fun_of F75,
      b_Run_moments := FunD.bindsN (ps := ["self"]) F75 fun _ _ _ _ _ _ us hl => match us, hl with | [_], _ => rfl,
      F_Run_end := fun_of F76,
      b_Run_end := FunD.bindsN (ps := ["self"]) F76 fun _ _ _ _ _ _ us hl => match us, hl with | [_], _ => rfl,
      F_Run_tells := fun_of F77,
      b_Run_tells := FunD.bindsN (ps := ["self"]) F77 fun _ _ _ _ _ _ us hl => match us, hl with | [_], _ => rfl,
      F_is_given := fun_of F78,
      b_is_given := FunD.bindsN (ps := ["thing"]) F78 fun _ _ _ _ _ _ us hl => match us, hl with | [_], _ => rfl,
      m_is_given := He.glo_ok (x := "is_given") X G (c.fact 10 rfl),
      F_is_value := fun_of F79,
      b_is_value := FunD.bindsN (ps := ["thing"]) F79 fun _ _ _ _ _ _ us hl => match us, hl with | [_], _ => rfl,
      m_is_value := He.glo_ok (x := "is_value") X G (c.fact 11 rfl),
      F_Setting_init := F80,
      b_Setting_init := by
        obtain ⟨ds, r, b⟩ := F80.binds1 (ps := ["self", "program", "start", "bound", "forced"]) 5 2 (by intro z; cases z) rfl (fun _ _ _ _ _ _ _ us its hl hi => by
          match us, its, hl, hi with | [_, _, _, _, _], [_, _], _, _ => exact ⟨_, rfl, rfl⟩)
        cases r
        exact b,
      bd_Setting_init := F80.binds1 (ps := ["self", "program", "start", "bound", "forced"]) 4 1 (by intro z; cases z) rfl (fun _ _ _ _ _ _ _ us its hl hi => by
          match us, its, hl, hi with | [_, _, _, _], [_, _], _, _ => exact ⟨_, rfl, rfl⟩),
      F_run_of := fun_of F81,
      b_run_of := FunD.bindsN (ps := ["setting"]) F81 fun _ _ _ _ _ _ us hl => match us, hl with | [_], _ => rfl,
      m_run_of := He.glo_ok (x := "run_of") X G (c.fact 12 rfl),
      F_l_cell_at := fun_of F82,
      b_l_cell_at := FunD.bindsN (ps := ["_law_script", "_law_k"]) F82 fun _ _ _ _ _ _ us hl => match us, hl with | [_, _], _ => rfl,
      m_l_cell_at := He.glo_ok (x := "_law_cell_at") X G (c.fact 13 rfl),
      F_l_well := fun_of F83,
      b_l_well := FunD.bindsN (ps := ["_law_script", "_law_k"]) F83 fun _ _ _ _ _ _ us hl => match us, hl with | [_, _], _ => rfl,
      m_l_well := He.glo_ok (x := "_law_well") X G (c.fact 14 rfl),
      F_l_draw := fun_of F84,
      b_l_draw := FunD.bindsN (ps := ["_law_well_here", "_law_most"]) F84 fun _ _ _ _ _ _ us hl => match us, hl with | [_, _], _ => rfl,
      m_l_draw := He.glo_ok (x := "_law_draw") X G (c.fact 15 rfl),
      F_l_lines := fun_of F85,
      b_l_lines := FunD.bindsN (ps := ["_law_one", "_law_two", "_law_fun", "_law_many", "_law_start"]) F85 fun _ _ _ _ _ _ us hl => match us, hl with | [_, _, _, _, _], _ => rfl,
      m_l_lines := He.glo_ok (x := "_law_lines") X G (c.fact 16 rfl),
      F_law := fun_of F86,
      b_law := FunD.bindsN (ps := ["_law_script"]) F86 fun _ _ _ _ _ _ us hl => match us, hl with | [_], _ => rfl,
      m_law := He.glo_ok (x := "law") X G (c.fact 17 rfl),
      cd_Scene_reckon := code_of (st := s_Scene_reckon) F53,
      m_Reader := He.glo_ok (x := "Reader") X G (c.fact 18 rfl),
      cl_Reader := He.cls_ok (x := "Reader") (c.fact 19 rfl),
      mk_Reader := (c.fact 20 rfl : PySem.W.makesIn K (He.ga K "Reader") = true),
      n_Reader_texts := He.noat_ok (x := "Reader") (f := "texts") (c.fact 21 rfl),
      n_Reader_at := He.noat_ok (x := "Reader") (f := "at") (c.fact 22 rfl),
      n_Reader_by_number := He.noat_ok (x := "Reader") (f := "by_number") (c.fact 23 rfl),
      n_Reader_calls := He.noat_ok (x := "Reader") (f := "calls") (c.fact 24 rfl),
      k_Reader := He.mkr_ok (x := "Reader") (c.fact 25 rfl),
      m_Function := He.glo_ok (x := "Function") X G (c.fact 26 rfl),
      cl_Function := He.cls_ok (x := "Function") (c.fact 27 rfl),
      mk_Function := (c.fact 28 rfl : PySem.W.makesIn K (He.ga K "Function") = true),
      n_Function_name := He.noat_ok (x := "Function") (f := "name") (c.fact 29 rfl),
      n_Function_params := He.noat_ok (x := "Function") (f := "params") (c.fact 30 rfl),
      n_Function_body := He.noat_ok (x := "Function") (f := "body") (c.fact 31 rfl),
      n_Function_give := He.noat_ok (x := "Function") (f := "give") (c.fact 32 rfl),
      k_Function := He.mkr_ok (x := "Function") (c.fact 33 rfl),
      m_Program := He.glo_ok (x := "Program") X G (c.fact 34 rfl),
      cl_Program := He.cls_ok (x := "Program") (c.fact 35 rfl),
      mk_Program := (c.fact 36 rfl : PySem.W.makesIn K (He.ga K "Program") = true),
      n_Program_texts := He.noat_ok (x := "Program") (f := "texts") (c.fact 37 rfl),
      n_Program_main := He.noat_ok (x := "Program") (f := "main") (c.fact 38 rfl),
      n_Program_functions := He.noat_ok (x := "Program") (f := "functions") (c.fact 39 rfl),
      n_Program_by_number := He.noat_ok (x := "Program") (f := "by_number") (c.fact 40 rfl),
      k_Program := He.mkr_ok (x := "Program") (c.fact 41 rfl),
      m_Number := He.glo_ok (x := "Number") X G (c.fact 42 rfl),
      cl_Number := He.cls_ok (x := "Number") (c.fact 43 rfl),
      mk_Number := (c.fact 44 rfl : PySem.W.makesIn K (He.ga K "Number") = true),
      n_Number_value := He.noat_ok (x := "Number") (f := "value") (c.fact 45 rfl),
      k_Number := He.mkr_ok (x := "Number") (c.fact 46 rfl),
      m_Expr := He.glo_ok (x := "Expr") X G (c.fact 47 rfl),
      cl_Expr := He.cls_ok (x := "Expr") (c.fact 48 rfl),
      mk_Expr := (c.fact 49 rfl : PySem.W.makesIn K (He.ga K "Expr") = true),
      m_Box := He.glo_ok (x := "Box") X G (c.fact 50 rfl),
      cl_Box := He.cls_ok (x := "Box") (c.fact 51 rfl),
      mk_Box := (c.fact 52 rfl : PySem.W.makesIn K (He.ga K "Box") = true),
      n_Box_name := He.noat_ok (x := "Box") (f := "name") (c.fact 53 rfl),
      k_Box := He.mkr_ok (x := "Box") (c.fact 54 rfl),
      m_Cell := He.glo_ok (x := "Cell") X G (c.fact 55 rfl),
      cl_Cell := He.cls_ok (x := "Cell") (c.fact 56 rfl),
      mk_Cell := (c.fact 57 rfl : PySem.W.makesIn K (He.ga K "Cell") = true),
      n_Cell_inner := He.noat_ok (x := "Cell") (f := "inner") (c.fact 58 rfl),
      k_Cell := He.mkr_ok (x := "Cell") (c.fact 59 rfl),
      m_Two := He.glo_ok (x := "Two") X G (c.fact 60 rfl),
      cl_Two := He.cls_ok (x := "Two") (c.fact 61 rfl),
      mk_Two := (c.fact 62 rfl : PySem.W.makesIn K (He.ga K "Two") = true),
      n_Two_word := He.noat_ok (x := "Two") (f := "word") (c.fact 63 rfl),
      n_Two_left := He.noat_ok (x := "Two") (f := "left") (c.fact 64 rfl),
      n_Two_right := He.noat_ok (x := "Two") (f := "right") (c.fact 65 rfl),
      k_Two := He.mkr_ok (x := "Two") (c.fact 66 rfl),
      m_Row := He.glo_ok (x := "Row") X G (c.fact 67 rfl),
      cl_Row := He.cls_ok (x := "Row") (c.fact 68 rfl),
      mk_Row := (c.fact 69 rfl : PySem.W.makesIn K (He.ga K "Row") = true),
      k_Row := He.mkr_ok (x := "Row") (c.fact 70 rfl),
      m_Set := He.glo_ok (x := "Set") X G (c.fact 71 rfl),
      cl_Set := He.cls_ok (x := "Set") (c.fact 72 rfl),
      mk_Set := (c.fact 73 rfl : PySem.W.makesIn K (He.ga K "Set") = true),
      n_Set_number := He.noat_ok (x := "Set") (f := "number") (c.fact 74 rfl),
      n_Set_box := He.noat_ok (x := "Set") (f := "box") (c.fact 75 rfl),
      n_Set_expr := He.noat_ok (x := "Set") (f := "expr") (c.fact 76 rfl),
      k_Set := He.mkr_ok (x := "Set") (c.fact 77 rfl),
      m_Put := He.glo_ok (x := "Put") X G (c.fact 78 rfl),
      cl_Put := He.cls_ok (x := "Put") (c.fact 79 rfl),
      mk_Put := (c.fact 80 rfl : PySem.W.makesIn K (He.ga K "Put") = true),
      n_Put_number := He.noat_ok (x := "Put") (f := "number") (c.fact 81 rfl),
      n_Put_first := He.noat_ok (x := "Put") (f := "first") (c.fact 82 rfl),
      n_Put_second := He.noat_ok (x := "Put") (f := "second") (c.fact 83 rfl),
      k_Put := He.mkr_ok (x := "Put") (c.fact 84 rfl),
      m_Ask := He.glo_ok (x := "Ask") X G (c.fact 85 rfl),
      cl_Ask := He.cls_ok (x := "Ask") (c.fact 86 rfl),
      mk_Ask := (c.fact 87 rfl : PySem.W.makesIn K (He.ga K "Ask") = true),
      n_Ask_number := He.noat_ok (x := "Ask") (f := "number") (c.fact 88 rfl),
      n_Ask_box := He.noat_ok (x := "Ask") (f := "box") (c.fact 89 rfl),
      n_Ask_word := He.noat_ok (x := "Ask") (f := "word") (c.fact 90 rfl),
      n_Ask_expr := He.noat_ok (x := "Ask") (f := "expr") (c.fact 91 rfl),
      k_Ask := He.mkr_ok (x := "Ask") (c.fact 92 rfl),
      m_Draw := He.glo_ok (x := "Draw") X G (c.fact 93 rfl),
      cl_Draw := He.cls_ok (x := "Draw") (c.fact 94 rfl),
      mk_Draw := (c.fact 95 rfl : PySem.W.makesIn K (He.ga K "Draw") = true),
      n_Draw_number := He.noat_ok (x := "Draw") (f := "number") (c.fact 96 rfl),
      n_Draw_box := He.noat_ok (x := "Draw") (f := "box") (c.fact 97 rfl),
      n_Draw_word := He.noat_ok (x := "Draw") (f := "word") (c.fact 98 rfl),
      k_Draw := He.mkr_ok (x := "Draw") (c.fact 99 rfl),
      m_Tell := He.glo_ok (x := "Tell") X G (c.fact 100 rfl),
      cl_Tell := He.cls_ok (x := "Tell") (c.fact 101 rfl),
      mk_Tell := (c.fact 102 rfl : PySem.W.makesIn K (He.ga K "Tell") = true),
      n_Tell_number := He.noat_ok (x := "Tell") (f := "number") (c.fact 103 rfl),
      n_Tell_expr := He.noat_ok (x := "Tell") (f := "expr") (c.fact 104 rfl),
      k_Tell := He.mkr_ok (x := "Tell") (c.fact 105 rfl),
      m_Skip := He.glo_ok (x := "Skip") X G (c.fact 106 rfl),
      cl_Skip := He.cls_ok (x := "Skip") (c.fact 107 rfl),
      mk_Skip := (c.fact 108 rfl : PySem.W.makesIn K (He.ga K "Skip") = true),
      n_Skip_number := He.noat_ok (x := "Skip") (f := "number") (c.fact 109 rfl),
      k_Skip := (show Mk K (He.ga K "Skip") (He.ma K (He.ga K "Row") "__init__") from of_decide_eq_true (c.fact 111 rfl) ▸ He.mkr_ok (x := "Skip") (c.fact 110 rfl)),
      m_Call := He.glo_ok (x := "Call") X G (c.fact 112 rfl),
      cl_Call := He.cls_ok (x := "Call") (c.fact 113 rfl),
      mk_Call := (c.fact 114 rfl : PySem.W.makesIn K (He.ga K "Call") = true),
      n_Call_number := He.noat_ok (x := "Call") (f := "number") (c.fact 115 rfl),
      n_Call_box := He.noat_ok (x := "Call") (f := "box") (c.fact 116 rfl),
      n_Call_fun := He.noat_ok (x := "Call") (f := "fun") (c.fact 117 rfl),
      n_Call_given := He.noat_ok (x := "Call") (f := "given") (c.fact 118 rfl),
      k_Call := He.mkr_ok (x := "Call") (c.fact 119 rfl),
      m_Loop := He.glo_ok (x := "Loop") X G (c.fact 120 rfl),
      cl_Loop := He.cls_ok (x := "Loop") (c.fact 121 rfl),
      mk_Loop := (c.fact 122 rfl : PySem.W.makesIn K (He.ga K "Loop") = true),
      n_Loop_number := He.noat_ok (x := "Loop") (f := "number") (c.fact 123 rfl),
      n_Loop_test := He.noat_ok (x := "Loop") (f := "test") (c.fact 124 rfl),
      n_Loop_body := He.noat_ok (x := "Loop") (f := "body") (c.fact 125 rfl),
      k_Loop := He.mkr_ok (x := "Loop") (c.fact 126 rfl),
      m_Choice := He.glo_ok (x := "Choice") X G (c.fact 127 rfl),
      cl_Choice := He.cls_ok (x := "Choice") (c.fact 128 rfl),
      mk_Choice := (c.fact 129 rfl : PySem.W.makesIn K (He.ga K "Choice") = true),
      n_Choice_number := He.noat_ok (x := "Choice") (f := "number") (c.fact 130 rfl),
      n_Choice_test := He.noat_ok (x := "Choice") (f := "test") (c.fact 131 rfl),
      n_Choice_first := He.noat_ok (x := "Choice") (f := "first") (c.fact 132 rfl),
      n_Choice_second := He.noat_ok (x := "Choice") (f := "second") (c.fact 133 rfl),
      k_Choice := He.mkr_ok (x := "Choice") (c.fact 134 rfl),
      m_Give := He.glo_ok (x := "Give") X G (c.fact 135 rfl),
      cl_Give := He.cls_ok (x := "Give") (c.fact 136 rfl),
      mk_Give := (c.fact 137 rfl : PySem.W.makesIn K (He.ga K "Give") = true),
      n_Give_number := He.noat_ok (x := "Give") (f := "number") (c.fact 138 rfl),
      n_Give_expr := He.noat_ok (x := "Give") (f := "expr") (c.fact 139 rfl),
      k_Give := He.mkr_ok (x := "Give") (c.fact 140 rfl),
      m_Setting := He.glo_ok (x := "Setting") X G (c.fact 141 rfl),
      cl_Setting := He.cls_ok (x := "Setting") (c.fact 142 rfl),
      mk_Setting := (c.fact 143 rfl : PySem.W.makesIn K (He.ga K "Setting") = true),
      n_Setting_program := He.noat_ok (x := "Setting") (f := "program") (c.fact 144 rfl),
      n_Setting_bound := He.noat_ok (x := "Setting") (f := "bound") (c.fact 145 rfl),
      n_Setting_given := He.noat_ok (x := "Setting") (f := "given") (c.fact 146 rfl),
      n_Setting_goings := He.noat_ok (x := "Setting") (f := "goings") (c.fact 147 rfl),
      k_Setting := He.mkr_ok (x := "Setting") (c.fact 148 rfl),
      m_Moment := He.glo_ok (x := "Moment") X G (c.fact 149 rfl),
      cl_Moment := He.cls_ok (x := "Moment") (c.fact 150 rfl),
      mk_Moment := (c.fact 151 rfl : PySem.W.makesIn K (He.ga K "Moment") = true),
      n_Moment_address := He.noat_ok (x := "Moment") (f := "address") (c.fact 152 rfl),
      n_Moment_numbers := He.noat_ok (x := "Moment") (f := "numbers") (c.fact 153 rfl),
      n_Moment_reads := He.noat_ok (x := "Moment") (f := "reads") (c.fact 154 rfl),
      n_Moment_makes := He.noat_ok (x := "Moment") (f := "makes") (c.fact 155 rfl),
      n_Moment_said := He.noat_ok (x := "Moment") (f := "said") (c.fact 156 rfl),
      n_Moment_looked := He.noat_ok (x := "Moment") (f := "looked") (c.fact 157 rfl),
      n_Moment_goes := He.noat_ok (x := "Moment") (f := "goes") (c.fact 158 rfl),
      n_Moment_fell := He.noat_ok (x := "Moment") (f := "fell") (c.fact 159 rfl),
      k_Moment := He.mkr_ok (x := "Moment") (c.fact 160 rfl),
      m_Walker := He.glo_ok (x := "Walker") X G (c.fact 161 rfl),
      cl_Walker := He.cls_ok (x := "Walker") (c.fact 162 rfl),
      mk_Walker := (c.fact 163 rfl : PySem.W.makesIn K (He.ga K "Walker") = true),
      n_Walker_setting := He.noat_ok (x := "Walker") (f := "setting") (c.fact 164 rfl),
      n_Walker_held := He.noat_ok (x := "Walker") (f := "held") (c.fact 165 rfl),
      n_Walker_kept := He.noat_ok (x := "Walker") (f := "kept") (c.fact 166 rfl),
      n_Walker_ended := He.noat_ok (x := "Walker") (f := "ended") (c.fact 167 rfl),
      k_Walker := He.mkr_ok (x := "Walker") (c.fact 168 rfl),
      m_Scene := He.glo_ok (x := "Scene") X G (c.fact 169 rfl),
      cl_Scene := He.cls_ok (x := "Scene") (c.fact 170 rfl),
      mk_Scene := (c.fact 171 rfl : PySem.W.makesIn K (He.ga K "Scene") = true),
      n_Scene_walker := He.noat_ok (x := "Scene") (f := "walker") (c.fact 172 rfl),
      n_Scene_here := He.noat_ok (x := "Scene") (f := "here") (c.fact 173 rfl),
      n_Scene_spot := He.noat_ok (x := "Scene") (f := "spot") (c.fact 174 rfl),
      n_Scene_found := He.noat_ok (x := "Scene") (f := "found") (c.fact 175 rfl),
      n_Scene_met := He.noat_ok (x := "Scene") (f := "met") (c.fact 176 rfl),
      k_Scene := He.mkr_ok (x := "Scene") (c.fact 177 rfl),
      m_Spot := He.glo_ok (x := "Spot") X G (c.fact 178 rfl),
      cl_Spot := He.cls_ok (x := "Spot") (c.fact 179 rfl),
      mk_Spot := (c.fact 180 rfl : PySem.W.makesIn K (He.ga K "Spot") = true),
      n_Spot_address := He.noat_ok (x := "Spot") (f := "address") (c.fact 181 rfl),
      n_Spot_frame := He.noat_ok (x := "Spot") (f := "frame") (c.fact 182 rfl),
      n_Spot_deep := He.noat_ok (x := "Spot") (f := "deep") (c.fact 183 rfl),
      n_Spot_back := He.noat_ok (x := "Spot") (f := "back") (c.fact 184 rfl),
      k_Spot := He.mkr_ok (x := "Spot") (c.fact 185 rfl),
      m_Run := He.glo_ok (x := "Run") X G (c.fact 186 rfl),
      cl_Run := He.cls_ok (x := "Run") (c.fact 187 rfl),
      mk_Run := (c.fact 188 rfl : PySem.W.makesIn K (He.ga K "Run") = true),
      n_Run_setting := He.noat_ok (x := "Run") (f := "setting") (c.fact 189 rfl),
      n_Run_kept := He.noat_ok (x := "Run") (f := "kept") (c.fact 190 rfl),
      n_Run_ended := He.noat_ok (x := "Run") (f := "ended") (c.fact 191 rfl),
      n_Run_by_address := He.noat_ok (x := "Run") (f := "by_address") (c.fact 192 rfl),
      k_Run := He.mkr_ok (x := "Run") (c.fact 193 rfl),
      me_Number_parts := (show Meth K (He.ga K "Number") "parts" (He.ma K (He.ga K "Expr") "parts") from of_decide_eq_true (c.fact 195 rfl) ▸ He.meth_ok (x := "Number") (m := "parts") (c.fact 194 rfl)),
      me_Box_parts := (show Meth K (He.ga K "Box") "parts" (He.ma K (He.ga K "Expr") "parts") from of_decide_eq_true (c.fact 197 rfl) ▸ He.meth_ok (x := "Box") (m := "parts") (c.fact 196 rfl)),
      me_Cell_parts := He.meth_ok (x := "Cell") (m := "parts") (c.fact 198 rfl),
      me_Two_parts := He.meth_ok (x := "Two") (m := "parts") (c.fact 199 rfl),
      me_Reader_block := He.meth_ok (x := "Reader") (m := "block") (c.fact 200 rfl),
      me_Reader_pass_line := He.meth_ok (x := "Reader") (m := "pass_line") (c.fact 201 rfl),
      me_Reader_row_with_rows := He.meth_ok (x := "Reader") (m := "row_with_rows") (c.fact 202 rfl),
      me_Reader_call_row := He.meth_ok (x := "Reader") (m := "call_row") (c.fact 203 rfl),
      me_Reader_head := He.meth_ok (x := "Reader") (m := "head") (c.fact 204 rfl),
      me_Reader_one_row := He.meth_ok (x := "Reader") (m := "one_row") (c.fact 205 rfl),
      me_Reader_function := He.meth_ok (x := "Reader") (m := "function") (c.fact 206 rfl),
      me_Number_reckon := He.meth_ok (x := "Number") (m := "reckon") (c.fact 207 rfl),
      me_Box_reckon := He.meth_ok (x := "Box") (m := "reckon") (c.fact 208 rfl),
      me_Cell_reckon := He.meth_ok (x := "Cell") (m := "reckon") (c.fact 209 rfl),
      me_Two_reckon := He.meth_ok (x := "Two") (m := "reckon") (c.fact 210 rfl),
      me_Setting_holds := He.meth_ok (x := "Setting") (m := "holds") (c.fact 211 rfl),
      me_Setting_forced_at := He.meth_ok (x := "Setting") (m := "forced_at") (c.fact 212 rfl),
      me_Walker_holds := He.meth_ok (x := "Walker") (m := "holds") (c.fact 213 rfl),
      me_Scene_place_of := He.meth_ok (x := "Scene") (m := "place_of") (c.fact 214 rfl),
      me_Scene_read := He.meth_ok (x := "Scene") (m := "read") (c.fact 215 rfl),
      me_Scene_look_at := He.meth_ok (x := "Scene") (m := "look_at") (c.fact 216 rfl),
      me_Walker_goes_now := He.meth_ok (x := "Walker") (m := "goes_now") (c.fact 217 rfl),
      me_Scene_make := He.meth_ok (x := "Scene") (m := "make") (c.fact 218 rfl),
      me_Scene_reckon := He.meth_ok (x := "Scene") (m := "reckon") (c.fact 219 rfl),
      me_Scene_say := He.meth_ok (x := "Scene") (m := "say") (c.fact 220 rfl),
      me_Scene_look := He.meth_ok (x := "Scene") (m := "look") (c.fact 221 rfl),
      me_Scene_enter := He.meth_ok (x := "Scene") (m := "enter") (c.fact 222 rfl),
      me_Scene_give_back := He.meth_ok (x := "Scene") (m := "give_back") (c.fact 223 rfl),
      me_Set_act := He.meth_ok (x := "Set") (m := "act") (c.fact 224 rfl),
      me_Tell_act := He.meth_ok (x := "Tell") (m := "act") (c.fact 225 rfl),
      me_Choice_act := He.meth_ok (x := "Choice") (m := "act") (c.fact 226 rfl),
      me_Call_act := He.meth_ok (x := "Call") (m := "act") (c.fact 227 rfl),
      me_Give_act := He.meth_ok (x := "Give") (m := "act") (c.fact 228 rfl),
      me_Walker_happening := He.meth_ok (x := "Walker") (m := "happening") (c.fact 229 rfl),
      me_Walker_take_in := He.meth_ok (x := "Walker") (m := "take_in") (c.fact 230 rfl),
      me_Walker_whole := He.meth_ok (x := "Walker") (m := "whole") (c.fact 231 rfl),
      me_Walker_go_moment := He.meth_ok (x := "Walker") (m := "go_moment") (c.fact 232 rfl),
      me_Walker_go_block := He.meth_ok (x := "Walker") (m := "go_block") (c.fact 233 rfl),
      me_Walker_go_choice := He.meth_ok (x := "Walker") (m := "go_choice") (c.fact 234 rfl),
      me_Walker_go_loop := He.meth_ok (x := "Walker") (m := "go_loop") (c.fact 235 rfl),
      me_Walker_go_call := He.meth_ok (x := "Walker") (m := "go_call") (c.fact 236 rfl),
      me_Walker_go_row := He.meth_ok (x := "Walker") (m := "go_row") (c.fact 237 rfl),
      me_Moment_told := He.meth_ok (x := "Moment") (m := "told") (c.fact 238 rfl),
      me_Walker_walk := He.meth_ok (x := "Walker") (m := "walk") (c.fact 239 rfl),
      me_Run_moments := He.meth_ok (x := "Run") (m := "moments") (c.fact 240 rfl),
      me_Run_end := He.meth_ok (x := "Run") (m := "end") (c.fact 241 rfl),
      me_Run_tells := He.meth_ok (x := "Run") (m := "tells") (c.fact 242 rfl),
      cf_Row_init := cfn_ok (c.fact 243 rfl),
      m_PAIRS := He.glo_ok (x := "PAIRS") X G (c.fact 244 rfl),
      q_PAIRS := fun H => He.tupB_ok (x := "PAIRS") (vs := [.str "plus", .str "minus", .str "times", .str "over", .str "rest", .str "less", .str "same"]) (c.fact 245 rfl) H,
      m_ROWS := He.glo_ok (x := "ROWS") X G (c.fact 246 rfl),
      q_ROWS := fun H => He.tupB_ok (x := "ROWS") (vs := [.str "skip", .str "set", .str "put", .str "ask", .str "draw", .str "tell", .str "if", .str "while", .str "call"]) (c.fact 247 rfl) H,
      m_OTHERS := He.glo_ok (x := "OTHERS") X G (c.fact 248 rfl),
      q_OTHERS := fun H => He.tupB_ok (x := "OTHERS") (vs := [.str "else", .str "end", .str "fun", .str "main", .str "give", .str "cell"]) (c.fact 249 rfl) H,
      m_NoProgram := He.glo_ok (x := "NoProgram") X G (c.fact 251 rfl),
      x_NoProgram := (He.exc_ok (x := "NoProgram") (c.fact 250 rfl)).1,
      kk_NoProgram := (He.exc_ok (x := "NoProgram") (c.fact 250 rfl)).2.1,
      bb_NoProgram := (He.exc_ok (x := "NoProgram") (c.fact 250 rfl)).2.2.1,
      tt_NoProgram := (He.exc_ok (x := "NoProgram") (c.fact 250 rfl)).2.2.2,
      ne_num_box := of_decide_eq_true (c.fact 252 rfl),
      ne_num_cell := of_decide_eq_true (c.fact 253 rfl),
      ne_num_two := of_decide_eq_true (c.fact 254 rfl),
      ne_box_num := of_decide_eq_true (c.fact 255 rfl),
      ne_box_cell := of_decide_eq_true (c.fact 256 rfl),
      ne_box_two := of_decide_eq_true (c.fact 257 rfl),
      ne_cell_num := of_decide_eq_true (c.fact 258 rfl),
      ne_cell_box := of_decide_eq_true (c.fact 259 rfl),
      ne_cell_two := of_decide_eq_true (c.fact 260 rfl),
      ne_two_num := of_decide_eq_true (c.fact 261 rfl),
      ne_two_box := of_decide_eq_true (c.fact 262 rfl),
      ne_two_cell := of_decide_eq_true (c.fact 263 rfl),
      ne_Skip_Set := of_decide_eq_true (c.fact 264 rfl),
      ne_Skip_Put := of_decide_eq_true (c.fact 265 rfl),
      ne_Skip_Ask := of_decide_eq_true (c.fact 266 rfl),
      ne_Skip_Draw := of_decide_eq_true (c.fact 267 rfl),
      ne_Skip_Tell := of_decide_eq_true (c.fact 268 rfl),
      ne_Skip_Choice := of_decide_eq_true (c.fact 269 rfl),
      ne_Skip_Loop := of_decide_eq_true (c.fact 270 rfl),
      ne_Skip_Call := of_decide_eq_true (c.fact 271 rfl),
      ne_Skip_Give := of_decide_eq_true (c.fact 272 rfl),
      ne_Set_Skip := of_decide_eq_true (c.fact 273 rfl),
      ne_Set_Put := of_decide_eq_true (c.fact 274 rfl),
      ne_Set_Ask := of_decide_eq_true (c.fact 275 rfl),
      ne_Set_Draw := of_decide_eq_true (c.fact 276 rfl),
      ne_Set_Tell := of_decide_eq_true (c.fact 277 rfl),
      ne_Set_Choice := of_decide_eq_true (c.fact 278 rfl),
      ne_Set_Loop := of_decide_eq_true (c.fact 279 rfl),
      ne_Set_Call := of_decide_eq_true (c.fact 280 rfl),
      ne_Set_Give := of_decide_eq_true (c.fact 281 rfl),
      ne_Put_Skip := of_decide_eq_true (c.fact 282 rfl),
      ne_Put_Set := of_decide_eq_true (c.fact 283 rfl),
      ne_Put_Ask := of_decide_eq_true (c.fact 284 rfl),
      ne_Put_Draw := of_decide_eq_true (c.fact 285 rfl),
      ne_Put_Tell := of_decide_eq_true (c.fact 286 rfl),
      ne_Put_Choice := of_decide_eq_true (c.fact 287 rfl),
      ne_Put_Loop := of_decide_eq_true (c.fact 288 rfl),
      ne_Put_Call := of_decide_eq_true (c.fact 289 rfl),
      ne_Put_Give := of_decide_eq_true (c.fact 290 rfl),
      ne_Ask_Skip := of_decide_eq_true (c.fact 291 rfl),
      ne_Ask_Set := of_decide_eq_true (c.fact 292 rfl),
      ne_Ask_Put := of_decide_eq_true (c.fact 293 rfl),
      ne_Ask_Draw := of_decide_eq_true (c.fact 294 rfl),
      ne_Ask_Tell := of_decide_eq_true (c.fact 295 rfl),
      ne_Ask_Choice := of_decide_eq_true (c.fact 296 rfl),
      ne_Ask_Loop := of_decide_eq_true (c.fact 297 rfl),
      ne_Ask_Call := of_decide_eq_true (c.fact 298 rfl),
      ne_Ask_Give := of_decide_eq_true (c.fact 299 rfl),
      ne_Draw_Skip := of_decide_eq_true (c.fact 300 rfl),
      ne_Draw_Set := of_decide_eq_true (c.fact 301 rfl),
      ne_Draw_Put := of_decide_eq_true (c.fact 302 rfl),
      ne_Draw_Ask := of_decide_eq_true (c.fact 303 rfl),
      ne_Draw_Tell := of_decide_eq_true (c.fact 304 rfl),
      ne_Draw_Choice := of_decide_eq_true (c.fact 305 rfl),
      ne_Draw_Loop := of_decide_eq_true (c.fact 306 rfl),
      ne_Draw_Call := of_decide_eq_true (c.fact 307 rfl),
      ne_Draw_Give := of_decide_eq_true (c.fact 308 rfl),
      ne_Tell_Skip := of_decide_eq_true (c.fact 309 rfl),
      ne_Tell_Set := of_decide_eq_true (c.fact 310 rfl),
      ne_Tell_Put := of_decide_eq_true (c.fact 311 rfl),
      ne_Tell_Ask := of_decide_eq_true (c.fact 312 rfl),
      ne_Tell_Draw := of_decide_eq_true (c.fact 313 rfl),
      ne_Tell_Choice := of_decide_eq_true (c.fact 314 rfl),
      ne_Tell_Loop := of_decide_eq_true (c.fact 315 rfl),
      ne_Tell_Call := of_decide_eq_true (c.fact 316 rfl),
      ne_Tell_Give := of_decide_eq_true (c.fact 317 rfl),
      ne_Choice_Skip := of_decide_eq_true (c.fact 318 rfl),
      ne_Choice_Set := of_decide_eq_true (c.fact 319 rfl),
      ne_Choice_Put := of_decide_eq_true (c.fact 320 rfl),
      ne_Choice_Ask := of_decide_eq_true (c.fact 321 rfl),
      ne_Choice_Draw := of_decide_eq_true (c.fact 322 rfl),
      ne_Choice_Tell := of_decide_eq_true (c.fact 323 rfl),
      ne_Choice_Loop := of_decide_eq_true (c.fact 324 rfl),
      ne_Choice_Call := of_decide_eq_true (c.fact 325 rfl),
      ne_Choice_Give := of_decide_eq_true (c.fact 326 rfl),
      ne_Loop_Skip := of_decide_eq_true (c.fact 327 rfl),
      ne_Loop_Set := of_decide_eq_true (c.fact 328 rfl),
      ne_Loop_Put := of_decide_eq_true (c.fact 329 rfl),
      ne_Loop_Ask := of_decide_eq_true (c.fact 330 rfl),
      ne_Loop_Draw := of_decide_eq_true (c.fact 331 rfl),
      ne_Loop_Tell := of_decide_eq_true (c.fact 332 rfl),
      ne_Loop_Choice := of_decide_eq_true (c.fact 333 rfl),
      ne_Loop_Call := of_decide_eq_true (c.fact 334 rfl),
      ne_Loop_Give := of_decide_eq_true (c.fact 335 rfl),
      ne_Call_Skip := of_decide_eq_true (c.fact 336 rfl),
      ne_Call_Set := of_decide_eq_true (c.fact 337 rfl),
      ne_Call_Put := of_decide_eq_true (c.fact 338 rfl),
      ne_Call_Ask := of_decide_eq_true (c.fact 339 rfl),
      ne_Call_Draw := of_decide_eq_true (c.fact 340 rfl),
      ne_Call_Tell := of_decide_eq_true (c.fact 341 rfl),
      ne_Call_Choice := of_decide_eq_true (c.fact 342 rfl),
      ne_Call_Loop := of_decide_eq_true (c.fact 343 rfl),
      ne_Call_Give := of_decide_eq_true (c.fact 344 rfl),
      ne_Give_Skip := of_decide_eq_true (c.fact 345 rfl),
      ne_Give_Set := of_decide_eq_true (c.fact 346 rfl),
      ne_Give_Put := of_decide_eq_true (c.fact 347 rfl),
      ne_Give_Ask := of_decide_eq_true (c.fact 348 rfl),
      ne_Give_Draw := of_decide_eq_true (c.fact 349 rfl),
      ne_Give_Tell := of_decide_eq_true (c.fact 350 rfl),
      ne_Give_Choice := of_decide_eq_true (c.fact 351 rfl),
      ne_Give_Loop := of_decide_eq_true (c.fact 352 rfl),
      ne_Give_Call := of_decide_eq_true (c.fact 353 rfl),
      nr_Number := of_decide_eq_true (c.fact 354 rfl),
      nr_Box := of_decide_eq_true (c.fact 355 rfl),
      nr_Cell := of_decide_eq_true (c.fact 356 rfl),
      nr_Two := of_decide_eq_true (c.fact 357 rfl),
      nr_Function := of_decide_eq_true (c.fact 358 rfl),
      nr_Skip := of_decide_eq_true (c.fact 359 rfl),
      nr_Set := of_decide_eq_true (c.fact 360 rfl),
      nr_Put := of_decide_eq_true (c.fact 361 rfl),
      nr_Ask := of_decide_eq_true (c.fact 362 rfl),
      nr_Draw := of_decide_eq_true (c.fact 363 rfl),
      nr_Tell := of_decide_eq_true (c.fact 364 rfl),
      nr_Choice := of_decide_eq_true (c.fact 365 rfl),
      nr_Loop := of_decide_eq_true (c.fact 366 rfl),
      nr_Call := of_decide_eq_true (c.fact 367 rfl),
      nr_Give := of_decide_eq_true (c.fact 368 rfl),
      ga_Program := of_decide_eq_true (c.fact 369 rfl),
      gm_Program := of_decide_eq_true (c.fact 370 rfl),
      g_n := of_decide_eq_true (c.fact 371 rfl),
      g_t := of_decide_eq_true (c.fact 372 rfl),
      ga_Set := of_decide_eq_true (c.fact 373 rfl),
      gm_Set := of_decide_eq_true (c.fact 374 rfl),
      ki_Set_Choice := of_decide_eq_true (c.fact 375 rfl),
      ki_Set_Loop := of_decide_eq_true (c.fact 376 rfl),
      ki_Set_Call := of_decide_eq_true (c.fact 377 rfl),
      ga_Tell := of_decide_eq_true (c.fact 378 rfl),
      gm_Tell := of_decide_eq_true (c.fact 379 rfl),
      ki_Tell_Choice := of_decide_eq_true (c.fact 380 rfl),
      ki_Tell_Loop := of_decide_eq_true (c.fact 381 rfl),
      ki_Tell_Call := of_decide_eq_true (c.fact 382 rfl),
      ga_Choice := of_decide_eq_true (c.fact 383 rfl),
      gm_Choice := of_decide_eq_true (c.fact 384 rfl),
      ki_Choice_Choice := of_decide_eq_true (c.fact 385 rfl),
      ki_Choice_Loop := of_decide_eq_true (c.fact 386 rfl),
      ki_Choice_Call := of_decide_eq_true (c.fact 387 rfl),
      ga_Call := of_decide_eq_true (c.fact 388 rfl),
      gm_Call := of_decide_eq_true (c.fact 389 rfl),
      ki_Call_Choice := of_decide_eq_true (c.fact 390 rfl),
      ki_Call_Loop := of_decide_eq_true (c.fact 391 rfl),
      ki_Call_Call := of_decide_eq_true (c.fact 392 rfl),
      c_LETTERS := He.str_ok (x := "LETTERS") X G (c.fact 393 rfl),
      c_FIGURES := He.str_ok (x := "FIGURES") X G (c.fact 394 rfl),
      c_MOST_DEEP := He.int_ok (x := "MOST_DEEP") X G (c.fact 395 rfl),
      c_MOST_PARTS := He.int_ok (x := "MOST_PARTS") X G (c.fact 396 rfl),
      c_MOST_WITHIN := He.int_ok (x := "MOST_WITHIN") X G (c.fact 397 rfl),
      c_MOST_PARAMS := He.int_ok (x := "MOST_PARAMS") X G (c.fact 398 rfl),
      c_MOST_LINES := He.int_ok (x := "MOST_LINES") X G (c.fact 399 rfl),
      c_MOST_FUNCTIONS := He.int_ok (x := "MOST_FUNCTIONS") X G (c.fact 400 rfl),
      c_LIMIT := He.int_ok (x := "LIMIT") X G (c.fact 401 rfl),
      c_DEEPEST := He.int_ok (x := "DEEPEST") X G (c.fact 402 rfl),
      z_str := He.free_ok (x := "str") X G (c.fact 403 rfl),
      z_isinstance := He.free_ok (x := "isinstance") X G (c.fact 404 rfl),
      z_len := He.free_ok (x := "len") X G (c.fact 405 rfl),
      z_all := He.free_ok (x := "all") X G (c.fact 406 rfl),
      z_int := He.free_ok (x := "int") X G (c.fact 407 rfl),
      z_set := He.free_ok (x := "set") X G (c.fact 408 rfl),
      z_list := He.free_ok (x := "list") X G (c.fact 409 rfl),
      z_zip := He.free_ok (x := "zip") X G (c.fact 410 rfl),
      z_enumerate := He.free_ok (x := "enumerate") X G (c.fact 411 rfl),
      z_dict := He.free_ok (x := "dict") X G (c.fact 412 rfl),
      z_range := He.free_ok (x := "range") X G (c.fact 413 rfl) }
  refine ⟨d86, hTf.map (He.cT K), spLaw K [(A.t_Scene_reckon, fun _ _ => Q_lam)], fun p hp => by
    have e : p ∈ hTf.map (He.cT K) := hp
    obtain ⟨q, hq, rfl⟩ := List.mem_map.mp e
    exact c0.empty q hq, fun p hp => by
    have e : p ∈ hTf.map (He.cT K) := hp
    obtain ⟨q, hq, rfl⟩ := List.mem_map.mp e
    exact c0.out q hq, fun p hp => ?_, fun s v => (FunD.bindsA (ps := ["_law_script"]) F86 fun _ _ _ _ _ _ us hl => match us, hl with | [_], _ => rfl) s [v] rfl, fun H a ns hl _ hT hS => ⟨a, ns, rfl, hS, hl, ?_, fun _ => rfl⟩, fun base _ _ hB => ok_law T ⟨hB _ (List.mem_map.mpr ⟨_, by simp [hTf], rfl⟩)⟩⟩
  · have e : p ∈ hTf.map (He.cT K) := hp
    obtain ⟨q, hq, rfl⟩ := List.mem_map.mp e
    exact PySem.W.codeHd_of_K X (c0.hd q hq)
  · intro p hp
    simp only [List.mem_cons, List.not_mem_nil, or_false] at hp
    subst hp
    exact NdefX.TabN.nil (hT (He.cT K ("Scene", some "reckon")) (List.mem_map.mpr ⟨_, by simp [hTf], rfl⟩))
end K24
open PySem PySem.W PySem.Calls PyProof.Rows
set_option maxRecDepth 100000 in
set_option maxHeartbeats 0 in
theorem PySem.Challenge.cw_hadbeen_k24_calls_within_one_another_holds : PySem.Challenge.rw_hadbeen_k24_calls_within_one_another.Holds := by
  w_on; o_law
  refine HandSHeadRun.head_any (r := OpenLaw.row PySem.Challenge.rw_hadbeen_k24_calls_within_one_another) (q := view (OpenLaw.row PySem.Challenge.rw_hadbeen_k24_calls_within_one_another).prog [70]) (H := K24.hk) (ob := K24.ob) (M := 12000) (loose := K24.loose) (d := HandSHeadRun.topDef (OpenLaw.row PySem.Challenge.rw_hadbeen_k24_calls_within_one_another).prog 70) (kwd := []) K24.ob_eq
    (by kernel_rfl) (fun s => by kernel_rfl) K24.run (by kernel_rfl) (by kernel_rfl) (by kernel_rfl) (by rfl) (by first | assumption | decide +kernel) (by decide +kernel) ⟨rfl, rfl, rfl, rfl, rfl, by decide +kernel⟩ ?hw ?hc
  case hw => w_witness2
  case hc =>
    refine LamX.walk_ofTsE (l := PySem.Challenge.rw_hadbeen_k24_calls_within_one_another) (n := 63) (k := 85) (x := "_law_script") (CX := fun _ => L2.CX0) rfl (by decide) (by kernel_rfl) ⟨rfl, by decide, by decide⟩ ?F (fun _ _ _ _ _ z => z)
    intro w mg fa h Y G hmg0
    obtain ⟨K, KX, c⟩ := Y
    have hmg : mg ("law" : PySem.Str) = some (.ref fa) := by
      have e : (HandSHeadRun.topDef (OpenLaw.row PySem.Challenge.rw_hadbeen_k24_calls_within_one_another).prog 70).name = ("law" : PySem.Str) := by kernel_rfl
      rw [← e]
      exact hmg0
    exact ⟨K, KX, K24.facts (w := w) KX G hmg c⟩
