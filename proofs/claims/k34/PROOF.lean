import PyProof.Rows.All
import Wide.All
import OpenK.AllK
import Wide.FinOn
import HandS.SuiteRaise
import HandS.ExcCtx
import HandS.Hot
import HandS.HotCalls
import HandS.ForMost
import HandS.IsInst
import HandS.NoneIn
import HandS.ForExc
import HandS.Walk
import HandS.RaiseMore
import HandS.Strs
import HandS.Iter
import KE.KDictCopyH
import KE.KDictDisplayH
import KE.KDictOf
import KE.KEqDict
import KE.KDictWalk
import HandS.Walk
import HandS.ReSub
import HandS.Style
import PyProof.StrLawsTight
import HandS.Rev
import PyProof.StrLawsChain
import KE.IntTextText
import KE.KSuperObj
import OpenK.KCls
import KE.KStateDown
import Lean
import HandS.More
import HandS.WordsExc
import HandS.Defaults
import HandS.Head0
import HandS.Head1
import HandS.Head2
import HandS.HeadEnd
import HandS.HeadHook1
import HandS.HeadHook2
import HandS.ExcIs
import HandS.IsInst
import HandS.Flow
import HandS.Dict
import PySem.Challenge.RW_hadbeen_k34_rows_put_otherwise
set_option Elab.async false
set_option maxRecDepth 100000
set_option maxHeartbeats 4000000
set_option linter.all false
namespace K34
open PySem L2 TL

theorem same_new {H : Hp} {p : Addr} {o : HO} (h : H p = none) : Same H (upd H p o) := fun b u q => by rw [upd_ne (ne_of_none q h)]; exact q
theorem iteDT {p A B : Prop} [Decidable p] (h : p) (a : A) : if decide p = true then A else B := by rw [decide_eq_true h]; exact iteT a
theorem iteDF {p A B : Prop} [Decidable p] (h : ¬ p) (b : B) : if decide p = true then A else B := by rw [decide_eq_false h]; exact iteF b
theorem iteNT {p A B : Prop} [Decidable p] (h : ¬ p) (a : A) : if (!decide p) = true then A else B := by rw [decide_eq_false h]; exact iteT a
theorem iteNF {p A B : Prop} [Decidable p] (h : p) (b : B) : if (!decide p) = true then A else B := by rw [decide_eq_true h]; exact iteF b
theorem iteD2 {p A B : Prop} [Decidable p] (h1 : p → A) (h2 : ¬ p → B) : if decide p = true then A else B := by
  by_cases h : p
  · exact iteDT h (h1 h)
  · exact iteDF h (h2 h)
theorem iteN2 {p A B : Prop} [Decidable p] (h1 : ¬ p → A) (h2 : p → B) : if (!decide p) = true then A else B := by
  by_cases h : p
  · exact iteNF h (h2 h)
  · exact iteNT h (h1 h)
theorem iteB2 {b : Bool} {A B : Prop} (h1 : b = true → A) (h2 : b = false → B) : if b = true then A else B := by
  cases b with
  | true => exact iteT (h1 rfl)
  | false => exact iteF (h2 rfl)
theorem vint_ne {i j : Int} (h : i ≠ j) : ¬ V.int i = V.int j := fun e => h (V.int.inj e)
theorem vstr_ne {i j : Str} (h : i ≠ j) : ¬ V.str i = V.str j := fun e => h (V.str.inj e)
/-- all that was tracked stands, but what is at p -/
def KeepX (p : Addr) (H H' : Hp) : Prop := ∀ q o, q ≠ p → H q = some o → H' q = some o
theorem KeepX.refl (p : Addr) (H : Hp) : KeepX p H H := fun _ _ _ h => h
theorem KeepX.trans {p : Addr} {H H1 H2 : Hp} (a : KeepX p H H1) (b : KeepX p H1 H2) : KeepX p H H2 := fun q o n h => b q o n (a q o n h)
theorem keepX_of {p : Addr} {H H' : Hp} (a : Same H H') : KeepX p H H' := fun q o _ h => a q o h
theorem keepX_upd {p : Addr} {H : Hp} {o : HO} : KeepX p H (upd H p o) := fun q u n h => by rw [upd_ne n]; exact h
theorem KeepX.seq {K : PySem.W.Frag} {H H' : Hp} {p a : Addr} {xs : List V} (e : KeepX p H H') (n : a ≠ p) (h : SqL K H a xs) : SqL K H' a xs := by
  rcases h with (h | ⟨o, h⟩) | h
  · exact .inl (.inl (e _ _ n h))
  · exact .inl (.inr ⟨o, e _ _ n h⟩)
  · exact .inr h
theorem same_tup {K : PySem.W.Frag} {H H' : Hp} {a : Addr} {xs : List V} (e : Same H H') (h : SqT K H a xs) : SqT K H' a xs := by
  rcases h with (h | ⟨o, h⟩) | h
  · exact .inl (.inl (e _ _ h))
  · exact .inl (.inr ⟨o, e _ _ h⟩)
  · exact .inr h
/-- what is new behind H -/
theorem KeepX.same {p : Addr} {H H' : Hp} (n : H p = none) (e : KeepX p H H') : Same H H' := fun q o h => e q o (ne_of_none h n) h
theorem none_before {H H' : Hp} {q : Addr} (s : Same H H') (h : H' q = none) : H q = none := by
  cases e : H q with
  | none => rfl
  | some o => have := s _ _ e; rw [h] at this; cases this
theorem none_keepX {p : Addr} {H H' : Hp} {q : Addr} (k : KeepX p H H') (n : q ≠ p) (h : H' q = none) : H q = none := by
  cases e : H q with
  | none => rfl
  | some o => have := k _ _ n e; rw [h] at this; cases this
/-- a def of which nothing is asked -/
theorem fn_none {P : Program} {w : World} {K : PySem.W.Frag} {mg : Str → Option Value} {base : Heap} {CX : CXT} {k : Nat} {f : Addr} {fd : FuncData} {ps : List Str} {sp : Sp} (no : ∀ vs H Q E, sp vs H Q E → False) : FnOk P w K mg base CX k f fd ps sp :=
  ⟨fun vs H Q E h => (no vs H Q E h).elim, fun A outer s H args us vs Q E _ _ _ _ h => (no vs H Q E h).elim⟩
theorem absV_rel {u : Value} {x : V} (h : absV u = some x) : RelV x u := by
  cases u <;> simp only [absV, Option.some.injEq, reduceCtorEq] at h <;> subst h <;> first | rfl | exact ⟨_, rfl⟩
theorem vals_of_absV : ∀ {us : List Value} {xs : List V}, us.map absV = xs.map some → Vals xs us
  | [], [], _ => .nil
  | [], _ :: _, h => by simp at h
  | _ :: _, [], h => by simp at h
  | u :: us, x :: xs, h => by
    rw [List.map_cons, List.map_cons, List.cons.injEq] at h
    exact .cons (absV_rel h.1) (vals_of_absV h.2)
theorem sqT_k {K : PySem.W.Frag} {H : Hp} {a : Addr} {xs : List V} {od : Option Addr} {its : Array Value} {n : Nat} {sl : Array (Option Value)} (l : K.lookup a = some ⟨.type "tuple", od, .seq its n, sl⟩) (w : its.toList.map absV = xs.map some) (z : xs.length ≤ sizeLine) : SqT K H a xs := by
  have v := vals_of_absV w
  have e := v.length
  refine .inr ⟨_, its, n, l, rfl, rfl, ?_, v⟩
  rw [← Array.length_toList, ← e]
  exact z
/-- the promise of one class's method -/
def Disp (P : Program) (w : World) (K : PySem.W.Frag) (mg : Str → Option Value) (base : Heap) (CX : CXT) (m : Str) (k : Nat) (C : Addr) (sp : Sp) : Prop :=
  ∃ f fd ps, Cls K C ∧ Meth K C m f ∧ FnOk P w K mg base CX k f fd ps sp ∧ Binds K fd ps []
/-- o.m(..) where o is an instance of one of some classes -/
def tMethP (Fam : Addr → Prop) (SP : Addr → Sp) (m : Str) (E : XK) (ta : TE) (t : TA) : TE := fun σ H Q => ta σ H fun x H1 => ∃ a C dx fs, x = .ref a ∧ H1 a = some (.ins C dx fs) ∧ fs.lookup m = none ∧ Fam C ∧
  t σ H1 fun vs H2 => SP C (x :: (vs ++ [])) H2 Q E
section
variable {X : Cx} {CX : CXT} {m : Str} {k : Nat} {Fam : Addr → Prop} {SP : Addr → Sp} {E : XK} {e o : Expr} {es : List Expr} {ta : TE} {t : TA} {pos apos : Pos}
theorem pe_methP {pl : Sem Bool} (he : PE X o ta) (D : ∀ C, Fam C → Disp X.prog X.w X.K X.mg X.base CX m k C (SP C)) (hr : Room k X.A) (hx : Passes CX X E) (ha : PA X (e :: es) t)
    (hst : starEach (e :: es) X.env = (false, eval e X.env) :: starEach es X.env := by rfl) (hpl : (backTo pos (starEach es X.env)).any (·.1) = false := by rfl)
    (ht : eval (.Call (.Attribute o m apos) (e :: es) [] pos) X.env = (do
      let ov ← eval o X.env
      standAt apos.atName
      let (f, first) ← holding [ov] (getMethod ov m pl)
      callWith pos f first (backTo pos (starEach (e :: es) X.env)) (backToKw pos (keywordEach [] X.env))) := by rfl) :
    PE X (.Call (.Attribute o m apos) (e :: es) [] pos) (tMethP Fam SP m E ta t) := by
  refine ⟨fun pins s σ H Q I h => ?_⟩
  refine PySem.W.methodCall_KW (pl := pl) (thn (he.run pins s σ H _ I h) fun u s1 ⟨x, H1, I1, rx, a, C, dx, fs, ex, ea, l, fam, q⟩ => ?_) ht
  subst ex
  obtain rfl : u = Value.ref a := rx
  obtain ⟨f, fd, ps, c, hm, F, hb⟩ := D C fam
  refine getmeth_ok I1 ea c hm l ?_
  refine PySem.W.callWith_K (first := [.ref a]) (h₀ := X.base) I.ok.mod.kin hm.kp (thn (ha.run pos pins s1 σ H1 _ I1 q) fun us s2 ⟨vs, H2, I2, r, q2⟩ => ⟨I2.kIn, ?_⟩) hst hpl
  exact run_fn (us := .ref a :: us) (vs := .ref a :: vs) F hr hb .nil hx I2 (.cons rfl r) q2
theorem pe_methP0 {pl : Sem Bool} (he : PE X o ta) (D : ∀ C, Fam C → Disp X.prog X.w X.K X.mg X.base CX m k C (SP C)) (hr : Room k X.A) (hx : Passes CX X E)
    (ht : eval (.Call (.Attribute o m apos) [] [] pos) X.env = (do
      let ov ← eval o X.env
      standAt apos.atName
      let (f, first) ← holding [ov] (getMethod ov m pl)
      callWith pos f first (backTo pos (starEach [] X.env)) (backToKw pos (keywordEach [] X.env))) := by rfl) :
    PE X (.Call (.Attribute o m apos) [] [] pos) (tMethP Fam SP m E ta tNil) := by
  refine ⟨fun pins s σ H Q I h => ?_⟩
  refine PySem.W.methodCall_KW (pl := pl) (thn (he.run pins s σ H _ I h) fun u s1 ⟨x, H1, I1, rx, a, C, dx, fs, ex, ea, l, fam, q⟩ => ?_) ht
  subst ex
  obtain rfl : u = Value.ref a := rx
  obtain ⟨f, fd, ps, c, hm, F, hb⟩ := D C fam
  refine getmeth_ok I1 ea c hm l ?_
  exact PySem.W.callWith_K0 (first := [.ref a]) I1.kIn hm.kp (run_fn (us := [.ref a]) (vs := [.ref a]) F hr hb .nil hx I1 (.cons rfl .nil) q)
end
theorem fresh_ne {H H' : Hp} {p q : Addr} {o : HO} (h : H p = some o) (n : H q = none) : q ≠ p := fun e => by rw [e, h] at n; cases n

def rTupOf (K : PySem.W.Frag) : List V → Hp → VK → Prop := fun xs H Q => ∃ p ys, xs = [.ref p] ∧ ((SqL K H p ys ∧ ∀ l, H l = none → Q (.ref l) (upd H l (.tup ys))) ∨ (SqT K H p ys ∧ Q (.ref p) H))
def rListOf (K : PySem.W.Frag) : List V → Hp → VK → Prop := fun xs H Q => ∃ p ys, xs = [.ref p] ∧ (SqL K H p ys ∨ SqT K H p ys) ∧ ∀ l, H l = none → Q (.ref l) (upd H l (.lst ys))
theorem call_tuple_ofK {X : Cx} : CallR X (.type "tuple") (rTupOf X.K) := call_tuple_of
theorem call_list_ofK {X : Cx} : CallR X (.type "list") (rListOf X.K) := call_list_of
theorem pi_tupK {X : Cx} {tg l : Expr} {tl : TE} (K : PySem.W.Frag) (hK : X.K = K) (hl : PE X l tl) : PI X tg l (iTup K tl) := by subst hK; exact pi_tup hl
theorem pi_listK {X : Cx} {tg l : Expr} {tl : TE} (K : PySem.W.Frag) (hK : X.K = K) (hl : PE X l tl) : PI X tg l (iList K tl) := by subst hK; exact pi_list hl
def rLenK (K : PySem.W.Frag) : List V → Hp → VK → Prop := fun xs H Q => ∃ p ys, xs = [.ref p] ∧ (SqL K H p ys ∨ SqT K H p ys) ∧ Q (.int ys.length) H
theorem call_lenK {X : Cx} : CallR X (.builtin "len") (rLenK X.K) := call_len_seq
/-- a choice whose test is reckoned ahead: b, and the heap behind it -/
def tIfC (c : TT) (t u : TS) : TS := fun D σ H => ∃ (b : Bool) (H1 : Hp), (∀ Z : Bool → Hp → Prop, Z b H1 → c σ H Z) ∧ (if b = true then t D σ H1 else u D σ H1)
theorem ps_ifC {X : Cx} {c : Expr} {a b : List Stmt} {tc : TT} {t u : TS} {pos : Pos} (hc : PT X c tc) (ha : PSs X a t) (hb : PSs X b u) : PS X (.If c a b pos) (tIfC tc t u) :=
  ⟨fun pins s σ H D I h => by
    obtain ⟨b, H1, h1, h2⟩ := h
    exact (ps_if hc ha hb).run pins s σ H D I (h1 _ h2)⟩
/-- a statement, then what it leaves, told by P -/
def tCut (t : TS) : TS := fun D σ H => ∃ Z : St → Hp → Prop, t { D with nx := Z } σ H ∧ ∀ σ' H', Z σ' H' → D.nx σ' H'
theorem ps_cut {X : Cx} {st : Stmt} {t : TS} (h : PS X st t) : PS X st (tCut t) := by
  refine ⟨fun pins s σ H D I hq => ?_⟩
  obtain ⟨Z, h1, h2⟩ := hq
  refine thn (h.run pins s σ H { D with nx := Z } I h1) fun f s1 hs => ?_
  cases f with
  | next =>
    obtain ⟨σ', H', I', z⟩ := hs
    exact ⟨σ', H', I', h2 _ _ z⟩
  | _ => exact hs
theorem zTrue {p : Prop} [Decidable p] {Z : Bool → Hp → Prop} {H : Hp} (h : Z (decide p) H) (q : p) : Z true H := by rw [decide_eq_true q] at h; exact h
theorem zFalse {p : Prop} [Decidable p] {Z : Bool → Hp → Prop} {H : Hp} (h : Z (decide p) H) (q : ¬ p) : Z false H := by rw [decide_eq_false q] at h; exact h

/-! ### a caught error of an own class, asked for its class -/
def rIsX (K : PySem.W.Frag) (cls : Value) (d : Option Addr) (a : Addr) : List V → Hp → VK → Prop := fun xs H Q => ∃ (D : Addr) (c : V) (cv : Value) (b : Bool), cls = .ref D ∧ d = none ∧ ExcC K D ∧ xs = [.ref a, c] ∧ (∀ u, RelV c u → u = cv) ∧ PySem.W.kitOne K (.ref D) cv = some b ∧ Q (.bl b) H
theorem call_isX {X : Cx} {a : Addr} {oe : Obj} {pn : List (Addr × Obj)} {cls : Value} {d : Option Addr} (hz : Zc cls d oe) (hf : ∃ vs, oe.data = .fields vs) : CallR (X.suite a ((a, oe) :: pn)) (.builtin "isinstance") (rIsX X.K cls d a) := by
  intro pins s σ H xs us Q I r h
  obtain ⟨D, c, cv, b, rfl, rfl, C, e, hcv, hk, q⟩ := h
  exact call_isE C hz hf pins s σ H xs us Q I r ⟨c, cv, b, e, hcv, hk, q⟩
def rIsXT (K : PySem.W.Frag) (cls : Value) (d : Option Addr) (a : Addr) : List V → Hp → VK → Prop := fun xs H Q => ∃ (D tp : Addr) (cs : List V) (us : List Value) (b : Bool), cls = .ref D ∧ d = none ∧ ExcC K D ∧ xs = [.ref a, .ref tp] ∧ H tp = some (.tup cs) ∧ Paired ClsV cs us ∧ PySem.W.kitAny K (.ref D) us = some b ∧ Q (.bl b) H
theorem call_isXT {X : Cx} {a : Addr} {oe : Obj} {pn : List (Addr × Obj)} {cls : Value} {d : Option Addr} (hz : Zc cls d oe) (hf : ∃ vs, oe.data = .fields vs) : CallR (X.suite a ((a, oe) :: pn)) (.builtin "isinstance") (rIsXT X.K cls d a) := by
  intro pins s σ H xs us Q I r h
  obtain ⟨D, tp, cs, ws, b, rfl, rfl, C, rfl, hT, k, e, q⟩ := h
  obtain ⟨u1, u2, rfl, r1, r2⟩ := vals2 r
  cases (show u1 = Value.ref a from r1)
  cases (show u2 = Value.ref tp from r2)
  obtain ⟨hget, _⟩ := I.pin (a, oe) (List.mem_append.mpr (.inl List.mem_cons_self))
  obtain ⟨vs, hv⟩ := hf
  have J : PySem.W.InstAt s.heap a oe D none := by
    obtain ⟨oc, od, oda, osl⟩ := oe
    obtain ⟨h1, h2⟩ := hz
    dsimp only at h1 h2 hv
    subst h1 h2 hv
    exact ⟨hget, rfl, rfl, trivial⟩
  obtain ⟨_, its, rv, o, h1, h2, n, h3⟩ := (show ObjOk X.prog X.w H s.heap tp (.tup cs) from I.hok tp _ hT)
  have e3 := ClsV.all k rv
  subst e3
  obtain ⟨oc, od, dt, sl⟩ := o
  simp only at h2 h3
  subst h2 h3
  exact PySem.W.kia_tup (PySem.W.handS_kitx_exc C.hg C.hk C.hs C.hd C.ha C.hn C.ht C.hm) I.kIn J h1 e (fun z => nomatch z) fun tk => ⟨.bl b, H, I.tok tk, rfl, q⟩

/-! the head's facts, by tests of one's own -/
abbrev FaM : Type := PySem.W.Frag → Bool
def obsM (fa : List FaM) (fn : List He.DefD) (K : PySem.W.Frag) : He.AlD := ((fa.all fun f => f K) && fn.all fun d => d.ok K, fn.map fun d => He.fnW K d.at_)
def SaysM (fa : List FaM) (fn : List He.DefD) (K : PySem.W.Frag) : Prop := obsM fa fn K = He.valD fn
def forceL {α : Type} : List Addr → (List Addr → α) → α
  | [], k => k []
  | a :: r, k => HandSHeadRun.frNat a fun a => forceL r fun r => k (a :: r)
theorem forceL_eq {α : Type} : ∀ (l : List Addr) (k : List Addr → α), forceL l k = k l
  | [], _ => rfl
  | a :: r, k => by
    show HandSHeadRun.frNat a (fun a => forceL r fun r => k (a :: r)) = _
    rw [HandSHeadRun.frNat_eq, forceL_eq r]
def nsOfM (g : Addr → Option Obj) (a : Addr) : List Addr := match g a with
  | some ⟨_, _, .cls cd, _⟩ => [cd.ns]
  | _ => []
def valsOfM (g : Addr → Option Obj) (a : Addr) : List Addr := match g a with
  | some ⟨_, _, .dict es _, _⟩ => es.toList.flatMap fun e => He.refV e.val
  | _ => []
def codeOfM (g : Addr → Option Obj) (a : Addr) : List Addr := match g a with
  | some ⟨_, _, .func fd, _⟩ => He.refV fd.code ++ (He.refV fd.defaults ++ He.refV fd.kwdefaults)
  | _ => []
/-- the module's names, the classes' own names, the functions' codes -/
def asM {α : Type} (names : List Str) (g : Addr → Option Obj) (k : List Addr → α) : α :=
  forceL (names.map (He.ga (He.frG g [mainGlobals]))) fun l1 => forceL (l1.flatMap (nsOfM g)) fun l2 => forceL (l2.flatMap (valsOfM g)) fun l3 => forceL ((l1 ++ l3).flatMap (codeOfM g)) fun l4 => k (mainGlobals :: cStatics :: (l1 ++ (l2 ++ (l3 ++ l4))))
def l1M (names : List Str) (g : Addr → Option Obj) : List Addr := names.map (He.ga (He.frG g [mainGlobals]))
def l2M (names : List Str) (g : Addr → Option Obj) : List Addr := (l1M names g).flatMap (nsOfM g)
def l3M (names : List Str) (g : Addr → Option Obj) : List Addr := (l2M names g).flatMap (valsOfM g)
def l4M (names : List Str) (g : Addr → Option Obj) : List Addr := (l1M names g ++ l3M names g).flatMap (codeOfM g)
theorem asM_eq {α : Type} (names : List Str) (g : Addr → Option Obj) : ∃ as : List Addr, ∀ k : List Addr → α, asM names g k = k as := by
  refine ⟨mainGlobals :: cStatics :: (l1M names g ++ (l2M names g ++ (l3M names g ++ l4M names g))), fun k => ?_⟩
  unfold asM
  rw [forceL_eq, forceL_eq, forceL_eq, forceL_eq]
  rfl
def obsMG (names : List Str) (fa : List FaM) (fn : List He.DefD) (g : Addr → Option Obj) : He.AlD := asM names g fun as => obsM fa fn (He.frG g as)
def hookM (names : List Str) (fa : List FaM) (fn : List He.DefD) : PySem.W.Hook where
  α := He.AlD
  obs := fun s => obsMG names fa fn s.heap.get?
  val := fun _ => He.valD fn
  says := fun _ h => ∃ K : PySem.W.Frag, K.In h ∧ SaysM fa fn K
  of := fun _ s e => by
    obtain ⟨as, ea⟩ := asM_eq (α := He.AlD) names s.heap.get?
    exact ⟨_, He.frG_in, (ea _).symm.trans e⟩
  keeps := fun _ _ _ ⟨K, hK, c⟩ k => ⟨K, PySem.W.Frag.In.keeps hK k, c⟩
theorem obsMG_eq {names : List Str} {fa : List FaM} {fn : List He.DefD} {g : Addr → Option Obj} {s : Shared} (h : ∀ a, g a = s.heap.get? a) : obsMG names fa fn g = (hookM names fa fn).obs s := by
  have e : g = s.heap.get? := funext h
  rw [e] <;> rfl
section
variable {fa : List FaM} {fn : List He.DefD} {K : PySem.W.Frag}
theorem SaysM.fact (c : SaysM fa fn K) (i : Nat) {f : FaM} (h : fa[i]? = some f) : f K = true := by
  have c1 := (He.ba (show ((fa.all fun f => f K) && fn.all fun d => d.ok K) = true from congrArg (fun z : He.AlD => z.1) c)).1
  exact List.all_eq_true.mp c1 f (List.mem_of_getElem? h)
theorem SaysM.def_ (c : SaysM fa fn K) (i : Nat) {d : He.DefD} (h : fn[i]? = some d) : ∃ fd, FunD K d.name d.qual d.params d.body d.scope (d.dvs K) (d.kws K) (He.fAd K d.at_) fd := by
  have c2 := (He.ba (show ((fa.all fun f => f K) && fn.all fun d => d.ok K) = true from congrArg (fun z : He.AlD => z.1) c)).2
  have e : fn.map (fun d => He.fnW K d.at_) = fn.map He.DefD.val := congrArg (fun z : He.AlD => z.2) c
  have e2 : (fn.map fun d => He.fnW K d.at_)[i]? = (fn.map He.DefD.val)[i]? := by rw [e]
  rw [List.getElem?_map, List.getElem?_map, h] at e2
  exact He.DefD.funD (Option.some.inj e2) (List.all_eq_true.mp c2 d (List.mem_of_getElem? h))
end
theorem fun_of {K : PySem.W.Frag} {x qual : Str} {st : Stmt} {f : Addr} {fd : FuncData} (F : FunD K x qual (defArgs st) (defBody st) (defScope st) [] [] f fd) : Fun K x qual st f fd := by
  obtain ⟨oc, od, dV, kV, doc, pm, an, cdv, ct, osl, rfl, lk, hcd, hD, hK⟩ := F.ex
  rcases hD with ⟨_, rfl⟩ | ⟨e, _⟩
  · exact ⟨⟨oc, od, kV, doc, pm, an, cdv, ct, osl, rfl, lk, hcd⟩, F.kp⟩
  · exact absurd rfl e

/-! ### a def read off its class, called -/
structure CFn (K : PySem.W.Frag) (C : Addr) (m : Str) (f : Addr) : Prop where
  rd : PySem.W.readsIn K C (.type "type") = true
  ga : PySem.W.specialIn K (.ref C) "__getattribute__" = some (some (.builtin "type.__getattribute__"))
  at_ : PySem.W.findCls K (.ref C) (.type "type") m = some (.val (.ref f))
  fn : PySem.W.isFn K (.ref f) = true
  kp : PySem.W.keepIn K (.ref f) = true
def cfnB (K : PySem.W.Frag) (C : Addr) (m : Str) (f : Addr) : Bool := PySem.W.readsIn K C (.type "type") && (He.eqO (PySem.W.specialIn K (.ref C) "__getattribute__") (some (some (.builtin "type.__getattribute__"))) && ((match PySem.W.findCls K (.ref C) (.type "type") m with
  | some (.val v) => decide (v = .ref f)
  | _ => false) && (PySem.W.isFn K (.ref f) && PySem.W.keepIn K (.ref f))))
theorem cfn_ok {K : PySem.W.Frag} {C : Addr} {m : Str} {f : Addr} (h : cfnB K C m f = true) : CFn K C m f := by
  obtain ⟨h1, h⟩ := He.ba h
  obtain ⟨h2, h⟩ := He.ba h
  obtain ⟨h3, h⟩ := He.ba h
  obtain ⟨h4, h5⟩ := He.ba h
  refine ⟨h1, He.eqO_ok h2, ?_, h4, h5⟩
  cases q : PySem.W.findCls K (.ref C) (.type "type") m with
  | none => rw [q] at h3; cases h3
  | some r =>
    rw [q] at h3
    cases r with
    | val v => rw [of_decide_eq_true h3]
    | get g a ob tp => cases h3
section
open PySem.Spec PyProof.Rows
variable {X : Cx} {CX : CXT} {m : Str} {k : Nat} {E : XK} {e o : Expr} {es : List Expr} {ta : TE} {t : TA} {pos apos : Pos} {C f : Addr} {fd : FuncData} {ps : List Str} {sp : Sp} {ds : List Value} {dvs : List V}
theorem getcfn_ok {A : Around} {E : Value → Shared → Prop} {pins : List (Addr × Obj)} {σ : L2.St} {H : Hp} {s : Shared} {pl : Sem Bool} {Q : Value × List Value → Shared → Prop} (I : Inv X pins σ H s) (c : CFn X.K C m f) (h : ∀ s', Inv X pins σ H s' → Q (.ref f, []) s') :
    wpAny (model X.prog X.w) A (getMethod (.ref C) m pl) Q E s := by
  exact PySem.W.method_cls I.kIn c.ga (PySem.W.cls_value I.kIn c.rd c.at_ rfl (h _ (I.tok _)))
def tCFn (C : Addr) (sp : Sp) (dvs : List V) (E : XK) (ta : TE) (t : TA) : TE := fun σ H Q => ta σ H fun x H1 => x = .ref C ∧ t σ H1 fun vs H2 => sp (vs ++ dvs) H2 Q E
theorem pe_cfn {pl : Sem Bool} (he : PE X o ta) (c : CFn X.K C m f) (F : FnOk X.prog X.w X.K X.mg X.base CX k f fd ps sp) (hr : Room k X.A) (hb : Binds X.K fd ps ds) (hd : Vals dvs ds) (hx : Passes CX X E) (ha : PA X (e :: es) t)
    (hst : starEach (e :: es) X.env = (false, eval e X.env) :: starEach es X.env := by rfl) (hpl : (backTo pos (starEach es X.env)).any (·.1) = false := by rfl)
    (ht : eval (.Call (.Attribute o m apos) (e :: es) [] pos) X.env = (do
      let ov ← eval o X.env
      standAt apos.atName
      let (f, first) ← holding [ov] (getMethod ov m pl)
      callWith pos f first (backTo pos (starEach (e :: es) X.env)) (backToKw pos (keywordEach [] X.env))) := by rfl) :
    PE X (.Call (.Attribute o m apos) (e :: es) [] pos) (tCFn C sp dvs E ta t) := by
  refine ⟨fun pins s σ H Q I h => ?_⟩
  refine PySem.W.methodCall_KW (pl := pl) (thn (he.run pins s σ H _ I h) fun u s1 ⟨x, H1, I1, rx, ex, q⟩ => ?_) ht
  subst ex
  obtain rfl : u = Value.ref C := rx
  refine getcfn_ok I1 c fun s2 I2 => ?_
  refine PySem.W.callWith_K (first := []) (h₀ := X.base) I2.ok.mod.kin c.kp (thn (ha.run pos pins s2 σ H1 _ I2 q) fun us s3 ⟨vs, H2, I3, r, q2⟩ => ⟨I3.kIn, ?_⟩) hst hpl
  exact run_fn (us := us) (vs := vs) F hr hb hd hx I3 r q2
end

def top (i : Nat) : Stmt := PySem.Challenge.pw_hadbeen_k34_rows_put_otherwise.main.body.getD i (.Pass ⟨0, 0, 0, 0⟩)
abbrev s_Row_shape : Stmt := inClass (top 33) 3
abbrev s_Choice_shape : Stmt := inClass (top 40) 3
abbrev s_Loop_shape : Stmt := inClass (top 41) 3
abbrev s_Call_shape : Stmt := inClass (top 42) 3
abbrev s_Give_shape : Stmt := inClass (top 43) 3
abbrev s_is_name : Stmt := top 17
abbrev s_is_value_word : Stmt := top 18
abbrev s_Number_init : Stmt := inClass (top 20) 0
abbrev s_Box_init : Stmt := inClass (top 21) 0
abbrev s_Cell_init : Stmt := inClass (top 22) 0
abbrev s_Two_init : Stmt := inClass (top 23) 0
abbrev s_Expr_parts : Stmt := inClass (top 19) 3
abbrev s_Cell_parts : Stmt := inClass (top 22) 4
abbrev s_Two_parts : Stmt := inClass (top 23) 4
abbrev s_expr_at : Stmt := top 24
abbrev s_exprs_of : Stmt := top 25
abbrev s_Row_init : Stmt := inClass (top 33) 0
abbrev s_Set_init : Stmt := inClass (top 35) 0
abbrev s_Put_init : Stmt := inClass (top 36) 0
abbrev s_Ask_init : Stmt := inClass (top 37) 0
abbrev s_Draw_init : Stmt := inClass (top 38) 0
abbrev s_Tell_init : Stmt := inClass (top 39) 0
abbrev s_Choice_init : Stmt := inClass (top 40) 0
abbrev s_Loop_init : Stmt := inClass (top 41) 0
abbrev s_Call_init : Stmt := inClass (top 42) 0
abbrev s_Give_init : Stmt := inClass (top 43) 0
abbrev s_check_names : Stmt := top 52
abbrev s_only : Stmt := top 53
abbrev s_simple_row : Stmt := top 54
abbrev s_Reader_head : Stmt := inClass (top 51) 1
abbrev s_Reader_init : Stmt := inClass (top 51) 0
abbrev s_Reader_pass_line : Stmt := inClass (top 51) 2
abbrev s_Reader_call_row : Stmt := inClass (top 51) 6
abbrev s_Reader_row_with_rows : Stmt := inClass (top 51) 5
abbrev s_Reader_block : Stmt := inClass (top 51) 3
abbrev s_Reader_one_row : Stmt := inClass (top 51) 4
abbrev s_Function_init : Stmt := inClass (top 44) 0
abbrev s_Reader_function : Stmt := inClass (top 51) 7
abbrev s_check_calls : Stmt := top 55
abbrev s_Program_init : Stmt := inClass (top 50) 0
abbrev s_Program_text : Stmt := inClass (top 50) 1
abbrev s_read_program : Stmt := top 56
abbrev s_Program_lines : Stmt := inClass (top 50) 2
abbrev s_Program_with_line : Stmt := inClass (top 50) 4
abbrev s_is_value : Stmt := top 16
abbrev s_is_given : Stmt := top 28
abbrev s_key_of : Stmt := top 30
abbrev s_Setting_init : Stmt := inClass (top 31) 0
abbrev s_Setting_start : Stmt := inClass (top 31) 1
abbrev s_Setting_forced : Stmt := inClass (top 31) 2
abbrev s_Setting_given_otherwise : Stmt := inClass (top 31) 6
abbrev s_Setting_going_otherwise : Stmt := inClass (top 31) 7
abbrev s_Setting_changed : Stmt := inClass (top 31) 5
abbrev s_l_cell_at : Stmt := top 58
abbrev s_l_draw : Stmt := top 59
abbrev s_l_take : Stmt := top 60
abbrev s_l_expr : Stmt := top 61
abbrev s_l_simple : Stmt := top 62
abbrev s_l_call_row : Stmt := top 63
abbrev s_l_row : Stmt := top 64
abbrev s_l_rows : Stmt := top 65
abbrev s_l_kit : Stmt := top 66
abbrev s_l_drawn : Stmt := top 67
abbrev s_l_shape : Stmt := top 68
abbrev s_law : Stmt := top 69
end K34
namespace K34
open PySem PySem.Spec PyProof.Rows L2 TL
def hD_Row_shape : He.DefD := ⟨("Row", some "shape"), "shape", "Row.shape", defArgs s_Row_shape, defBody s_Row_shape, defScope s_Row_shape, [], []⟩
def hD_Choice_shape : He.DefD := ⟨("Choice", some "shape"), "shape", "Choice.shape", defArgs s_Choice_shape, defBody s_Choice_shape, defScope s_Choice_shape, [], []⟩
def hD_Loop_shape : He.DefD := ⟨("Loop", some "shape"), "shape", "Loop.shape", defArgs s_Loop_shape, defBody s_Loop_shape, defScope s_Loop_shape, [], []⟩
def hD_Call_shape : He.DefD := ⟨("Call", some "shape"), "shape", "Call.shape", defArgs s_Call_shape, defBody s_Call_shape, defScope s_Call_shape, [], []⟩
def hD_Give_shape : He.DefD := ⟨("Give", some "shape"), "shape", "Give.shape", defArgs s_Give_shape, defBody s_Give_shape, defScope s_Give_shape, [], []⟩
def hD_is_name : He.DefD := ⟨("is_name", none), "is_name", "is_name", defArgs s_is_name, defBody s_is_name, defScope s_is_name, [], []⟩
def hD_is_value_word : He.DefD := ⟨("is_value_word", none), "is_value_word", "is_value_word", defArgs s_is_value_word, defBody s_is_value_word, defScope s_is_value_word, [], []⟩
def hD_Number_init : He.DefD := ⟨("Number", some "__init__"), "__init__", "Number.__init__", defArgs s_Number_init, defBody s_Number_init, defScope s_Number_init, [], []⟩
def hD_Box_init : He.DefD := ⟨("Box", some "__init__"), "__init__", "Box.__init__", defArgs s_Box_init, defBody s_Box_init, defScope s_Box_init, [], []⟩
def hD_Cell_init : He.DefD := ⟨("Cell", some "__init__"), "__init__", "Cell.__init__", defArgs s_Cell_init, defBody s_Cell_init, defScope s_Cell_init, [], []⟩
def hD_Two_init : He.DefD := ⟨("Two", some "__init__"), "__init__", "Two.__init__", defArgs s_Two_init, defBody s_Two_init, defScope s_Two_init, [], []⟩
def hD_Expr_parts : He.DefD := ⟨("Expr", some "parts"), "parts", "Expr.parts", defArgs s_Expr_parts, defBody s_Expr_parts, defScope s_Expr_parts, [], []⟩
def hD_Cell_parts : He.DefD := ⟨("Cell", some "parts"), "parts", "Cell.parts", defArgs s_Cell_parts, defBody s_Cell_parts, defScope s_Cell_parts, [], []⟩
def hD_Two_parts : He.DefD := ⟨("Two", some "parts"), "parts", "Two.parts", defArgs s_Two_parts, defBody s_Two_parts, defScope s_Two_parts, [], []⟩
def hD_expr_at : He.DefD := ⟨("expr_at", none), "expr_at", "expr_at", defArgs s_expr_at, defBody s_expr_at, defScope s_expr_at, [], []⟩
def hD_exprs_of : He.DefD := ⟨("exprs_of", none), "exprs_of", "exprs_of", defArgs s_exprs_of, defBody s_exprs_of, defScope s_exprs_of, [], []⟩
def hD_Row_init : He.DefD := ⟨("Row", some "__init__"), "__init__", "Row.__init__", defArgs s_Row_init, defBody s_Row_init, defScope s_Row_init, [], []⟩
def hD_Set_init : He.DefD := ⟨("Set", some "__init__"), "__init__", "Set.__init__", defArgs s_Set_init, defBody s_Set_init, defScope s_Set_init, [], []⟩
def hD_Put_init : He.DefD := ⟨("Put", some "__init__"), "__init__", "Put.__init__", defArgs s_Put_init, defBody s_Put_init, defScope s_Put_init, [], []⟩
def hD_Ask_init : He.DefD := ⟨("Ask", some "__init__"), "__init__", "Ask.__init__", defArgs s_Ask_init, defBody s_Ask_init, defScope s_Ask_init, [], []⟩
def hD_Draw_init : He.DefD := ⟨("Draw", some "__init__"), "__init__", "Draw.__init__", defArgs s_Draw_init, defBody s_Draw_init, defScope s_Draw_init, [], []⟩
def hD_Tell_init : He.DefD := ⟨("Tell", some "__init__"), "__init__", "Tell.__init__", defArgs s_Tell_init, defBody s_Tell_init, defScope s_Tell_init, [], []⟩
def hD_Choice_init : He.DefD := ⟨("Choice", some "__init__"), "__init__", "Choice.__init__", defArgs s_Choice_init, defBody s_Choice_init, defScope s_Choice_init, [], []⟩
def hD_Loop_init : He.DefD := ⟨("Loop", some "__init__"), "__init__", "Loop.__init__", defArgs s_Loop_init, defBody s_Loop_init, defScope s_Loop_init, [], []⟩
def hD_Call_init : He.DefD := ⟨("Call", some "__init__"), "__init__", "Call.__init__", defArgs s_Call_init, defBody s_Call_init, defScope s_Call_init, [], []⟩
def hD_Give_init : He.DefD := ⟨("Give", some "__init__"), "__init__", "Give.__init__", defArgs s_Give_init, defBody s_Give_init, defScope s_Give_init, [], []⟩
def hD_check_names : He.DefD := ⟨("check_names", none), "check_names", "check_names", defArgs s_check_names, defBody s_check_names, defScope s_check_names, [], []⟩
def hD_only : He.DefD := ⟨("only", none), "only", "only", defArgs s_only, defBody s_only, defScope s_only, [], []⟩
def hD_simple_row : He.DefD := ⟨("simple_row", none), "simple_row", "simple_row", defArgs s_simple_row, defBody s_simple_row, defScope s_simple_row, [], []⟩
def hD_Reader_head : He.DefD := ⟨("Reader", some "head"), "head", "Reader.head", defArgs s_Reader_head, defBody s_Reader_head, defScope s_Reader_head, [], []⟩
def hD_Reader_init : He.DefD := ⟨("Reader", some "__init__"), "__init__", "Reader.__init__", defArgs s_Reader_init, defBody s_Reader_init, defScope s_Reader_init, [], []⟩
def hD_Reader_pass_line : He.DefD := ⟨("Reader", some "pass_line"), "pass_line", "Reader.pass_line", defArgs s_Reader_pass_line, defBody s_Reader_pass_line, defScope s_Reader_pass_line, [], []⟩
def hD_Reader_call_row : He.DefD := ⟨("Reader", some "call_row"), "call_row", "Reader.call_row", defArgs s_Reader_call_row, defBody s_Reader_call_row, defScope s_Reader_call_row, [], []⟩
def hD_Reader_row_with_rows : He.DefD := ⟨("Reader", some "row_with_rows"), "row_with_rows", "Reader.row_with_rows", defArgs s_Reader_row_with_rows, defBody s_Reader_row_with_rows, defScope s_Reader_row_with_rows, [], []⟩
def hD_Reader_block : He.DefD := ⟨("Reader", some "block"), "block", "Reader.block", defArgs s_Reader_block, defBody s_Reader_block, defScope s_Reader_block, [], []⟩
def hD_Reader_one_row : He.DefD := ⟨("Reader", some "one_row"), "one_row", "Reader.one_row", defArgs s_Reader_one_row, defBody s_Reader_one_row, defScope s_Reader_one_row, [], []⟩
def hD_Function_init : He.DefD := ⟨("Function", some "__init__"), "__init__", "Function.__init__", defArgs s_Function_init, defBody s_Function_init, defScope s_Function_init, [], []⟩
def hD_Reader_function : He.DefD := ⟨("Reader", some "function"), "function", "Reader.function", defArgs s_Reader_function, defBody s_Reader_function, defScope s_Reader_function, [], []⟩
def hD_check_calls : He.DefD := ⟨("check_calls", none), "check_calls", "check_calls", defArgs s_check_calls, defBody s_check_calls, defScope s_check_calls, [], []⟩
def hD_Program_init : He.DefD := ⟨("Program", some "__init__"), "__init__", "Program.__init__", defArgs s_Program_init, defBody s_Program_init, defScope s_Program_init, [], []⟩
def hD_Program_text : He.DefD := ⟨("Program", some "text"), "text", "Program.text", defArgs s_Program_text, defBody s_Program_text, defScope s_Program_text, [], []⟩
def hD_read_program : He.DefD := ⟨("read_program", none), "read_program", "read_program", defArgs s_read_program, defBody s_read_program, defScope s_read_program, [], []⟩
def hD_Program_lines : He.DefD := ⟨("Program", some "lines"), "lines", "Program.lines", defArgs s_Program_lines, defBody s_Program_lines, defScope s_Program_lines, [], []⟩
def hD_Program_with_line : He.DefD := ⟨("Program", some "with_line"), "with_line", "Program.with_line", defArgs s_Program_with_line, defBody s_Program_with_line, defScope s_Program_with_line, [], []⟩
def hD_is_value : He.DefD := ⟨("is_value", none), "is_value", "is_value", defArgs s_is_value, defBody s_is_value, defScope s_is_value, [], []⟩
def hD_is_given : He.DefD := ⟨("is_given", none), "is_given", "is_given", defArgs s_is_given, defBody s_is_given, defScope s_is_given, [], []⟩
def hD_key_of : He.DefD := ⟨("key_of", none), "key_of", "key_of", defArgs s_key_of, defBody s_key_of, defScope s_key_of, [], []⟩
def hD_Setting_init : He.DefD := ⟨("Setting", some "__init__"), "__init__", "Setting.__init__", defArgs s_Setting_init, defBody s_Setting_init, defScope s_Setting_init, [.int 400, .non], []⟩
def hD_Setting_start : He.DefD := ⟨("Setting", some "start"), "start", "Setting.start", defArgs s_Setting_start, defBody s_Setting_start, defScope s_Setting_start, [], []⟩
def hD_Setting_forced : He.DefD := ⟨("Setting", some "forced"), "forced", "Setting.forced", defArgs s_Setting_forced, defBody s_Setting_forced, defScope s_Setting_forced, [], []⟩
def hD_Setting_given_otherwise : He.DefD := ⟨("Setting", some "given_otherwise"), "given_otherwise", "Setting.given_otherwise", defArgs s_Setting_given_otherwise, defBody s_Setting_given_otherwise, defScope s_Setting_given_otherwise, [], []⟩
def hD_Setting_going_otherwise : He.DefD := ⟨("Setting", some "going_otherwise"), "going_otherwise", "Setting.going_otherwise", defArgs s_Setting_going_otherwise, defBody s_Setting_going_otherwise, defScope s_Setting_going_otherwise, [], []⟩
def hD_Setting_changed : He.DefD := ⟨("Setting", some "changed"), "changed", "Setting.changed", defArgs s_Setting_changed, defBody s_Setting_changed, defScope s_Setting_changed, [], []⟩
def hD_l_cell_at : He.DefD := ⟨("_law_cell_at", none), "_law_cell_at", "_law_cell_at", defArgs s_l_cell_at, defBody s_l_cell_at, defScope s_l_cell_at, [], []⟩
def hD_l_draw : He.DefD := ⟨("_law_draw", none), "_law_draw", "_law_draw", defArgs s_l_draw, defBody s_l_draw, defScope s_l_draw, [], []⟩
def hD_l_take : He.DefD := ⟨("_law_take", none), "_law_take", "_law_take", defArgs s_l_take, defBody s_l_take, defScope s_l_take, [], []⟩
def hD_l_expr : He.DefD := ⟨("_law_expr", none), "_law_expr", "_law_expr", defArgs s_l_expr, defBody s_l_expr, defScope s_l_expr, [], []⟩
def hD_l_simple : He.DefD := ⟨("_law_simple", none), "_law_simple", "_law_simple", defArgs s_l_simple, defBody s_l_simple, defScope s_l_simple, [], []⟩
def hD_l_call_row : He.DefD := ⟨("_law_call_row", none), "_law_call_row", "_law_call_row", defArgs s_l_call_row, defBody s_l_call_row, defScope s_l_call_row, [], []⟩
def hD_l_row : He.DefD := ⟨("_law_row", none), "_law_row", "_law_row", defArgs s_l_row, defBody s_l_row, defScope s_l_row, [], []⟩
def hD_l_rows : He.DefD := ⟨("_law_rows", none), "_law_rows", "_law_rows", defArgs s_l_rows, defBody s_l_rows, defScope s_l_rows, [], []⟩
def hD_l_kit : He.DefD := ⟨("_law_kit", none), "_law_kit", "_law_kit", defArgs s_l_kit, defBody s_l_kit, defScope s_l_kit, [], []⟩
def hD_l_drawn : He.DefD := ⟨("_law_drawn", none), "_law_drawn", "_law_drawn", defArgs s_l_drawn, defBody s_l_drawn, defScope s_l_drawn, [], []⟩
def hD_l_shape : He.DefD := ⟨("_law_shape", none), "_law_shape", "_law_shape", defArgs s_l_shape, defBody s_l_shape, defScope s_l_shape, [], []⟩
def hD_law : He.DefD := ⟨("law", none), "law", "law", defArgs s_law, defBody s_law, defScope s_law, [], []⟩
def hFn : List He.DefD := ([hD_Row_shape, hD_Choice_shape, hD_Loop_shape, hD_Call_shape, hD_Give_shape, hD_is_name, hD_is_value_word, hD_Number_init, hD_Box_init, hD_Cell_init, hD_Two_init, hD_Expr_parts, hD_Cell_parts, hD_Two_parts, hD_expr_at, hD_exprs_of, hD_Row_init, hD_Set_init, hD_Put_init, hD_Ask_init, hD_Draw_init, hD_Tell_init, hD_Choice_init, hD_Loop_init, hD_Call_init, hD_Give_init, hD_check_names, hD_only, hD_simple_row, hD_Reader_head] : List He.DefD) ++ ([hD_Reader_init, hD_Reader_pass_line, hD_Reader_call_row, hD_Reader_row_with_rows, hD_Reader_block, hD_Reader_one_row, hD_Function_init, hD_Reader_function, hD_check_calls, hD_Program_init, hD_Program_text, hD_read_program, hD_Program_lines, hD_Program_with_line, hD_is_value, hD_is_given, hD_key_of, hD_Setting_init, hD_Setting_start, hD_Setting_forced, hD_Setting_given_otherwise, hD_Setting_going_otherwise, hD_Setting_changed, hD_l_cell_at, hD_l_draw, hD_l_take, hD_l_expr, hD_l_simple, hD_l_call_row, hD_l_row] : List He.DefD) ++ ([hD_l_rows, hD_l_kit, hD_l_drawn, hD_l_shape, hD_law] : List He.DefD)
def hFa : List FaM := ([fun K => (He.Fa.glo "is_name").ok K,
  fun K => (He.Fa.glo "is_value_word").ok K,
  fun K => (He.Fa.glo "expr_at").ok K,
  fun K => (He.Fa.glo "exprs_of").ok K,
  fun K => (He.Fa.glo "check_names").ok K,
  fun K => (He.Fa.glo "only").ok K,
  fun K => (He.Fa.glo "simple_row").ok K,
  fun K => (He.Fa.glo "check_calls").ok K,
  fun K => (He.Fa.glo "read_program").ok K,
  fun K => (He.Fa.glo "is_value").ok K,
  fun K => (He.Fa.glo "is_given").ok K,
  fun K => (He.Fa.glo "key_of").ok K,
  fun K => (He.Fa.glo "_law_cell_at").ok K,
  fun K => (He.Fa.glo "_law_draw").ok K,
  fun K => (He.Fa.glo "_law_take").ok K,
  fun K => (He.Fa.glo "_law_expr").ok K,
  fun K => (He.Fa.glo "_law_simple").ok K,
  fun K => (He.Fa.glo "_law_call_row").ok K,
  fun K => (He.Fa.glo "_law_row").ok K,
  fun K => (He.Fa.glo "_law_rows").ok K] : List FaM) ++
  ([fun K => (He.Fa.glo "_law_kit").ok K,
  fun K => (He.Fa.glo "_law_drawn").ok K,
  fun K => (He.Fa.glo "_law_shape").ok K,
  fun K => (He.Fa.glo "law").ok K,
  fun K => (He.Fa.glo "Skip").ok K,
  fun K => (He.Fa.cls "Skip").ok K,
  fun K => PySem.W.makesIn K (He.ga K "Skip"),
  fun K => (He.Fa.noat "Skip" "number").ok K,
  fun K => (He.Fa.mkr "Skip").ok K,
  fun K => decide (He.ma K (He.ga K "Skip") "__init__" = He.ma K (He.ga K "Row") "__init__"),
  fun K => (He.Fa.glo "Row").ok K,
  fun K => (He.Fa.cls "Row").ok K,
  fun K => PySem.W.makesIn K (He.ga K "Row"),
  fun K => (He.Fa.mkr "Row").ok K,
  fun K => (He.Fa.glo "Set").ok K,
  fun K => (He.Fa.cls "Set").ok K,
  fun K => PySem.W.makesIn K (He.ga K "Set"),
  fun K => (He.Fa.noat "Set" "number").ok K,
  fun K => (He.Fa.noat "Set" "box").ok K,
  fun K => (He.Fa.noat "Set" "expr").ok K] : List FaM) ++
  ([fun K => (He.Fa.mkr "Set").ok K,
  fun K => (He.Fa.glo "Put").ok K,
  fun K => (He.Fa.cls "Put").ok K,
  fun K => PySem.W.makesIn K (He.ga K "Put"),
  fun K => (He.Fa.noat "Put" "number").ok K,
  fun K => (He.Fa.noat "Put" "first").ok K,
  fun K => (He.Fa.noat "Put" "second").ok K,
  fun K => (He.Fa.mkr "Put").ok K,
  fun K => (He.Fa.glo "Ask").ok K,
  fun K => (He.Fa.cls "Ask").ok K,
  fun K => PySem.W.makesIn K (He.ga K "Ask"),
  fun K => (He.Fa.noat "Ask" "number").ok K,
  fun K => (He.Fa.noat "Ask" "box").ok K,
  fun K => (He.Fa.noat "Ask" "word").ok K,
  fun K => (He.Fa.noat "Ask" "expr").ok K,
  fun K => (He.Fa.mkr "Ask").ok K,
  fun K => (He.Fa.glo "Draw").ok K,
  fun K => (He.Fa.cls "Draw").ok K,
  fun K => PySem.W.makesIn K (He.ga K "Draw"),
  fun K => (He.Fa.noat "Draw" "number").ok K] : List FaM) ++
  ([fun K => (He.Fa.noat "Draw" "box").ok K,
  fun K => (He.Fa.noat "Draw" "word").ok K,
  fun K => (He.Fa.mkr "Draw").ok K,
  fun K => (He.Fa.glo "Tell").ok K,
  fun K => (He.Fa.cls "Tell").ok K,
  fun K => PySem.W.makesIn K (He.ga K "Tell"),
  fun K => (He.Fa.noat "Tell" "number").ok K,
  fun K => (He.Fa.noat "Tell" "expr").ok K,
  fun K => (He.Fa.mkr "Tell").ok K,
  fun K => (He.Fa.glo "Choice").ok K,
  fun K => (He.Fa.cls "Choice").ok K,
  fun K => PySem.W.makesIn K (He.ga K "Choice"),
  fun K => (He.Fa.noat "Choice" "number").ok K,
  fun K => (He.Fa.noat "Choice" "test").ok K,
  fun K => (He.Fa.noat "Choice" "first").ok K,
  fun K => (He.Fa.noat "Choice" "second").ok K,
  fun K => (He.Fa.mkr "Choice").ok K,
  fun K => (He.Fa.glo "Loop").ok K,
  fun K => (He.Fa.cls "Loop").ok K,
  fun K => PySem.W.makesIn K (He.ga K "Loop")] : List FaM) ++
  ([fun K => (He.Fa.noat "Loop" "number").ok K,
  fun K => (He.Fa.noat "Loop" "test").ok K,
  fun K => (He.Fa.noat "Loop" "body").ok K,
  fun K => (He.Fa.mkr "Loop").ok K,
  fun K => (He.Fa.glo "Call").ok K,
  fun K => (He.Fa.cls "Call").ok K,
  fun K => PySem.W.makesIn K (He.ga K "Call"),
  fun K => (He.Fa.noat "Call" "number").ok K,
  fun K => (He.Fa.noat "Call" "box").ok K,
  fun K => (He.Fa.noat "Call" "fun").ok K,
  fun K => (He.Fa.noat "Call" "given").ok K,
  fun K => (He.Fa.mkr "Call").ok K,
  fun K => (He.Fa.glo "Give").ok K,
  fun K => (He.Fa.cls "Give").ok K,
  fun K => PySem.W.makesIn K (He.ga K "Give"),
  fun K => (He.Fa.noat "Give" "number").ok K,
  fun K => (He.Fa.noat "Give" "expr").ok K,
  fun K => (He.Fa.mkr "Give").ok K,
  fun K => (He.Fa.glo "Reader").ok K,
  fun K => (He.Fa.cls "Reader").ok K] : List FaM) ++
  ([fun K => PySem.W.makesIn K (He.ga K "Reader"),
  fun K => (He.Fa.noat "Reader" "texts").ok K,
  fun K => (He.Fa.noat "Reader" "at").ok K,
  fun K => (He.Fa.noat "Reader" "by_number").ok K,
  fun K => (He.Fa.noat "Reader" "calls").ok K,
  fun K => (He.Fa.mkr "Reader").ok K,
  fun K => (He.Fa.glo "Function").ok K,
  fun K => (He.Fa.cls "Function").ok K,
  fun K => PySem.W.makesIn K (He.ga K "Function"),
  fun K => (He.Fa.noat "Function" "name").ok K,
  fun K => (He.Fa.noat "Function" "params").ok K,
  fun K => (He.Fa.noat "Function" "body").ok K,
  fun K => (He.Fa.noat "Function" "give").ok K,
  fun K => (He.Fa.mkr "Function").ok K,
  fun K => (He.Fa.glo "Program").ok K,
  fun K => (He.Fa.cls "Program").ok K,
  fun K => PySem.W.makesIn K (He.ga K "Program"),
  fun K => (He.Fa.noat "Program" "texts").ok K,
  fun K => (He.Fa.noat "Program" "main").ok K,
  fun K => (He.Fa.noat "Program" "functions").ok K] : List FaM) ++
  ([fun K => (He.Fa.noat "Program" "by_number").ok K,
  fun K => (He.Fa.mkr "Program").ok K,
  fun K => (He.Fa.glo "Setting").ok K,
  fun K => (He.Fa.cls "Setting").ok K,
  fun K => PySem.W.makesIn K (He.ga K "Setting"),
  fun K => (He.Fa.noat "Setting" "program").ok K,
  fun K => (He.Fa.noat "Setting" "bound").ok K,
  fun K => (He.Fa.noat "Setting" "given").ok K,
  fun K => (He.Fa.noat "Setting" "goings").ok K,
  fun K => (He.Fa.mkr "Setting").ok K,
  fun K => (He.Fa.glo "Number").ok K,
  fun K => (He.Fa.cls "Number").ok K,
  fun K => PySem.W.makesIn K (He.ga K "Number"),
  fun K => (He.Fa.noat "Number" "value").ok K,
  fun K => (He.Fa.mkr "Number").ok K,
  fun K => (He.Fa.glo "Expr").ok K,
  fun K => (He.Fa.cls "Expr").ok K,
  fun K => PySem.W.makesIn K (He.ga K "Expr"),
  fun K => (He.Fa.glo "Box").ok K,
  fun K => (He.Fa.cls "Box").ok K] : List FaM) ++
  ([fun K => PySem.W.makesIn K (He.ga K "Box"),
  fun K => (He.Fa.noat "Box" "name").ok K,
  fun K => (He.Fa.mkr "Box").ok K,
  fun K => (He.Fa.glo "Cell").ok K,
  fun K => (He.Fa.cls "Cell").ok K,
  fun K => PySem.W.makesIn K (He.ga K "Cell"),
  fun K => (He.Fa.noat "Cell" "inner").ok K,
  fun K => (He.Fa.mkr "Cell").ok K,
  fun K => (He.Fa.glo "Two").ok K,
  fun K => (He.Fa.cls "Two").ok K,
  fun K => PySem.W.makesIn K (He.ga K "Two"),
  fun K => (He.Fa.noat "Two" "word").ok K,
  fun K => (He.Fa.noat "Two" "left").ok K,
  fun K => (He.Fa.noat "Two" "right").ok K,
  fun K => (He.Fa.mkr "Two").ok K,
  fun K => (He.Fa.meth "Skip" "shape").ok K,
  fun K => decide (He.ma K (He.ga K "Skip") "shape" = He.ma K (He.ga K "Row") "shape"),
  fun K => (He.Fa.meth "Set" "shape").ok K,
  fun K => decide (He.ma K (He.ga K "Set") "shape" = He.ma K (He.ga K "Row") "shape"),
  fun K => (He.Fa.meth "Put" "shape").ok K] : List FaM) ++
  ([fun K => decide (He.ma K (He.ga K "Put") "shape" = He.ma K (He.ga K "Row") "shape"),
  fun K => (He.Fa.meth "Ask" "shape").ok K,
  fun K => decide (He.ma K (He.ga K "Ask") "shape" = He.ma K (He.ga K "Row") "shape"),
  fun K => (He.Fa.meth "Draw" "shape").ok K,
  fun K => decide (He.ma K (He.ga K "Draw") "shape" = He.ma K (He.ga K "Row") "shape"),
  fun K => (He.Fa.meth "Tell" "shape").ok K,
  fun K => decide (He.ma K (He.ga K "Tell") "shape" = He.ma K (He.ga K "Row") "shape"),
  fun K => (He.Fa.meth "Choice" "shape").ok K,
  fun K => (He.Fa.meth "Loop" "shape").ok K,
  fun K => (He.Fa.meth "Call" "shape").ok K,
  fun K => (He.Fa.meth "Give" "shape").ok K,
  fun K => (He.Fa.meth "Number" "parts").ok K,
  fun K => decide (He.ma K (He.ga K "Number") "parts" = He.ma K (He.ga K "Expr") "parts"),
  fun K => (He.Fa.meth "Box" "parts").ok K,
  fun K => decide (He.ma K (He.ga K "Box") "parts" = He.ma K (He.ga K "Expr") "parts"),
  fun K => (He.Fa.meth "Cell" "parts").ok K,
  fun K => (He.Fa.meth "Two" "parts").ok K,
  fun K => (He.Fa.meth "Reader" "block").ok K,
  fun K => (He.Fa.meth "Reader" "pass_line").ok K,
  fun K => (He.Fa.meth "Reader" "row_with_rows").ok K] : List FaM) ++
  ([fun K => (He.Fa.meth "Reader" "call_row").ok K,
  fun K => (He.Fa.meth "Reader" "head").ok K,
  fun K => (He.Fa.meth "Reader" "one_row").ok K,
  fun K => (He.Fa.meth "Reader" "function").ok K,
  fun K => (He.Fa.meth "Setting" "given_otherwise").ok K,
  fun K => (He.Fa.meth "Program" "with_line").ok K,
  fun K => (He.Fa.meth "Setting" "going_otherwise").ok K,
  fun K => (He.Fa.meth "Setting" "changed").ok K,
  fun K => (He.Fa.meth "Program" "lines").ok K,
  fun K => (He.Fa.meth "Program" "text").ok K,
  fun K => (He.Fa.meth "Setting" "start").ok K,
  fun K => (He.Fa.meth "Setting" "forced").ok K,
  fun K => cfnB K (He.ga K "Row") "__init__" (He.ma K (He.ga K "Row") "__init__"),
  fun K => (He.Fa.glo "PAIRS").ok K,
  fun K => He.tupB K "PAIRS" [.str "plus", .str "minus", .str "times", .str "over", .str "rest", .str "less", .str "same"],
  fun K => (He.Fa.glo "ROWS").ok K,
  fun K => He.tupB K "ROWS" [.str "skip", .str "set", .str "put", .str "ask", .str "draw", .str "tell", .str "if", .str "while", .str "call"],
  fun K => (He.Fa.glo "OTHERS").ok K,
  fun K => He.tupB K "OTHERS" [.str "else", .str "end", .str "fun", .str "main", .str "give", .str "cell"],
  fun K => (He.Fa.glo "CHANGES").ok K] : List FaM) ++
  ([fun K => He.tupB K "CHANGES" [.str "start", .str "row", .str "goes"],
  fun K => (He.Fa.exc "NoProgram").ok K,
  fun K => (He.Fa.glo "NoProgram").ok K,
  fun K => (He.Fa.exc "NoChange").ok K,
  fun K => (He.Fa.glo "NoChange").ok K,
  fun K => decide ((He.ga K "Number") ≠ (He.ga K "Box")),
  fun K => decide ((He.ga K "Number") ≠ (He.ga K "Cell")),
  fun K => decide ((He.ga K "Number") ≠ (He.ga K "Two")),
  fun K => decide ((He.ga K "Box") ≠ (He.ga K "Number")),
  fun K => decide ((He.ga K "Box") ≠ (He.ga K "Cell")),
  fun K => decide ((He.ga K "Box") ≠ (He.ga K "Two")),
  fun K => decide ((He.ga K "Cell") ≠ (He.ga K "Number")),
  fun K => decide ((He.ga K "Cell") ≠ (He.ga K "Box")),
  fun K => decide ((He.ga K "Cell") ≠ (He.ga K "Two")),
  fun K => decide ((He.ga K "Two") ≠ (He.ga K "Number")),
  fun K => decide ((He.ga K "Two") ≠ (He.ga K "Box")),
  fun K => decide ((He.ga K "Two") ≠ (He.ga K "Cell")),
  fun K => decide ((He.ga K "Skip") ≠ (He.ga K "Set")),
  fun K => decide ((He.ga K "Skip") ≠ (He.ga K "Put")),
  fun K => decide ((He.ga K "Skip") ≠ (He.ga K "Ask"))] : List FaM) ++
  ([fun K => decide ((He.ga K "Skip") ≠ (He.ga K "Draw")),
  fun K => decide ((He.ga K "Skip") ≠ (He.ga K "Tell")),
  fun K => decide ((He.ga K "Skip") ≠ (He.ga K "Choice")),
  fun K => decide ((He.ga K "Skip") ≠ (He.ga K "Loop")),
  fun K => decide ((He.ga K "Skip") ≠ (He.ga K "Call")),
  fun K => decide ((He.ga K "Skip") ≠ (He.ga K "Give")),
  fun K => decide ((He.ga K "Set") ≠ (He.ga K "Skip")),
  fun K => decide ((He.ga K "Set") ≠ (He.ga K "Put")),
  fun K => decide ((He.ga K "Set") ≠ (He.ga K "Ask")),
  fun K => decide ((He.ga K "Set") ≠ (He.ga K "Draw")),
  fun K => decide ((He.ga K "Set") ≠ (He.ga K "Tell")),
  fun K => decide ((He.ga K "Set") ≠ (He.ga K "Choice")),
  fun K => decide ((He.ga K "Set") ≠ (He.ga K "Loop")),
  fun K => decide ((He.ga K "Set") ≠ (He.ga K "Call")),
  fun K => decide ((He.ga K "Set") ≠ (He.ga K "Give")),
  fun K => decide ((He.ga K "Put") ≠ (He.ga K "Skip")),
  fun K => decide ((He.ga K "Put") ≠ (He.ga K "Set")),
  fun K => decide ((He.ga K "Put") ≠ (He.ga K "Ask")),
  fun K => decide ((He.ga K "Put") ≠ (He.ga K "Draw")),
  fun K => decide ((He.ga K "Put") ≠ (He.ga K "Tell"))] : List FaM) ++
  ([fun K => decide ((He.ga K "Put") ≠ (He.ga K "Choice")),
  fun K => decide ((He.ga K "Put") ≠ (He.ga K "Loop")),
  fun K => decide ((He.ga K "Put") ≠ (He.ga K "Call")),
  fun K => decide ((He.ga K "Put") ≠ (He.ga K "Give")),
  fun K => decide ((He.ga K "Ask") ≠ (He.ga K "Skip")),
  fun K => decide ((He.ga K "Ask") ≠ (He.ga K "Set")),
  fun K => decide ((He.ga K "Ask") ≠ (He.ga K "Put")),
  fun K => decide ((He.ga K "Ask") ≠ (He.ga K "Draw")),
  fun K => decide ((He.ga K "Ask") ≠ (He.ga K "Tell")),
  fun K => decide ((He.ga K "Ask") ≠ (He.ga K "Choice")),
  fun K => decide ((He.ga K "Ask") ≠ (He.ga K "Loop")),
  fun K => decide ((He.ga K "Ask") ≠ (He.ga K "Call")),
  fun K => decide ((He.ga K "Ask") ≠ (He.ga K "Give")),
  fun K => decide ((He.ga K "Draw") ≠ (He.ga K "Skip")),
  fun K => decide ((He.ga K "Draw") ≠ (He.ga K "Set")),
  fun K => decide ((He.ga K "Draw") ≠ (He.ga K "Put")),
  fun K => decide ((He.ga K "Draw") ≠ (He.ga K "Ask")),
  fun K => decide ((He.ga K "Draw") ≠ (He.ga K "Tell")),
  fun K => decide ((He.ga K "Draw") ≠ (He.ga K "Choice")),
  fun K => decide ((He.ga K "Draw") ≠ (He.ga K "Loop"))] : List FaM) ++
  ([fun K => decide ((He.ga K "Draw") ≠ (He.ga K "Call")),
  fun K => decide ((He.ga K "Draw") ≠ (He.ga K "Give")),
  fun K => decide ((He.ga K "Tell") ≠ (He.ga K "Skip")),
  fun K => decide ((He.ga K "Tell") ≠ (He.ga K "Set")),
  fun K => decide ((He.ga K "Tell") ≠ (He.ga K "Put")),
  fun K => decide ((He.ga K "Tell") ≠ (He.ga K "Ask")),
  fun K => decide ((He.ga K "Tell") ≠ (He.ga K "Draw")),
  fun K => decide ((He.ga K "Tell") ≠ (He.ga K "Choice")),
  fun K => decide ((He.ga K "Tell") ≠ (He.ga K "Loop")),
  fun K => decide ((He.ga K "Tell") ≠ (He.ga K "Call")),
  fun K => decide ((He.ga K "Tell") ≠ (He.ga K "Give")),
  fun K => decide ((He.ga K "Choice") ≠ (He.ga K "Skip")),
  fun K => decide ((He.ga K "Choice") ≠ (He.ga K "Set")),
  fun K => decide ((He.ga K "Choice") ≠ (He.ga K "Put")),
  fun K => decide ((He.ga K "Choice") ≠ (He.ga K "Ask")),
  fun K => decide ((He.ga K "Choice") ≠ (He.ga K "Draw")),
  fun K => decide ((He.ga K "Choice") ≠ (He.ga K "Tell")),
  fun K => decide ((He.ga K "Choice") ≠ (He.ga K "Loop")),
  fun K => decide ((He.ga K "Choice") ≠ (He.ga K "Call")),
  fun K => decide ((He.ga K "Choice") ≠ (He.ga K "Give"))] : List FaM) ++
  ([fun K => decide ((He.ga K "Loop") ≠ (He.ga K "Skip")),
  fun K => decide ((He.ga K "Loop") ≠ (He.ga K "Set")),
  fun K => decide ((He.ga K "Loop") ≠ (He.ga K "Put")),
  fun K => decide ((He.ga K "Loop") ≠ (He.ga K "Ask")),
  fun K => decide ((He.ga K "Loop") ≠ (He.ga K "Draw")),
  fun K => decide ((He.ga K "Loop") ≠ (He.ga K "Tell")),
  fun K => decide ((He.ga K "Loop") ≠ (He.ga K "Choice")),
  fun K => decide ((He.ga K "Loop") ≠ (He.ga K "Call")),
  fun K => decide ((He.ga K "Loop") ≠ (He.ga K "Give")),
  fun K => decide ((He.ga K "Call") ≠ (He.ga K "Skip")),
  fun K => decide ((He.ga K "Call") ≠ (He.ga K "Set")),
  fun K => decide ((He.ga K "Call") ≠ (He.ga K "Put")),
  fun K => decide ((He.ga K "Call") ≠ (He.ga K "Ask")),
  fun K => decide ((He.ga K "Call") ≠ (He.ga K "Draw")),
  fun K => decide ((He.ga K "Call") ≠ (He.ga K "Tell")),
  fun K => decide ((He.ga K "Call") ≠ (He.ga K "Choice")),
  fun K => decide ((He.ga K "Call") ≠ (He.ga K "Loop")),
  fun K => decide ((He.ga K "Call") ≠ (He.ga K "Give")),
  fun K => decide ((He.ga K "Give") ≠ (He.ga K "Skip")),
  fun K => decide ((He.ga K "Give") ≠ (He.ga K "Set"))] : List FaM) ++
  ([fun K => decide ((He.ga K "Give") ≠ (He.ga K "Put")),
  fun K => decide ((He.ga K "Give") ≠ (He.ga K "Ask")),
  fun K => decide ((He.ga K "Give") ≠ (He.ga K "Draw")),
  fun K => decide ((He.ga K "Give") ≠ (He.ga K "Tell")),
  fun K => decide ((He.ga K "Give") ≠ (He.ga K "Choice")),
  fun K => decide ((He.ga K "Give") ≠ (He.ga K "Loop")),
  fun K => decide ((He.ga K "Give") ≠ (He.ga K "Call")),
  fun K => decide ((He.ga K "Number") ≠ (He.ga K "Reader")),
  fun K => decide ((He.ga K "Box") ≠ (He.ga K "Reader")),
  fun K => decide ((He.ga K "Cell") ≠ (He.ga K "Reader")),
  fun K => decide ((He.ga K "Two") ≠ (He.ga K "Reader")),
  fun K => decide ((He.ga K "Function") ≠ (He.ga K "Reader")),
  fun K => decide ((He.ga K "Skip") ≠ (He.ga K "Reader")),
  fun K => decide ((He.ga K "Set") ≠ (He.ga K "Reader")),
  fun K => decide ((He.ga K "Put") ≠ (He.ga K "Reader")),
  fun K => decide ((He.ga K "Ask") ≠ (He.ga K "Reader")),
  fun K => decide ((He.ga K "Draw") ≠ (He.ga K "Reader")),
  fun K => decide ((He.ga K "Tell") ≠ (He.ga K "Reader")),
  fun K => decide ((He.ga K "Choice") ≠ (He.ga K "Reader")),
  fun K => decide ((He.ga K "Loop") ≠ (He.ga K "Reader"))] : List FaM) ++
  ([fun K => decide ((He.ga K "Call") ≠ (He.ga K "Reader")),
  fun K => decide ((He.ga K "Give") ≠ (He.ga K "Reader")),
  fun K => decide (PySem.W.findIn K (.ref (He.ga K "NoProgram")) "__getattribute__" = some (some (.builtin "BaseException.__getattribute__"))),
  fun K => decide (PySem.W.findIn K (.ref (He.ga K "NoProgram")) "__getattr__" = some none),
  fun K => decide (PySem.W.hasDictIn K (He.ga K "NoProgram") = true),
  fun K => decide (PySem.W.findIn K (.ref (He.ga K "NoProgram")) "__class__" = some (some (.builtin "object.__class__"))),
  fun K => decide (PySem.W.specialIn K (.builtin "object.__class__") "__get__" = some (some (.builtin "getset_descriptor.__get__"))),
  fun K => decide (PySem.W.takesIn K (.builtin "object.__class__") = some true),
  fun K => decide (PySem.W.mroIn K (He.ga K "NoProgram") (.type "object") = some true),
  fun K => decide (PySem.W.findIn K (.ref (He.ga K "NoChange")) "__getattribute__" = some (some (.builtin "BaseException.__getattribute__"))),
  fun K => decide (PySem.W.findIn K (.ref (He.ga K "NoChange")) "__getattr__" = some none),
  fun K => decide (PySem.W.hasDictIn K (He.ga K "NoChange") = true),
  fun K => decide (PySem.W.findIn K (.ref (He.ga K "NoChange")) "__class__" = some (some (.builtin "object.__class__"))),
  fun K => decide (PySem.W.mroIn K (He.ga K "NoChange") (.type "object") = some true),
  fun K => decide (PySem.W.exmOne K (.ref (He.ga K "NoProgram")) (.ref (He.ga K "NoProgram")) = some true),
  fun K => decide (PySem.W.findIn K (.ref (He.ga K "Program")) "__class__" = some (some (.builtin "object.__class__"))),
  fun K => decide (PySem.W.mroIn K (He.ga K "Program") (.type "object") = some true),
  fun K => decide (PySem.W.exmOne K (.ref (He.ga K "NoChange")) (.ref (He.ga K "NoChange")) = some true),
  fun K => decide (PySem.W.kitOne K (.ref (He.ga K "NoChange")) (.ref (He.ga K "NoProgram")) = some false),
  fun K => (He.Fa.str "LETTERS" "abcdefghijklmnopqrstuvwxyz").ok K] : List FaM) ++
  ([fun K => (He.Fa.str "FIGURES" "0123456789").ok K,
  fun K => (He.Fa.int "MOST_DEEP" 6).ok K,
  fun K => (He.Fa.int "MOST_PARTS" 15).ok K,
  fun K => (He.Fa.int "MOST_WITHIN" 5).ok K,
  fun K => (He.Fa.int "MOST_PARAMS" 3).ok K,
  fun K => (He.Fa.int "MOST_LINES" 60).ok K,
  fun K => (He.Fa.int "MOST_FUNCTIONS" 4).ok K,
  fun K => (He.Fa.int "LIMIT" 1000000).ok K,
  fun K => (He.Fa.free "str").ok K,
  fun K => (He.Fa.free "isinstance").ok K,
  fun K => (He.Fa.free "len").ok K,
  fun K => (He.Fa.free "all").ok K,
  fun K => (He.Fa.free "int").ok K,
  fun K => (He.Fa.free "set").ok K,
  fun K => (He.Fa.free "list").ok K,
  fun K => (He.Fa.free "bool").ok K,
  fun K => (He.Fa.free "tuple").ok K,
  fun K => (He.Fa.free "dict").ok K,
  fun K => (He.Fa.free "range").ok K,
  fun K => (He.Fa.free "max").ok K] : List FaM) ++
  ([fun K => (He.Fa.free "min").ok K] : List FaM)
def loose : List Str := (["_wall", "HadError", "NoProgram", "NoChange", "NoPlace", "NoValue", "LIMIT", "MOST_PARTS", "MOST_DEEP", "LETTERS", "FIGURES", "PAIRS", "ROWS", "OTHERS", "is_value"] : List Str) ++ (["is_name", "is_value_word", "Expr", "Number", "Box", "Cell", "Two", "expr_at", "exprs_of", "CHANGES", "is_given", "is_address", "key_of", "Setting", "Row"] : List Str) ++ (["Skip", "Set", "Put", "Ask", "Draw", "Tell", "Choice", "Loop", "Call", "Give", "Function", "MOST_LINES", "MOST_FUNCTIONS", "MOST_PARAMS", "MOST_WITHIN"] : List Str) ++ (["Program", "Reader", "check_names", "only", "simple_row", "check_calls", "read_program", "_law_cell_at", "_law_draw", "_law_take", "_law_expr", "_law_simple", "_law_call_row", "_law_row", "_law_rows"] : List Str) ++ (["_law_kit", "_law_drawn", "_law_shape"] : List Str)
abbrev R : PySem.W.OpenRow := PySem.W.OpenLaw.row PySem.Challenge.rw_hadbeen_k34_rows_put_otherwise
abbrev hk : PySem.W.Hook := hookM ("law" :: loose) hFa hFn
def ob (s : PySem.W.SharedT) : He.AlD := obsMG ("law" :: loose) hFa hFn (HandSHeadRun.getT s)
theorem ob_eq (s : PySem.W.SharedT) : ob s = hk.obs s.abs := obsMG_eq (HandSHeadRun.getT_eq s)
end K34
namespace K34
open PySem PySem.Spec PyProof.Rows L2 TL
theorem run (w : World) : HandSHeadRun.RunEq R (PySem.W.view R.prog [69]) hk ob 16000 loose w := by
  intro os
  kernel_rfl
end K34
namespace K34
open PySem L2 TL

/-! ### len(set(xs)), xs a list of texts -/
/-- how many unlike ones stand among the first i -/
def cntTo (xs : List Str) : Nat → Nat
  | 0 => 0
  | i + 1 => if ((xs.take i).any (· == xs.getD i Str.empty)) = true then cntTo xs i else cntTo xs i + 1
theorem cntTo_le (xs : List Str) : ∀ i, cntTo xs i ≤ i
  | 0 => Nat.le_refl 0
  | i + 1 => by
    have := cntTo_le xs i
    unfold cntTo
    split <;> omega
section
open PySem.Spec PyProof.Rows SS
variable {prog : Program} {w : World} {A : Around} {R : Result → Shared → Prop} {I : Addr} {fp wr : List Addr} {G : Array GenState → Array GenState → Prop} {n : Nat} {P : Nat → Value → Prop} {Sx : Nat → Shared → Prop}
theorem loop_texts (W : WalksS prog w A.in1 I fp wr G n P Sx) (S : Addr) (nS : S ∉ fp) (xs : List Str) (lx : xs.length = n) (ln : n ≤ 100) (hv : ∀ i v, P i v → ∃ t, v = .str (xs.getD i Str.empty) t) :
    ∀ (k i : Nat) (s : Shared), n - i = k → i ≤ n → Sx i s → s.heap.SetOf (PySem.strKind prog w) S (fun z => (xs.take i).any (· == z)) (cntTo xs i) →
      (∀ s', Moved (S :: wr) G s s' → s'.heap.SetOf (PySem.strKind prog w) S (fun z => (xs.take n).any (· == z)) (cntTo xs n) → R (.ok (.ret .none)) s') →
      codeAny (model prog w) A (.builtin "set.update.loop" ⟨[.ref S, .ref I], []⟩) R s := by
  have nSw : S ∉ wr := fun h => nS (W.sub _ h)
  have wrs : ∀ b ∈ wr, b ∈ S :: wr := fun b hb => List.mem_cons_of_mem _ hb
  have moved : ∀ {s s' : Shared} {f : Str → Bool} {c : Nat}, Moved wr G s s' → s.heap.SetOf (PySem.strKind prog w) S f c → s'.heap.SetOf (PySem.strKind prog w) S f c := fun {s s' f c} hm ⟨o, es, ep, t, ho, rest⟩ => ⟨o, es, ep, t, hm.heap S o nSw ho, rest⟩
  intro k
  induction k with
  | zero =>
    intro i s hk hi st hS hR
    obtain rfl : i = n := by omega
    refine codeAny_builtin PyProof.Rows.F.entry_set_update_loop ?_
    rw [Around.under_plainId PyProof.Rows.F.plain_set_update_loop _]
    show wpAny _ A.in1 (pyNext (.ref I) >>= _) _ _ s
    exact wpAny_bind (W.done s _ _ st fun s' hm => wpAny_pure (hR s' (hm.mono wrs) (moved hm hS)))
  | succ k ih =>
    intro i s hk hi st hS hR
    have hlt : i < n := by omega
    refine codeAny_builtin PyProof.Rows.F.entry_set_update_loop ?_
    rw [Around.under_plainId PyProof.Rows.F.plain_set_update_loop _]
    show wpAny _ A.in1 (pyNext (.ref I) >>= _) _ _ s
    refine wpAny_bind (W.item i s _ _ hlt st fun v s' hP st' hm => ?_)
    obtain ⟨t, rfl⟩ := hv i v hP
    have hS' := moved hm hS
    show wpAny _ A.in1 (holding [Value.str (xs.getD i Str.empty) t] (setAdd S (.str (xs.getD i Str.empty) t)) >>= _) _ _ s'
    refine wpAny_bind (wpAny_holding ?_)
    unfold setAdd
    refine wpAny_holding (wpAny_bind ((PySem.strKind prog w).pyHash (k := xs.getD i Str.empty) (strKind_is _ _ _ _) ?_))
    refine wpAny_setAddHashed_of (knd := PySem.strKind prog w) (s := { s' with toks := s'.toks + 1 }) (strKind_is _ _ _ _) rfl hS' (by have := cntTo_le xs i; unfold scanBound; omega) fun h' sb hS2 => ?_
    have hS3 : h'.SetOf (PySem.strKind prog w) S (fun z => (xs.take (i + 1)).any (· == z)) (cntTo xs (i + 1)) := by
      refine SetOf_congr hS2 (fun z => ?_) rfl
      have e1 : xs[i]? = some (xs.getD i Str.empty) := by
        rw [List.getD_eq_getElem?_getD, List.getElem?_eq_getElem (by omega)]; rfl
      rw [List.take_add_one, e1]
      simp only [Option.toList, List.any_append, List.any_cons, List.any_nil, Bool.or_false]
      congr 1
      by_cases e : z = xs.getD i Str.empty
      · rw [e]; simp
      · rw [decide_eq_false e]
        exact (beq_eq_false_iff_ne.mpr fun q => e q.symm).symm
    refine wpAny_pure ⟨plainId_quiet PyProof.Rows.F.plain_set_update_loop _, ih (i + 1) _ (by omega) hlt (W.frame _ s' _ _ st' (Nat.le_succ _) fun b hb o e => ?_) hS3 fun s'' hm'' hS'' => ?_⟩
    · rw [sb.2 b (fun q : b = S => nS (q ▸ hb))]; exact e
    · refine hR s'' (Moved.trans W.gtrans ((hm.mono wrs).then_heap (Nat.le_succ _) fun b o hb e => ?_) hm'') hS''
      rw [sb.2 b (fun q : b = S => hb (q ▸ List.mem_cons_self))]; exact e
variable {E : Value → Shared → Prop} {s : Shared}
set_option maxHeartbeats 3200000 in
theorem call_set_texts {l : Addr} {items : Array Value} {xs : List Str} {Q : Value → Shared → Prop}
    (hh : A.handled = none) (hl : s.heap.IsList l items) (hi : PyProof.Rows.StrsAre items.toList xs) (ln : xs.length ≤ 100)
    (h : ∀ (h' : Heap) (tk : Nat), h'.SetOf (PySem.strKind prog w) s.heap.objs.size (fun z => (xs.take items.size).any (· == z)) (cntTo xs items.size) →
      (∀ b o, b < s.heap.objs.size → s.heap.get? b = some o → h'.get? b = some o) → Q (.ref s.heap.objs.size) { s with heap := h', toks := tk }) :
    wpAny (model prog w) A (call (.type "set") [.ref l]) Q E s := by
  have seen : ∀ led : Bool, wpAny (model prog w) A.in1.in1 (Builtin.«set.__init__» ⟨[.ref s.heap.objs.size, .ref l], []⟩)
      (fun fin s' => match fin with | .done f => wants (fun r s₂ => r = .none ∧ Q (.ref s.heap.objs.size) s₂) E (.ok f) s' | .again c' => c'.quiet = true ∧ codeAny (model prog w) A.in1 c' (wants (fun r s₂ => r = .none ∧ Q (.ref s.heap.objs.size) s₂) E) s')
      (fun e s' => wants (fun r s₂ => r = .none ∧ Q (.ref s.heap.objs.size) s₂) E (.error e) s') { s with heap := s.heap.push { cls := .type "set", dict := none, data := .set #[] 0 (.fresh 0 0 led) } } := fun led => by
    have hS : (s.heap.push { cls := .type "set", dict := none, data := .set #[] 0 (.fresh 0 0 led) }).get? s.heap.objs.size = some { cls := .type "set", dict := none, data := .set #[] 0 (.fresh 0 0 led) } := Heap.get?_push_size _ rfl
    obtain ⟨ol, hol, hcl, nl, hdl⟩ := hl
    obtain ⟨ocls, odict, odata, oslots⟩ := ol
    simp only at hcl hdl
    subst hcl; subst hdl
    have hol' : (s.heap.push { cls := .type "set", dict := none, data := .set #[] 0 (.fresh 0 0 led) }).get? l = some { cls := .type "list", dict := odict, data := .seq items nl, slots := oslots } := Heap.get?_push_of_some _ hol
    have hl1 : (s.heap.push { cls := .type "set", dict := none, data := .set #[] 0 (.fresh 0 0 led) }).IsList l items := ⟨_, hol', rfl, nl, rfl⟩
    have q1 := PySem.F.sub_list_set
    have q2 := PySem.F.sub_list_frozenset
    have q3 : (Value.type "list" == Value.type "dict") = false := by decide
    unfold Builtin.«set.__init__» noKeywords Builtin.Frozenset.updateFrom
    generalize hPI : pyIter = PI
    wp_walk
    subst hPI
    refine wpAny_pyIter_list hl1 ?_
    refine wpAny_bind (wpAny_runValue ?_)
    have lt : l < s.heap.objs.size := Heap.lt_size hol
    have sz1 : (s.heap.push { cls := .type "set", dict := none, data := .set #[] 0 (.fresh 0 0 led) }).objs.size = s.heap.objs.size + 1 := Heap.size_push ..
    have nI : l ≠ (s.heap.push { cls := .type "set", dict := none, data := .set #[] 0 (.fresh 0 0 led) }).objs.size := by rw [sz1]; exact Nat.ne_of_lt (Nat.lt_succ_of_lt lt)
    have nF : s.heap.objs.size ∉ [(s.heap.push { cls := .type "set", dict := none, data := .set #[] 0 (.fresh 0 0 led) }).objs.size, l] := by
      simp only [List.mem_cons, List.not_mem_nil, or_false, not_or]
      exact ⟨by rw [sz1]; exact Nat.ne_of_lt (Nat.lt_succ_self _), Nat.ne_of_gt lt⟩
    have hsz : xs.length = items.size := by rw [← StrsAre.len_eq hi, Array.length_toList]
    have hv : ∀ (i : Nat) (v : Value), items[i]? = some v → ∃ t, v = .str (xs.getD i Str.empty) t := fun i v hv => strs_at hi i v (by rw [Array.getElem?_toList]; exact hv)
    have hh3 : A.in1.in1.in1.handled = none := by simp [hh]
    refine loop_texts ((Walks.list hh3 _ l nI items).toS) s.heap.objs.size nF xs hsz (by omega) hv (items.size - 0) 0 _ (by omega) (Nat.zero_le _) ⟨⟨_, Heap.get?_push_size _ rfl, rfl, rfl⟩, (hl1.push _)⟩ ?_ ?_
    · have hg : ((s.heap.push { cls := .type "set", dict := none, data := .set #[] 0 (.fresh 0 0 led) }).push { cls := .type "list_iterator", data := .fields #[.ref l, .int 0 0] }).get? s.heap.objs.size = some { cls := .type "set", dict := none, data := .set #[] 0 (.fresh 0 0 led) } := Heap.get?_push_of_some _ hS
      exact PyProof.Rows.SetOf_congr ((PyProof.Rows.setObjOf_fresh (knd := PySem.strKind prog w) led).setOf hg (by unfold scanBound; omega)) (fun _ => rfl) rfl
    · intro s' hm hS'
      obtain ⟨h', g', d', tk', os'⟩ := s'
      obtain rfl : g' = s.gens := hm.gens
      obtain rfl : d' = s.drawn := hm.drawn
      obtain rfl : os' = s.os := hm.os
      show wpAny _ _ _ _ _ _
      refine wpAny_pure ?_
      show wpAny _ _ (ret Value.none) _ _ _
      refine wpAny_pure ⟨rfl, h h' tk' hS' fun b o hb e => ?_⟩
      exact hm.heap b o (by simp only [List.mem_cons, List.not_mem_nil, or_false, not_or]; exact ⟨Nat.ne_of_lt hb, by rw [sz1]; exact Nat.ne_of_lt (Nat.lt_succ_of_lt hb)⟩) (Heap.get?_push_of_some _ (Heap.get?_push_of_some _ e))
  obtain ⟨c, tl, m0⟩ := PySem.F.called_set.mro
  have m1 := PySem.F.called_set.made
  have m2 := PySem.F.called_set.sub
  refine wpAny_call (codeAny_of_tree ?_)
  show wpAny _ _ (callAny (.type "set") _) _ _ _
  refine wpAny_pure ⟨Code.quiet_builtin _ (by decide +kernel), codeAny_builtin PySem.F.entry_type_call ?_⟩
  rw [Around.under_plain (weight_type_call_type "set" [.ref l] []) rfl]
  have m3 := PySem.F.called_set.notType
  have m4 := PySem.F.called_set.canCreate
  have m5 := PySem.F.typeCall_set_1 (.ref l)
  repeat (any_goals (first | assumption | wp_step))
  refine codeAny_mono (code_set_new_1 (.ref l) (E := E) (Q₁ := fun ob s₁ => ∃ led : Bool, ob = .ref s.heap.objs.size ∧ s₁ = { s with heap := s.heap.push { cls := .type "set", dict := none, data := .set #[] 0 (.fresh 0 0 led) } }) fun led => ⟨led, rfl, rfl⟩) fun r s₁ hr => ?_
  cases r with
  | error e => exact hr
  | ok fl =>
    cases fl with
    | ret ob =>
      obtain ⟨led, rfl, rfl⟩ := hr
      have hS : (s.heap.push { cls := .type "set", dict := none, data := .set #[] 0 (.fresh 0 0 led) }).get? s.heap.objs.size = some { cls := .type "set", dict := none, data := .set #[] 0 (.fresh 0 0 led) } := Heap.get?_push_size _ rfl
      have hT : Shared.TypeIs { s with heap := s.heap.push { cls := .type "set", dict := none, data := .set #[] 0 (.fresh 0 0 led) } } (.ref s.heap.objs.size) "set" := ⟨_, hS, rfl⟩
      have m6 := PySem.F.called_set.init.lookup
      have m7 := PySem.F.called_set.init.bind (.ref s.heap.objs.size)
      repeat (any_goals (first | assumption | wp_step))
      refine codeAny_mono (codeAny_call_builtin (R := wants (fun r s₂ => r = .none ∧ Q (.ref s.heap.objs.size) s₂) E) PySem.F.called_set.init.plain PySem.F.entry_set_init (check_set_init_1 hT (seen led))) fun r₂ s₂ hr₂ => ?_
      cases r₂ with
      | error e => exact hr₂
      | ok fl₂ =>
        cases fl₂ with
        | ret r =>
          obtain ⟨rfl, hq⟩ := hr₂
          repeat (any_goals (first | assumption | wp_step))
        | _ => exact hr₂.elim
    | _ => exact hr.elim
end
/-- len(set(xs)) -/
def tLenTexts (K : PySem.W.Frag) (ta : TE) : TE := fun σ H Q => ta σ H fun x H1 => ∃ l, ∃ xs : List Str, x = .ref l ∧ SqL K H1 l (xs.map V.str) ∧ xs.length ≤ 100 ∧ Q (.int (cntTo xs xs.length : Nat)) H1
section
open PySem.Spec PyProof.Rows
variable {X : Cx}
theorem pe_lenTexts {a : Expr} {ta : TE} {p p2 q pos : Pos} (hc : X.calm = true) (hg : Gl X "len") (hm : X.mg "len" = none) (hg2 : Gl X "set") (hm2 : X.mg "set" = none) (ha : PE X a ta)
    (na : starEach [a] X.env = (false, eval a X.env) :: starEach [] X.env := by rfl) : PE X (.Call (.Name "len" p) [.Call (.Name "set" p2) [a] [] q] [] pos) (tLenTexts X.K ta) := by
  refine ⟨fun pins s σ H Q I h => ?_⟩
  refine Call_ (ld_blt I hg hm boot_len (PyProof.Rows.callWith_builtin1 (PyProof.Rows.args_cons ?_ rfl) rfl rfl))
  refine Call_ (ld_blt I hg2 hm2 boot_set (PyProof.Rows.callWith_type1 (PyProof.Rows.args_cons (thn (ha.run pins s σ H _ I h) fun v s1 ⟨x, H1, I1, r1, q1⟩ => PyProof.Rows.args_nil ?_) na) na rfl))
  obtain ⟨l, xs, rfl, hq, ln, q1⟩ := q1
  cases r1
  obtain ⟨its, r, pl, hz⟩ := I1.list hq
  refine call_set_texts (I1.ok.hd hc) pl.isList (by simpa using strsAre_of r) ln fun h' tk hS hk => PyProof.Rows.args_nil ?_
  have hl : its.toArray.size = xs.length := by rw [List.size_toArray, ← r.length, List.length_map]
  rw [hl] at hS
  have hcl := cntTo_le xs xs.length
  obtain ⟨o, es, ep, t, ho, hex, hd, _, _, _, hf, hn⟩ := hS
  have I2 : Inv X pins σ H1 { s1 with heap := h', toks := tk } := I1.kept fun b o e => hk b o (Heap.lt_size e) e
  exact call_len_set ho hex hd hf (by rw [hn]; omega) ⟨.int (cntTo xs xs.length : Nat), H1, I2.tok _, ⟨_, by rw [hn]⟩, q1⟩
end
namespace KD
open PySem PySem.Spec PyProof.Rows L2
/-! dicts whose keys are tuples of ints and texts: dict(d) of one with at most one key, {t: v}, == of alike ones, for v in d.values() -/
section
variable {prog : Program} {w : World} {K : Type} [DecidableEq K] {knd : HeapKind prog w K} {A : Around} {E : Value → Shared → Prop} {s : Shared}
theorem call_dictH {o : Addr} {more : List (K × Addr × Value)} {Q : Value → Shared → Prop} (hu : knd.room A.in1.in1) (hoS : (o == sysModules) = false) (ho : s.heap.DictOfH knd o more) (hsz : more.length ≤ sizeLine)
    (hk : ∀ x ∈ more, knd.is (s.heap.push { cls := .type "dict", data := .dict #[] }) x.1 x.2.1)
    (hty : ∀ x ∈ more, s.TypeIs (.ref x.2.1) "tuple") (hap : (more.map fun x => knd.hash x.1).Nodup)
    (h : ∀ h', h'.DictOfH knd s.heap.objs.size more → Heap.SameBut s.heap.objs.size (s.heap.push { cls := .type "dict", data := .dict #[] }) h' → Q (.ref s.heap.objs.size) { s with heap := h' }) :
    wpAny (model prog w) A (call (.type "dict") [.ref o]) Q E s := by
  refine callType_codes (Q₁ := fun obj s₁ => obj = .ref s.heap.objs.size ∧ s₁ = { s with heap := s.heap.push { cls := .type "dict", data := .dict #[] } }) F.kt_called_dict (F.kt_typeCall_dict_1 _) F.entry_dict_init (kt_code_dict_new _ ⟨rfl, rfl⟩) ?_
  rintro obj s₁ ⟨rfl, rfl⟩
  have hnew : (s.heap.push { cls := .type "dict", data := .dict #[] }).DictOfH knd s.heap.objs.size [] := Heap.DictOfH.new s.heap
  have ho' : (s.heap.push { cls := .type "dict", data := .dict #[] }).DictOfH knd o more := ho.at' (fun _ e => Heap.get?_push_of_some _ e) hk
  have hn : (more.map (·.1)).Nodup := ho.nodup
  have hdo : s.heap.objs.size ≠ o := fun e => absurd ho.lt_size (by rw [e]; exact Nat.lt_irrefl _)
  refine ⟨hnew.typeIs, F.args_dict_init_2 _ _, ?_⟩
  unfold Builtin.«dict.__init__»
  refine wpAny_bind ?_
  unfold Builtin.Dict.selfAndRest
  refine wpAny_bind (wpAny_notOrdered_dict hnew.typeIs ?_)
  show wpAny _ _ (pure (s.heap.objs.size, [Value.ref o])) _ _ _
  refine wpAny_pure ?_
  show wpAny _ _ (Builtin.Dict.updateFrom "dict.__init__" s.heap.objs.size (.ref o) [] .none) _ _ _
  unfold Builtin.Dict.updateFrom
  refine wpAny_bind (wpAny_typeOf ho'.typeIs ?_)
  rw [if_neg (by decide)]
  refine wpAny_bind ?_
  unfold Builtin.Dict.merge
  refine wpAny_bind ?_
  unfold Builtin.Dict.readDirectly
  refine wpAny_bind (wpAny_isInstance ho'.typeIs isSubtype_dict_dict ?_)
  simp only [Bool.not_true, Bool.false_eq_true, if_false]
  refine wpAny_bind (wpAny_specialOf ho'.typeIs F.slot_dict_iter.lookup (wpAny_pure ?_))
  simp only [beq_self_eq_true, if_true]
  refine wpAny_bind (wpAny_pure ?_)
  have hty' : ∀ x ∈ more, Shared.TypeIs { s with heap := s.heap.push { cls := .type "dict", data := .dict #[] } } (.ref x.2.1) "tuple" := fun x hx => by
    obtain ⟨ob, e1, e2⟩ := hty x hx
    exact ⟨ob, Heap.get?_push_of_some _ e1, e2⟩
  refine wpAny_mergeDict_heap (hsz := by simpa using hsz) hu hdo hoS hnew ho' (.inr ⟨hty', hap⟩) fun h' hd' _ hs' => ?_
  show wpAny _ _ (Builtin.Dict.addKeywords s.heap.objs.size [] >>= _) _ _ _
  rw [storedAllH_nil_of_nodup more hn] at hd'
  exact wpAny_bind (wpAny_pure (wpAny_pure ⟨rfl, h h' hd' hs'⟩))
/-- == of two dicts with the same keys, the values alike -/
theorem samePairsH {nm : String} {a b : Addr} {ka kb : List (K × Addr × Value)} {Q : Bool → Shared → Prop} (hu : knd.room A) (ha : (a == sysModules) = false) (hb : (b == sysModules) = false)
    (da : s.heap.DictOfH knd a ka) (db : s.heap.DictOfH knd b kb) (hl : ka.length = kb.length) (hits : ∀ x ∈ ka, ∃ p, (∃ j : Nat, kb[j]? = some (x.1, p)) ∧ SeqAt.EqAt A s x.2.2 p.2 true) (h : Q true s) :
    wpAny (model prog w) A (Builtin.Dict.samePairs nm a b) Q E s := by
  obtain ⟨oa, es, ep, hoa, _, hda, hea, hisa, hna⟩ := da
  obtain ⟨ob, es', ep', hob, _, hdb, heb, hisb, hnb⟩ := db
  have hla : es.size = ka.length := size_of_entries hea
  have hlb : es'.size = kb.length := size_of_entries heb
  unfold Builtin.Dict.samePairs Builtin.Dict.showsAll
  rw [if_neg (show ¬ (a == sysModules) = true by rw [ha]; exact Bool.false_ne_true), if_neg (show ¬ (b == sysModules) = true by rw [hb]; exact Bool.false_ne_true)]
  refine wpAny_bind (wpAny_pure (wpAny_bind (wpAny_pure ?_)))
  refine wpAny_bind (wpAny_dictEntries hoa hda ?_)
  dsimp only
  refine wpAny_bind (wpAny_dictEntries hob hdb ?_)
  have hsz : es.size = es'.size := by omega
  rw [if_neg (by rw [hsz]; simp)]
  refine wpAny_bind (wpAny_dictEpoch hoa hda ?_)
  refine wpAny_bind ?_
  rw [Std.Legacy.Range.forIn_eq_forIn_range']
  simp only [Std.Legacy.Range.size, Nat.sub_zero, Nat.add_sub_cancel, Nat.div_one]
  refine wpAny_forIn_list _
    (fun rest q s' => s' = s ∧ q = (none, ()) ∧ ∃ i, rest = List.range' i (es.size - i) ∧ i ≤ es.size)
    _ ?_ ?_ _ _ ⟨rfl, rfl, 0, by simp, Nat.zero_le _⟩
  · rintro x rest q s' ⟨rfl, rfl, i, hr, hi⟩
    have hlt : i < es.size := by
      rcases Nat.lt_or_ge i es.size with h | h
      · exact h
      · rw [Nat.sub_eq_zero_of_le h] at hr; simp at hr
    obtain ⟨rfl, hrest⟩ : x = i ∧ rest = List.range' (i + 1) (es.size - (i + 1)) := by
      have e : es.size - i = (es.size - (i + 1)) + 1 := by omega
      rw [e, List.range'_succ] at hr
      injection hr with h1 h2
      exact ⟨h1, h2⟩
    refine wpAny_bind (wpAny_dictEntries hoa hda ?_)
    obtain ⟨⟨k, qa, v⟩, hkv⟩ : ∃ kv, ka[x]? = some kv := ⟨ka[x]'(by omega), List.getElem?_eq_getElem _⟩
    rw [entry_at hea x, hkv]
    show wpAny _ _ (holding [.ref qa, v] _ >>= _) _ _ _
    obtain ⟨⟨pb, vb⟩, ⟨j, hj⟩, heq⟩ := hits _ (List.mem_of_getElem? hkv)
    refine wpAny_bind (wpAny_holding (wpAny_bind (wpAny_dictFind_heap hu (hisa _ (List.mem_of_getElem? hkv)) hob hdb heb hisb hnb (fun no => absurd hj (no j (pb, vb))) fun j' p' hj' => ?_)))
    obtain rfl := idxH_unique hnb hj hj'
    rw [hj] at hj'
    cases hj'
    refine wpAny_bind (wpAny_dictEntries hob hdb ?_)
    rw [entry_at heb j, hj]
    refine wpAny_holding (heq prog w _ _ ?_)
    show wpAny _ _ (if (!true) = true then _ else _) _ _ _
    rw [if_neg (by decide)]
    refine wpAny_bind (wpAny_dictEpoch hoa hda ?_)
    rw [if_neg (by simp)]
    exact wpAny_pure ⟨rfl, rfl, x + 1, hrest, hlt⟩
  · rintro q s' ⟨rfl, rfl, i, hr, hi⟩
    exact wpAny_pure h
theorem neH {a b : Addr} {ka kb : List (K × Addr × Value)} {Q : Value → Shared → Prop} (hr : knd.room A.in1) (ha : (a == sysModules) = false) (hb : (b == sysModules) = false)
    (da : s.heap.DictOfH knd a ka) (db : s.heap.DictOfH knd b kb) (hu : A.units < cLine) (hl : ka.length = kb.length) (hits : ∀ x ∈ ka, ∃ p, (∃ j : Nat, kb[j]? = some (x.1, p)) ∧ SeqAt.EqAt A.in1 s x.2.2 p.2 true) (h : Q (.bool false) s) :
    wpAny (model prog w) A (compareOp .NotEq (.ref a) (.ref b)) Q E s := by
  refine wpAny_richCompare_same_room (op := .NotEq) da.typeIs db.typeIs PySem.F.slot_dict_ne (wpAny_call_entry PySem.F.slot_dict_ne da.typeIs PySem.F.entry_dict_ne ?_ (PySem.F.args_dict_ne_2 _ _)) hu
  show wpAny _ _ (Builtin.Dict.dictSlotArgs "__ne__" ⟨[.ref a, .ref b], []⟩ >>= _) _ _ s
  refine wpAny_bind ?_
  unfold Builtin.Dict.dictSlotArgs
  refine wpAny_bind (wpAny_notOrdered_dict da.typeIs ?_)
  show wpAny _ _ (pure (Value.ref a, Value.ref b)) _ _ s
  refine wpAny_pure ?_
  refine wpAny_bind (wpAny_isInstance (T := "dict") db.typeIs PySem.F.sub_dict_dict ?_)
  simp only [Bool.not_true, Bool.false_eq_true, if_false]
  refine wpAny_bind (wpAny_pure (wpAny_bind (wpAny_pure ?_)))
  refine wpAny_bind (samePairsH hr ha hb da db hl hits ?_)
  refine wpAny_pure ⟨_, rfl, ?_, ?_⟩
  · exact fun x => nomatch x
  · exact h
end
/-! ### as rules -/
section
variable {X : Cx}
theorem tup_type {H : Hp} {P : Program} {w : World} {s : Shared} {a : Addr} {xs : List V} (ok : HOk P w H s.heap) (e : H a = some (.tup xs)) : s.TypeIs (.ref a) "tuple" := by
  obtain ⟨_, its, r, o, h1, h2, n⟩ := (show ObjOk P w H s.heap a (.tup xs) from ok a _ e)
  exact ⟨o, h1, h2⟩
theorem paired_mem {α β : Type} {G : α → β → Prop} : ∀ {l₁ : List α} {l₂ : List β}, Paired G l₁ l₂ → ∀ b ∈ l₂, ∃ a ∈ l₁, G a b
  | _, _, .nil, _, h => by cases h
  | _, _, .cons r t, b, h => by
    rcases List.mem_cons.mp h with e | h
    · rw [e]; exact ⟨_, List.mem_cons_self, r⟩
    · obtain ⟨a, ha, g⟩ := paired_mem t b h
      exact ⟨a, List.mem_cons_of_mem _ ha, g⟩
theorem nodup_le1 {α : Type} : ∀ {l : List α}, l.length ≤ 1 → l.Nodup
  | [], _ => List.nodup_nil
  | [x], _ => List.nodup_cons.mpr ⟨List.not_mem_nil, List.nodup_nil⟩
  | _ :: _ :: _, h => absurd h (by simp)
theorem call_dictT (hu : X.A.units + 64 < cLine) : CallR X (.type "dict") (fun xs H Q => ∃ (a : Addr) (kvs : List (List L2.Key × V)), xs = [.ref a] ∧ Rd H a (.dT kvs) ∧ kvs.length ≤ 1 ∧ ∀ p, H p = none → Q (.ref p) (upd H p (.dT kvs))) := by
  intro pins s σ H xs us Q I r h
  obtain ⟨a, kvs, rfl, ea, h1, q⟩ := h
  obtain ⟨u, rfl, rx⟩ := r.one
  cases rx
  obtain ⟨z, hd, ws, rel, dd⟩ := dt_rd I.hok ea
  have hl : ws.length ≤ 1 := by have := Paired.length rel; omega
  have hk : ∀ x ∈ ws, H x.2.1 = some (.tup (x.1.map kV)) := fun x hx => by
    obtain ⟨y, _, g⟩ := paired_mem rel x hx
    rw [← g.1]; exact g.2.1
  have I1 : Inv X pins σ H { s with heap := s.heap.push { cls := .type "dict", data := .dict #[] } } := I.kept (t' := s.toks) fun b ob q => Heap.get?_push_of_some _ q
  refine call_dictH (show X.A.units + 1 + 1 < cLine by omega) hd dd (by have := Paired.length rel; omega) (fun x hx => key_of I1.hok (hk x hx)) (fun x hx => tup_type I.hok (hk x hx)) ?_ fun h' dd' hs => ?_
  · exact nodup_le1 (by rw [List.length_map]; exact hl)
  obtain ⟨o, es, ep, g1, g2, g3, g4, _, g5⟩ := dd'
  refine ⟨.ref s.heap.objs.size, _, I.laid (a := s.heap.objs.size) (o := .dT kvs) (t' := s.toks) (fun b q hq => ?_) (Nat.le_refl _) ⟨z, beq_eq_false_iff_ne.mpr (Ne.symm (Nat.ne_of_lt I.big)), ws, rel.keeps fun c ys ec => ?_, o, es, ep, g1, g2, g3, g4, g5⟩, rfl, q _ (I.hok.fresh (Nat.le_refl _))⟩
  · exact (hs.2 b (Nat.ne_of_lt (Heap.lt_size hq))).trans (Heap.get?_push_of_some _ hq)
  · rw [upd_ne (ne_of_none ec (I.hok.fresh (Nat.le_refl _)))]
    exact ec
/-- x != y, dicts of one key each, the same one, with the same int or truth -/
theorem op_neDT (hu : X.A.units + 64 < cLine) : OpR X (compareOp .NotEq) (fun x y H Q => ∃ (a b : Addr) (k : List L2.Key) (v : V), x = .ref a ∧ y = .ref b ∧ H a = some (.dT [(k, v)]) ∧ H b = some (.dT [(k, v)]) ∧ flatB v = true ∧ Q (.bl false) H) := by
  intro pins s σ H x y v u Q I rx ry h
  obtain ⟨a, b, k, vv, rfl, rfl, ea, eb, fl, q⟩ := h
  obtain rfl : v = Value.ref a := rx
  obtain rfl : u = Value.ref b := ry
  obtain ⟨_, ya, ka, ra, da⟩ := dt_of I.hok ea
  obtain ⟨_, yb, kb, rb, db⟩ := dt_of I.hok eb
  refine neH (tupleKind_room_in1 (by omega)) ya yb da db (by omega) ((Paired.length ra).symm.trans (Paired.length rb)) (fun x hx => ?_) ⟨.bl false, H, I, rfl, q⟩
  cases ra with
  | @cons p pa ps qs ga ta =>
  cases ta
  cases rb with
  | @cons p' pb ps' qs' gb tb =>
  cases tb
  rw [List.mem_singleton.mp hx]
  obtain ⟨pk, pq⟩ := pb
  refine ⟨pq, ⟨0, ?_⟩, eqAt_same ga.2.2 gb.2.2 fl⟩
  show some (pk, pq) = some (pa.1, pq)
  have e1 : k = pa.1 := ga.1
  have e2 : k = pk := gb.1
  rw [← e1, ← e2]
end
/-! ### {t: v} -/
section
variable {prog : Program} {w : World} {K : Type} [DecidableEq K] {knd : HeapKind prog w K} {A : Around} {E : Value → Shared → Prop} {s : Shared}
theorem dict_pairsH {env : Env} {keys : List (Option Expr)} {values : List Expr} {pos : Pos} {pairs : List (Sem Value × Sem Value)} {Q : Value → Shared → Prop} (hu : knd.room A)
    (hshape : (evalEachOpt keys env).zip ((evalEach values env).map fun v => do let x ← v; standAt pos; pure x) = pairs.map fun p => (some p.1, p.2)) (h0 : pairs ≠ []) (hlen : pairs.length ≤ 15)
    (h : wpAny (model prog w) A (evalPairs pairs) (fun vs s₁ => ∃ ps, CarriesH knd s₁.heap vs ps ∧ s₁.heap.DictOfH knd s.heap.objs.size [] ∧
      ∀ h' tk, h'.DictOfH knd s.heap.objs.size (storedAllH [] ps) → Heap.SameBut s.heap.objs.size s₁.heap h' → Q (.ref s.heap.objs.size) { s₁ with heap := h', toks := tk }) E
      { s with heap := s.heap.push { cls := .type "dict", data := .dict #[] } }) :
    wpAny (model prog w) A (eval (.Dict keys values pos) env) Q E s := by
  rw [arm_eval_Dict, hshape, dictDisplay_pairs pairs h0 (by omega)]
  exact wpAny_bind (wpAny_standAt (wpAny_bind (wpAny_subDictH (knd := knd) (Q := fun d s' => wpAny (model prog w) A (pure (Value.ref d)) Q E s') hu hlen
    (wpAny_mono h (fun vs s₁ h₁ => by obtain ⟨ps, hc, hm, hq⟩ := h₁; exact ⟨ps, hc, hm, fun h' tk a b => wpAny_pure (hq h' tk a b)⟩) fun _ _ e => e))))
end
section
variable {X : Cx} {pos : Pos}
/-- {k: v}, k a tuple of ints and texts; the new dict stands empty while the pair is made -/
def tDisp1T (tk tv : TE) : TE := fun σ H Q => ∀ p, H p = none → tPairs [(tk, tv)] σ (upd H p (.dT [])) fun ps H2 => H2 p = some (.dT []) ∧ ∃ (b : Addr) (k : List L2.Key) (v : V), ps = [(.ref b, v)] ∧ H2 b = some (.tup (k.map kV)) ∧ Q (.ref p) (upd H2 p (.dT [(k, v)]))
theorem pe_disp1T (hu : X.A.units + 64 < cLine) {keys : List (Option Expr)} {values : List Expr} {tk tv : TE} (h : PPs X pos keys values [(tk, tv)]) (hall : keys.all (·.isSome) = true) (hl : keys.length = values.length) (h1 : keys.length = 1) : PE X (.Dict keys values pos) (tDisp1T tk tv) := by
  refine ⟨fun pins s σ H Q I q => ?_⟩
  have hn := I.hok.fresh (Nat.le_refl s.heap.objs.size)
  have I1 := I.laid (a := s.heap.objs.size) (o := .dT []) (h' := s.heap.push { cls := .type "dict", data := .dict #[] }) (t' := s.toks) (fun _ _ q => Heap.get?_push_of_some _ q) (Nat.le_refl _) (dt_empty s.heap I.big)
  have hln := pairTrees_length keys values X.env pos hall hl
  refine dict_pairsH (knd := tupleKind (mixKind X.prog X.w)) (show X.A.units < cLine by omega) (zip_pairTrees keys values X.env pos hall hl) (fun e => by rw [e, h1] at hln; cases hln) (by rw [hln, h1]; decide) (thn (h.run pins _ σ _ _ I1 (q _ hn)) fun ws s2 ⟨ps, H2, I2, rel, e, b, k, v, ep, eb, q2⟩ => ?_)
  subst ep
  cases rel with
  | @cons p0 pr as bs g t =>
  cases t
  obtain ⟨p1, p2⟩ := pr
  obtain rfl : p1 = Value.ref b := g.1
  obtain ⟨z, hd, xs0, r0, dd⟩ := dt_of I2.hok e
  cases r0
  refine ⟨[(k, b, p2)], ⟨rfl, rfl, key_of I2.hok eb, trivial⟩, dd, fun h' tk' dd' hs => ?_⟩
  have dd2 : h'.DictOfH (tupleKind (mixKind X.prog X.w)) s.heap.objs.size [(k, b, p2)] := dd'
  obtain ⟨o, es, epo, g1, g2, g3, g4, _, g5⟩ := dd2
  refine ⟨.ref s.heap.objs.size, _, ?_, rfl, q2⟩
  refine d_write I2 (by rw [e]; exact True.intro) hs ⟨o, g1⟩ ⟨by show 1 ≤ sizeLine; decide, hd, [(k, b, p2)], .cons ⟨rfl, ?_, g.2⟩ .nil, o, es, epo, g1, g2, g3, g4, g5⟩
  show upd H2 s.heap.objs.size _ b = _
  rw [upd_ne (ne_of eb e (fun z => nomatch z))]
  exact eb
end
/-! ### for v in d.values() -/
/-- the values of a locked dict whose keys are tuples -/
def ItvT (d : Addr) (o : Obj) (kvs : List (List L2.Key × V)) : It :=
  ⟨fun i H => H d = some (.frz o (.dT kvs)) ∧ i < kvs.length, fun i H x H' => H' = H ∧ ∃ k, kvs[i]? = some (k, x), fun i H => H d = some (.frz o (.dT kvs)) ∧ kvs.length ≤ i⟩
section
variable {X : Cx} {pins : List (Addr × Obj)} {σ : L2.St} {H : Hp} {s : Shared} {d : Addr} {o : Obj}
theorem frzTv {kvs : List (List L2.Key × V)} (I : Inv X pins σ H s) (h : H d = some (.frz o (.dT kvs))) :
    (d == sysModules) = false ∧ ∃ (es : Array DictEntry) (ep : Nat), s.heap.DictRaw d es ep ∧ o.data = .dict es ep ∧ es.size = kvs.length ∧
      ∀ (i : Nat) (k : List L2.Key) (v : V), kvs[i]? = some (k, v) → ∃ en : DictEntry, es[i]? = some en ∧ RelV v en.val := by
  obtain ⟨hd, z, hs, xs, pr, o', es, ep, ho, hx, hdt, he, _⟩ := I.hok d _ h
  rw [hd] at ho
  cases ho
  refine ⟨hs, es, ep, ⟨o, hd, hx, hdt⟩, hdt, ?_, fun i k v e => ?_⟩
  · have l1 : es.size = xs.length := size_of_entries he
    have l2 : kvs.length = xs.length := Paired.length pr
    omega
  · obtain ⟨b, hb, e1, e2, e3⟩ := paired_get pr e
    have q := entry_at he i
    rw [hb] at q
    exact ⟨_, q, e3⟩
end
section
variable {P : Program} {w : World} {K : PySem.W.Frag} {tg : Expr} {d : Addr} {o : Obj} {es : Array DictEntry} {ep : Nat}
theorem turn_valsT {kvs : List (List L2.Key × V)} (it : Addr) (hod : o.data = .dict es ep) : Turn P w K tg (ItvT d o kvs) [it] it (fun i h => h.IsValIter it d i kvs.length ep) where
  mem := by simp
  obj := fun i h st b hb => by
    have e : b = it := by simpa using hb
    subst e
    obtain ⟨oi, e, c, dd⟩ := st
    exact ⟨oi, e, fun v z => by rw [dd] at z; cases z⟩
  keep := fun i h h' st k => st.at fun oi e => k it (by simp) oi e
  item := by
    intro X hP hw hK hc i pins s σ H E I hf st hg
    subst hP hw hK
    obtain ⟨hd, hi⟩ := hg
    obtain ⟨f0, f1, f2, f3, f4, f5⟩ := hf it (by simp)
    obtain ⟨hs, es', ep', hm, hdt, hsz, ent⟩ := frzTv I hd
    obtain ⟨rfl, rfl⟩ := dict_ep hod hdt
    obtain ⟨⟨k, v⟩, hkv⟩ : ∃ p, kvs[i]? = some p := ⟨kvs[i], List.getElem?_eq_getElem hi⟩
    obtain ⟨en, hen, ru⟩ := ent i k v hkv
    have hi' : i < es'.size := by omega
    have een : es'[i] = en := by
      rw [Array.getElem?_eq_getElem hi'] at hen
      exact Option.some.inj hen
    rw [← hsz] at st
    refine wpAny_pyNext_values_item_raw st hm hi' fun h' st' sb => ?_
    have I1 : Inv X pins σ H { s with heap := h' } := I.turned (t' := s.toks) (fun b ob hb e => (sb.2 b hb).trans e) f0 f1 f3 f4 f5
    obtain ⟨oi, e, c, dd⟩ := id st'
    refine ⟨_, rfl, go_of (s := { s with heap := h' }) e c dd (by decide) ⟨v, H, I1, by rw [een]; exact ru, ⟨rfl, k, hkv⟩, ?_, fun b hb => (hf b hb).1⟩⟩
    show h'.IsValIter it d (i + 1) kvs.length _
    rw [← hsz]
    exact st'
  done := by
    intro X hP hw hK hc i pins s σ H E I hf st hg
    subst hP hw hK
    obtain ⟨hd, hi⟩ := hg
    obtain ⟨f0, f1, f2, f3, f4, f5⟩ := hf it (by simp)
    obtain ⟨hs, es', ep', hm, hdt, hsz, ent⟩ := frzTv I hd
    obtain ⟨rfl, rfl⟩ := dict_ep hod hdt
    rw [← hsz] at st
    exact wpAny_pyNext_values_end_raw (I.ok.hd hc) st hm (by omega) fun h' eb => ⟨rfl, I.turned (t' := s.toks) (fun b ob hb e => eb b ob hb e) f0 f1 f3 f4 f5⟩
  self := fun A i s Q E st h => wpAny_pyIter_valiter st h
end
def iValsT (td : TE) : TI := fun σ H R => td σ H fun x H1 => ∃ d o kvs, x = .ref d ∧ H1 d = some (.frz o (.dT kvs)) ∧ R (ItvT d o kvs) H1
section
variable {X : Cx} {tg e : Expr} {td : TE} {apos cpos : Pos}
theorem pi_valuesT (he : PE X e td) (hbase : attributeBase e "values" X.env (eval e X.env) = eval e X.env := by rfl) (hline : (apos.endLine == cpos.line) = true := by rfl) : PI X tg (.Call (.Attribute e "values" apos) [] [] cpos) (iValsT td) := by
  refine ⟨fun pins s σ H R I h => ?_⟩
  refine wpAny_Call_method (T := "dict") (id := "dict.values") hbase rfl hline F.plainAttrs_dict F.slot_dict_values F.type_dict_values (thn (he.run pins s σ H _ I h) fun u s1 ⟨x, H1, I1, rx, d, o, kvs, ex, hd, q⟩ => ?_)
  subst ex
  obtain rfl : u = Value.ref d := rx
  obtain ⟨hs, es, ep, hm, hdt, hsz, ent⟩ := frzTv I1 hd
  refine ⟨hm.typeIs, fun b eb => by cases eb; exact ⟨_, hm.choose_spec.1, hm.choose_spec.2.1.2.1⟩, ?_⟩
  have I2 : Inv X pins σ H1 { s1 with heap := s1.heap.push { cls := .type "dict_values", data := .fields #[.ref d] } } := I1.kept (t' := s1.toks) fun b ob q => Heap.get?_push_of_some _ q
  have fin : wpAny (model X.prog X.w) X.A (pyIter (.ref s1.heap.objs.size)) (PIE X pins σ tg R) X.xe { s1 with heap := s1.heap.push { cls := .type "dict_values", data := .fields #[.ref d] } } := by
    refine wpAny_pyIter_values_raw (d := d) ⟨_, Heap.get?_push_size _ rfl, rfl, rfl⟩ (hm.push _) (pi_one (tk := s1.toks) I2 _ (turn_valsT _ hdt) ⟨_, Heap.get?_push_size _ rfl, rfl, ?_⟩ q)
    rw [hsz] <;> rfl
  show wpAny _ _ (callWith cpos (.builtin "dict.values") [.ref d] [] []) _ X.xe s1
  exact method_meetsIn F.slot_dict_values F.entry_dict_values rfl (PySem.evalArgs_none ⟨rfl, hm.typeIs, F.args_dict_values_1 _, _, meets_dict_values_raw d hs, ⟨es, ep, hm⟩, fin⟩)
end
theorem walk_valuesT {d : Addr} {o : Obj} {kvs : List (List L2.Key × V)} : Walk (ItvT d o kvs) kvs.length (fun H => H d = some (.frz o (.dT kvs))) (fun i H x H' => H' = H ∧ ∃ k, kvs[i]? = some (k, x)) :=
  ⟨fun _ _ hi q => ⟨q, hi⟩, fun _ q => ⟨q, Nat.le_refl _⟩, fun _ _ _ _ _ _ y => y⟩
end KD

end K34
namespace K34
open PySem L2 TL

/-! ### words: values by their figures, names -/
def isLow (c : Nat) : Bool := decide (97 ≤ c) && decide (c ≤ 122)
def isDig (c : Nat) : Bool := decide (48 ≤ c) && decide (c ≤ 57)
theorem fig_mem (c : Nat) : decide (c ∈ (Str.ofString "0123456789").cps.toList) = isDig c := by
  have e : (Str.ofString "0123456789").cps.toList = [48, 49, 50, 51, 52, 53, 54, 55, 56, 57] := by decide +kernel
  rw [e]
  unfold isDig
  rw [Bool.eq_iff_iff]
  simp only [decide_eq_true_eq, Bool.and_eq_true, List.mem_cons, List.not_mem_nil, or_false]
  omega
theorem let_mem (c : Nat) : decide (c ∈ (Str.ofString "abcdefghijklmnopqrstuvwxyz").cps.toList) = isLow c := by
  have e : (Str.ofString "abcdefghijklmnopqrstuvwxyz").cps.toList = [97, 98, 99, 100, 101, 102, 103, 104, 105, 106, 107, 108, 109, 110, 111, 112, 113, 114, 115, 116, 117, 118, 119, 120, 121, 122] := by decide +kernel
  rw [e]
  unfold isLow
  rw [Bool.eq_iff_iff]
  simp only [decide_eq_true_eq, Bool.and_eq_true, List.mem_cons, List.not_mem_nil, or_false]
  omega
def PAIRW : List Str := ["plus", "minus", "times", "over", "rest", "less", "same"]
def ROWW : List Str := ["skip", "set", "put", "ask", "draw", "tell", "if", "while", "call"]
def OTHW : List Str := ["else", "end", "fun", "main", "give", "cell"]
def lenOk (s : Str) : Bool := decide (1 ≤ (tl s).length) && decide ((tl s).length ≤ 6)
def isValW (s : Str) : Bool := lenOk s && !((tl s).head? == some 48 && decide (s ≠ "0")) && (tl s).all isDig
def isNameW (s : Str) : Bool := lenOk s && !(decide (s ∈ PAIRW) || (decide (s ∈ ROWW) || decide (s ∈ OTHW))) && (tl s).all isLow
def valOf (s : Str) : Int := ((NumText.digitsVal (tl s) : Nat) : Int)
def numT (n : Int) : Str := Str.ofString (toString n)
theorem inV_str (s : Str) : ∀ l : List Str, inV (.str s) (l.map V.str) = decide (s ∈ l)
  | [] => by simp [inV]
  | x :: r => by
    have ih := inV_str s r
    unfold inV at ih ⊢
    rw [List.map_cons, List.any_cons, ih]
    have e : eqV (.str x) (.str s) = decide (s = x) := by
      show (x == s) = decide (s = x)
      by_cases h : s = x
      · subst h; simp
      · rw [decide_eq_false h]; exact beq_eq_false_iff_ne.mpr fun e => h e.symm
    rw [e]
    by_cases h : s = x <;> simp [h]
theorem digits_of_all {l : List Nat} (h : l.all isDig = true) : NumText.AllDigits l := fun c hc => by
  have := List.all_eq_true.mp h c hc
  unfold isDig at this
  simp only [Bool.and_eq_true, decide_eq_true_eq] at this
  exact this
theorem all_of_digits {l : List Nat} (h : NumText.AllDigits l) : l.all isDig = true := List.all_eq_true.mpr fun c hc => by
  have := h c hc
  unfold isDig
  simp only [Bool.and_eq_true, decide_eq_true_eq]
  exact this
theorem foldl_lt : ∀ (l : List Nat) (a : Nat), NumText.AllDigits l → l.foldl (fun acc c => acc * 10 + (c - 48)) a < (a + 1) * 10 ^ l.length
  | [], a, _ => by simp
  | c :: r, a, h => by
    have hc := h c List.mem_cons_self
    have ih := foldl_lt r (a * 10 + (c - 48)) fun d hd => h d (List.mem_cons_of_mem _ hd)
    have e : (a + 1) * 10 ^ (r.length + 1) = ((a + 1) * 10) * 10 ^ r.length := by rw [Nat.pow_succ, Nat.mul_comm (10 ^ r.length) 10, ← Nat.mul_assoc]
    rw [List.foldl_cons, List.length_cons, e]
    exact Nat.lt_of_lt_of_le ih (Nat.mul_le_mul_right _ (by omega))
theorem digitsVal_lt {l : List Nat} (h : NumText.AllDigits l) : NumText.digitsVal l < 10 ^ l.length := by
  have := foldl_lt l 0 h
  rw [Nat.zero_add, Nat.one_mul] at this
  exact this
theorem valW_parts {s : Str} (h : isValW s = true) : (1 ≤ (tl s).length ∧ (tl s).length ≤ 6) ∧ ((tl s).head? = some 48 → s = "0") ∧ NumText.AllDigits (tl s) := by
  unfold isValW lenOk at h
  simp only [Bool.and_eq_true, decide_eq_true_eq, Bool.not_eq_true', Bool.and_eq_false_iff, beq_eq_false_iff_ne, decide_eq_false_iff_not] at h
  obtain ⟨⟨⟨h1, h2⟩, h3⟩, h4⟩ := h
  refine ⟨⟨h1, h2⟩, fun e => ?_, digits_of_all h4⟩
  rcases h3 with h3 | h3
  · exact absurd e h3
  · exact Classical.not_not.mp h3
theorem valW_int {s : Str} (h : isValW s = true) : PySem.intText? s = some (valOf s) ∧ s.length ≤ 640 ∧ 0 ≤ valOf s ∧ valOf s < 1000000 := by
  obtain ⟨⟨h1, h2⟩, _, h4⟩ := valW_parts h
  have hl : s.length = (tl s).length := len_tl s
  refine ⟨PySem.intText_digits (x := s) h4 (fun e => ?_) (by omega), by omega, Int.natCast_nonneg _, ?_⟩
  · have e' : tl s = [] := e
    rw [e'] at h1; simp at h1
  · have := digitsVal_lt h4
    have p : 10 ^ (tl s).length ≤ 10 ^ 6 := Nat.pow_le_pow_right (by decide) h2
    unfold valOf
    omega
theorem numL_head : ∀ n : Nat, (numL n).head? = some 48 → n = 0 := by
  intro n
  induction n using Nat.strongRecOn with
  | _ n ih =>
    intro h
    by_cases c : n < 10
    · rw [numL_lt c] at h
      simp at h
      omega
    · rw [numL_step (by omega)] at h
      cases q : numL (n / 10) with
      | nil => exact absurd q (numL_ne _)
      | cons x r =>
        rw [q, List.cons_append, List.head?_cons] at h
        have := ih (n / 10) (by omega) (by rw [q, List.head?_cons]; exact h)
        omega
theorem tl_numT {n : Int} (h : 0 ≤ n) : tl (numT n) = numL n.toNat := by
  have e : n = ((n.toNat : Nat) : Int) := by omega
  unfold numT
  rw [e]
  exact tl_num _
theorem numT_valW {n : Int} (h0 : 0 ≤ n) (h1 : n < 1000000) : isValW (numT n) = true ∧ valOf (numT n) = n := by
  have et := tl_numT h0
  have hl : (numL n.toNat).length ≤ 6 := numL_len (by decide) (by omega)
  have hp : 1 ≤ (numL n.toNat).length := by
    cases q : numL n.toNat with
    | nil => exact absurd q (numL_ne _)
    | cons x r => simp
  refine ⟨?_, ?_⟩
  · unfold isValW lenOk
    rw [et]
    simp only [Bool.and_eq_true, decide_eq_true_eq, Bool.not_eq_true', Bool.and_eq_false_iff, beq_eq_false_iff_ne, decide_eq_false_iff_not]
    refine ⟨⟨⟨hp, hl⟩, ?_⟩, all_of_digits (numL_digits _)⟩
    by_cases c : (numL n.toNat).head? = some 48
    · have z := numL_head _ c
      right
      have : n = 0 := by omega
      subst this
      exact fun e => e (by decide +kernel)
    · exact .inl c
  · unfold valOf
    rw [et, numL_val]
    omega
theorem numT_inj {m n : Int} (hm : 0 ≤ m) (hn : 0 ≤ n) (e : numT m = numT n) : m = n := by
  have e' := congrArg tl e
  rw [tl_numT hm, tl_numT hn] at e'
  have := numL_inj e'
  omega
theorem toDigits_digitsVal' {l : List Nat} (h : NumText.AllDigits l) (h1 : 1 ≤ l.length) (c : ¬ l.head? = some 48) : numL (NumText.digitsVal l) = l := by
  unfold numL
  rw [NumText.toDigits_digitsVal (l.length - 1) l (by omega) h (Or.inr ?_), List.map_map]
  · conv => rhs; rw [← List.map_id l]
    refine List.map_congr_left fun d hd => ?_
    have hd' := h d hd
    show (Char.ofNat d).toNat = d
    obtain ⟨a, b⟩ := hd'
    have : ∀ k, k < 10 → (Char.ofNat (48 + k)).toNat = 48 + k := by decide
    have e : d = 48 + (d - 48) := by omega
    rw [e]
    exact this _ (by omega)
  · cases l with
    | nil => simp at h1
    | cons x r =>
      refine ⟨x, r, rfl, ?_⟩
      have := h x List.mem_cons_self
      have : x ≠ 48 := fun e => c (by rw [e]; rfl)
      omega
theorem valW_canon {s : Str} (h : isValW s = true) : numT (valOf s) = s := by
  obtain ⟨⟨h1, h2⟩, h3, h4⟩ := valW_parts h
  refine ext_tl ?_
  rw [tl_numT (valW_int h).2.2.1]
  show numL ((NumText.digitsVal (tl s) : Nat) : Int).toNat = tl s
  rw [Int.toNat_natCast]
  by_cases c : (tl s).head? = some 48
  · rw [h3 c]; decide +kernel
  · have key := toDigits_digitsVal' h4 h1 c
    exact key
theorem nameW_parts {s : Str} (h : isNameW s = true) : (1 ≤ (tl s).length ∧ (tl s).length ≤ 6) ∧ s ∉ PAIRW ∧ s ∉ ROWW ∧ s ∉ OTHW ∧ ∀ c ∈ tl s, 97 ≤ c ∧ c ≤ 122 := by
  unfold isNameW lenOk at h
  simp only [Bool.and_eq_true, decide_eq_true_eq, Bool.not_eq_true', Bool.or_eq_false_iff, decide_eq_false_iff_not] at h
  obtain ⟨⟨⟨h1, h2⟩, h3, h5, h6⟩, h4⟩ := h
  refine ⟨⟨h1, h2⟩, h3, h5, h6, fun c hc => ?_⟩
  have := List.all_eq_true.mp h4 c hc
  unfold isLow at this
  simp only [Bool.and_eq_true, decide_eq_true_eq] at this
  exact this
theorem name_not_val {s : Str} (h : isNameW s = true) : isValW s = false := by
  obtain ⟨⟨h1, _⟩, _, _, _, h4⟩ := nameW_parts h
  cases c : isValW s with
  | false => rfl
  | true =>
    obtain ⟨_, _, h5⟩ := valW_parts c
    cases q : tl s with
    | nil => rw [q] at h1; simp at h1
    | cons x r =>
      have a1 := h4 x (by rw [q]; exact List.mem_cons_self)
      have a2 := h5 x (by rw [q]; exact List.mem_cons_self)
      omega
theorem val_free {s : Str} {c : Nat} (h : isValW s = true) (hc : c < 48 ∨ 57 < c) : c ∉ tl s := fun hm => by
  obtain ⟨_, _, h5⟩ := valW_parts h
  have a2 := h5 c hm
  omega
theorem name_free {s : Str} {c : Nat} (h : isNameW s = true) (hc : c < 97 ∨ 122 < c) : c ∉ tl s := fun hm => by
  obtain ⟨_, _, _, _, h4⟩ := nameW_parts h
  have a1 := h4 c hm
  omega
theorem pair_free : ∀ s ∈ PAIRW, ∀ c ∈ tl s, 97 ≤ c ∧ c ≤ 122 := by decide +kernel
theorem pair_not_val : ∀ s ∈ PAIRW, isValW s = false ∧ isNameW s = false ∧ s ≠ "cell" ∧ (tl s).length ≤ 6 := by decide +kernel
theorem cell_not : isValW "cell" = false ∧ isNameW "cell" = false := by decide +kernel
/-! ### expressions -/
inductive Ex where
  | num (n : Int)
  | box (s : Str)
  | cell (e : Ex)
  | two (w : Str) (l r : Ex)
namespace Ex
def depth : Ex → Nat
  | num _ => 1
  | box _ => 1
  | cell e => e.depth + 1
  | two _ l r => max l.depth r.depth + 1
def parts : Ex → Nat
  | num _ => 1
  | box _ => 1
  | cell e => 1 + e.parts
  | two _ l r => 1 + l.parts + r.parts
def toks : Ex → List Str
  | num n => [numT n]
  | box s => [s]
  | cell e => "cell" :: e.toks
  | two w l r => w :: (l.toks ++ r.toks)
def Wf : Ex → Prop
  | num n => 0 ≤ n ∧ n < 1000000
  | box s => isNameW s = true
  | cell e => e.Wf
  | two w l r => w ∈ PAIRW ∧ l.Wf ∧ r.Wf
def told : Ex → PyData
  | num n => .tuple [.str "number", .int n]
  | box s => .tuple [.str "box", .str s]
  | cell e => .tuple [.str "cell", e.told]
  | two w l r => .tuple [.str w, l.told, r.told]
theorem depth_pos : ∀ e : Ex, 1 ≤ e.depth
  | num _ => Nat.le_refl 1
  | box _ => Nat.le_refl 1
  | cell _ => Nat.le_add_left _ _
  | two _ _ _ => Nat.le_add_left _ _
theorem parts_pos : ∀ e : Ex, 1 ≤ e.parts
  | num _ => Nat.le_refl 1
  | box _ => Nat.le_refl 1
  | cell _ => Nat.le_add_right _ _
  | two _ _ _ => Nat.le_trans (Nat.le_add_right 1 _) (Nat.le_add_right _ _)
theorem toks_len : ∀ e : Ex, e.toks.length = e.parts
  | num _ => rfl
  | box _ => rfl
  | cell e => by show e.toks.length + 1 = 1 + e.parts; rw [toks_len e]; omega
  | two w l r => by
    show (l.toks ++ r.toks).length + 1 = 1 + l.parts + r.parts
    rw [List.length_append, toks_len l, toks_len r]; omega
theorem parts_depth : ∀ e : Ex, e.depth ≤ e.parts
  | num _ => Nat.le_refl 1
  | box _ => Nat.le_refl 1
  | cell e => by have := parts_depth e; show e.depth + 1 ≤ 1 + e.parts; omega
  | two w l r => by have := parts_depth l; have := parts_depth r; show max l.depth r.depth + 1 ≤ 1 + l.parts + r.parts; omega
theorem toks_ok : ∀ {e : Ex}, e.Wf → ∀ s ∈ e.toks, (tl s).length ≤ 6 ∧ ∀ c ∈ tl s, (48 ≤ c ∧ c ≤ 57) ∨ (97 ≤ c ∧ c ≤ 122)
  | num n, h, s, hs => by
    rw [List.mem_singleton.mp hs]
    obtain ⟨⟨_, h2⟩, _, h4⟩ := valW_parts (numT_valW h.1 h.2).1
    exact ⟨h2, fun c hc => .inl (h4 c hc)⟩
  | box b, h, s, hs => by
    rw [List.mem_singleton.mp hs]
    obtain ⟨⟨_, h2⟩, _, _, _, h4⟩ := nameW_parts h
    exact ⟨h2, fun c hc => .inr (h4 c hc)⟩
  | cell e, h, s, hs => by
    rcases List.mem_cons.mp hs with rfl | hs
    · exact ⟨by decide +kernel, fun c hc => .inr ((by decide +kernel : ∀ c ∈ tl (Str.ofString "cell"), 97 ≤ c ∧ c ≤ 122) c hc)⟩
    · exact toks_ok (e := e) h s hs
  | two w l r, h, s, hs => by
    rcases List.mem_cons.mp hs with rfl | hs
    · exact ⟨(pair_not_val _ h.1).2.2.2, fun c hc => .inr (pair_free _ h.1 c hc)⟩
    · rcases List.mem_append.mp hs with hs | hs
      · exact toks_ok (e := l) h.2.1 s hs
      · exact toks_ok (e := r) h.2.2 s hs
end Ex
/-- the expression that begins the words, of at most so many parts within one another; what is behind it -/
def parseE : Nat → List Str → Option (Ex × List Str)
  | 0, _ => none
  | _ + 1, [] => none
  | d + 1, w :: r =>
    if isValW w = true then some (.num (valOf w), r)
    else if isNameW w = true then some (.box w, r)
    else if w = "cell" then (match parseE d r with
      | none => none
      | some (e, r1) => some (.cell e, r1))
    else if w ∈ PAIRW then (match parseE d r with
      | none => none
      | some (l, r1) => (match parseE d r1 with
        | none => none
        | some (e, r2) => some (.two w l e, r2)))
    else none
theorem parse_toks : ∀ {d : Nat} {e : Ex}, e.Wf → e.depth ≤ d → ∀ r, parseE d (e.toks ++ r) = some (e, r)
  | 0, e, _, hd, _ => absurd (e.depth_pos) (by omega)
  | d + 1, .num n, h, _, r => by
    have q := numT_valW h.1 h.2
    show parseE (d + 1) (numT n :: r) = _
    unfold parseE
    rw [if_pos q.1, q.2]
  | d + 1, .box s, h, _, r => by
    show parseE (d + 1) (s :: r) = _
    unfold parseE
    rw [if_neg (by rw [name_not_val h]; decide), if_pos (show isNameW s = true from h)]
  | d + 1, .cell e, h, hd, r => by
    show parseE (d + 1) ("cell" :: (e.toks ++ r)) = _
    unfold parseE
    rw [if_neg (by rw [cell_not.1]; decide), if_neg (by rw [cell_not.2]; decide), if_pos rfl, parse_toks (d := d) (e := e) h (by have : e.depth + 1 ≤ d + 1 := hd; omega) r]
  | d + 1, .two w l e, h, hd, r => by
    obtain ⟨hw, hl, he⟩ := h
    have hd' : max l.depth e.depth + 1 ≤ d + 1 := hd
    obtain ⟨q1, q2, q3, _⟩ := pair_not_val w hw
    show parseE (d + 1) (w :: ((l.toks ++ e.toks) ++ r)) = _
    unfold parseE
    rw [if_neg (by rw [q1]; decide), if_neg (by rw [q2]; decide), if_neg q3, if_pos hw, List.append_assoc, parse_toks (d := d) hl (by omega) (e.toks ++ r)]
    show (match parseE d (e.toks ++ r) with | none => none | some (e, r2) => some (Ex.two w l e, r2)) = _
    rw [parse_toks (d := d) he (by omega) r]
theorem parse_wf : ∀ {d : Nat} {ws : List Str} {e : Ex} {r : List Str}, parseE d ws = some (e, r) → e.Wf ∧ e.depth ≤ d ∧ ws = e.toks ++ r
  | 0, _, _, _, h => by simp [parseE] at h
  | _ + 1, [], _, _, h => by simp [parseE] at h
  | d + 1, w :: t, e, r, h => by
    unfold parseE at h
    by_cases c1 : isValW w = true
    · rw [if_pos c1] at h
      cases h
      obtain ⟨_, _, h3, h4⟩ := valW_int c1
      exact ⟨⟨h3, h4⟩, Nat.le_add_left _ _, by show w :: t = [numT (valOf w)] ++ t; rw [valW_canon c1]; rfl⟩
    rw [if_neg c1] at h
    by_cases c2 : isNameW w = true
    · rw [if_pos c2] at h
      cases h
      exact ⟨c2, Nat.le_add_left _ _, rfl⟩
    rw [if_neg c2] at h
    by_cases c3 : w = "cell"
    · rw [if_pos c3] at h
      cases q : parseE d t with
      | none => rw [q] at h; cases h
      | some p =>
        obtain ⟨e1, r1⟩ := p
        rw [q] at h
        cases h
        obtain ⟨a1, a2, a3⟩ := parse_wf q
        exact ⟨a1, Nat.succ_le_succ a2, by rw [c3, a3]; rfl⟩
    rw [if_neg c3] at h
    by_cases c4 : w ∈ PAIRW
    · rw [if_pos c4] at h
      cases q : parseE d t with
      | none => rw [q] at h; cases h
      | some p =>
        obtain ⟨e1, r1⟩ := p
        rw [q] at h
        simp only at h
        cases q2 : parseE d r1 with
        | none => rw [q2] at h; cases h
        | some p2 =>
          obtain ⟨e2, r2⟩ := p2
          rw [q2] at h
          cases h
          obtain ⟨a1, a2, a3⟩ := parse_wf q
          obtain ⟨b1, b2, b3⟩ := parse_wf q2
          exact ⟨⟨c4, a1, b1⟩, by show max e1.depth e2.depth + 1 ≤ d + 1; omega, by rw [a3, b3]; show _ = w :: (e1.toks ++ e2.toks) ++ r; rw [List.cons_append, List.append_assoc]⟩
    · rw [if_neg c4] at h; cases h
/-- all the expressions of a row of words -/
def parseAll : Nat → List Str → Option (List Ex)
  | _, [] => some []
  | 0, _ :: _ => none
  | n + 1, ws => match parseE 6 ws with
    | none => none
    | some (e, r) => if e.parts ≤ 15 then (match parseAll n r with
      | none => none
      | some es => some (e :: es)) else none

/-! ### objects -/
structure EC where
  num : Addr
  box : Addr
  cell : Addr
  two : Addr
def EC.Fam (c : EC) (C : Addr) : Prop := C = c.num ∨ C = c.box ∨ C = c.cell ∨ C = c.two
def EC.of (c : EC) : Ex → Addr
  | .num _ => c.num
  | .box _ => c.box
  | .cell _ => c.cell
  | .two _ _ _ => c.two
theorem EC.fam (c : EC) : ∀ e : Ex, c.Fam (c.of e)
  | .num _ => .inl rfl
  | .box _ => .inr (.inl rfl)
  | .cell _ => .inr (.inr (.inl rfl))
  | .two _ _ _ => .inr (.inr (.inr rfl))
def fNum (n : Int) : List (Str × V) := [("value", .int n)]
def fBox (s : Str) : List (Str × V) := [("name", .str s)]
def fCell (i : V) : List (Str × V) := [("inner", i)]
def fTwo (w : Str) (a b : V) : List (Str × V) := [("word", .str w), ("left", a), ("right", b)]
/-- v is an object of the expression e -/
def ObjE (c : EC) (H : Hp) : Ex → V → Prop
  | .num n, v => ∃ p dx, v = .ref p ∧ H p = some (.ins c.num dx (fNum n))
  | .box s, v => ∃ p dx, v = .ref p ∧ H p = some (.ins c.box dx (fBox s))
  | .cell e, v => ∃ p dx i, v = .ref p ∧ H p = some (.ins c.cell dx (fCell i)) ∧ ObjE c H e i
  | .two w l r, v => ∃ p dx a b, v = .ref p ∧ H p = some (.ins c.two dx (fTwo w a b)) ∧ ObjE c H l a ∧ ObjE c H r b
theorem ObjE.same {c : EC} {H H' : Hp} (s : Same H H') : ∀ {e : Ex} {v : V}, ObjE c H e v → ObjE c H' e v
  | .num n, v, ⟨p, dx, h1, h2⟩ => ⟨p, dx, h1, s _ _ h2⟩
  | .box n, v, ⟨p, dx, h1, h2⟩ => ⟨p, dx, h1, s _ _ h2⟩
  | .cell e, v, ⟨p, dx, i, h1, h2, h3⟩ => ⟨p, dx, i, h1, s _ _ h2, ObjE.same s h3⟩
  | .two w l r, v, ⟨p, dx, a, b, h1, h2, h3, h4⟩ => ⟨p, dx, a, b, h1, s _ _ h2, ObjE.same s h3, ObjE.same s h4⟩
abbrev exMeth (m : Str) : Prop := m ∈ (["told", "words", "parts", "levels", "reckon"] : List Str)
theorem look_none {m : Str} (h : exMeth m) : (∀ n, (fNum n).lookup m = none) ∧ (∀ s, (fBox s).lookup m = none) ∧ (∀ i, (fCell i).lookup m = none) ∧ (∀ w a b, (fTwo w a b).lookup m = none) := by
  have n : ∀ k ∈ (["value", "name", "inner", "word", "left", "right"] : List Str), (m == k) = false := by
    intro k hk
    have : ∀ x ∈ (["told", "words", "parts", "levels", "reckon"] : List Str), ∀ y ∈ (["value", "name", "inner", "word", "left", "right"] : List Str), (x == y) = false := by decide +kernel
    exact this m h k hk
  refine ⟨fun z => ?_, fun z => ?_, fun z => ?_, fun w a b => ?_⟩
  · show (match m == "value" with | true => some (V.int z) | false => none) = none
    rw [n "value" (by decide +kernel)]
  · show (match m == "name" with | true => some (V.str z) | false => none) = none
    rw [n "name" (by decide +kernel)]
  · show (match m == "inner" with | true => some z | false => none) = none
    rw [n "inner" (by decide +kernel)]
  · unfold fTwo
    rw [List.lookup_cons, n "word" (by decide +kernel)]
    simp only
    rw [List.lookup_cons, n "left" (by decide +kernel)]
    simp only
    rw [List.lookup_cons, n "right" (by decide +kernel)]
    rfl
theorem ObjE.at {c : EC} {H : Hp} {m : Str} (hm : exMeth m) : ∀ {e : Ex} {v : V}, ObjE c H e v → ∃ p dx fs, v = .ref p ∧ H p = some (.ins (c.of e) dx fs) ∧ fs.lookup m = none
  | .num n, v, ⟨p, dx, h1, h2⟩ => ⟨p, dx, _, h1, h2, (look_none hm).1 _⟩
  | .box n, v, ⟨p, dx, h1, h2⟩ => ⟨p, dx, _, h1, h2, (look_none hm).2.1 _⟩
  | .cell e, v, ⟨p, dx, i, h1, h2, h3⟩ => ⟨p, dx, _, h1, h2, (look_none hm).2.2.1 _⟩
  | .two w l r, v, ⟨p, dx, a, b, h1, h2, h3, h4⟩ => ⟨p, dx, _, h1, h2, (look_none hm).2.2.2 _ _ _⟩
/-! ### data told -/
theorem dp_same {K : PySem.W.Frag} {H H' : Hp} (s : Same H H') {v : V} {d : PyData} (h : Dp K H v d) : Dp K H' v d := by
  refine Dp.rec (motive_1 := fun v d _ => Dp K H' v d) (motive_2 := fun vs ds _ => DpAll K H' vs ds) ?_ ?_ ?_ ?_ ?_ ?_ ?_ ?_ h
  · exact .non
  · exact fun b => .bl b
  · exact fun i => .int i
  · exact fun x => .str x
  · exact fun h1 _ h2 => .lst (s.seq h1) h2
  · exact fun h1 _ h2 => .tup (same_tup s h1) h2
  · exact .nil
  · exact fun _ _ h1 h2 => .cons h1 h2
theorem dpAll_same {K : PySem.W.Frag} {H H' : Hp} (s : Same H H') : ∀ {vs : List V} {ds : List PyData}, DpAll K H vs ds → DpAll K H' vs ds
  | _, _, .nil => .nil
  | _, _, .cons a b => .cons (dp_same s a) (dpAll_same s b)
/-- v is told data, a tuple that stands by itself -/
def TupD (K : PySem.W.Frag) (H : Hp) (v : V) (ds : List PyData) : Prop := ∃ t xs, v = .ref t ∧ H t = some (.tup xs) ∧ DpAll K H xs ds
theorem TupD.dp {K : PySem.W.Frag} {H : Hp} {v : V} {ds : List PyData} (h : TupD K H v ds) : Dp K H v (.tuple ds) := by
  obtain ⟨t, xs, rfl, h1, h2⟩ := h
  exact .tup (SqT.of h1) h2
theorem TupD.same {K : PySem.W.Frag} {H H' : Hp} (s : Same H H') {v : V} {ds : List PyData} (h : TupD K H v ds) : TupD K H' v ds := by
  obtain ⟨t, xs, rfl, h1, h2⟩ := h
  exact ⟨t, xs, rfl, s _ _ h1, dpAll_same s h2⟩
def Ex.items : Ex → List PyData
  | .num n => [.str "number", .int n]
  | .box s => [.str "box", .str s]
  | .cell e => [.str "cell", e.told]
  | .two w l r => [.str w, l.told, r.told]
theorem Ex.told_items : ∀ e : Ex, e.told = .tuple e.items
  | .num _ => rfl
  | .box _ => rfl
  | .cell _ => rfl
  | .two _ _ _ => rfl
/-- v is the told tuple of e: each inner tuple stands by itself -/
def ToldE (K : PySem.W.Frag) (H : Hp) : Ex → V → Prop
  | .num n, v => ∃ t, v = .ref t ∧ H t = some (.tup [.str "number", .int n])
  | .box s, v => ∃ t, v = .ref t ∧ H t = some (.tup [.str "box", .str s])
  | .cell e, v => ∃ t i, v = .ref t ∧ H t = some (.tup [.str "cell", i]) ∧ ToldE K H e i
  | .two w l r, v => ∃ t a b, v = .ref t ∧ H t = some (.tup [.str w, a, b]) ∧ ToldE K H l a ∧ ToldE K H r b
theorem ToldE.same {K : PySem.W.Frag} {H H' : Hp} (s : Same H H') : ∀ {e : Ex} {v : V}, ToldE K H e v → ToldE K H' e v
  | .num n, v, ⟨p, h1, h2⟩ => ⟨p, h1, s _ _ h2⟩
  | .box n, v, ⟨p, h1, h2⟩ => ⟨p, h1, s _ _ h2⟩
  | .cell e, v, ⟨p, i, h1, h2, h3⟩ => ⟨p, i, h1, s _ _ h2, ToldE.same s h3⟩
  | .two w l r, v, ⟨p, a, b, h1, h2, h3, h4⟩ => ⟨p, a, b, h1, s _ _ h2, ToldE.same s h3, ToldE.same s h4⟩
theorem ToldE.dp {K : PySem.W.Frag} {H : Hp} : ∀ {e : Ex} {v : V}, ToldE K H e v → Dp K H v e.told
  | .num n, v, ⟨p, h1, h2⟩ => by rw [h1]; exact .tup (SqT.of h2) (.cons (.str _) (.cons (.int _) .nil))
  | .box n, v, ⟨p, h1, h2⟩ => by rw [h1]; exact .tup (SqT.of h2) (.cons (.str _) (.cons (.str _) .nil))
  | .cell e, v, ⟨p, i, h1, h2, h3⟩ => by rw [h1]; exact .tup (SqT.of h2) (.cons (.str _) (.cons (ToldE.dp h3) .nil))
  | .two w l r, v, ⟨p, a, b, h1, h2, h3, h4⟩ => by rw [h1]; exact .tup (SqT.of h2) (.cons (.str _) (.cons (ToldE.dp h3) (.cons (ToldE.dp h4) .nil)))
theorem ToldE.ref {K : PySem.W.Frag} {H : Hp} : ∀ {e : Ex} {v : V}, ToldE K H e v → ∃ t xs, v = .ref t ∧ H t = some (.tup xs)
  | .num n, v, ⟨p, h1, h2⟩ => ⟨p, _, h1, h2⟩
  | .box n, v, ⟨p, h1, h2⟩ => ⟨p, _, h1, h2⟩
  | .cell e, v, ⟨p, i, h1, h2, h3⟩ => ⟨p, _, h1, h2⟩
  | .two w l r, v, ⟨p, a, b, h1, h2, h3, h4⟩ => ⟨p, _, h1, h2⟩
theorem strOk_of {s : Str} (h : ∀ c ∈ tl s, c ≤ 122) : PyData.strOk s = true := by
  unfold PyData.strOk
  rw [← Array.all_toList]
  refine List.all_eq_true.mpr fun c hc => ?_
  have := h c hc
  simp only [decide_eq_true_eq]
  omega
theorem Ex.lay : ∀ {e : Ex}, e.Wf → e.told.canLay0 = true
  | .num n, _ => by
    show (PyData.strOk _ && (true && true)) = true
    rw [strOk_of (by decide +kernel)]; rfl
  | .box s, h => by
    obtain ⟨_, _, _, _, h4⟩ := nameW_parts (s := s) h
    show (PyData.strOk _ && (PyData.strOk s && true)) = true
    rw [strOk_of (by decide +kernel), strOk_of fun c hc => (h4 c hc).2]; rfl
  | .cell e, h => by
    have ih := Ex.lay (e := e) h
    show (PyData.strOk _ && (e.told.canLay0 && true)) = true
    rw [strOk_of (by decide +kernel), ih]; rfl
  | .two w l r, h => by
    have h1 := Ex.lay (e := l) h.2.1
    have h2 := Ex.lay (e := r) h.2.2
    show (PyData.strOk w && (l.told.canLay0 && (r.told.canLay0 && true))) = true
    rw [strOk_of fun c hc => (pair_free w h.1 c hc).2, h1, h2]; rfl
theorem Ex.told_depth : ∀ e : Ex, e.told.depth ≤ e.depth
  | .num _ => by show max 0 (max 0 0) + 1 ≤ 1; omega
  | .box _ => by show max 0 (max 0 0) + 1 ≤ 1; omega
  | .cell e => by
    have := Ex.told_depth e
    show max 0 (max e.told.depth 0) + 1 ≤ e.depth + 1; omega
  | .two w l r => by
    have := Ex.told_depth l
    have := Ex.told_depth r
    show max 0 (max l.told.depth (max r.told.depth 0)) + 1 ≤ max l.depth r.depth + 1; omega
theorem Ex.shaped {e : Ex} (h : e.Wf) (hd : e.depth ≤ 60) : SeqAt.shaped e.told = true := by
  have h1 := Ex.lay h
  have h2 := Ex.told_depth e
  show (e.told.canLay0 && decide (e.told.depth ≤ 64)) = true
  rw [h1, decide_eq_true (by omega)]; rfl
theorem Ex.eqv {e : Ex} (h : e.Wf) : PyData.eqv e.told e.told = true := SeqAt.eqv_refl _ (Ex.lay h)
/-! ### texts -/
def Ex.text : Ex → Str
  | .num n => numT n
  | .box s => s
  | .cell e => (Str.ofString "cell ") ++ e.text
  | .two w l r => Txt.join (Str.ofString " ") [w, l.text, r.text]
theorem Ex.text_len : ∀ {e : Ex}, e.Wf → e.text.length + 1 ≤ 7 * e.parts
  | .num n, h => by
    have := Ex.toks_ok (e := .num n) h (numT n) (List.mem_singleton.mpr rfl)
    show (numT n).length + 1 ≤ 7 * 1
    rw [len_tl]; omega
  | .box s, h => by
    have := Ex.toks_ok (e := .box s) h s (List.mem_singleton.mpr rfl)
    show s.length + 1 ≤ 7 * 1
    rw [len_tl]; omega
  | .cell e, h => by
    have ih := Ex.text_len (e := e) h
    show (Str.ofString "cell " ++ e.text).length + 1 ≤ 7 * (1 + e.parts)
    rw [len_tl, tl_append, List.length_append]
    have : (tl (Str.ofString "cell ")).length = 5 := by decide +kernel
    rw [len_tl] at ih
    omega
  | .two w l r, h => by
    have h1 := Ex.text_len (e := l) h.2.1
    have h2 := Ex.text_len (e := r) h.2.2
    have h3 := (pair_not_val w h.1).2.2.2
    have b : (tl (Str.ofString " ")).length = 1 := by decide +kernel
    show (Txt.join (Str.ofString " ") [w, l.text, r.text]).length + 1 ≤ 7 * (1 + l.parts + r.parts)
    rw [join_eq, len_tl, tl_join]
    rw [len_tl] at h1 h2
    simp only [List.map_cons, List.map_nil, joinL, List.length_append, b]
    omega
theorem Ex.text_toks : ∀ {e : Ex}, tl e.text = joinL [32] (e.toks.map tl)
  | .num n => rfl
  | .box s => rfl
  | .cell e => by
    have ih := Ex.text_toks (e := e)
    show tl (Str.ofString "cell " ++ e.text) = joinL [32] ((Str.ofString "cell" :: e.toks).map tl)
    rw [tl_append, ih]
    have c1 : tl (Str.ofString "cell ") = tl (Str.ofString "cell") ++ [32] := by decide +kernel
    rw [c1]
    cases q : e.toks with
    | nil => have := e.toks_len; rw [q] at this; have := e.parts_pos; simp at *; omega
    | cons x r =>
      show _ = tl (Str.ofString "cell") ++ ([32] ++ joinL [32] ((x :: r).map tl))
      rw [List.append_assoc]
  | .two w l r => by
    have h1 := Ex.text_toks (e := l)
    have h2 := Ex.text_toks (e := r)
    show tl (Txt.join (Str.ofString " ") [w, l.text, r.text]) = joinL [32] ((w :: (l.toks ++ r.toks)).map tl)
    have b : tl (Str.ofString " ") = [32] := by decide +kernel
    rw [join_eq, tl_join, b]
    show tl w ++ ([32] ++ (tl l.text ++ ([32] ++ tl r.text))) = _
    rw [h1, h2, List.map_cons, List.map_append]
    have key : ∀ (a b : List (List Nat)), a ≠ [] → b ≠ [] → joinL [32] a ++ ([32] ++ joinL [32] b) = joinL [32] (a ++ b) := by
      intro a
      induction a with
      | nil => intro b h; exact absurd rfl h
      | cons x a ih =>
        intro b _ hb
        cases a with
        | nil =>
          cases b with
          | nil => exact absurd rfl hb
          | cons y b => rfl
        | cons x2 a =>
          have := ih b (by simp) hb
          show (x ++ ([32] ++ joinL [32] (x2 :: a))) ++ _ = x ++ ([32] ++ joinL [32] ((x2 :: a) ++ b))
          rw [← this]
          simp only [List.append_assoc]
    have n1 : l.toks.map tl ≠ [] := fun e => by have := congrArg List.length e; rw [List.length_map, l.toks_len] at this; have := l.parts_pos; simp at *; omega
    have n2 : r.toks.map tl ≠ [] := fun e => by have := congrArg List.length e; rw [List.length_map, r.toks_len] at this; have := r.parts_pos; simp at *; omega
    rw [key _ _ n1 n2]
    cases q : (l.toks.map tl ++ r.toks.map tl) with
    | nil => exact absurd (List.append_eq_nil_iff.mp q).1 n1
    | cons x z => rfl
theorem Ex.split_text {e : Ex} (h : e.Wf) : Txt.split e.text (Str.ofString " ") = e.toks := by
  have b : tl (Str.ofString " ") = 32 :: [] := by decide +kernel
  have ej : e.text = Txt.join (Str.ofString " ") e.toks := by
    refine ext_tl ?_
    rw [join_eq, tl_join, b, Ex.text_toks]
  rw [ej]
  refine split_join b (by decide +kernel) (fun q => ?_) fun p hp => ?_
  · have := e.toks_len; rw [q] at this; have := e.parts_pos; simp at *; omega
  · intro hm
    rcases (Ex.toks_ok h p hp).2 32 hm with c | c <;> omega
/-! ### promises -/
/-- one text in, a truth out; nothing else is touched -/
def spTruthS (f : Str → Bool) : Sp := fun vs H Q _ => ∃ s : Str, vs = [.str s] ∧ s.length ≤ 100000 ∧ ∀ H', Same H H' → Q (.bl (f s)) H'
def spInit1 (C : Addr) (f : Str) : Sp := fun vs H Q _ => ∃ (p dx : Addr) (x : V), vs = [.ref p, x] ∧ H p = some (.ins C dx []) ∧ Q .non (upd H p (.ins C dx [(f, x)]))
def spTwoI (C : Addr) : Sp := fun vs H Q _ => ∃ (p dx : Addr) (w : Str) (a b : V), vs = [.ref p, .str w, a, b] ∧ H p = some (.ins C dx []) ∧ Q .non (upd H p (.ins C dx (fTwo w a b)))
def spTold (K : PySem.W.Frag) (c : EC) (n : Nat) (C : Addr) : Sp := fun vs H Q _ => ∃ (e : Ex) (v : V), vs = [v] ∧ ObjE c H e v ∧ c.of e = C ∧ e.depth ≤ n ∧ ∀ r H', Same H H' → ToldE K H' e r → Q r H'
def spWords (c : EC) (n : Nat) (C : Addr) : Sp := fun vs H Q _ => ∃ (e : Ex) (v : V), vs = [v] ∧ ObjE c H e v ∧ c.of e = C ∧ e.depth ≤ n ∧ e.Wf ∧ e.parts ≤ 1000 ∧ ∀ H', Same H H' → Q (.str e.text) H'
def spParts (c : EC) (n : Nat) (C : Addr) : Sp := fun vs H Q _ => ∃ (e : Ex) (v : V), vs = [v] ∧ ObjE c H e v ∧ c.of e = C ∧ e.depth ≤ n ∧ Q (.int e.parts) H
def spExprAt (K : PySem.W.Frag) (c : EC) (N : Addr) (n : Nat) : Sp := fun vs H Q E => ∃ (a : Addr) (ws : List Str) (i d : Nat), vs = [.ref a, .int i, .int (7 - (d : Int))] ∧ SqL K H a (ws.map V.str) ∧ ws.length ≤ 100000 ∧ (∀ s ∈ ws, s.length ≤ 100000) ∧ d < n ∧ d ≤ 7 ∧
  (∀ e r, parseE d (ws.drop i) = some (e, r) → ∀ t H' v, Same H H' → H' t = some (.tup [v, .int ((ws.length - r.length : Nat) : Int)]) → ObjE c H' e v → Q (.ref t) H') ∧
  (parseE d (ws.drop i) = none → ∀ H', Same H H' → E (.ref N) none H')
inductive AllE (c : EC) (H : Hp) : List Ex → List V → Prop where
  | nil : AllE c H [] []
  | cons {e : Ex} {v : V} {es : List Ex} {vs : List V} : ObjE c H e v → AllE c H es vs → AllE c H (e :: es) (v :: vs)
theorem AllE.same {c : EC} {H H' : Hp} (s : Same H H') : ∀ {es : List Ex} {vs : List V}, AllE c H es vs → AllE c H' es vs
  | _, _, .nil => .nil
  | _, _, .cons a b => .cons (a.same s) (b.same s)
theorem AllE.snoc {c : EC} {H : Hp} {e : Ex} {v : V} (h : ObjE c H e v) : ∀ {es : List Ex} {vs : List V}, AllE c H es vs → AllE c H (es ++ [e]) (vs ++ [v])
  | _, _, .nil => .cons h .nil
  | _, _, .cons a b => .cons a (b.snoc h)
theorem AllE.length {c : EC} {H : Hp} : ∀ {es : List Ex} {vs : List V}, AllE c H es vs → es.length = vs.length
  | _, _, .nil => rfl
  | _, _, .cons _ b => congrArg (· + 1) b.length
def spExprs (K : PySem.W.Frag) (c : EC) (N : Addr) : Sp := fun vs H Q E => ∃ (a : Addr) (ws : List Str), vs = [.ref a] ∧ SqL K H a (ws.map V.str) ∧ ws.length ≤ 100000 ∧ (∀ s ∈ ws, s.length ≤ 100000) ∧
  (∀ es, parseAll ws.length ws = some es → ∀ l H' os, Same H H' → H l = none → H' l = some (.lst os) → AllE c H' es os → Q (.ref l) H') ∧ (parseAll ws.length ws = none → ∀ H', Same H H' → E (.ref N) none H')
def spReadE (c : EC) (N : Addr) : Sp := fun vs H Q E => ∃ (s : Str), vs = [.str s] ∧ s.length ≤ 99999 ∧
  (∀ e, parseAll (Txt.split s " ").length (Txt.split s " ") = some [e] → ∀ v H', Same H H' → ObjE c H' e v → Q v H') ∧
  ((∀ e, parseAll (Txt.split s " ").length (Txt.split s " ") ≠ some [e]) → ∀ H', Same H H' → E (.ref N) none H')
def spReadAny (K : PySem.W.Frag) (c : EC) (N : Addr) : Sp := fun vs H Q E => ∃ x : V, vs = [x] ∧ ((∃ (s : Str), x = .str s ∧ s.length ≤ 99999 ∧
  (∀ e, parseAll (Txt.split s " ").length (Txt.split s " ") = some [e] → ∀ v H', Same H H' → ObjE c H' e v → Q v H') ∧
  ((∀ e, parseAll (Txt.split s " ").length (Txt.split s " ") ≠ some [e]) → ∀ H', Same H H' → E (.ref N) none H')) ∨
  (∃ t, TyX K H x t ∧ PySem.W.kitOne K t (.type "str") = some false ∧ E (.ref N) none H))

theorem valW_false1 {s : Str} (h : ¬ 1 ≤ (tl s).length ∨ ¬ (tl s).length ≤ 6) : isValW s = false := by
  unfold isValW lenOk
  rcases h with h | h
  · rw [decide_eq_false h]; rfl
  · rw [decide_eq_false h, Bool.and_false]; rfl
theorem valW_false2 {s : Str} (h : (tl s).head? = some 48) (h2 : s ≠ "0") : isValW s = false := by
  unfold isValW
  have e : ((tl s).head? == some 48) = true := by rw [h]; rfl
  rw [e, decide_eq_true h2]
  simp
theorem valW_true {s : Str} (h1 : 1 ≤ (tl s).length) (h2 : (tl s).length ≤ 6) (h3 : (tl s).head? = some 48 → s = "0") : isValW s = (tl s).all isDig := by
  unfold isValW lenOk
  rw [decide_eq_true h1, decide_eq_true h2]
  by_cases c : (tl s).head? = some 48
  · rw [h3 c, decide_eq_false (fun e => e rfl)]; simp
  · have e : ((tl s).head? == some 48) = false := beq_eq_false_iff_ne.mpr c
    rw [e]; simp
theorem nameW_false1 {s : Str} (h : ¬ 1 ≤ (tl s).length ∨ ¬ (tl s).length ≤ 6) : isNameW s = false := by
  unfold isNameW lenOk
  rcases h with h | h
  · rw [decide_eq_false h]; rfl
  · rw [decide_eq_false h, Bool.and_false]; rfl
theorem nameW_false2 {s : Str} (h : s ∈ PAIRW ∨ s ∈ ROWW ∨ s ∈ OTHW) : isNameW s = false := by
  unfold isNameW
  have e : (decide (s ∈ PAIRW) || (decide (s ∈ ROWW) || decide (s ∈ OTHW))) = true := by
    rcases h with h | h | h <;> simp [h]
  rw [e]; simp
theorem nameW_true {s : Str} (h1 : 1 ≤ (tl s).length) (h2 : (tl s).length ≤ 6) (h3 : s ∉ PAIRW) (h4 : s ∉ ROWW) (h5 : s ∉ OTHW) : isNameW s = (tl s).all isLow := by
  unfold isNameW lenOk
  rw [decide_eq_true h1, decide_eq_true h2, decide_eq_false h3, decide_eq_false h4, decide_eq_false h5]; simp
theorem len_line {s : Str} (h : s.length ≤ 100000) : s.length ≤ sizeLine := Nat.le_trans h (by decide)

theorem log_small {n : Nat} (h : n < 2 ^ 20) : n.log2 < 1920 := by
  by_cases h0 : n = 0
  · subst h0; decide
  · exact Nat.lt_of_lt_of_le ((Nat.log2_lt h0).mpr h) (by decide)

theorem while_m {c : TT} {tb : TS} {D : Ends} {σ : St} {H : Hp} (Pv : Nat → St → Hp → Prop) (m0 : Nat) (h0 : Pv m0 σ H)
    (hs : ∀ m σ H, Pv m σ H → c σ H fun b H1 => if b = true then ∃ N : St → Hp → Prop, (∀ σ' H', N σ' H' → ∃ m', m' < m ∧ Pv m' σ' H') ∧ tb { D with nx := N, ct := N, bk := D.nx } σ H1 else D.nx σ H1) : tWhile c tb D σ H := ⟨Pv, ⟨m0, h0⟩, hs⟩
theorem made_same {H : Hp} {x dx : Addr} {o o1 o2 : HO} (hx : H x = none) (hd : H dx = none) : Same H (upd (upd (upd H dx o) x o1) x o2) := fun b u e => by
  have n1 : b ≠ x := ne_of_none e hx
  rw [upd_ne n1, upd_ne n1, upd_ne (ne_of_none e hd)]
  exact e
theorem mk_init {C : Addr} {f : Str} {H : Hp} {v : V} {Q : Hp → Prop} {E : XK} {x dx : Addr} (hx : H x = none) (hd : H dx = none) (k : ∀ H', Same H H' → H' x = some (.ins C dx [(f, v)]) → Q H') :
    spInit1 C f [.ref x, v] (upd (upd H dx (.own x)) x (.ins C dx [])) (fun v H2 => v = .non ∧ Q H2) E :=
  ⟨x, dx, v, rfl, upd_same, rfl, k _ (made_same hx hd) upd_same⟩
theorem mk_two {C : Addr} {H : Hp} {wd : Str} {a b : V} {Q : Hp → Prop} {E : XK} {x dx : Addr} (hx : H x = none) (hd : H dx = none) (k : ∀ H', Same H H' → H' x = some (.ins C dx (fTwo wd a b)) → Q H') :
    spTwoI C [.ref x, .str wd, a, b] (upd (upd H dx (.own x)) x (.ins C dx [])) (fun v H2 => v = .non ∧ Q H2) E :=
  ⟨x, dx, wd, a, b, rfl, upd_same, rfl, k _ (made_same hx hd) upd_same⟩
theorem parse_len {d : Nat} {ws : List Str} {e : Ex} {r : List Str} (h : parseE d ws = some (e, r)) : r.length < ws.length ∧ ws.drop (ws.length - r.length) = r := by
  obtain ⟨_, _, h3⟩ := parse_wf h
  have n1 := e.toks_len
  have n2 := e.parts_pos
  have hl : ws.length = e.toks.length + r.length := by rw [h3, List.length_append]
  refine ⟨by omega, ?_⟩
  have e1 : ws.length - r.length = e.toks.length := by omega
  rw [e1, h3, List.drop_left]
theorem parse_at {d i : Nat} {ws : List Str} {e : Ex} {r : List Str} (h : parseE d (ws.drop i) = some (e, r)) : i < ws.length - r.length ∧ ws.length - r.length ≤ ws.length ∧ ws.drop (ws.length - r.length) = r := by
  obtain ⟨_, _, h3⟩ := parse_wf h
  have n1 := e.toks_len
  have n2 := e.parts_pos
  have hl : (ws.drop i).length = e.toks.length + r.length := by rw [h3, List.length_append]
  rw [List.length_drop] at hl
  refine ⟨by omega, Nat.sub_le _ _, ?_⟩
  have e1 : ws.length - r.length = i + e.toks.length := by omega
  rw [e1, ← List.drop_drop, h3, List.drop_left]
theorem at_str {ws : List Str} {i : Nat} {s : Str} {r : List Str} (h : ws.drop i = s :: r) : i < ws.length ∧ atI (ws.map V.str) (i : Int) = some (.str s) ∧ ws.drop (i + 1) = r ∧ r.length = ws.length - (i + 1) ∧ s ∈ ws := by
  have hl : (ws.drop i).length = r.length + 1 := by rw [h]; rfl
  rw [List.length_drop] at hl
  have hi : i < ws.length := by omega
  have e1 : ws.drop i = ws[i] :: ws.drop (i + 1) := List.drop_eq_getElem_cons hi
  rw [h, List.cons.injEq] at e1
  refine ⟨hi, atI_nat (by rw [List.getElem?_map, List.getElem?_eq_getElem hi, ← e1.1]; rfl), e1.2.symm, by omega, ?_⟩
  rw [e1.1]; exact List.getElem_mem hi
theorem parseE_cons {d : Nat} {w : Str} {r : List Str} : parseE (d + 1) (w :: r) = (if isValW w = true then some (.num (valOf w), r)
    else if isNameW w = true then some (.box w, r)
    else if w = "cell" then (match parseE d r with
      | none => none
      | some (e, r1) => some (.cell e, r1))
    else if w ∈ PAIRW then (match parseE d r with
      | none => none
      | some (l, r1) => (match parseE d r1 with
        | none => none
        | some (e, r2) => some (.two w l e, r2)))
    else none) := rfl
theorem parseAll_fuel : ∀ (n : Nat) (ws : List Str), ws.length ≤ n → parseAll n ws = parseAll ws.length ws := by
  intro n
  induction n using Nat.strongRecOn with
  | _ n ih =>
    intro ws h
    cases ws with
    | nil => cases n <;> rfl
    | cons x t =>
      cases n with
      | zero => simp at h
      | succ n =>
        show (match parseE 6 (x :: t) with | none => none | some (e, r) => if e.parts ≤ 15 then (match parseAll n r with | none => none | some es => some (e :: es)) else none) = parseAll (t.length + 1) (x :: t)
        show _ = (match parseE 6 (x :: t) with | none => none | some (e, r) => if e.parts ≤ 15 then (match parseAll t.length r with | none => none | some es => some (e :: es)) else none)
        cases q : parseE 6 (x :: t) with
        | none => rfl
        | some p =>
          obtain ⟨e, r⟩ := p
          have hr := (parse_len q).1
          have hr' : r.length < t.length + 1 := hr
          have ht : t.length + 1 ≤ n + 1 := h
          show (if e.parts ≤ 15 then (match parseAll n r with | none => none | some es => some (e :: es)) else none) = (if e.parts ≤ 15 then (match parseAll t.length r with | none => none | some es => some (e :: es)) else none)
          rw [ih n (by omega) r (by omega)]
          by_cases c : t.length = n
          · rw [c, ih n (by omega) r (by omega)]
          · rw [ih t.length (by omega) r (by omega)]
/-- the words from here on, in one step -/
theorem parseAll_step {x : Str} {t : List Str} : parseAll (x :: t).length (x :: t) = (match parseE 6 (x :: t) with | none => none | some (e, r) => if e.parts ≤ 15 then (match parseAll r.length r with | none => none | some es => some (e :: es)) else none) := by
  show (match parseE 6 (x :: t) with | none => none | some (e, r) => if e.parts ≤ 15 then (match parseAll t.length r with | none => none | some es => some (e :: es)) else none) = _
  cases q : parseE 6 (x :: t) with
  | none => rfl
  | some p =>
    obtain ⟨e, r⟩ := p
    have hr := (parse_len q).1
    have hr' : r.length < t.length + 1 := hr
    show (if e.parts ≤ 15 then (match parseAll t.length r with | none => none | some es => some (e :: es)) else none) = (if e.parts ≤ 15 then (match parseAll r.length r with | none => none | some es => some (e :: es)) else none)
    rw [parseAll_fuel t.length r (by omega)]
def after (es : List Ex) : Option (List Ex) → Option (List Ex)
  | none => none
  | some fs => some (es ++ fs)

theorem objE_upd {c : EC} {H : Hp} {l : Addr} {xs ys : List V} (h : H l = some (.lst xs)) : ∀ {e : Ex} {v : V}, ObjE c H e v → ObjE c (upd H l (.lst ys)) e v
  | .num n, v, ⟨p, dx, h1, h2⟩ => ⟨p, dx, h1, by rw [upd_ne (ne_of h2 h (by intro z; cases z))]; exact h2⟩
  | .box n, v, ⟨p, dx, h1, h2⟩ => ⟨p, dx, h1, by rw [upd_ne (ne_of h2 h (by intro z; cases z))]; exact h2⟩
  | .cell e, v, ⟨p, dx, i, h1, h2, h3⟩ => ⟨p, dx, i, h1, by rw [upd_ne (ne_of h2 h (by intro z; cases z))]; exact h2, objE_upd h h3⟩
  | .two w l r, v, ⟨p, dx, a, b, h1, h2, h3, h4⟩ => ⟨p, dx, a, b, h1, by rw [upd_ne (ne_of h2 h (by intro z; cases z))]; exact h2, objE_upd h h3, objE_upd h h4⟩
theorem allE_upd {c : EC} {H : Hp} {l : Addr} {xs ys : List V} (h : H l = some (.lst xs)) : ∀ {es : List Ex} {vs : List V}, AllE c H es vs → AllE c (upd H l (.lst ys)) es vs
  | _, _, .nil => .nil
  | _, _, .cons a b => .cons (objE_upd h a) (allE_upd h b)
theorem allE_snoc_upd {c : EC} {H : Hp} {l : Addr} {xs ys : List V} {e : Ex} {v : V} {es : List Ex} {vs : List V} (h : H l = some (.lst xs)) (a : AllE c H es vs) (o : ObjE c H e v) : AllE c (upd H l (.lst ys)) (es ++ [e]) (vs ++ [v]) := (allE_upd h a).snoc (objE_upd h o)

theorem joinL_len : ∀ L : List (List Nat), L.length ≤ (joinL [32] L).length + 1 ∧ ∀ p ∈ L, p.length ≤ (joinL [32] L).length
  | [] => ⟨Nat.zero_le _, fun _ h => by cases h⟩
  | [x] => ⟨by simp, fun p h => by rw [List.mem_singleton.mp h]; exact Nat.le_refl _⟩
  | x :: y :: r => by
    have ih := joinL_len (y :: r)
    have e : joinL [32] (x :: y :: r) = x ++ ([32] ++ joinL [32] (y :: r)) := rfl
    rw [e, List.length_append, List.length_append]
    refine ⟨by have := ih.1; simp only [List.length_cons, List.length_nil] at this ⊢; omega, fun p h => ?_⟩
    rcases List.mem_cons.mp h with rfl | h
    · omega
    · have := ih.2 p h; omega
theorem split_small {s : Str} (h : s.length ≤ 100000 - 1) : (Txt.split s " ").length ≤ 100000 ∧ ∀ p ∈ Txt.split s " ", p.length ≤ 100000 := by
  have e := PySem.StrLaws.join_split s (Str.ofString " ")
  have e2 := congrArg tl e
  have b : tl (Str.ofString " ") = [32] := by decide +kernel
  rw [tl_join, b] at e2
  have q := joinL_len ((Txt.split s (Str.ofString " ")).map tl)
  rw [e2, List.length_map, ← len_tl s] at q
  refine ⟨by have := q.1; omega, fun p hp => ?_⟩
  have := q.2 (tl p) (List.mem_map.mpr ⟨p, hp, rfl⟩)
  rw [← len_tl p] at this
  omega

/-- all([sign in F for sign in s]) -/
theorem rd_all {K : PySem.W.Frag} {σ : St} {H : Hp} {s F : Str} {f : Nat → Bool} {Q : VK} {i j : Nat} (hi : σ[i]? = some (some (.str s))) (hj : j < σ.length) (hn : j ≠ i) (hl : s.length ≤ 16000000) (hf : ∀ c, decide (c ∈ F.cps.toList) = f c)
    (q : ∀ H', Same H H' → Q (.bl ((tl s).all f)) H') :
    tCB (rAll K) (tCons (tLc (iStr (tVar i)) (gName j) tYes (tOp (fun x y H Q => ∃ (c : Nat) (z : Str), x = .str ⟨#[c]⟩ ∧ y = .str z ∧ Q (.bl (decide (c ∈ z.cps.toList))) H) (tVar j) (tC (.str F))) [j]) tNil) σ H Q := by
  refine ⟨_, hi, s, rfl, fun D hD => lc_it walk_str (fun k H' => H' D = some (.lst ((((tl s).take k).map f).map V.bl)) ∧ Same H H') ⟨by rw [upd_same]; rfl, same_new hD⟩ (fun _ _ _ _ => trivial) ?_ ?_⟩
  · rintro k x H1 H2 hk ⟨h1, h2⟩ ⟨rfl, c, hc, rfl⟩
    have hjl : (wipe σ [j]).length = σ.length := wipe_length _ _
    refine ⟨by show ((σ.set j none).set j _).set j none = _; simp [wipe], ?_⟩
    refine ⟨_, by rw [List.getElem?_set_self (by rw [hjl]; exact hj)], c, F, rfl, rfl, ?_⟩
    have hs : k < (tl s).length := by
      have : s.cps.size = (tl s).length := by simp [tl]
      omega
    refine ⟨_, h1, ?_, ?_⟩
    · rw [List.length_map, List.length_map]
      have : s.length = (tl s).length := len_tl s
      refine Nat.lt_of_le_of_lt (List.length_take_le _ _) (by show k < 16777216; omega)
    · refine ⟨?_, fun b o e => ?_⟩
      · rw [upd_same]
        have e1 : (tl s)[k]? = some c := by rw [← hc]; simp [tl]
        rw [List.take_add_one, e1, hf c]
        simp
      · rw [upd_ne (ne_of_none e hD)]
        exact h2 b o e
  · rintro H' ⟨h1, h2⟩
    have hs : s.cps.size = (tl s).length := by simp [tl]
    rw [hs, List.take_length] at h1
    refine ⟨D, _, rfl, SqL.of h1, ?_⟩
    have e : ((tl s).map f).all id = (tl s).all f := by rw [List.all_map]; rfl
    rw [e]
    exact q H' h2

def spCell (K : PySem.W.Frag) : Sp := fun vs H Q _ => ∃ (a : Addr) (ns : List Int) (k : Int), vs = [.ref a, .int k] ∧ SqL K H a (ns.map V.int) ∧ 0 ≤ k ∧ ∀ n : Int, Q (.int n) H
/-- two ints go in, some int comes out -/
def spI2 : Sp := fun vs H Q _ => ∃ (a b : Int), vs = [.int a, .int b] ∧ ∀ n : Int, Q (.int n) H
def WellAt (H : Hp) (p : Addr) : Prop := ∃ a b c d : Int, H p = some (.lst [.int a, .int b, .int c, .int d])
def spWell (K : PySem.W.Frag) : Sp := fun vs H Q _ => ∃ (a : Addr) (ns : List Int) (k : Int), vs = [.ref a, .int k] ∧ SqL K H a (ns.map V.int) ∧ 0 ≤ k ∧ ∀ p H', H p = none → Same H H' → WellAt H' p → Q (.ref p) H'
def spDraw : Sp := fun vs H Q _ => ∃ (p : Addr) (m : Int), vs = [.ref p, .int m] ∧ WellAt H p ∧ 0 < m ∧ m ≤ 1000000 ∧ ∀ (n : Int) H', 0 ≤ n → n < m → KeepX p H H' → WellAt H' p → Q (.int n) H'
theorem at_int {ns : List Int} {k : Int} (h0 : 0 ≤ k) (h : k < (ns.length : Int)) : ∃ v : Int, atI (ns.map V.int) k = some (.int v) := by
  have hk : k.toNat < ns.length := by omega
  have ek : k = ((k.toNat : Nat) : Int) := by omega
  have q : atI (ns.map V.int) ((k.toNat : Nat) : Int) = some (.int ns[k.toNat]) := atI_nat (by rw [List.getElem?_map, List.getElem?_eq_getElem hk] <;> rfl)
  rw [← ek] at q
  exact ⟨_, q⟩
theorem mod64 {x y : Int} : CMul (x % 2147483647) y := Or.inl ⟨by omega, by omega⟩
theorem WellAt.ne {H : Hp} {p t : Addr} (W : WellAt H p) {o : HO} (h : H t = some o) (no : ∀ xs, o ≠ .lst xs) : t ≠ p := fun e => by
  obtain ⟨a, b, c, d, w⟩ := W
  rw [e, w] at h
  exact no _ (Option.some.inj h).symm
theorem KeepX.tup {p : Addr} {H H' : Hp} (k : KeepX p H H') (W : WellAt H p) {t : Addr} {xs : List V} (h : H t = some (.tup xs)) : H' t = some (.tup xs) := k _ _ (W.ne h (by intro _ e; cases e)) h
theorem WellAt.fresh {H : Hp} {p q : Addr} (W : WellAt H p) (h : H q = none) : q ≠ p := fun e => by
  obtain ⟨_, _, _, _, w⟩ := W
  rw [← e, h] at w; cases w
theorem WellAt.same {H H' : Hp} {p : Addr} (s : Same H H') : WellAt H p → WellAt H' p := fun ⟨a, b, c, d, w⟩ => ⟨a, b, c, d, s _ _ w⟩
/-- f i for all i below n -/
def seqV (f : Nat → V) (n : Nat) : List V := (List.range n).map f
theorem seqV_succ (f : Nat → V) (n : Nat) : seqV f (n + 1) = seqV f n ++ [f n] := by
  unfold seqV
  rw [List.range_succ, List.map_append]; rfl
theorem seqV_length (f : Nat → V) (n : Nat) : (seqV f n).length = n := by unfold seqV; rw [List.length_map, List.length_range]
/-- [e(x) for x in w]: each e gives a value that is known ahead -/
theorem lc_map {J : It} {n : Nat} {G : Hp → Prop} {Y : Nat → Hp → V → Hp → Prop} (w : Walk J n G Y) (f : Nat → V) {j : Nat} {te : TE} {σ : St} {H1 : Hp} {D : Addr} {Qd : Hp → Prop} (hD : H1 D = none) (hn : n < 16777216) (hj : j < σ.length)
    (hG : ∀ H, Same H1 H → G H) (hY : ∀ i H x H', Y i H x H' → H' = H)
    (step : ∀ i x H (Z : VK), i < n → Same H1 H → Y i H x H → (∀ H', Same H H' → Z (f i) H') → te ((σ.set j none).set j (some x)) H Z)
    (hd : ∀ H, Same H1 H → H D = some (.lst (seqV f n)) → Qd H) :
    ∃ W : Nat → Nat → Hp → Prop, (∃ m, W 0 m (upd H1 D (.lst []))) ∧ ∀ i m H, W i m H →
      (J.stop i H ∧ Qd H) ∨ (J.go i H ∧ ∃ Nx : Hp → Prop, (∀ H', Nx H' → ∃ m', m' < m ∧ W (i + 1) m' H') ∧ ∀ x H', J.yld i H x H' → gName j x (wipe σ [j]) H' fun σ2 H2 => wipe σ2 [j] = wipe σ [j] ∧ tYes σ2 H2 fun b H3 =>
        if b = true then te σ2 H3 fun y H4 => ∃ acc, H4 D = some (.lst acc) ∧ acc.length < sizeLine ∧ Nx (upd H4 D (.lst (acc ++ [y]))) else Nx H3) := by
  refine lc_it w (fun i H => H D = some (.lst (seqV f i)) ∧ Same H1 H) ⟨upd_same, same_new hD⟩ (fun i H _ h => hG H h.2) ?_ fun H h => hd H h.2 h.1
  rintro i x H H2 hi ⟨h1, h2⟩ y
  have e := hY _ _ _ _ y
  subst e
  have hw : wipe ((wipe σ [j]).set j (some x)) [j] = wipe σ [j] := by
    show ((σ.set j none).set j (some x)).set j none = σ.set j none
    simp
  refine ⟨hw, ?_⟩
  refine step i x _ _ hi h2 y fun H3 s3 => ⟨_, s3 _ _ h1, ?_, ?_⟩
  · rw [seqV_length]; exact Nat.lt_of_lt_of_le (Nat.lt_trans hi hn) (by decide)
  · refine ⟨by rw [upd_same, seqV_succ], fun b o hb => ?_⟩
    rw [upd_ne (ne_of_none hb hD)]
    exact s3 _ _ (h2 b o hb)
theorem at_strs {ss : List Str} {n : Int} (h0 : 0 ≤ n) (h1 : n < (ss.length : Int)) : ∃ s ∈ ss, atI (ss.map V.str) n = some (.str s) := by
  have hk : n.toNat < ss.length := by omega
  have ek : n = ((n.toNat : Nat) : Int) := by omega
  have q : atI (ss.map V.str) ((n.toNat : Nat) : Int) = some (.str ss[n.toNat]) := atI_nat (by rw [List.getElem?_map, List.getElem?_eq_getElem hk] <;> rfl)
  rw [← ek] at q
  exact ⟨_, List.getElem_mem hk, q⟩
/-- one proof for a goal that is asked more than once -/
theorem twice_asked {A B : Prop} (b : B) (f : B → A) : A := f b
def spValue : Sp := fun vs H Q _ => ∃ (p : Addr), vs = [.ref p] ∧ WellAt H p ∧ ∀ (n : Int) H', 0 ≤ n → n < 1000000 → KeepX p H H' → WellAt H' p → Q (.int n) H'
def spName : Sp := fun vs H Q _ => ∃ (p : Addr), vs = [.ref p] ∧ WellAt H p ∧ ∀ (s : Str) H', isNameW s = true → KeepX p H H' → WellAt H' p → Q (.str s) H'

/-! ### lists that go together -/
inductive All2 {α β : Type} (R : α → β → Prop) : List α → List β → Prop where
  | nil : All2 R [] []
  | cons {a : α} {b : β} {as : List α} {bs : List β} : R a b → All2 R as bs → All2 R (a :: as) (b :: bs)
theorem All2.length {α β : Type} {R : α → β → Prop} : ∀ {as : List α} {bs : List β}, All2 R as bs → as.length = bs.length
  | _, _, .nil => rfl
  | _, _, .cons _ h => congrArg (· + 1) h.length
theorem All2.mono {α β : Type} {R S : α → β → Prop} (f : ∀ a b, R a b → S a b) : ∀ {as : List α} {bs : List β}, All2 R as bs → All2 S as bs
  | _, _, .nil => .nil
  | _, _, .cons h t => .cons (f _ _ h) (t.mono f)
theorem All2.mono_mem {α β : Type} {R S : α → β → Prop} : ∀ {as : List α} {bs : List β}, (∀ a b, a ∈ as → b ∈ bs → R a b → S a b) → All2 R as bs → All2 S as bs
  | _, _, _, .nil => .nil
  | _, _, f, .cons h t => .cons (f _ _ List.mem_cons_self List.mem_cons_self h) (t.mono_mem fun a b ha hb => f a b (List.mem_cons_of_mem _ ha) (List.mem_cons_of_mem _ hb))
theorem All2.snoc {α β : Type} {R : α → β → Prop} {a : α} {b : β} (h : R a b) : ∀ {as : List α} {bs : List β}, All2 R as bs → All2 R (as ++ [a]) (bs ++ [b])
  | _, _, .nil => .cons h .nil
  | _, _, .cons g t => .cons g (t.snoc h)
theorem All2.at {α β : Type} {R : α → β → Prop} : ∀ {as : List α} {bs : List β} {i : Nat} {b : β}, All2 R as bs → bs[i]? = some b → ∃ a, as[i]? = some a ∧ R a b
  | _, _, 0, _, .cons h _, e => ⟨_, rfl, by cases e; exact h⟩
  | _, _, i + 1, _, .cons _ t, e => t.at (i := i) e
  | _, _, _, _, .nil, e => by simp at e
theorem All2.at2 {α β : Type} {R : α → β → Prop} : ∀ {as : List α} {bs : List β} {i : Nat} {a : α}, All2 R as bs → as[i]? = some a → ∃ b, bs[i]? = some b ∧ R a b
  | _, _, 0, _, .cons h _, e => ⟨_, rfl, by cases e; exact h⟩
  | _, _, i + 1, _, .cons _ t, e => t.at2 (i := i) e
  | _, _, _, _, .nil, e => by simp at e
theorem ints_of : ∀ {ys : List V} {P : Int → Prop}, (∀ y ∈ ys, ∃ n, y = V.int n ∧ P n) → ∃ ns : List Int, ys = ns.map V.int ∧ (∀ n ∈ ns, P n) ∧ ns.length = ys.length
  | [], _, _ => ⟨[], rfl, (fun _ h => by cases h), rfl⟩
  | y :: r, P, h => by
    obtain ⟨n, e, hn⟩ := h y List.mem_cons_self
    obtain ⟨ns, e2, hs, hl⟩ := ints_of (ys := r) fun z hz => h z (List.mem_cons_of_mem _ hz)
    refine ⟨n :: ns, by rw [e, e2]; rfl, fun z hz => ?_, congrArg (· + 1) hl⟩
    rcases List.mem_cons.mp hz with rfl | hz
    · exact hn
    · exact hs z hz
theorem strs_of : ∀ {ys : List V} {P : Str → Prop}, (∀ y ∈ ys, ∃ n, y = V.str n ∧ P n) → ∃ ns : List Str, ys = ns.map V.str ∧ (∀ n ∈ ns, P n) ∧ ns.length = ys.length
  | [], _, _ => ⟨[], rfl, (fun _ h => by cases h), rfl⟩
  | y :: r, P, h => by
    obtain ⟨n, e, hn⟩ := h y List.mem_cons_self
    obtain ⟨ns, e2, hs, hl⟩ := strs_of (ys := r) fun z hz => h z (List.mem_cons_of_mem _ hz)
    refine ⟨n :: ns, by rw [e, e2]; rfl, fun z hz => ?_, congrArg (· + 1) hl⟩
    rcases List.mem_cons.mp hz with rfl | hz
    · exact hn
    · exact hs z hz
/-- where a list may go on being written: nothing else moves -/
def LcGoal (J : It) (D : Addr) (te : TE) (j : Nat) (σ : St) (H1 : Hp) (Qd : Hp → Prop) : Prop :=
    ∃ W : Nat → Nat → Hp → Prop, (∃ m, W 0 m (upd H1 D (.lst []))) ∧ ∀ i m H, W i m H →
      (J.stop i H ∧ Qd H) ∨ (J.go i H ∧ ∃ Nx : Hp → Prop, (∀ H', Nx H' → ∃ m', m' < m ∧ W (i + 1) m' H') ∧ ∀ x H', J.yld i H x H' → gName j x (wipe σ [j]) H' fun σ2 H2 => wipe σ2 [j] = wipe σ [j] ∧ tYes σ2 H2 fun b H3 =>
        if b = true then te σ2 H3 fun y H4 => ∃ acc, H4 D = some (.lst acc) ∧ acc.length < sizeLine ∧ Nx (upd H4 D (.lst (acc ++ [y]))) else Nx H3)
theorem seqV_map {α : Type} (f : α → V) (d : α) (xs : List α) : seqV (fun i => f (xs.getD i d)) xs.length = xs.map f := by
  unfold seqV
  refine List.ext_getElem (by rw [List.length_map, List.length_map, List.length_range]) fun i h1 h2 => ?_
  rw [List.getElem_map, List.getElem_map, List.getElem_range]
  have : i < xs.length := by rw [List.length_map] at h2; exact h2
  rw [List.getD_eq_getElem?_getD, List.getElem?_eq_getElem this]
  rfl
/-- [f(x) for x in xs], known ahead -/
theorem lc_mapA {α : Type} (xs : List α) (g f : α → V) (d : α) {J : It} {G : Hp → Prop} {j : Nat} {te : TE} {σ : St} {H1 : Hp} {D : Addr} {Qd : Hp → Prop} (w : Walk J (xs.map g).length G (YAt (xs.map g))) (hD : H1 D = none) (hn : xs.length < 16777216) (hj : j < σ.length)
    (hG : ∀ H, Same H1 H → G H)
    (step : ∀ a ∈ xs, ∀ H (Z : VK), Same H1 H → (∀ H', Same H H' → Z (f a) H') → te ((σ.set j none).set j (some (g a))) H Z)
    (hd : ∀ H, Same H1 H → H D = some (.lst (xs.map f)) → Qd H) : LcGoal J D te j σ H1 Qd := by
  refine lc_map w (fun i => f (xs.getD i d)) hD (by rw [List.length_map]; exact hn) hj hG (fun _ _ _ _ y => y.1) ?_ fun H s h => hd H s ?_
  · rintro i x H Z hi s ⟨_, hx⟩ z
    rw [List.length_map] at hi
    have e : xs[i]? = some (xs.getD i d) := by rw [List.getD_eq_getElem?_getD, List.getElem?_eq_getElem hi]; rfl
    rw [List.getElem?_map, e] at hx
    cases hx
    exact step _ (List.mem_of_getElem? e) H Z s z
  · rw [h, List.length_map, seqV_map]
/-- [e for x in xs]: what each gives stands in R to its x -/
theorem lc_rel {H1 : Hp} {D : Addr} {α : Type} (xs : List α) {β : α → V → Prop} (R : Hp → α → V → Prop) {ws : List V} (hw : All2 β xs ws) (mono : ∀ H H' a y, Same H H' → R H a y → R H' a y) (lst : ∀ H a y ys ys', R H a y → H D = some (.lst ys) → R (upd H D (.lst ys')) a y) {J : It} {G : Hp → Prop} {j : Nat} {te : TE} {σ : St} {Qd : Hp → Prop} (w : Walk J ws.length G (YAt ws)) (hD : H1 D = none) (hn : xs.length < 16777216) (hj : j < σ.length)
    (hG : ∀ H, Same H1 H → G H)
    (step : ∀ a v, a ∈ xs → v ∈ ws → β a v → ∀ H (Z : VK), Same H1 H → (∃ ys, H D = some (.lst ys)) → (∀ H' y, Same H H' → R H' a y → Z y H') → te ((σ.set j none).set j (some v)) H Z)
    (hd : ∀ H ys, Same H1 H → All2 (R H) xs ys → H D = some (.lst ys) → Qd H) : LcGoal J D te j σ H1 Qd := by
  refine lc_it w (fun i H => ∃ ys, H D = some (.lst ys) ∧ Same H1 H ∧ All2 (R H) (xs.take i) ys) ⟨[], upd_same, same_new hD, by rw [List.take_zero]; exact .nil⟩ (fun i H _ h => hG H h.choose_spec.2.1) ?_ fun H ⟨ys, h1, h2, h3⟩ => hd H ys h2 (by rw [← hw.length, List.take_length] at h3; exact h3) h1
  rintro i v H H2 hi ⟨ys, h1, h2, h3⟩ ⟨e, hv⟩
  subst e
  have hw2 : wipe ((wipe σ [j]).set j (some v)) [j] = wipe σ [j] := by
    show ((σ.set j none).set j (some v)).set j none = σ.set j none
    simp
  refine ⟨hw2, ?_⟩
  obtain ⟨a, ha, hb⟩ := hw.at hv
  have hl := h3.length
  have hi' : i < xs.length := by rw [hw.length]; exact hi
  rw [List.length_take] at hl
  refine step a v (List.mem_of_getElem? ha) (List.mem_of_getElem? hv) hb _ _ h2 ⟨ys, h1⟩ fun H3 y s3 r3 => ⟨ys, s3 _ _ h1, ?_, ?_⟩
  · exact Nat.lt_of_lt_of_le (show ys.length < 16777216 by omega) (by decide)
  · refine ⟨ys ++ [y], upd_same, fun b o hb => ?_, ?_⟩
    · rw [upd_ne (ne_of_none hb hD)]
      exact s3 _ _ (h2 b o hb)
    · rw [List.take_add_one, ha]
      show All2 _ (xs.take i ++ [a]) _
      exact (h3.mono fun a' y' h => lst _ _ _ _ _ (mono _ _ _ _ s3 h) (s3 _ _ h1)).snoc (lst _ _ _ _ _ r3 (s3 _ _ h1))
/-- [e for k in ..], each e drawn at the well p: what each gives is P -/
theorem lc_drawn {J : It} {n : Nat} {G : Hp → Prop} {Y : Nat → Hp → V → Hp → Prop} (w : Walk J n G Y) (P : V → Prop) {p : Addr} {j : Nat} {te : TE} {σ : St} {H1 : Hp} {D : Addr} {Qd : Hp → Prop} (W : WellAt H1 p) (hD : H1 D = none) (hn : n < 16777216) (hj : j < σ.length)
    (hG : ∀ H, G H) (hY : ∀ i H x H', Y i H x H' → H' = H)
    (step : ∀ i x H (Z : VK), i < n → KeepX p H1 H → WellAt H p → Y i H x H → (∀ H' y, KeepX p H H' → WellAt H' p → P y → Z y H') → te ((σ.set j none).set j (some x)) H Z)
    (hd : ∀ H ys, KeepX p H1 H → WellAt H p → ys.length = n → (∀ y ∈ ys, P y) → H D = some (.lst ys) → Qd H) : LcGoal J D te j σ H1 Qd := by
  have npD : D ≠ p := fun e => by obtain ⟨_, _, _, _, w⟩ := W; rw [← e, hD] at w; cases w
  refine lc_it w (fun i H => ∃ ys, H D = some (.lst ys) ∧ KeepX p H1 H ∧ WellAt H p ∧ ys.length = i ∧ ∀ y ∈ ys, P y) ⟨[], upd_same, keepX_of (same_new hD), W.same (same_new hD), rfl, fun _ h => by cases h⟩ (fun i H _ _ => hG H) ?_ fun H ⟨ys, h1, h2, h3, h4, h5⟩ => hd H ys h2 h3 h4 h5 h1
  rintro i v H H2 hi ⟨ys, h1, h2, h3, h4, h5⟩ y
  have e := hY _ _ _ _ y
  subst e
  have hw2 : wipe ((wipe σ [j]).set j (some v)) [j] = wipe σ [j] := by
    show ((σ.set j none).set j (some v)).set j none = σ.set j none
    simp
  refine ⟨hw2, ?_⟩
  refine step i v _ _ hi h2 h3 y fun H3 z k3 W3 pz => ⟨ys, k3 _ _ npD h1, ?_, ?_⟩
  · exact Nat.lt_of_lt_of_le (show ys.length < 16777216 by omega) (by decide)
  · refine ⟨ys ++ [z], upd_same, fun b o nb hb => ?_, ?_, by rw [List.length_append, h4]; rfl, fun y hy => ?_⟩
    · rw [upd_ne (ne_of_none hb hD)]
      exact k3 _ _ nb (h2 b o nb hb)
    · obtain ⟨a, b, c, d, w⟩ := W3
      exact ⟨a, b, c, d, by rw [upd_ne npD.symm]; exact w⟩
    · rcases List.mem_append.mp hy with h | h
      · exact h5 y h
      · rw [List.mem_singleton.mp h]; exact pz

def SOMEN : List Str := ["a", "b", "i", "zz", "iff", "en", "cells", "giver", "mainly", "lesss", "sets", "whil"]
def BAD1 : List Str := ["if", "end", "ask", "set", "put", "fun", "main", "else", "skip", "draw", "tell", "call", "give"]
def BAD2 : List Str := ["cell", "plus", "over", "rest", "less", "same", "while", "minus", "times"]
theorem someN_ok : ∀ s ∈ SOMEN, isNameW s = true := by decide +kernel
theorem bad1_ok : ∀ s ∈ BAD1, isNameW (s ++ Str.ofString "x") = true ∧ s.length ≤ 6 := by decide +kernel
theorem bad2_ok : ∀ s ∈ BAD2, isNameW (Str.ofString "x" ++ s) = true ∧ s.length ≤ 6 := by decide +kernel
theorem words_bad : ∀ s ∈ PAIRW ++ (ROWW ++ OTHW), s ∈ BAD1 ∨ s ∈ BAD2 := by decide +kernel
/-- the k-th letter -/
theorem letter_at {n : Int} (h0 : 0 ≤ n) (h1 : n < 26) : ∃ c : Nat, atI (tl (Str.ofString "abcdefghijklmnopqrstuvwxyz")) n = some c ∧ 97 ≤ c ∧ c ≤ 122 := by
  have e : tl (Str.ofString "abcdefghijklmnopqrstuvwxyz") = (List.range 26).map (97 + ·) := by decide +kernel
  have hk : n.toNat < 26 := by omega
  have ek : n = ((n.toNat : Nat) : Int) := by omega
  rw [e, ek]
  refine ⟨97 + n.toNat, atI_nat ?_, by omega, by omega⟩
  rw [List.getElem?_map, List.getElem?_range hk]
  rfl
theorem name_of {s : Str} (h1 : 1 ≤ (tl s).length) (h2 : (tl s).length ≤ 6) (h3 : ∀ c ∈ tl s, 97 ≤ c ∧ c ≤ 122) (h4 : s ∉ BAD1) (h5 : s ∉ BAD2) : isNameW s = true := by
  have no : ∀ l : List Str, (∀ x ∈ l, x ∈ PAIRW ++ (ROWW ++ OTHW)) → s ∉ l := fun l hl hs => by
    rcases words_bad s (hl s hs) with h | h
    · exact h4 h
    · exact h5 h
  rw [nameW_true h1 h2 (no _ fun x hx => List.mem_append_left _ hx) (no _ fun x hx => List.mem_append_right _ (List.mem_append_left _ hx)) (no _ fun x hx => List.mem_append_right _ (List.mem_append_right _ hx))]
  refine List.all_eq_true.mpr fun c hc => ?_
  have := h3 c hc
  unfold isLow
  simp only [Bool.and_eq_true, decide_eq_true_eq]
  exact this

/-! ### told tuples of the law -/
theorem ToldE.keep {K : PySem.W.Frag} {p : Addr} {H H' : Hp} (k : KeepX p H H') (W : WellAt H p) : ∀ {e : Ex} {v : V}, ToldE K H e v → ToldE K H' e v
  | .num n, v, ⟨t, h1, h2⟩ => ⟨t, h1, k.tup W h2⟩
  | .box n, v, ⟨t, h1, h2⟩ => ⟨t, h1, k.tup W h2⟩
  | .cell e, v, ⟨t, i, h1, h2, h3⟩ => ⟨t, i, h1, k.tup W h2, ToldE.keep k W h3⟩
  | .two w l r, v, ⟨t, a, b, h1, h2, h3, h4⟩ => ⟨t, a, b, h1, k.tup W h2, ToldE.keep k W h3, ToldE.keep k W h4⟩
theorem in_num : inV (.str "number") [.str "number", .str "box"] = true := by decide +kernel
theorem in_box : inV (.str "box") [.str "number", .str "box"] = true := by decide +kernel
theorem in_cell : inV (.str "cell") [.str "number", .str "box"] = false := by decide +kernel
theorem in_pair {w : Str} (h : w ∈ PAIRW) : inV (.str w) [.str "number", .str "box"] = false := by
  have : ∀ w ∈ PAIRW, inV (.str w) [.str "number", .str "box"] = false := by decide +kernel
  exact this w h
theorem pair_ne {w : Str} (h : w ∈ PAIRW) : w ≠ "number" ∧ w ≠ "box" ∧ w ≠ "cell" := by
  have : ∀ w ∈ PAIRW, w ≠ "number" ∧ w ≠ "box" ∧ w ≠ "cell" := by decide +kernel
  exact this w h
def rStrAny : List V → Hp → VK → Prop := fun xs H Q => (∃ i, xs = [.int i] ∧ i.natAbs.log2 < 1920 ∧ Q (.str (toString i)) H) ∨ (∃ a, xs = [.str a] ∧ Q (.str a) H)
theorem call_str_any {X : Cx} : CallR X (.type "str") rStrAny := by
  intro pins s σ H xs us Q I r h
  rcases h with h | h
  · exact call_str_int pins s σ H xs us Q I r h
  · exact SkE.call_str_str pins s σ H xs us Q I r h
theorem sizeL2 {n : Nat} (h : n ≤ 16777216) : n ≤ sizeLine := Nat.le_trans h (by decide)
def spLParts (K : PySem.W.Frag) (n : Nat) : Sp := fun vs H Q _ => ∃ (e : Ex) (v : V), vs = [v] ∧ ToldE K H e v ∧ e.Wf ∧ e.depth ≤ n ∧ ∀ H', Same H H' → Q (.int e.parts) H'
def spLWords (K : PySem.W.Frag) (n : Nat) : Sp := fun vs H Q _ => ∃ (e : Ex) (v : V), vs = [v] ∧ ToldE K H e v ∧ e.Wf ∧ e.parts ≤ 1000 ∧ e.depth ≤ n ∧ ∀ H', Same H H' → Q (.str e.text) H'
def spLExpr (K : PySem.W.Frag) (n : Nat) : Sp := fun vs H Q _ => ∃ (p : Addr) (d m : Int), vs = [.ref p, .int d, .int m] ∧ WellAt H p ∧ 1 ≤ d ∧ d ≤ n ∧ n ≤ 8 ∧ 1 ≤ m ∧ ∀ e v H', e.Wf → (e.depth : Int) ≤ d → (e.parts : Int) ≤ m → ToldE K H' e v → KeepX p H H' → WellAt H' p → Q v H'
theorem text_cell (e : Ex) : Txt.join (Str.ofString " ") [Str.ofString "cell", e.text] = (Ex.cell e).text := by
  refine ext_tl ?_
  have b : tl (Str.ofString " ") = [32] := by decide +kernel
  have c1 : tl (Str.ofString "cell ") = tl (Str.ofString "cell") ++ [32] := by decide +kernel
  show _ = tl (Str.ofString "cell " ++ e.text)
  rw [join_eq, tl_join, b, tl_append, c1, List.append_assoc]
  rfl

/-- some lists move, all else stands -/
def KeepL (av : List Addr) (H H' : Hp) : Prop := ∀ q o, q ∉ av → H q = some o → H' q = some o

/-! ### rows -/
inductive RT where
  | skip
  | set (b : Str) (e : Ex)
  | put (a b : Ex)
  | ask (b w : Str) (e : Ex)
  | draw (b w : Str)
  | tell (e : Ex)
  | ifr (e : Ex)
  | loop (e : Ex)
  | call (b f : Str) (es : List Ex)
  | give (e : Ex)
structure RC where
  skip : Addr
  set : Addr
  put : Addr
  ask : Addr
  draw : Addr
  tell : Addr
  ifr : Addr
  loop : Addr
  call : Addr
  give : Addr
def RC.of (c : RC) : RT → Addr
  | .skip => c.skip
  | .set _ _ => c.set
  | .put _ _ => c.put
  | .ask _ _ _ => c.ask
  | .draw _ _ => c.draw
  | .tell _ => c.tell
  | .ifr _ => c.ifr
  | .loop _ => c.loop
  | .call _ _ _ => c.call
  | .give _ => c.give
def RC.Fam (c : RC) (C : Addr) : Prop := ∃ rt, c.of rt = C
def RT.exs : RT → List Ex
  | .skip => []
  | .set _ e => [e]
  | .put a b => [a, b]
  | .ask _ _ e => [e]
  | .draw _ _ => []
  | .tell e => [e]
  | .ifr e => [e]
  | .loop e => [e]
  | .call _ _ es => es
  | .give e => [e]
/-- v is the object of the row rt at line n; the list of what a call gives lies where N says -/
def RowO (c : RC) (ec : EC) (N : Addr → Prop) (H : Hp) (n : Int) : RT → V → Prop
  | .skip, v => ∃ p dx, v = .ref p ∧ H p = some (.ins c.skip dx [("number", .int n)])
  | .set b e, v => ∃ p dx x, v = .ref p ∧ H p = some (.ins c.set dx [("number", .int n), ("box", .str b), ("expr", x)]) ∧ ObjE ec H e x
  | .put a b, v => ∃ p dx x y, v = .ref p ∧ H p = some (.ins c.put dx [("number", .int n), ("first", x), ("second", y)]) ∧ ObjE ec H a x ∧ ObjE ec H b y
  | .ask b w e, v => ∃ p dx x, v = .ref p ∧ H p = some (.ins c.ask dx [("number", .int n), ("box", .str b), ("word", .str w), ("expr", x)]) ∧ ObjE ec H e x
  | .draw b w, v => ∃ p dx, v = .ref p ∧ H p = some (.ins c.draw dx [("number", .int n), ("box", .str b), ("word", .str w)])
  | .tell e, v => ∃ p dx x, v = .ref p ∧ H p = some (.ins c.tell dx [("number", .int n), ("expr", x)]) ∧ ObjE ec H e x
  | .ifr e, v => ∃ p dx x y z, v = .ref p ∧ H p = some (.ins c.ifr dx [("number", .int n), ("test", x), ("first", y), ("second", z)]) ∧ ObjE ec H e x
  | .loop e, v => ∃ p dx x y, v = .ref p ∧ H p = some (.ins c.loop dx [("number", .int n), ("test", x), ("body", y)]) ∧ ObjE ec H e x
  | .call b f es, v => ∃ p dx l os, v = .ref p ∧ H p = some (.ins c.call dx [("number", .int n), ("box", .str b), ("fun", .str f), ("given", .ref l)]) ∧ N l ∧ H l = some (.lst os) ∧ AllE ec H es os
  | .give e, v => ∃ p dx x, v = .ref p ∧ H p = some (.ins c.give dx [("number", .int n), ("expr", x)]) ∧ ObjE ec H e x
theorem RowO.at {c : RC} {ec : EC} {N : Addr → Prop} {H : Hp} {n : Int} : ∀ {rt : RT} {v : V}, RowO c ec N H n rt v → ∃ p dx fs, v = .ref p ∧ H p = some (.ins (c.of rt) dx fs) ∧ List.lookup ("told" : Str) fs = none ∧ List.lookup ("number" : Str) fs = some (V.int n)
  | .skip, v, ⟨p, dx, h1, h2⟩ => ⟨p, dx, _, h1, h2, rfl, rfl⟩
  | .set _ _, v, ⟨p, dx, _, h1, h2, _⟩ => ⟨p, dx, _, h1, h2, rfl, rfl⟩
  | .put _ _, v, ⟨p, dx, _, _, h1, h2, _⟩ => ⟨p, dx, _, h1, h2, rfl, rfl⟩
  | .ask _ _ _, v, ⟨p, dx, _, h1, h2, _⟩ => ⟨p, dx, _, h1, h2, rfl, rfl⟩
  | .draw _ _, v, ⟨p, dx, h1, h2⟩ => ⟨p, dx, _, h1, h2, rfl, rfl⟩
  | .tell _, v, ⟨p, dx, _, h1, h2, _⟩ => ⟨p, dx, _, h1, h2, rfl, rfl⟩
  | .ifr _, v, ⟨p, dx, _, _, _, h1, h2, _⟩ => ⟨p, dx, _, h1, h2, rfl, rfl⟩
  | .loop _, v, ⟨p, dx, _, _, h1, h2, _⟩ => ⟨p, dx, _, h1, h2, rfl, rfl⟩
  | .call _ _ _, v, ⟨p, dx, _, _, h1, h2, _⟩ => ⟨p, dx, _, h1, h2, rfl, rfl⟩
  | .give _, v, ⟨p, dx, _, h1, h2, _⟩ => ⟨p, dx, _, h1, h2, rfl, rfl⟩
/-- a move of the heap that leaves objects of the expressions' and rows' classes, and the lists that N tells -/
def KeepI (cs : Addr → Prop) (N : Addr → Prop) (H H' : Hp) : Prop := (∀ q C dx fs, cs C → H q = some (.ins C dx fs) → H' q = some (.ins C dx fs)) ∧ ∀ l xs, N l → H l = some (.lst xs) → H' l = some (.lst xs)
theorem ObjE.keepI {c : EC} {cs N : Addr → Prop} {H H' : Hp} (k : KeepI cs N H H') (hc : ∀ C, c.Fam C → cs C) : ∀ {e : Ex} {v : V}, ObjE c H e v → ObjE c H' e v
  | .num n, v, ⟨p, dx, h1, h2⟩ => ⟨p, dx, h1, k.1 _ _ _ _ (hc _ (.inl rfl)) h2⟩
  | .box n, v, ⟨p, dx, h1, h2⟩ => ⟨p, dx, h1, k.1 _ _ _ _ (hc _ (.inr (.inl rfl))) h2⟩
  | .cell e, v, ⟨p, dx, i, h1, h2, h3⟩ => ⟨p, dx, i, h1, k.1 _ _ _ _ (hc _ (.inr (.inr (.inl rfl)))) h2, ObjE.keepI k hc h3⟩
  | .two w l r, v, ⟨p, dx, a, b, h1, h2, h3, h4⟩ => ⟨p, dx, a, b, h1, k.1 _ _ _ _ (hc _ (.inr (.inr (.inr rfl)))) h2, ObjE.keepI k hc h3, ObjE.keepI k hc h4⟩
theorem AllE.keepI {c : EC} {cs N : Addr → Prop} {H H' : Hp} (k : KeepI cs N H H') (hc : ∀ C, c.Fam C → cs C) : ∀ {es : List Ex} {vs : List V}, AllE c H es vs → AllE c H' es vs
  | _, _, .nil => .nil
  | _, _, .cons a b => .cons (a.keepI k hc) (b.keepI k hc)
theorem RowO.keepI {c : RC} {ec : EC} {cs N : Addr → Prop} {H H' : Hp} (k : KeepI cs N H H') (hc : ∀ C, ec.Fam C → cs C) (hr : ∀ C, c.Fam C → cs C) {n : Int} : ∀ {rt : RT} {v : V}, RowO c ec N H n rt v → RowO c ec N H' n rt v
  | .skip, v, ⟨p, dx, h1, h2⟩ => ⟨p, dx, h1, k.1 _ _ _ _ (hr _ ⟨.skip, rfl⟩) h2⟩
  | .set b e, v, ⟨p, dx, x, h1, h2, h3⟩ => ⟨p, dx, x, h1, k.1 _ _ _ _ (hr _ ⟨.set b e, rfl⟩) h2, h3.keepI k hc⟩
  | .put a b, v, ⟨p, dx, x, y, h1, h2, h3, h4⟩ => ⟨p, dx, x, y, h1, k.1 _ _ _ _ (hr _ ⟨.put a b, rfl⟩) h2, h3.keepI k hc, h4.keepI k hc⟩
  | .ask b w e, v, ⟨p, dx, x, h1, h2, h3⟩ => ⟨p, dx, x, h1, k.1 _ _ _ _ (hr _ ⟨.ask b w e, rfl⟩) h2, h3.keepI k hc⟩
  | .draw b w, v, ⟨p, dx, h1, h2⟩ => ⟨p, dx, h1, k.1 _ _ _ _ (hr _ ⟨.draw b w, rfl⟩) h2⟩
  | .tell e, v, ⟨p, dx, x, h1, h2, h3⟩ => ⟨p, dx, x, h1, k.1 _ _ _ _ (hr _ ⟨.tell e, rfl⟩) h2, h3.keepI k hc⟩
  | .ifr e, v, ⟨p, dx, x, y, z, h1, h2, h3⟩ => ⟨p, dx, x, y, z, h1, k.1 _ _ _ _ (hr _ ⟨.ifr e, rfl⟩) h2, h3.keepI k hc⟩
  | .loop e, v, ⟨p, dx, x, y, h1, h2, h3⟩ => ⟨p, dx, x, y, h1, k.1 _ _ _ _ (hr _ ⟨.loop e, rfl⟩) h2, h3.keepI k hc⟩
  | .call b f es, v, ⟨p, dx, l, os, h1, h2, h3, h4, h5⟩ => ⟨p, dx, l, os, h1, k.1 _ _ _ _ (hr _ ⟨.call b f es, rfl⟩) h2, h3, k.2 _ _ h3 h4, h5.keepI k hc⟩
  | .give e, v, ⟨p, dx, x, h1, h2, h3⟩ => ⟨p, dx, x, h1, k.1 _ _ _ _ (hr _ ⟨.give e, rfl⟩) h2, h3.keepI k hc⟩
theorem keepI_same {cs N : Addr → Prop} {H H' : Hp} (s : Same H H') : KeepI cs N H H' := ⟨fun _ _ _ _ _ h => s _ _ h, fun _ _ _ h => s _ _ h⟩
theorem RowO.same {c : RC} {ec : EC} {N : Addr → Prop} {H H' : Hp} (s : Same H H') {n : Int} {rt : RT} {v : V} (h : RowO c ec N H n rt v) : RowO c ec N H' n rt v :=
  h.keepI (cs := fun _ => True) (keepI_same s) (fun _ _ => trivial) fun _ _ => trivial
theorem RowO.weak {c : RC} {ec : EC} {N M : Addr → Prop} {H : Hp} (f : ∀ l, (∃ o, H l = some o) → N l → M l) {n : Int} : ∀ {rt : RT} {v : V}, RowO c ec N H n rt v → RowO c ec M H n rt v
  | .skip, v, h => h
  | .set _ _, v, h => h
  | .put _ _, v, h => h
  | .ask _ _ _, v, h => h
  | .draw _ _, v, h => h
  | .tell _, v, h => h
  | .ifr _, v, h => h
  | .loop _, v, h => h
  | .call b g es, v, ⟨p, dx, l, os, h1, h2, h3, h4, h5⟩ => ⟨p, dx, l, os, h1, h2, f l ⟨_, h4⟩ h3, h4, h5⟩
  | .give _, v, h => h
def RT.data : RT → PyData
  | .skip => .tuple [.str "skip"]
  | .set b e => .tuple [.str "set", .str b, e.told]
  | .put a b => .tuple [.str "put", a.told, b.told]
  | .ask b w e => .tuple [.str "ask", .str b, .str w, e.told]
  | .draw b w => .tuple [.str "draw", .str b, .str w]
  | .tell e => .tuple [.str "tell", e.told]
  | .ifr e => .tuple [.str "if", e.told]
  | .loop e => .tuple [.str "while", e.told]
  | .call b f es => .tuple (.str "call" :: .str b :: .str f :: es.map Ex.told)
  | .give e => .tuple [.str "give", e.told]
/-- r is what a row's told gives -/
def RTold (K : PySem.W.Frag) (H : Hp) : RT → V → Prop
  | .skip, r => ∃ t, r = .ref t ∧ H t = some (.tup [.str "skip"])
  | .set b e, r => ∃ t x, r = .ref t ∧ H t = some (.tup [.str "set", .str b, x]) ∧ ToldE K H e x
  | .put a b, r => ∃ t x y, r = .ref t ∧ H t = some (.tup [.str "put", x, y]) ∧ ToldE K H a x ∧ ToldE K H b y
  | .ask b w e, r => ∃ t x, r = .ref t ∧ H t = some (.tup [.str "ask", .str b, .str w, x]) ∧ ToldE K H e x
  | .draw b w, r => ∃ t, r = .ref t ∧ H t = some (.tup [.str "draw", .str b, .str w])
  | .tell e, r => ∃ t x, r = .ref t ∧ H t = some (.tup [.str "tell", x]) ∧ ToldE K H e x
  | .ifr e, r => ∃ t x, r = .ref t ∧ H t = some (.tup [.str "if", x]) ∧ ToldE K H e x
  | .loop e, r => ∃ t x, r = .ref t ∧ H t = some (.tup [.str "while", x]) ∧ ToldE K H e x
  | .call b f es, r => ∃ t xs, r = .ref t ∧ H t = some (.tup (.str "call" :: .str b :: .str f :: xs)) ∧ All2 (ToldE K H) es xs
  | .give e, r => ∃ t x, r = .ref t ∧ H t = some (.tup [.str "give", x]) ∧ ToldE K H e x
theorem dps_told {K : PySem.W.Frag} {H : Hp} : ∀ {es : List Ex} {xs : List V}, All2 (ToldE K H) es xs → DpAll K H xs (es.map Ex.told)
  | _, _, .nil => .nil
  | _, _, .cons h t => .cons h.dp (dps_told t)
theorem RTold.dp {K : PySem.W.Frag} {H : Hp} : ∀ {rt : RT} {r : V}, RTold K H rt r → Dp K H r rt.data
  | .skip, r, ⟨t, h1, h2⟩ => by rw [h1]; exact .tup (SqT.of h2) (.cons (.str _) .nil)
  | .set _ _, r, ⟨t, x, h1, h2, h3⟩ => by rw [h1]; exact .tup (SqT.of h2) (.cons (.str _) (.cons (.str _) (.cons h3.dp .nil)))
  | .put _ _, r, ⟨t, x, y, h1, h2, h3, h4⟩ => by rw [h1]; exact .tup (SqT.of h2) (.cons (.str _) (.cons h3.dp (.cons h4.dp .nil)))
  | .ask _ _ _, r, ⟨t, x, h1, h2, h3⟩ => by rw [h1]; exact .tup (SqT.of h2) (.cons (.str _) (.cons (.str _) (.cons (.str _) (.cons h3.dp .nil))))
  | .draw _ _, r, ⟨t, h1, h2⟩ => by rw [h1]; exact .tup (SqT.of h2) (.cons (.str _) (.cons (.str _) (.cons (.str _) .nil)))
  | .tell _, r, ⟨t, x, h1, h2, h3⟩ => by rw [h1]; exact .tup (SqT.of h2) (.cons (.str _) (.cons h3.dp .nil))
  | .ifr _, r, ⟨t, x, h1, h2, h3⟩ => by rw [h1]; exact .tup (SqT.of h2) (.cons (.str _) (.cons h3.dp .nil))
  | .loop _, r, ⟨t, x, h1, h2, h3⟩ => by rw [h1]; exact .tup (SqT.of h2) (.cons (.str _) (.cons h3.dp .nil))
  | .call _ _ _, r, ⟨t, xs, h1, h2, h3⟩ => by rw [h1]; exact .tup (SqT.of h2) (.cons (.str _) (.cons (.str _) (.cons (.str _) (dps_told h3))))
  | .give _, r, ⟨t, x, h1, h2, h3⟩ => by rw [h1]; exact .tup (SqT.of h2) (.cons (.str _) (.cons h3.dp .nil))
/-! ### promises -/
def spRowInit (K : PySem.W.Frag) : Sp := fun vs H Q _ => ∃ (p C dx : Addr) (n : V), vs = [.ref p, n] ∧ H p = some (.ins C dx []) ∧ Cls K C ∧ NoAttr K C "number" ∧ Q .non (upd H p (.ins C dx [("number", n)]))
/-- __init__ of a row's class: number, then these -/
def spRI (C : Addr) (fs : List Str) : Sp := fun vs H Q _ => ∃ (p dx : Addr) (xs : List V), vs = .ref p :: xs ∧ xs.length = fs.length ∧ H p = some (.ins C dx []) ∧ Q .non (upd H p (.ins C dx (fs.zip xs)))
def spRTold (K : PySem.W.Frag) (c : RC) (ec : EC) (C : Addr) : Sp := fun vs H Q _ => ∃ (n : Int) (rt : RT) (v : V) (N : Addr → Prop), vs = [v] ∧ RowO c ec N H n rt v ∧ c.of rt = C ∧ (∀ e ∈ rt.exs, e.depth ≤ 7) ∧ rt.exs.length ≤ 1000 ∧ ∀ r H', Same H H' → RTold K H' rt r → Q r H'
theorem allE_all2 {c : EC} {H : Hp} : ∀ {es : List Ex} {vs : List V}, AllE c H es vs → All2 (ObjE c H) es vs
  | _, _, .nil => .nil
  | _, _, .cons a b => .cons a (allE_all2 b)
theorem mk_row {C : Addr} {fs : List Str} {H : Hp} {xs : List V} {Q : Hp → Prop} {E : XK} {x dx : Addr} (hx : H x = none) (hd : H dx = none) (hl : xs.length = fs.length) (k : ∀ H', Same H H' → H' x = some (.ins C dx (fs.zip xs)) → Q H') :
    spRI C fs (.ref x :: xs) (upd (upd H dx (.own x)) x (.ins C dx [])) (fun v H2 => v = .non ∧ Q H2) E :=
  ⟨x, dx, xs, rfl, hl, upd_same, rfl, k _ (made_same hx hd) upd_same⟩

theorem ToldE.keepU {K : PySem.W.Frag} {H : Hp} {D : Addr} {ys ys' : List V} (hD : H D = some (.lst ys)) : ∀ {e : Ex} {v : V}, ToldE K H e v → ToldE K (upd H D (.lst ys')) e v
  | .num n, v, ⟨p, h1, h2⟩ => ⟨p, h1, by rw [upd_ne (ne_of h2 hD (by intro z; cases z))]; exact h2⟩
  | .box n, v, ⟨p, h1, h2⟩ => ⟨p, h1, by rw [upd_ne (ne_of h2 hD (by intro z; cases z))]; exact h2⟩
  | .cell e, v, ⟨p, i, h1, h2, h3⟩ => ⟨p, i, h1, by rw [upd_ne (ne_of h2 hD (by intro z; cases z))]; exact h2, ToldE.keepU hD h3⟩
  | .two w l r, v, ⟨p, a, b, h1, h2, h3, h4⟩ => ⟨p, a, b, h1, by rw [upd_ne (ne_of h2 hD (by intro z; cases z))]; exact h2, ToldE.keepU hD h3, ToldE.keepU hD h4⟩

/-! ### programs: what the reader reads -/
structure RS where
  at_ : Nat
  num : List (Nat × RT)
  calls : List (Str × Nat)
def putN (l : List (Nat × RT)) (n : Nat) (r : RT) : List (Nat × RT) :=
  if (l.any fun x => decide (x.1 = n)) = true then l.map (fun x => if x.1 = n then (x.1, r) else x) else l ++ [(n, r)]
def wordsAt (ts : List Str) (i : Nat) : List Str := Txt.split (ts.getD i (Str.ofString "")) (Str.ofString " ")
def hd0 (ws : List Str) : Str := ws.headD (Str.ofString "")
def wd (ws : List Str) (i : Nat) : Str := ws.getD i (Str.ofString "")
def headAt (ts : List Str) (i : Nat) : Option Str := if i < ts.length then some (hd0 (wordsAt ts i)) else none
def exL (ws : List Str) : Option (List Ex) := parseAll ws.length ws
def namesOk (ws : List Str) (k : Nat) : Bool := decide (ws.length = k) && ws.all isNameW
def only1 : Option (List Ex) → Option Ex
  | some [e] => some e
  | _ => none
def simpleF (ws : List Str) : Option RT :=
  if hd0 ws = "set" then (if namesOk ((ws.drop 1).take 1) 1 = true then (only1 (exL (ws.drop 2))).map (RT.set (wd ws 1)) else none)
  else if hd0 ws = "put" then (match exL (ws.drop 1) with
    | some [a, b] => some (.put a b)
    | _ => none)
  else if hd0 ws = "ask" then (if namesOk ((ws.drop 1).take 2) 2 = true then (only1 (exL (ws.drop 3))).map (RT.ask (wd ws 1) (wd ws 2)) else none)
  else if hd0 ws = "draw" then (if namesOk (ws.drop 1) 2 = true then some (.draw (wd ws 1) (wd ws 2)) else none)
  else if hd0 ws = "tell" then (only1 (exL (ws.drop 1))).map RT.tell
  else if ws = [Str.ofString "skip"] then some .skip else none
def callF (ws : List Str) : Option (Str × Str × List Ex) := if namesOk ((ws.drop 1).take 2) 2 = true then (exL (ws.drop 3)).map fun es => (wd ws 1, wd ws 2, es) else none
def passF (ts : List Str) (t : Str) (st : RS) : Option RS := if st.at_ < ts.length ∧ ts.getD st.at_ (Str.ofString "") = t then some { st with at_ := st.at_ + 1 } else none
def rowsF (ts : List Str) (blk : RS → Option RS) (ok : Bool) (ws : List Str) (st : RS) : Option (RT × RS) :=
  if ok = true then (match only1 (exL (ws.drop 1)) with
    | none => none
    | some e => match blk st with
      | none => none
      | some st2 => if hd0 ws = "while" then (match passF ts "end" st2 with
          | none => none
          | some st3 => some (.loop e, st3))
        else match passF ts "else" st2 with
          | none => none
          | some st3 => match blk st3 with
            | none => none
            | some st4 => match passF ts "end" st4 with
              | none => none
              | some st5 => some (.ifr e, st5)) else none
def oneF (ts : List Str) (rows : List Str → RS → Option (RT × RS)) (st : RS) : Option (RT × RS) :=
  if hd0 (wordsAt ts st.at_) = "if" ∨ hd0 (wordsAt ts st.at_) = "while" then rows (wordsAt ts st.at_) { st with at_ := st.at_ + 1 }
  else if hd0 (wordsAt ts st.at_) = "call" then (match callF (wordsAt ts st.at_) with
    | none => none
    | some (b, f, es) => some (.call b f es, ⟨st.at_ + 1, st.num, st.calls ++ [(f, es.length)]⟩))
  else (simpleF (wordsAt ts st.at_)).map fun rt => (rt, ⟨st.at_ + 1, st.num, st.calls⟩)
def blkF (ts : List Str) (one : RS → Option (RT × RS)) : Nat → RS → Option RS
  | 0, _ => none
  | n + 1, st => match headAt ts st.at_ with
    | none => some st
    | some w => if w ∈ ROWW then (match one st with
        | none => none
        | some (rt, st2) => blkF ts one n ⟨st2.at_, putN st2.num st.at_ rt, st2.calls⟩) else some st
/-- a block; n: how many levels may stand within one another from here on, and one more -/
def blockF (ts : List Str) : Nat → RS → Option RS
  | 0, _ => none
  | n + 1, st => blkF ts (oneF ts (rowsF ts (blockF ts n) (decide (0 < n)))) (ts.length + 1) st
def functionF (ts : List Str) (st : RS) : Option ((Str × Nat) × RS) :=
  if ((wordsAt ts st.at_).drop 1).all isNameW = true ∧ 2 ≤ (wordsAt ts st.at_).length ∧ ((wordsAt ts st.at_).drop 2).length ≤ 3 ∧ cntTo ((wordsAt ts st.at_).drop 2) ((wordsAt ts st.at_).drop 2).length = ((wordsAt ts st.at_).drop 2).length then
    (match blockF ts 6 { st with at_ := st.at_ + 1 } with
    | none => none
    | some st2 => if headAt ts st2.at_ = some "give" then (match only1 (exL ((wordsAt ts st2.at_).drop 1)) with
        | none => none
        | some e => some ((wd (wordsAt ts st.at_) 1, ((wordsAt ts st.at_).drop 2).length), ⟨st2.at_ + 1, putN st2.num st2.at_ (.give e), st2.calls⟩)) else none) else none
def funsF (ts : List Str) : Nat → List (Str × Nat) → RS → Option (List (Str × Nat) × RS)
  | 0, _, _ => none
  | n + 1, fs, st => if headAt ts st.at_ = some "fun" then (match functionF ts st with
      | none => none
      | some (f, st2) => if (fs.any fun g => decide (g.1 = f.1)) = true ∨ fs.length = 4 then none else funsF ts n (fs ++ [f]) st2)
    else some (fs, st)
def callOk (fs : List (Str × Nat)) (c : Str × Nat) : Bool := match fs.find? fun f => decide (f.1 = c.1) with
  | some f => decide (f.2 = c.2)
  | none => false
def readF (ts : List Str) : Option (List (Nat × RT)) :=
  if ts.length ≤ 60 then (match funsF ts (ts.length + 1) [] ⟨0, [], []⟩ with
    | none => none
    | some (fs, st) => match passF ts "main" st with
      | none => none
      | some st1 => match blockF ts 6 st1 with
        | none => none
        | some st2 => if st2.at_ = ts.length ∧ st2.calls.all (callOk fs) = true then some st2.num else none) else none
/-! ### where it stands behind each -/
theorem passF_at {ts : List Str} {t : Str} {st st' : RS} (h : passF ts t st = some st') : st'.at_ = st.at_ + 1 ∧ st'.at_ ≤ ts.length ∧ st'.num = st.num ∧ st'.calls = st.calls := by
  unfold passF at h
  by_cases c : st.at_ < ts.length ∧ ts.getD st.at_ (Str.ofString "") = t
  · rw [if_pos c] at h
    cases h
    exact ⟨rfl, c.1, rfl, rfl⟩
  · rw [if_neg c] at h; cases h
theorem rowsF_at {ts : List Str} {blk : RS → Option RS} (hb : ∀ st st', st.at_ ≤ ts.length → blk st = some st' → st.at_ ≤ st'.at_ ∧ st'.at_ ≤ ts.length) {ok : Bool} {ws : List Str} {st st' : RS} {rt : RT} (hs : st.at_ ≤ ts.length) (h : rowsF ts blk ok ws st = some (rt, st')) : st.at_ ≤ st'.at_ ∧ st'.at_ ≤ ts.length := by
  unfold rowsF at h
  cases ok with
  | false => cases h
  | true =>
    rw [if_pos rfl] at h
    cases q1 : only1 (exL (ws.drop 1)) with
    | none => rw [q1] at h; cases h
    | some e =>
      rw [q1] at h
      simp only at h
      cases q2 : blk st with
      | none => rw [q2] at h; cases h
      | some st2 =>
        rw [q2] at h
        simp only at h
        have b1 := hb st st2 hs q2
        by_cases c : hd0 ws = "while"
        · rw [if_pos c] at h
          cases q3 : passF ts "end" st2 with
          | none => rw [q3] at h; cases h
          | some st3 =>
            rw [q3] at h
            cases h
            have := passF_at q3
            omega
        · rw [if_neg c] at h
          cases q3 : passF ts "else" st2 with
          | none => rw [q3] at h; cases h
          | some st3 =>
            rw [q3] at h
            simp only at h
            have p3 := passF_at q3
            cases q4 : blk st3 with
            | none => rw [q4] at h; cases h
            | some st4 =>
              rw [q4] at h
              simp only at h
              have b4 := hb st3 st4 p3.2.1 q4
              cases q5 : passF ts "end" st4 with
              | none => rw [q5] at h; cases h
              | some st5 =>
                rw [q5] at h
                cases h
                have := passF_at q5
                omega
theorem oneF_at {ts : List Str} {rows : List Str → RS → Option (RT × RS)} (hr : ∀ ws st rt st', st.at_ ≤ ts.length → rows ws st = some (rt, st') → st.at_ ≤ st'.at_ ∧ st'.at_ ≤ ts.length) {st st' : RS} {rt : RT} (hs : st.at_ < ts.length) (h : oneF ts rows st = some (rt, st')) : st.at_ < st'.at_ ∧ st'.at_ ≤ ts.length := by
  unfold oneF at h
  by_cases c1 : hd0 (wordsAt ts st.at_) = "if" ∨ hd0 (wordsAt ts st.at_) = "while"
  · rw [if_pos c1] at h
    have := hr _ _ _ _ (by show st.at_ + 1 ≤ ts.length; omega) h
    have h2 : st.at_ + 1 ≤ st'.at_ := this.1
    omega
  rw [if_neg c1] at h
  by_cases c2 : hd0 (wordsAt ts st.at_) = "call"
  · rw [if_pos c2] at h
    cases q : callF (wordsAt ts st.at_) with
    | none => rw [q] at h; cases h
    | some r =>
      obtain ⟨b, f, es⟩ := r
      rw [q] at h
      cases h
      exact ⟨Nat.lt_succ_self _, hs⟩
  · rw [if_neg c2] at h
    cases q : simpleF (wordsAt ts st.at_) with
    | none => rw [q] at h; cases h
    | some r => rw [q] at h; cases h; exact ⟨Nat.lt_succ_self _, hs⟩
theorem headAt_lt {ts : List Str} {i : Nat} {w : Str} (h : headAt ts i = some w) : i < ts.length ∧ w = hd0 (wordsAt ts i) := by
  unfold headAt at h
  by_cases c : i < ts.length
  · rw [if_pos c] at h; exact ⟨c, (Option.some.inj h).symm⟩
  · rw [if_neg c] at h; cases h
theorem blkF_at {ts : List Str} {one : RS → Option (RT × RS)} (ho : ∀ st rt st', st.at_ < ts.length → one st = some (rt, st') → st.at_ < st'.at_ ∧ st'.at_ ≤ ts.length) : ∀ {m : Nat} {st st' : RS}, st.at_ ≤ ts.length → blkF ts one m st = some st' → st.at_ ≤ st'.at_ ∧ st'.at_ ≤ ts.length
  | 0, _, _, _, h => by cases h
  | m + 1, st, st', hs, h => by
    unfold blkF at h
    cases q : headAt ts st.at_ with
    | none => rw [q] at h; cases h; exact ⟨Nat.le_refl _, hs⟩
    | some w =>
      rw [q] at h
      simp only at h
      by_cases c : w ∈ ROWW
      · rw [if_pos c] at h
        cases q2 : one st with
        | none => rw [q2] at h; cases h
        | some r =>
          obtain ⟨rt, st2⟩ := r
          rw [q2] at h
          simp only at h
          have o := ho _ _ _ (headAt_lt q).1 q2
          have := blkF_at ho (st := ⟨st2.at_, putN st2.num st.at_ rt, st2.calls⟩) o.2 h
          have h3 : st2.at_ ≤ st'.at_ := this.1
          omega
      · rw [if_neg c] at h; cases h; exact ⟨Nat.le_refl _, hs⟩
theorem blockF_at {ts : List Str} : ∀ {n : Nat} {st st' : RS}, st.at_ ≤ ts.length → blockF ts n st = some st' → st.at_ ≤ st'.at_ ∧ st'.at_ ≤ ts.length
  | 0, _, _, _, h => by cases h
  | n + 1, st, st', hs, h => blkF_at (fun st rt st' hs h => oneF_at (fun ws st rt st' hs h => rowsF_at (fun st st' hs h => blockF_at hs h) hs h) hs h) hs h
/-! ### how many rows are put -/
theorem putN_len (l : List (Nat × RT)) (n : Nat) (r : RT) : (putN l n r).length ≤ l.length + 1 := by
  unfold putN
  split
  · rw [List.length_map]; omega
  · rw [List.length_append, List.length_singleton]; exact Nat.le_refl _
theorem rowsF_gr {ts : List Str} {blk : RS → Option RS} (hb : ∀ st st', blk st = some st' → st'.num.length + st.at_ ≤ st.num.length + st'.at_) {ok : Bool} {ws : List Str} {st st' : RS} {rt : RT} (h : rowsF ts blk ok ws st = some (rt, st')) : st'.num.length + st.at_ ≤ st.num.length + st'.at_ := by
  unfold rowsF at h
  cases ok with
  | false => cases h
  | true =>
    rw [if_pos rfl] at h
    cases q1 : only1 (exL (ws.drop 1)) with
    | none => rw [q1] at h; cases h
    | some e =>
      rw [q1] at h
      simp only at h
      cases q2 : blk st with
      | none => rw [q2] at h; cases h
      | some st2 =>
        rw [q2] at h
        simp only at h
        have b1 := hb st st2 q2
        by_cases c : hd0 ws = "while"
        · rw [if_pos c] at h
          cases q3 : passF ts "end" st2 with
          | none => rw [q3] at h; cases h
          | some st3 =>
            rw [q3] at h
            cases h
            have p3 := passF_at q3
            rw [p3.2.2.1, p3.1]
            omega
        · rw [if_neg c] at h
          cases q3 : passF ts "else" st2 with
          | none => rw [q3] at h; cases h
          | some st3 =>
            rw [q3] at h
            simp only at h
            have p3 := passF_at q3
            cases q4 : blk st3 with
            | none => rw [q4] at h; cases h
            | some st4 =>
              rw [q4] at h
              simp only at h
              have b4 := hb st3 st4 q4
              cases q5 : passF ts "end" st4 with
              | none => rw [q5] at h; cases h
              | some st5 =>
                rw [q5] at h
                cases h
                have p5 := passF_at q5
                rw [p5.2.2.1, p5.1]
                rw [p3.2.2.1, p3.1] at b4
                omega
theorem oneF_gr {ts : List Str} {rows : List Str → RS → Option (RT × RS)} (hr : ∀ ws st rt st', rows ws st = some (rt, st') → st'.num.length + st.at_ ≤ st.num.length + st'.at_) {st st' : RS} {rt : RT} (h : oneF ts rows st = some (rt, st')) : st'.num.length + st.at_ + 1 ≤ st.num.length + st'.at_ := by
  unfold oneF at h
  by_cases c1 : hd0 (wordsAt ts st.at_) = "if" ∨ hd0 (wordsAt ts st.at_) = "while"
  · rw [if_pos c1] at h
    have h2 : st'.num.length + (st.at_ + 1) ≤ st.num.length + st'.at_ := hr _ _ _ _ h
    omega
  rw [if_neg c1] at h
  by_cases c2 : hd0 (wordsAt ts st.at_) = "call"
  · rw [if_pos c2] at h
    cases q : callF (wordsAt ts st.at_) with
    | none => rw [q] at h; cases h
    | some r =>
      obtain ⟨b, f, es⟩ := r
      rw [q] at h
      cases h
      show st.num.length + st.at_ + 1 ≤ st.num.length + (st.at_ + 1)
      omega
  · rw [if_neg c2] at h
    cases q : simpleF (wordsAt ts st.at_) with
    | none => rw [q] at h; cases h
    | some r =>
      rw [q] at h; cases h
      show st.num.length + st.at_ + 1 ≤ st.num.length + (st.at_ + 1)
      omega
theorem blkF_gr {ts : List Str} {one : RS → Option (RT × RS)} (ho : ∀ st rt st', one st = some (rt, st') → st'.num.length + st.at_ + 1 ≤ st.num.length + st'.at_) : ∀ {m : Nat} {st st' : RS}, blkF ts one m st = some st' → st'.num.length + st.at_ ≤ st.num.length + st'.at_
  | 0, _, _, h => by cases h
  | m + 1, st, st', h => by
    unfold blkF at h
    cases q : headAt ts st.at_ with
    | none => rw [q] at h; cases h; exact Nat.le_refl _
    | some w =>
      rw [q] at h
      simp only at h
      by_cases c : w ∈ ROWW
      · rw [if_pos c] at h
        cases q2 : one st with
        | none => rw [q2] at h; cases h
        | some r =>
          obtain ⟨rt, st2⟩ := r
          rw [q2] at h
          simp only at h
          have o := ho _ _ _ q2
          have b : st'.num.length + st2.at_ ≤ (putN st2.num st.at_ rt).length + st'.at_ := blkF_gr ho (st := ⟨st2.at_, putN st2.num st.at_ rt, st2.calls⟩) h
          have := putN_len st2.num st.at_ rt
          omega
      · rw [if_neg c] at h; cases h; exact Nat.le_refl _
theorem blockF_gr {ts : List Str} : ∀ {n : Nat} {st st' : RS}, blockF ts n st = some st' → st'.num.length + st.at_ ≤ st.num.length + st'.at_
  | 0, _, _, h => by cases h
  | n + 1, st, st', h => blkF_gr (fun st rt st' h => oneF_gr (fun ws st rt st' h => rowsF_gr (fun st st' h => blockF_gr h) h) h) h
/-! ### the reader's object -/
structure Rd where
  p : Addr
  d : Addr
  cl : Addr
  a : Addr
  ts : List Str
  /-- lists that grow by themselves -/
  av : List Addr
def Rd.N (X : Rd) (l : Addr) : Prop := l ≠ X.cl ∧ l ∉ X.av
def NumO (c : RC) (ec : EC) (N : Addr → Prop) (H : Hp) (x : Nat × RT) (kv : Key × V) : Prop := kv.1 = .inl ((x.1 : Nat) : Int) ∧ RowO c ec N H ((x.1 : Nat) : Int) x.2 kv.2
def CallO (c : RC) (ec : EC) (N : Addr → Prop) (H : Hp) (f : Str × Nat) (v : V) : Prop := ∃ (n : Int) (b : Str) (es : List Ex), es.length = f.2 ∧ RowO c ec N H n (.call b f.1 es) v
def rdF (X : Rd) (st : RS) : List (Str × V) := [("texts", .ref X.a), ("at", .int ((st.at_ : Nat) : Int)), ("by_number", .ref X.d), ("calls", .ref X.cl)]
structure RdH (K : PySem.W.Frag) (c : RC) (ec : EC) (R : Addr) (X : Rd) (H : Hp) (st : RS) : Prop where
  obj : ∃ dx, H X.p = some (.ins R dx (rdF X st))
  dict : ∃ kvs, H X.d = some (.dK kvs) ∧ All2 (NumO c ec X.N H) st.num kvs
  calls : ∃ os, H X.cl = some (.lst os) ∧ All2 (CallO c ec X.N H) st.calls os
  txts : H X.a = some (.lst (X.ts.map V.str))
  ne : X.a ≠ X.cl
  sm : X.ts.length ≤ 60 ∧ ∀ t ∈ X.ts, t.length ≤ 99999
  cod : ∀ t ∈ X.ts, PyData.strOk t = true
  at_ : st.at_ ≤ X.ts.length
  lists : ∀ a ∈ X.av, a ≠ X.cl ∧ a ≠ X.a ∧ ∃ xs, H a = some (.lst xs)
  cn : st.calls.length ≤ st.at_
  nn : st.num.length ≤ st.at_
theorem allE_same {c : EC} {H H' : Hp} (s : Same H H') {es : List Ex} {vs : List V} (h : AllE c H es vs) : AllE c H' es vs := h.same s
/-- all stands but the reader, its dict, its calls -/
def Mv (X : Rd) (H H' : Hp) : Prop := KeepL [X.p, X.d, X.cl] H H'
theorem Mv.trans {X : Rd} {H H1 H2 : Hp} (a : Mv X H H1) (b : Mv X H1 H2) : Mv X H H2 := fun q o n h => b q o n (a q o n h)
theorem mv_same {X : Rd} {H H' : Hp} (s : Same H H') : Mv X H H' := fun q o _ h => s q o h
section
variable {K : PySem.W.Frag} {c : RC} {ec : EC} {R : Addr} {X : Rd} {H H' : Hp} {st : RS}
theorem RdH.keepI (h : RdH K c ec R X H st) (k : Mv X H H') : KeepI (fun C => C ≠ R) X.N H H' := by
  obtain ⟨dx, h1⟩ := h.obj
  obtain ⟨kvs, h2, _⟩ := h.dict
  obtain ⟨os, h3, _⟩ := h.calls
  constructor
  · intro q C dx' fs hC hq
    refine k q _ (fun hm => ?_) hq
    simp only [List.mem_cons, List.not_mem_nil, or_false] at hm
    rcases hm with rfl | rfl | rfl
    · rw [h1] at hq; cases hq; exact hC rfl
    · rw [h2] at hq; cases hq
    · rw [h3] at hq; cases hq
  · intro l xs hl hq
    refine k l _ (fun hm => ?_) hq
    simp only [List.mem_cons, List.not_mem_nil, or_false] at hm
    rcases hm with rfl | rfl | rfl
    · rw [h1] at hq; cases hq
    · rw [h2] at hq; cases hq
    · exact hl.1 rfl
theorem RdH.keepList (h : RdH K c ec R X H st) (k : Mv X H H') {a : Addr} {xs : List V} (n : a ≠ X.cl) (e : H a = some (.lst xs)) : H' a = some (.lst xs) := by
  obtain ⟨dx, h1⟩ := h.obj
  obtain ⟨kvs, h2, _⟩ := h.dict
  refine k a _ (fun hm => ?_) e
  simp only [List.mem_cons, List.not_mem_nil, or_false] at hm
  rcases hm with rfl | rfl | rfl
  · rw [h1] at e; cases e
  · rw [h2] at e; cases e
  · exact n rfl
theorem RdH.keepLists (h : RdH K c ec R X H st) (k : Mv X H H') : ∀ a ∈ X.av, a ≠ X.cl ∧ a ≠ X.a ∧ ∃ xs, H' a = some (.lst xs) := fun a ha => by
  obtain ⟨n, n2, xs, e⟩ := h.lists a ha
  exact ⟨n, n2, xs, h.keepList k n e⟩
theorem RdH.seq (h : RdH K c ec R X H st) (k : Mv X H H') {a : Addr} {xs : List V} (n : a ≠ X.cl) (s : SqL K H a xs) : SqL K H' a xs := by
  obtain ⟨dx, h1⟩ := h.obj
  obtain ⟨kvs, h2, _⟩ := h.dict
  have ok : ∀ o, H a = some o → (o = .lst xs ∨ ∃ ob, o = .frz ob (.lst xs)) → H' a = some o := fun o ha ho => k a o (fun hm => by
    simp only [List.mem_cons, List.not_mem_nil, or_false] at hm
    rcases hm with rfl | rfl | rfl
    · rw [h1] at ha; rcases ho with rfl | ⟨_, rfl⟩ <;> cases ha
    · rw [h2] at ha; rcases ho with rfl | ⟨_, rfl⟩ <;> cases ha
    · exact n rfl) ha
  rcases s with (s | ⟨o, s⟩) | s
  · exact .inl (.inl (ok _ s (.inl rfl)))
  · exact .inl (.inr ⟨o, ok _ s (.inr ⟨o, rfl⟩)⟩)
  · exact .inr s
theorem RdH.same (h : RdH K c ec R X H st) (s : Same H H') : RdH K c ec R X H' st := by
  obtain ⟨dx, h1⟩ := h.obj
  obtain ⟨kvs, h2, h3⟩ := h.dict
  obtain ⟨os, h4, h5⟩ := h.calls
  exact ⟨⟨dx, s _ _ h1⟩, ⟨kvs, s _ _ h2, h3.mono fun a b h => ⟨h.1, h.2.same s⟩⟩, ⟨os, s _ _ h4, h5.mono fun a b ⟨n, b, es, h1, h2⟩ => ⟨n, b, es, h1, h2.same s⟩⟩, s _ _ h.txts, h.ne, h.sm, h.cod, h.at_, fun a ha => ⟨(h.lists a ha).1, (h.lists a ha).2.1, (h.lists a ha).2.2.elim fun xs e => ⟨xs, s _ _ e⟩⟩, h.cn, h.nn⟩
theorem RdH.ats (h : RdH K c ec R X H st) (hc : ∀ C, ec.Fam C → C ≠ R) (hr : ∀ C, c.Fam C → C ≠ R) (k : Mv X H H') {dx : Addr} {st' : RS} (h1 : H' X.p = some (.ins R dx (rdF X st'))) {kvs : List (Key × V)} (h2 : H' X.d = some (.dK kvs)) (h3 : All2 (NumO c ec X.N H') st'.num kvs) {os : List V} (h4 : H' X.cl = some (.lst os)) (h5 : All2 (CallO c ec X.N H') st'.calls os) (h6 : st'.at_ ≤ X.ts.length) (h7 : st'.calls.length ≤ st'.at_) (h8 : st'.num.length ≤ st'.at_) : RdH K c ec R X H' st' :=
  ⟨⟨dx, h1⟩, ⟨kvs, h2, h3⟩, ⟨os, h4, h5⟩, h.keepList k h.ne h.txts, h.ne, h.sm, h.cod, h6, h.keepLists k, h7, h8⟩
theorem numO_put {N : Addr → Prop} {n : Nat} {rt : RT} {v : V} (hv : RowO c ec N H (n : Int) rt v) : ∀ {num : List (Nat × RT)} {kvs : List (Key × V)}, All2 (NumO c ec N H) num kvs → All2 (NumO c ec N H) (putN num n rt) (putK kvs (.inl (n : Int)) v) := by
  intro num kvs h
  have e1 : (num.any fun x => decide (x.1 = n)) = kvs.any fun kv => decide (kv.1 = (.inl (n : Int) : Key)) := by
    induction h with
    | nil => rfl
    | @cons a b as bs hab _ ih =>
      rw [List.any_cons, List.any_cons, ih, hab.1]
      congr 1
      by_cases q : a.1 = n
      · rw [decide_eq_true q, q, decide_eq_true rfl]
      · rw [decide_eq_false q, decide_eq_false (fun e => q (Int.ofNat.inj (Sum.inl.inj e)) : ¬ ((.inl ((a.1 : Nat) : Int) : Key) = .inl ((n : Nat) : Int)))]
  unfold putN putK
  rw [e1]
  by_cases c1 : (kvs.any fun kv => decide (kv.1 = (.inl (n : Int) : Key))) = true
  · rw [if_pos c1, if_pos c1]
    clear c1 e1
    induction h with
    | nil => exact .nil
    | @cons a b as bs hab _ ih =>
      rw [List.map_cons, List.map_cons]
      refine .cons ?_ ih
      by_cases q : a.1 = n
      · have q2 : b.1 = (.inl (n : Int) : Key) := by rw [hab.1, q]
        rw [if_pos q, if_pos q2]
        exact ⟨hab.1, by show RowO c ec N H ((a.1 : Nat) : Int) rt v; rw [q]; exact hv⟩
      · have q2 : ¬ b.1 = (.inl (n : Int) : Key) := fun e => q (by rw [hab.1] at e; exact Int.ofNat.inj (Sum.inl.inj e))
        rw [if_neg q, if_neg q2]
        exact hab
  · rw [if_neg c1, if_neg c1]
    exact h.snoc ⟨rfl, hv⟩
theorem RdH.step (h : RdH K c ec R X H st) (hc : ∀ C, ec.Fam C → C ≠ R) (hr : ∀ C, c.Fam C → C ≠ R) (hlt : st.at_ < X.ts.length) {dx : Addr} (h1 : H X.p = some (.ins R dx (rdF X st))) :
    Mv X H (upd H X.p (.ins R dx (putF "at" (V.int (((st.at_ : Nat) : Int) + 1)) (rdF X st)))) ∧ RdH K c ec R X (upd H X.p (.ins R dx (putF "at" (V.int (((st.at_ : Nat) : Int) + 1)) (rdF X st)))) ⟨st.at_ + 1, st.num, st.calls⟩ := by
  have e2 : putF "at" (V.int (((st.at_ : Nat) : Int) + 1)) (rdF X st) = rdF X ⟨st.at_ + 1, st.num, st.calls⟩ := by
    show [_, (_, V.int (((st.at_ : Nat) : Int) + 1)), _, _] = [_, (_, V.int ((st.at_ + 1 : Nat) : Int)), _, _]
    rw [show ((st.at_ + 1 : Nat) : Int) = ((st.at_ : Nat) : Int) + 1 from by omega]
  rw [e2]
  have mv : Mv X H (upd H X.p (.ins R dx (rdF X ⟨st.at_ + 1, st.num, st.calls⟩))) := fun z o n h => by rw [upd_ne (fun e => n (by rw [e]; exact List.mem_cons_self))]; exact h
  obtain ⟨kvs, k1, k2⟩ := h.dict
  obtain ⟨os, k3, k4⟩ := h.calls
  have ki := h.keepI mv
  exact ⟨mv, h.ats hc hr mv upd_same (by rw [upd_ne (ne_of k1 h1 (by intro z; cases z))]; exact k1) (k2.mono fun x kv h => ⟨h.1, h.2.keepI ki hc hr⟩) (by rw [upd_ne (ne_of k3 h1 (by intro z; cases z))]; exact k3) (k4.mono fun f v ⟨n, b, es, z1, z2⟩ => ⟨n, b, es, z1, z2.keepI ki hc hr⟩) (show st.at_ + 1 ≤ X.ts.length by omega) (show st.calls.length ≤ st.at_ + 1 by have := h.cn; omega) (show st.num.length ≤ st.at_ + 1 by have := h.nn; omega)⟩
theorem RdH.put (h : RdH K c ec R X H st) (hc : ∀ C, ec.Fam C → C ≠ R) (hr : ∀ C, c.Fam C → C ≠ R) {n : Nat} {rt : RT} {v : V} (hv : RowO c ec X.N H (n : Int) rt v) (hn : (putN st.num n rt).length ≤ st.at_) :
    ∃ kvs, H X.d = some (.dK kvs) ∧ kvs.length ≤ 60 ∧ Mv X H (upd H X.d (.dK (putK kvs (.inl (n : Int)) v))) ∧ RdH K c ec R X (upd H X.d (.dK (putK kvs (.inl (n : Int)) v))) ⟨st.at_, putN st.num n rt, st.calls⟩ := by
  obtain ⟨dx, h1⟩ := h.obj
  obtain ⟨kvs, k1, k2⟩ := h.dict
  obtain ⟨os, k3, k4⟩ := h.calls
  have mv : Mv X H (upd H X.d (.dK (putK kvs (.inl (n : Int)) v))) := fun z o n h => by rw [upd_ne (fun e => n (by rw [e]; simp))]; exact h
  have ki := h.keepI mv
  refine ⟨kvs, k1, ?_, mv, ?_⟩
  · have := k2.length
    have := h.nn
    have := h.at_
    have := h.sm.1
    omega
  · exact h.ats hc hr mv (st' := ⟨st.at_, putN st.num n rt, st.calls⟩) (by rw [upd_ne (ne_of h1 k1 (by intro z; cases z))]; exact h1) upd_same (numO_put (hv.keepI ki hc hr) (k2.mono fun x kv h => ⟨h.1, h.2.keepI ki hc hr⟩)) (by rw [upd_ne (ne_of k3 k1 (by intro z; cases z))]; exact k3) (k4.mono fun f v ⟨n, b, es, z1, z2⟩ => ⟨n, b, es, z1, z2.keepI ki hc hr⟩) h.at_ h.cn hn
/-- with one list more that grows by itself -/
def Rd.add (X : Rd) (l : Addr) : Rd := ⟨X.p, X.d, X.cl, X.a, X.ts, l :: X.av⟩
theorem RdH.add (h : RdH K c ec R X H st) {l : Addr} (hl : H l = none) : RdH K c ec R (X.add l) (upd H l (.lst [])) st := by
  have s := same_new (o := .lst ([] : List V)) hl
  obtain ⟨dx, h1⟩ := h.obj
  obtain ⟨kvs, k1, k2⟩ := h.dict
  obtain ⟨os, k3, k4⟩ := h.calls
  have ncl : l ≠ X.cl := fun e => by rw [e, k3] at hl; cases hl
  have wk : ∀ a, (∃ o, H a = some o) → X.N a → (X.add l).N a := fun a ho hn => ⟨hn.1, fun hm => by
    rcases List.mem_cons.mp hm with rfl | hm
    · obtain ⟨o, e⟩ := ho; rw [hl] at e; cases e
    · exact hn.2 hm⟩
  refine ⟨⟨dx, s _ _ h1⟩, ⟨kvs, s _ _ k1, k2.mono fun x kv z => ⟨z.1, (z.2.weak wk).same s⟩⟩, ⟨os, s _ _ k3, k4.mono fun f v ⟨n, b, es, z1, z2⟩ => ⟨n, b, es, z1, (z2.weak wk).same s⟩⟩, s _ _ h.txts, h.ne, h.sm, h.cod, h.at_, ?_, h.cn, h.nn⟩
  intro a ha
  rcases List.mem_cons.mp ha with rfl | ha
  · exact ⟨ncl, fun e => (by have e' : a = X.a := e; rw [e', h.txts] at hl; cases hl), [], upd_same⟩
  · obtain ⟨n, n2, xs, e⟩ := h.lists a ha
    exact ⟨n, n2, xs, s _ _ e⟩
theorem RowO.drop {l : Addr} {n : Int} {rt : RT} {v : V} (h : RowO c ec (X.add l).N H n rt v) : RowO c ec X.N H n rt v := h.weak fun a _ hn => ⟨hn.1, fun hm => hn.2 (List.mem_cons_of_mem _ hm)⟩
theorem RdH.drop {l : Addr} (h : RdH K c ec R (X.add l) H st) : RdH K c ec R X H st := by
  obtain ⟨kvs, k1, k2⟩ := h.dict
  obtain ⟨os, k3, k4⟩ := h.calls
  exact ⟨h.obj, ⟨kvs, k1, k2.mono fun x kv z => ⟨z.1, z.2.drop⟩⟩, ⟨os, k3, k4.mono fun f v ⟨n, b, es, z1, z2⟩ => ⟨n, b, es, z1, z2.drop⟩⟩, h.txts, h.ne, h.sm, h.cod, h.at_, fun a ha => h.lists a (List.mem_cons_of_mem _ ha), h.cn, h.nn⟩
/-- the newest such list grows -/
theorem RdH.grow {l : Addr} (h : RdH K c ec R (X.add l) H st) {xs ys : List V} (e : H l = some (.lst xs)) : RdH K c ec R (X.add l) (upd H l (.lst ys)) st := by
  obtain ⟨dx, h1⟩ := h.obj
  obtain ⟨kvs, k1, k2⟩ := h.dict
  obtain ⟨os, k3, k4⟩ := h.calls
  have ncl : l ≠ X.cl := (h.lists l List.mem_cons_self).1
  have ki : KeepI (fun _ => True) (X.add l).N H (upd H l (.lst ys)) := ⟨fun q C dx fs _ hq => by rw [upd_ne (ne_of hq e (by intro z; cases z))]; exact hq, fun q zs hn hq => by
    have nq : q ≠ l := fun z => hn.2 (by rw [z]; exact List.mem_cons_self)
    rw [upd_ne nq]; exact hq⟩
  refine ⟨⟨dx, (upd_ne (ne_of h1 e (by intro z; cases z))).trans h1⟩, ⟨kvs, (upd_ne (ne_of k1 e (by intro z; cases z))).trans k1, k2.mono fun x kv z => ⟨z.1, z.2.keepI ki (fun _ _ => trivial) fun _ _ => trivial⟩⟩,
    ⟨os, (upd_ne (Ne.symm ncl)).trans k3, k4.mono fun f v ⟨n, b, es, z1, z2⟩ => ⟨n, b, es, z1, z2.keepI ki (fun _ _ => trivial) fun _ _ => trivial⟩⟩, ?_, h.ne, h.sm, h.cod, h.at_, ?_, h.cn, h.nn⟩
  · exact (upd_ne (Ne.symm (h.lists l List.mem_cons_self).2.1)).trans h.txts
  · intro a ha
    obtain ⟨n, n2, zs, e2⟩ := h.lists a ha
    refine ⟨n, n2, ?_⟩
    by_cases q : a = l
    · exact ⟨ys, by rw [q]; exact upd_same⟩
    · exact ⟨zs, by rw [upd_ne q]; exact e2⟩
end

section
variable (K : PySem.W.Frag) (c : RC) (ec : EC) (R N : Addr)
def headV (ts : List Str) (i : Nat) : V := match headAt ts i with
  | some w => .str w
  | none => .non
def Small (ws : List Str) : Prop := ws.length ≤ 100000 ∧ ∀ s ∈ ws, s.length ≤ 100000
def spHead : Sp := fun vs H Q _ => ∃ (X : Rd) (st : RS), vs = [.ref X.p] ∧ RdH K c ec R X H st ∧ ∀ H', Same H H' → Q (headV X.ts st.at_) H'
def spPass : Sp := fun vs H Q E => ∃ (X : Rd) (st : RS) (t : Str), vs = [.ref X.p, .str t] ∧ RdH K c ec R X H st ∧ (∀ st' H', passF X.ts t st = some st' → Mv X H H' → RdH K c ec R X H' st' → Q .non H') ∧ (passF X.ts t st = none → ∀ H', Mv X H H' → E (.ref N) none H')
def spBlk (n : Nat) : Sp := fun vs H Q E => ∃ (X : Rd) (st : RS), vs = [.ref X.p, .int (6 - (n : Int))] ∧ RdH K c ec R X H st ∧ 1 ≤ n ∧ (∀ st' l H', blockF X.ts n st = some st' → Mv X H H' → RdH K c ec R X H' st' → Q l H') ∧ (blockF X.ts n st = none → ∀ H', Mv X H H' → E (.ref N) none H')
def spRows (m : Nat) : Sp := fun vs H Q E => ∃ (X : Rd) (st : RS) (num : Nat) (w : Addr) (ws : List Str), vs = [.ref X.p, .int (num : Int), .ref w, .int (6 - (m : Int))] ∧ RdH K c ec R X H st ∧ SqL K H w (ws.map V.str) ∧ w ≠ X.cl ∧ ws ≠ [] ∧ Small ws ∧
  (∀ rt st' v H', rowsF X.ts (blockF X.ts m) (decide (0 < m)) ws st = some (rt, st') → Mv X H H' → RdH K c ec R X H' st' → RowO c ec X.N H' (num : Int) rt v → Q v H') ∧ (rowsF X.ts (blockF X.ts m) (decide (0 < m)) ws st = none → ∀ H', Mv X H H' → E (.ref N) none H')
def spOne (m : Nat) : Sp := fun vs H Q E => ∃ (X : Rd) (st : RS), vs = [.ref X.p, .int (5 - (m : Int))] ∧ RdH K c ec R X H st ∧ st.at_ < X.ts.length ∧
  (∀ rt st' v H', oneF X.ts (rowsF X.ts (blockF X.ts m) (decide (0 < m))) st = some (rt, st') → Mv X H H' → RdH K c ec R X H' st' → RowO c ec X.N H' (st.at_ : Int) rt v → Q v H') ∧ (oneF X.ts (rowsF X.ts (blockF X.ts m) (decide (0 < m))) st = none → ∀ H', Mv X H H' → E (.ref N) none H')
def spCallRow : Sp := fun vs H Q E => ∃ (X : Rd) (st : RS) (num : Nat) (w : Addr) (ws : List Str), vs = [.ref X.p, .int (num : Int), .ref w] ∧ RdH K c ec R X H st ∧ SqL K H w (ws.map V.str) ∧ w ≠ X.cl ∧ ws ≠ [] ∧ Small ws ∧ st.calls.length < st.at_ ∧
  (∀ b f es v H', callF ws = some (b, f, es) → Mv X H H' → RdH K c ec R X H' ⟨st.at_, st.num, st.calls ++ [(f, es.length)]⟩ → RowO c ec X.N H' (num : Int) (.call b f es) v → Q v H') ∧ (callF ws = none → ∀ H', Mv X H H' → E (.ref N) none H')
def Codes (ws : List Str) : Prop := ∀ s ∈ ws, PyData.strOk s = true
def spSimple : Sp := fun vs H Q E => ∃ (num : Nat) (w : Addr) (ws : List Str), vs = [.int (num : Int), .ref w] ∧ SqL K H w (ws.map V.str) ∧ ws ≠ [] ∧ Small ws ∧ Codes ws ∧
  (∀ rt v H', simpleF ws = some rt → Same H H' → (∀ M, RowO c ec M H' (num : Int) rt v) → Q v H') ∧ (simpleF ws = none → ∀ H', Same H H' → E (.ref N) none H')
def spNames : Sp := fun vs H Q E => ∃ (l : Addr) (ws : List Str) (k : Nat), vs = [.ref l, .int (k : Int)] ∧ SqL K H l (ws.map V.str) ∧ Small ws ∧ (namesOk ws k = true → ∀ H', Same H H' → Q .non H') ∧ (namesOk ws k = false → ∀ H', Same H H' → E (.ref N) none H')
def spOnly : Sp := fun vs H Q E => ∃ (l : Addr) (os : List V), vs = [.ref l] ∧ H l = some (.lst os) ∧ (∀ v, os = [v] → Q v H) ∧ (os.length ≠ 1 → E (.ref N) none H)
end
theorem cut_mid {ws : List Str} {i j : Nat} : cutV (ws.map V.str) (some (i : Int)) (some (j : Int)) = ((ws.drop i).take (j - i)).map V.str := by
  unfold cutV
  rw [HT.sIx_nat, HT.sIx_nat, List.length_map, ← List.map_drop, ← List.map_take]
  congr 1
  by_cases h : i ≤ ws.length
  · rw [Nat.min_eq_left h]
    by_cases h2 : j ≤ ws.length
    · rw [Nat.min_eq_left h2]
    · rw [Nat.min_eq_right (by omega), List.take_of_length_le (by rw [List.length_drop]; exact Nat.le_refl _), List.take_of_length_le (by rw [List.length_drop]; omega)]
  · have e1 : min i ws.length = ws.length := Nat.min_eq_right (by omega)
    rw [e1, List.drop_eq_nil_of_le (Nat.le_refl _), List.drop_eq_nil_of_le (by omega : ws.length ≤ i)]
    simp
theorem cut_drop {ws : List Str} {i : Nat} : cutV (ws.map V.str) (some (i : Int)) none = (ws.drop i).map V.str := by
  unfold cutV
  rw [HT.sIx_nat, HT.sIx_none, List.length_map, ← List.map_drop, ← List.map_take]
  congr 1
  by_cases h : i ≤ ws.length
  · rw [Nat.min_eq_left h, List.take_of_length_le (by rw [List.length_drop]; exact Nat.le_refl _)]
  · rw [Nat.min_eq_right (by omega), List.drop_eq_nil_of_le (Nat.le_refl _), List.drop_eq_nil_of_le (by omega : ws.length ≤ i)]
    simp
theorem cut_take {ws : List Str} {i : Nat} : cutV (ws.map V.str) none (some (i : Int)) = (ws.take i).map V.str := by
  unfold cutV
  rw [HT.sIx_nat, HT.sIx_none, List.length_map, List.drop_zero, ← List.map_take, Nat.sub_zero]
  congr 1
  by_cases h : i ≤ ws.length
  · rw [Nat.min_eq_left h]
  · rw [Nat.min_eq_right (by omega), List.take_of_length_le (Nat.le_refl _), List.take_of_length_le (by omega)]
theorem Small.drop {ws : List Str} (h : Small ws) (i : Nat) : Small (ws.drop i) := ⟨by rw [List.length_drop]; have := h.1; omega, fun s hs => h.2 s (List.mem_of_mem_drop hs)⟩
theorem Small.take {ws : List Str} (h : Small ws) (i : Nat) : Small (ws.take i) := ⟨by rw [List.length_take]; have := h.1; omega, fun s hs => h.2 s (List.mem_of_mem_take hs)⟩
theorem at_hd {ws : List Str} (h : ws ≠ []) : atI (ws.map V.str) 0 = some (.str (hd0 ws)) := by
  cases ws with
  | nil => exact absurd rfl h
  | cons x r => exact atI_nat (xs := (x :: r).map V.str) (j := 0) rfl
theorem at_wd {ws : List Str} {i : Nat} (h : i < ws.length) : atI (ws.map V.str) (i : Int) = some (.str (wd ws i)) :=
  atI_nat (by rw [List.getElem?_map, List.getElem?_eq_getElem h]; unfold wd; rw [List.getD_eq_getElem?_getD, List.getElem?_eq_getElem h]; rfl)
theorem allE_one {ec : EC} {H : Hp} {es : List Ex} {os : List V} (h : AllE ec H es os) : (∀ v, os = [v] → ∃ e, es = [e] ∧ ObjE ec H e v) ∧ (os.length ≠ 1 → only1 (some es) = none) := by
  constructor
  · rintro v rfl
    cases h with
    | cons a b => cases b; exact ⟨_, rfl, a⟩
  · intro hl
    cases h with
    | nil => rfl
    | cons a b =>
      cases b with
      | nil => exact absurd rfl hl
      | cons a2 b2 => rfl
theorem names_len {ws : List Str} {k : Nat} (h : namesOk ws k = true) : ws.length = k ∧ ∀ s ∈ ws, isNameW s = true := by
  unfold namesOk at h
  simp only [Bool.and_eq_true, decide_eq_true_eq, List.all_eq_true] at h
  exact h

def strsD (ws : List Str) : PyData := .list (ws.map PyData.str)
theorem dp_strs {K : PySem.W.Frag} {H : Hp} : ∀ ws : List Str, DpAll K H (ws.map V.str) (ws.map PyData.str)
  | [] => .nil
  | s :: r => .cons (.str s) (dp_strs r)
theorem strs_shaped {ws : List Str} (h : Codes ws) : SeqAt.shaped (strsD ws) = true := by
  have h1 : ∀ {ws : List Str}, Codes ws → PyData.canLayAll0 (ws.map PyData.str) = true := by
    intro ws
    induction ws with
    | nil => intro _; rfl
    | cons s r ih =>
      intro h
      show (PyData.strOk s && PyData.canLayAll0 (r.map PyData.str)) = true
      rw [h s List.mem_cons_self, ih fun z hz => h z (List.mem_cons_of_mem _ hz)]; rfl
  have h2 : ∀ ws : List Str, PyData.depthAll (ws.map PyData.str) = 0 := by
    intro ws
    induction ws with
    | nil => rfl
    | cons s r ih => show max 0 (PyData.depthAll (r.map PyData.str)) = 0; rw [ih]; rfl
  show (PyData.canLayAll0 _ && decide (PyData.depthAll _ + 1 ≤ 64)) = true
  rw [h1 h, h2]; rfl
theorem strs_eqv : ∀ a b : List Str, PyData.eqv (strsD a) (strsD b) = decide (a = b)
  | [], [] => rfl
  | [], _ :: _ => rfl
  | _ :: _, [] => rfl
  | x :: a, y :: b => by
    have ih := strs_eqv a b
    have ih' : PyData.eqvAll (a.map PyData.str) (b.map PyData.str) = decide (a = b) := ih
    show ((x == y) && PyData.eqvAll (a.map PyData.str) (b.map PyData.str)) = _
    rw [ih']
    by_cases h1 : x = y
    · subst h1
      by_cases h2 : a = b
      · subst h2; simp
      · rw [decide_eq_false h2, decide_eq_false (fun e => h2 (List.cons.inj e).2), Bool.and_false]
    · rw [decide_eq_false (fun e => h1 (List.cons.inj e).1), (beq_eq_false_iff_ne.mpr h1 : (x == y) = false), Bool.false_and]

section
variable (K : PySem.W.Frag) (c : RC) (ec : EC) (R N : Addr)
def spRdInit : Sp := fun vs H Q _ => ∃ (p dx a : Addr) (ts : List Str), vs = [.ref p, .ref a] ∧ H p = some (.ins R dx []) ∧ H a = some (.lst (ts.map V.str)) ∧ ts.length ≤ 60 ∧ (∀ t ∈ ts, t.length ≤ 99999) ∧ (∀ t ∈ ts, PyData.strOk t = true) ∧
  ∀ d cl H', H d = none → H cl = none → KeepL [p] H H' → RdH K c ec R ⟨p, d, cl, a, ts, []⟩ H' ⟨0, [], []⟩ → Q .non H'
end
theorem split_ne (x y : Str) : Txt.split x y ≠ [] := by
  unfold Txt.split
  split
  · simp
  · split
    · simp
    · intro e
      have := congrArg List.length e
      rw [length_partsBetween] at this
      simp at this
theorem wordsAt_ok {ts : List Str} (h : ∀ t ∈ ts, t.length ≤ 99999) (i : Nat) : Small (wordsAt ts i) ∧ wordsAt ts i ≠ [] := by
  have hs : (ts.getD i (Str.ofString "")).length ≤ 99999 := by
    rw [List.getD_eq_getElem?_getD]
    by_cases hi : i < ts.length
    · rw [List.getElem?_eq_getElem hi]; exact h _ (List.getElem_mem hi)
    · rw [List.getElem?_eq_none (by omega)]; decide
  refine ⟨split_small (s := ts.getD i (Str.ofString "")) hs, fun e => ?_⟩
  have e2 := congrArg List.length e
  unfold wordsAt at e2
  have := split_ne (ts.getD i (Str.ofString "")) (Str.ofString " ")
  exact this (List.eq_nil_of_length_eq_zero e2)

section
variable (K : PySem.W.Frag) (c : RC) (ec : EC) (R N F PC : Addr)
/-- v is a function's object: its name, so many parameters -/
def FunO (M : Addr → Prop) (H : Hp) (f : Str × Nat) (v : V) : Prop := ∃ (p dx l : Addr) (ps : List Str) (b g : V), v = .ref p ∧ H p = some (.ins F dx [("name", .str f.1), ("params", .ref l), ("body", b), ("give", g)]) ∧ M l ∧ H l = some (.lst (ps.map V.str)) ∧ ps.length = f.2
def FunK (M : Addr → Prop) (H : Hp) (f : Str × Nat) (kv : Key × V) : Prop := kv.1 = .inr f.1 ∧ FunO F M H f kv.2
def spFunction : Sp := fun vs H Q E => ∃ (X : Rd) (st : RS), vs = [.ref X.p] ∧ RdH K c ec R X H st ∧ headAt X.ts st.at_ = some "fun" ∧
  (∀ f st' v H', functionF X.ts st = some (f, st') → Mv X H H' → RdH K c ec R X H' st' → FunO F X.N H' f v → Q v H') ∧ (functionF X.ts st = none → ∀ H', Mv X H H' → E (.ref N) none H')
def spCalls : Sp := fun vs H Q E => ∃ (a d : Addr) (os : List V) (kvs : List (Key × V)) (M : Addr → Prop) (cs fs : List (Str × Nat)), vs = [.ref a, .ref d] ∧ H a = some (.lst os) ∧ H d = some (.dK kvs) ∧ All2 (CallO c ec M H) cs os ∧ All2 (FunK F M H) fs kvs ∧
  (cs.all (callOk fs) = true → Q .non H) ∧ (cs.all (callOk fs) = false → E (.ref N) none H)
/-- v is a program read from the lines ts, with these rows -/
def ProgO (H : Hp) (ts : List Str) (num : List (Nat × RT)) (v : V) : Prop := ∃ (p dx a d : Addr) (m f : V) (kvs : List (Key × V)), v = .ref p ∧ H p = some (.ins PC dx [("texts", .ref a), ("main", m), ("functions", f), ("by_number", .ref d)]) ∧ SqL K H a (ts.map V.str) ∧ H d = some (.dK kvs) ∧ All2 (NumO c ec (fun _ => True) H) num kvs
def TextOk (s : Str) : Prop := s.length ≤ 1000000 ∧ (∀ t ∈ Txt.split s "\n", t.length ≤ 99999) ∧ PyData.strOk s = true
def spRead : Sp := fun vs H Q E => ∃ x : V, vs = [x] ∧ ((∃ (s : Str), x = .str s ∧ TextOk s ∧
  (∀ num v H', readF (Txt.split s "\n") = some num → Same H H' → ProgO K c ec PC H' (Txt.split s "\n") num v → Q v H') ∧ (readF (Txt.split s "\n") = none → ∀ H', Same H H' → E (.ref N) none H')) ∨
  (∃ t, TyX K H x t ∧ PySem.W.kitOne K t (.type "str") = some false ∧ E (.ref N) none H))
def spPText : Sp := fun vs H Q _ => ∃ (v : V) (ts : List Str) (num : List (Nat × RT)), vs = [v] ∧ ProgO K c ec PC H ts num v ∧ ts.length ≤ 100 ∧ (∀ t ∈ ts, t.length ≤ 99999) ∧ Q (.str (Txt.join "\n" ts)) H
def spPLines : Sp := fun vs H Q _ => ∃ (v : V) (ts : List Str) (num : List (Nat × RT)), vs = [v] ∧ ProgO K c ec PC H ts num v ∧ ∀ l, H l = none → Q (.ref l) (upd H l (.lst (ts.map V.str)))
def rowOf (num : List (Nat × RT)) (n : Int) : Option RT := (num.find? fun x => decide ((x.1 : Int) = n)).map (·.2)
def spPRow : Sp := fun vs H Q _ => ∃ (v : V) (ts : List Str) (num : List (Nat × RT)) (n : Int), vs = [v, .int n] ∧ ProgO K c ec PC H ts num v ∧ (∀ rt, rowOf num n = some rt → (∀ e ∈ rt.exs, e.depth ≤ 7) ∧ rt.exs.length ≤ 1000) ∧
  (rowOf num n = none → Q .non H) ∧ (∀ rt, rowOf num n = some rt → ∀ r H', Same H H' → RTold K H' rt r → Q r H')
end


def MENU1 : List Str := ["", "0", "1", "00", "01", "999999", "1000000", "0999999", "-1", "1.0", "a", "abcdef", "abcdefg", "A", "a1"]
def MENU2 : List Str := ["cell", "plus", "minus", "times", "over", "rest", "less", "same", "skip", "set", "if", "main"]
def MENU3 : List Str := ["end", "give", "a_b"]
theorem menu_ok : ∀ s ∈ (MENU1 ++ MENU2) ++ MENU3, (tl s).length ≤ 7 ∧ ∀ c ∈ tl s, c < 128 := by decide +kernel
def WordOk (s : Str) : Prop := (tl s).length ≤ 7 ∧ ∀ c ∈ tl s, c < 128
def spMenu : Sp := fun vs H Q _ => ∃ (p : Addr), vs = [.ref p] ∧ WellAt H p ∧ ∀ (s : Str) H', WordOk s → KeepX p H H' → WellAt H' p → Q (.str s) H'
def spSpoiled : Sp := fun vs H Q _ => ∃ (p a : Addr) (ws : List Str), vs = [.ref p, .ref a] ∧ WellAt H p ∧ H a = some (.lst (ws.map V.str)) ∧ a ≠ p ∧ ws ≠ [] ∧ ws.length ≤ 100 ∧ (∀ s ∈ ws, WordOk s) ∧
  ∀ (b : Addr) (us : List Str) H', H' b = some (.lst (us.map V.str)) → b ≠ p → us ≠ [] → us.length ≤ ws.length + 1 → (∀ s ∈ us, WordOk s) → KeepX p H H' → WellAt H' p → Q (.ref b) H'
def Ascii (s : Str) : Prop := ∀ c ∈ tl s, c < 128
def spTruthA (f : Str → Bool) : Sp := fun vs H Q _ => ∃ s : Str, vs = [.str s] ∧ s.length ≤ 1000 ∧ Ascii s ∧ ∀ H', Same H H' → Q (.bl (f s)) H'
def spLRead (K : PySem.W.Frag) (n : Nat) : Sp := fun vs H Q _ => ∃ (a : Addr) (ws : List Str) (i : Nat), vs = [.ref a, .int i] ∧ SqL K H a (ws.map V.str) ∧ ws.length ≤ 1000 ∧ (∀ s ∈ ws, s.length ≤ 1000 ∧ Ascii s) ∧ ws.length - i < n ∧
  (∀ e r, parseE n (ws.drop i) = some (e, r) → ∀ t v H', Same H H' → H' t = some (.tup [v, .int ((ws.length - r.length : Nat) : Int), .int e.depth]) → ToldE K H' e v → Q (.ref t) H') ∧
  (parseE n (ws.drop i) = none → ∀ H', Same H H' → Q .non H')
def spDue (K : PySem.W.Frag) : Sp := fun vs H Q _ => ∃ (s : Str), vs = [.str s] ∧ s.length ≤ 156 ∧ Ascii s ∧
  (∀ e v H', parseAll (Txt.split s " ").length (Txt.split s " ") = some [e] → Same H H' → ToldE K H' e v → Q v H') ∧
  ((∀ e, parseAll (Txt.split s " ").length (Txt.split s " ") ≠ some [e]) → ∀ H', Same H H' → Q .non H')
def spFound (K : PySem.W.Frag) : Sp := fun vs H Q _ => ∃ x : V, vs = [x] ∧ ((∃ (s : Str), x = .str s ∧ s.length ≤ 99999 ∧
  (∀ e v H', parseAll (Txt.split s " ").length (Txt.split s " ") = some [e] → Same H H' → ToldE K H' e v → Q v H') ∧
  ((∀ e, parseAll (Txt.split s " ").length (Txt.split s " ") ≠ some [e]) → ∀ H', Same H H' → Q (.str "refused") H')) ∨
  (∃ t, TyX K H x t ∧ PySem.W.kitOne K t (.type "str") = some false ∧ ∀ H', Same H H' → Q (.str "refused") H'))
theorem cut_from {ws : List Str} {i : Nat} (h : i ≤ ws.length) : cutV (ws.map V.str) (some (i : Int)) none = (ws.drop i).map V.str := by
  unfold cutV
  rw [HT.sIx_nat, HT.sIx_none, List.length_map, Nat.min_eq_left h, ← List.map_drop, ← List.map_take, List.take_of_length_le (by rw [List.length_drop]; exact Nat.le_refl _)]
theorem cut_to {ws : List Str} {i : Nat} (h : i ≤ ws.length) : cutV (ws.map V.str) none (some (i : Int)) = (ws.take i).map V.str := by
  unfold cutV
  rw [HT.sIx_nat, HT.sIx_none, List.length_map, Nat.min_eq_left h, Nat.sub_zero, List.drop_zero, ← List.map_take]
theorem strOk_ascii {s : Str} (h : Ascii s) : PyData.strOk s = true := by
  unfold PyData.strOk
  rw [← Array.all_toList]
  refine List.all_eq_true.mpr fun c hc => ?_
  have := h c hc
  simp only [decide_eq_true_eq]
  omega
def signs (l : List Nat) : List V := l.map fun c => V.str ⟨#[c]⟩
theorem dp_signs {K : PySem.W.Frag} {H : Hp} : ∀ l : List Nat, DpAll K H (signs l) (l.map fun c => PyData.str ⟨#[c]⟩)
  | [] => .nil
  | c :: r => .cons (.str _) (dp_signs r)
theorem lay_signs : ∀ {l : List Nat}, (∀ c ∈ l, c < 128) → PyData.canLayAll0 (l.map fun c => PyData.str ⟨#[c]⟩) = true
  | [], _ => rfl
  | c :: r, h => by
    have h1 : PyData.strOk ⟨#[c]⟩ = true := strOk_ascii fun d hd => by
      have : d = c := List.mem_singleton.mp hd
      rw [this]; exact h c List.mem_cons_self
    show (PyData.strOk ⟨#[c]⟩ && PyData.canLayAll0 (r.map fun c => PyData.str ⟨#[c]⟩)) = true
    rw [h1, lay_signs fun d hd => h d (List.mem_cons_of_mem _ hd)]; rfl
theorem deep_signs : ∀ l : List Nat, PyData.depthAll (l.map fun c => PyData.str ⟨#[c]⟩) = 0
  | [] => rfl
  | c :: r => by show max 0 (PyData.depthAll (r.map fun c => PyData.str ⟨#[c]⟩)) = 0; rw [deep_signs r]; rfl
theorem signs_shaped {l : List Nat} (h : ∀ c ∈ l, c < 128) : SeqAt.shaped (.list (l.map fun c => PyData.str ⟨#[c]⟩)) = true := by
  show (PyData.canLayAll0 _ && decide (PyData.depthAll _ + 1 ≤ 64)) = true
  rw [lay_signs h, deep_signs]; rfl
theorem signs_eqv : ∀ l : List Nat, PyData.eqv (.list (l.map fun c => PyData.str ⟨#[c]⟩)) (.list []) = decide (l = [])
  | [] => rfl
  | c :: r => by rw [decide_eq_false (by simp)]; rfl
theorem sign_lt (a b : Nat) : [a] < [b] ↔ a < b := by
  constructor
  · intro h
    cases h with
    | rel h => exact h
    | cons h => cases h
  · exact fun h => .rel h
theorem lt_left {c n : Nat} {b : Str} (hb : b.cps.toList = [n]) : (⟨#[c]⟩ : Str).cps.toList < b.cps.toList ↔ c < n := by
  rw [hb]; exact sign_lt c n
theorem lt_right {c n : Nat} {b : Str} (hb : b.cps.toList = [n]) : b.cps.toList < (⟨#[c]⟩ : Str).cps.toList ↔ n < c := by
  rw [hb]; exact sign_lt n c
theorem filt_empty {f : Nat → Bool} (l : List Nat) : decide (l.filter (fun c => !f c) = []) = l.all f := by
  rw [Bool.eq_iff_iff, decide_eq_true_eq, List.filter_eq_nil_iff, List.all_eq_true]
  constructor
  · intro h c hc
    have := h c hc
    simp at this
    exact this
  · intro h c hc
    rw [h c hc]; simp
theorem refused_shaped : SeqAt.shaped (.str "refused") = true := by decide +kernel
theorem due_all {e : Ex} {ws : List Str} {n : Nat} (hn : ws.length < n) (h6 : 6 ≤ n) : parseAll ws.length ws = some [e] ↔ (parseE n ws = some (e, []) ∧ e.depth ≤ 6 ∧ e.parts ≤ 15) := by
  constructor
  · intro h
    cases ws with
    | nil => cases h
    | cons x t =>
      rw [parseAll_step] at h
      cases q : parseE 6 (x :: t) with
      | none => rw [q] at h; cases h
      | some p =>
        obtain ⟨e1, r⟩ := p
        rw [q] at h
        simp only at h
        by_cases c : e1.parts ≤ 15
        · rw [if_pos c] at h
          cases q2 : parseAll r.length r with
          | none => rw [q2] at h; cases h
          | some es =>
            rw [q2] at h
            have h2 : e1 :: es = [e] := Option.some.inj h
            injection h2 with h3 h4
            subst h3 h4
            have hr : r = [] := by
              cases r with
              | nil => rfl
              | cons y z =>
                rw [parseAll_step] at q2
                cases q3 : parseE 6 (y :: z) with
                | none => rw [q3] at q2; cases q2
                | some p3 =>
                  obtain ⟨e3, r3⟩ := p3
                  rw [q3] at q2
                  simp only at q2
                  by_cases c3 : e3.parts ≤ 15
                  · rw [if_pos c3] at q2
                    cases q4 : parseAll r3.length r3 with
                    | none => rw [q4] at q2; cases q2
                    | some es => rw [q4] at q2; cases q2
                  · rw [if_neg c3] at q2; cases q2
            subst hr
            obtain ⟨w1, w2, w3⟩ := parse_wf q
            refine ⟨?_, w2, c⟩
            rw [w3]
            exact parse_toks w1 (by omega) []
        · rw [if_neg c] at h; cases h
  · rintro ⟨h1, h2, h3⟩
    obtain ⟨w1, _, w3⟩ := parse_wf h1
    rw [List.append_nil] at w3
    rw [w3]
    have q := parse_toks w1 h2 []
    rw [List.append_nil] at q
    cases h4 : e.toks with
    | nil => have := e.toks_len; rw [h4] at this; have := e.parts_pos; simp at *; omega
    | cons x r =>
      rw [h4] at q
      rw [parseAll_step, q]
      show (if e.parts ≤ 15 then some [e] else none) = some [e]
      rw [if_pos h3]
def WL19 : List Str := ["skip", "set", "put", "ask", "draw", "tell", "if", "else", "end", "while", "call", "fun", "main", "give", "cell", "plus", "minus", "times", "over"]
def WL3 : List Str := ["rest", "less", "same"]
theorem wl_split : Txt.split (Str.ofString "skip set put ask draw tell if else end while call fun main give cell plus minus times over") (Str.ofString " ") = WL19 := by decide +kernel
theorem wl_to : ∀ s ∈ WL19 ++ WL3, s ∈ PAIRW ∨ s ∈ ROWW ∨ s ∈ OTHW := by decide +kernel
theorem wl_of : (∀ s ∈ PAIRW, s ∈ WL19 ++ WL3) ∧ (∀ s ∈ ROWW, s ∈ WL19 ++ WL3) ∧ (∀ s ∈ OTHW, s ∈ WL19 ++ WL3) := by decide +kernel
def KVS : List (Key × V) := (.inr "cell", .int 1) :: PAIRW.map fun w => (.inr w, .int 2)
def manyOf (w : Str) : Nat := if w = "cell" then 1 else if w ∈ PAIRW then 2 else 0
theorem kvs_merge : mergeK [] KVS = KVS := by kernel_rfl
theorem kvs_get (w : Str) : (valV KVS (.inr w)).getD (.int 0) = .int (manyOf w : Nat) := by
  unfold manyOf
  by_cases h0 : w = "cell"
  · rw [if_pos h0, h0]; exact (congrArg (fun z : Option V => z.getD (.int 0)) (valV_pos rfl))
  · rw [if_neg h0]
    unfold KVS
    rw [valV_neg (fun e => h0 (Sum.inr.inj e).symm)]
    have key : ∀ L : List Str, (valV (L.map fun w => ((.inr w : Key), V.int 2)) (.inr w)).getD (.int 0) = .int ((if w ∈ L then 2 else 0 : Nat) : Int) := by
      intro L
      induction L with
      | nil => rfl
      | cons x r ih =>
        rw [List.map_cons]
        by_cases hx : x = w
        · rw [valV_pos (by rw [hx]), if_pos (by rw [hx]; exact List.mem_cons_self)]; rfl
        · rw [valV_neg (fun e => hx (Sum.inr.inj e)), ih]
          by_cases hm : w ∈ r
          · rw [if_pos hm, if_pos (List.mem_cons_of_mem _ hm)]
          · rw [if_neg hm, if_neg (fun h => (List.mem_cons.mp h).elim (fun e => hx e.symm) hm)]
    exact key PAIRW
/-- so many expressions, one behind the other -/
def parseK (n : Nat) : Nat → List Str → Option (List Ex × List Str)
  | 0, ws => some ([], ws)
  | k + 1, ws => match parseK n k ws with
    | none => none
    | some (es, r) => match parseE n r with
      | none => none
      | some (e, r2) => some (es ++ [e], r2)
theorem parseK_none {n : Nat} {ws : List Str} {k : Nat} (h : parseK n k ws = none) : ∀ j, parseK n (k + j) ws = none
  | 0 => h
  | j + 1 => by
    show (match parseK n (k + j) ws with | none => none | some (es, r) => match parseE n r with | none => none | some (e, r2) => some (es ++ [e], r2)) = none
    rw [parseK_none h j]
def dmax (es : List Ex) : Nat := es.foldl (fun d e => max d e.depth) 0
theorem dmax_snoc (es : List Ex) (e : Ex) : dmax (es ++ [e]) = max (dmax es) e.depth := by
  unfold dmax
  rw [List.foldl_append]; rfl
theorem parseE_many {n : Nat} {w : Str} {r : List Str} (h1 : isValW w = false) (h2 : isNameW w = false) : parseE (n + 1) (w :: r) = (match manyOf w with
    | 0 => none
    | k + 1 => match parseK n (k + 1) r with
      | none => none
      | some (es, r2) => match es with
        | [e] => some (.cell e, r2)
        | [e1, e2] => some (.two w e1 e2, r2)
        | _ => none) := by
  rw [parseE_cons, if_neg (by rw [h1]; decide), if_neg (by rw [h2]; decide)]
  unfold manyOf
  by_cases c1 : w = "cell"
  · rw [if_pos c1, if_pos c1]
    show _ = (match (match parseE n r with | none => none | some (e, r2) => some (([] : List Ex) ++ [e], r2)) with | none => none | some (es, r2) => _)
    cases parseE n r with
    | none => rfl
    | some p => rfl
  · rw [if_neg c1, if_neg c1]
    by_cases c2 : w ∈ PAIRW
    · rw [if_pos c2, if_pos c2]
      show _ = (match (match (match parseE n r with | none => none | some (e, r2) => some (([] : List Ex) ++ [e], r2)) with | none => none | some (es, r) => match parseE n r with | none => none | some (e, r2) => some (es ++ [e], r2)) with | none => none | some (es, r2) => _)
      cases parseE n r with
      | none => rfl
      | some p =>
        obtain ⟨e1, r1⟩ := p
        simp only
        cases parseE n r1 with
        | none => rfl
        | some p => rfl
    · rw [if_neg c2, if_neg c2]
theorem parseK_len {n : Nat} {ws : List Str} : ∀ {k : Nat} {es : List Ex} {r : List Str}, parseK n k ws = some (es, r) → es.length = k
  | 0, es, r, h => by
    have : ([], ws) = (es, r) := Option.some.inj h
    rw [← (Prod.mk.inj this).1]; rfl
  | k + 1, es, r, h => by
    have h' : (match parseK n k ws with | none => none | some (es, r) => match parseE n r with | none => none | some (e, r2) => some (es ++ [e], r2)) = some (es, r) := h
    cases q : parseK n k ws with
    | none => rw [q] at h'; cases h'
    | some p =>
      obtain ⟨es1, r1⟩ := p
      rw [q] at h'
      simp only at h'
      cases q2 : parseE n r1 with
      | none => rw [q2] at h'; cases h'
      | some p2 =>
        obtain ⟨e2, r2⟩ := p2
        rw [q2] at h'
        have := (Prod.mk.inj (Option.some.inj h')).1
        rw [← this, List.length_append, parseK_len q]; rfl
theorem split_len {s : Str} : (Txt.split s " ").length ≤ s.length + 1 ∧ ∀ p ∈ Txt.split s " ", p.length ≤ s.length := by
  have e := PySem.StrLaws.join_split s (Str.ofString " ")
  have e2 := congrArg tl e
  have b : tl (Str.ofString " ") = [32] := by decide +kernel
  rw [tl_join, b] at e2
  have q := joinL_len ((Txt.split s (Str.ofString " ")).map tl)
  rw [e2, List.length_map, ← len_tl s] at q
  refine ⟨q.1, fun p hp => ?_⟩
  have := q.2 (tl p) (List.mem_map.mpr ⟨p, hp, rfl⟩)
  rw [← len_tl p] at this
  exact this
theorem joinL_sub : ∀ {L : List (List Nat)} {p : List Nat} {c : Nat} {z : List Nat}, p ∈ L → c ∈ p → c ∈ joinL z L
  | [x], p, c, z, h, hc => by rw [List.mem_singleton.mp h] at hc; exact hc
  | x :: y :: r, p, c, z, h, hc => by
    show c ∈ x ++ (z ++ joinL z (y :: r))
    rcases List.mem_cons.mp h with rfl | h
    · exact List.mem_append_left _ hc
    · exact List.mem_append_right _ (List.mem_append_right _ (joinL_sub h hc))
theorem split_ascii {s : Str} (h : Ascii s) : ∀ p ∈ Txt.split s " ", Ascii p := by
  have e2 := congrArg tl (PySem.StrLaws.join_split s (Str.ofString " "))
  rw [tl_join] at e2
  intro p hp c hc
  refine h c ?_
  rw [← e2]
  exact joinL_sub (List.mem_map.mpr ⟨p, hp, rfl⟩) hc

theorem passN {X : Cx} : Passes (L2N.CX X.prog X.w) X E0 := fun _ _ _ _ _ _ _ h => by
  obtain ⟨_, _, _, _, _, _, _, _, _, _, _, _, z⟩ := h
  exact z.elim
section
variable {P : Program} {w : World} {K : PySem.W.Frag} {mg : Str → Option Value} {base : Heap}
/-- as Fun.okX, for a def whose exceptions have no context -/
theorem okN {x qual : Str} {st : Stmt} {f : Addr} {fd : FuncData} {N ps : List Str} {k : Nat} {sp : Sp} (F : Fun K x qual st f fd) (S : FnScope N ps (defScope st)) (len : ∀ vs H Q E, sp vs H Q E → vs.length = ps.length)
    (hbody : ∀ (cdv : Value) (A : Around) (outer : List Env) (s : Shared) (H : Hp) (vs : List V) (Q : VK) (E : XK), Room k (A.deeper (PyProof.Rows.envOfC qual (defScope st) s.heap.objs.size f cdv)) → sp vs H Q E →
      ∃ t, PSs (cxOf (L2N.CX P w) P w K mg base N qual (defScope st) f cdv A outer s H E) (defBody st) t ∧ t { nx := fun _ H' => Q .non H', rt := Q } (start N vs) H) : FnOk P w K mg base (L2N.CX P w) (k + 1) f fd ps sp := by
  obtain ⟨oc, od, kV, doc, pm, an, cdv, ct, osl, rfl, lk, hcd⟩ := F.ex
  exact fn_of lk hcd S len fun A outer s H vs Q E hr hsp => hbody cdv A outer s H vs Q E hr hsp
end
/-- sep.join(texts) in the suite of a try: what is told does not name the try's context -/
theorem pe_joinTr {X0 : Cx} {pn : List (Addr × Obj)} {xe : Value → Shared → Prop} {o e : Expr} {to te : TE} {apos pos : Pos} (ho : PE (X0.tr pn xe) o to) (he : PE (X0.tr pn xe) e te)
    (hs : starEach [e] (X0.tr pn xe).env = [(false, eval e (X0.tr pn xe).env)] := by rfl) (hbase : attributeBase o "join" (X0.tr pn xe).env (eval o (X0.tr pn xe).env) = eval o (X0.tr pn xe).env := by rfl) (hline : (apos.endLine == pos.line) = true := by rfl) :
    PE (X0.tr pn xe) (.Call (.Attribute o "join" apos) [e] [] pos) (tM1 (fun x xs H Q => ∃ a p, ∃ ys : List Str, x = .str a ∧ xs = [.ref p] ∧ (SqL X0.K H p (ys.map V.str) ∨ SqT X0.K H p (ys.map V.str)) ∧
      (ys.map (·.length)).sum + ys.length * a.length ≤ 16777216 ∧ Q (.str (Txt.join a ys)) H) to te) := pe_join ho he hs hbase hline
def tMethX (C : Addr) (m : Str) (sp : Sp) (E : St → XK) (ta : TE) (t : TA) : TE := fun σ H Q => ta σ H fun x H1 => ∃ a dx fs, x = .ref a ∧ H1 a = some (.ins C dx fs) ∧ fs.lookup m = none ∧ t σ H1 fun vs H2 => sp (x :: vs) H2 Q (E σ)
theorem pe_methX {X : Cx} {CX : CXT} {k : Nat} {f C : Addr} {fd : FuncData} {ps : List Str} {sp : Sp} {E : St → XK} {m : Str} {pos apos : Pos} {e o : Expr} {es : List Expr} {ta : TE} {t : TA} {pl : Sem Bool} (he : PE X o ta) (c : Cls X.K C) (hm : Meth X.K C m f) (F : FnOk X.prog X.w X.K X.mg X.base CX k f fd ps sp) (hr : Room k X.A) (hb : Binds X.K fd ps []) (hx : ∀ σ, PassesAt CX X σ (E σ)) (ha : PA X (e :: es) t)
    (hst : starEach (e :: es) X.env = (false, eval e X.env) :: starEach es X.env := by rfl) (hpl : (backTo pos (starEach es X.env)).any (·.1) = false := by rfl)
    (ht : eval (.Call (.Attribute o m apos) (e :: es) [] pos) X.env = (do
      let ov ← eval o X.env
      standAt apos.atName
      let (f, first) ← holding [ov] (getMethod ov m pl)
      callWith pos f first (backTo pos (starEach (e :: es) X.env)) (backToKw pos (keywordEach [] X.env))) := by rfl) :
    PE X (.Call (.Attribute o m apos) (e :: es) [] pos) (tMethX C m sp E ta t) := by
  refine ⟨fun pins s σ H Q I h => ?_⟩
  refine PySem.W.methodCall_KW (pl := pl) (thn (he.run pins s σ H _ I h) fun u s1 ⟨x, H1, I1, rx, a, dx, fs, ex, ea, l, q⟩ => ?_) ht
  subst ex
  obtain rfl : u = Value.ref a := rx
  refine getmeth_ok I1 ea c hm l ?_
  refine PySem.W.callWith_K (first := [.ref a]) (h₀ := X.base) I.ok.mod.kin hm.kp (thn (ha.run pos pins s1 σ H1 _ I1 q) fun us s2 ⟨vs, H2, I2, r, q2⟩ => ⟨I2.kIn, ?_⟩) hst hpl
  exact run_fnS (us := .ref a :: us) (vs := .ref a :: vs) F hr hb (hx σ) I2 (.cons rfl r) q2

def RT.shapeT : RT → Str
  | .ifr _ => "if"
  | .loop _ => "while"
  | .call _ _ _ => "call"
  | .give _ => "give"
  | _ => "simple"
def spShape (c : RC) (ec : EC) (C : Addr) : Sp := fun vs H Q _ => ∃ (n : Int) (rt : RT) (v : V) (N : Addr → Prop), vs = [v] ∧ RowO c ec N H n rt v ∧ c.of rt = C ∧ Q (.str rt.shapeT) H
def spLaw (K : PySem.W.Frag) : Sp := fun vs H Q _ => ∃ (a : Addr) (ns : List Int), vs = [.ref a] ∧ SqL K H a (ns.map V.int) ∧ ns.length ≤ 63 ∧ ∀ H', Q (.bl true) H'

/-- a def with defaults -/
theorem okD {P : Program} {w : World} {K : PySem.W.Frag} {mg : Str → Option Value} {base : Heap} {x qual : Str} {params : Arguments} {body : List Stmt} {scope : Scope} {dvs : List V} {kws : List (Str × V)} {f : Addr} {fd : FuncData} {N ps : List Str} {k : Nat} {sp : Sp} (F : FunD K x qual params body scope dvs kws f fd) (S : FnScope N ps scope) (len : ∀ vs H Q E, sp vs H Q E → vs.length = ps.length)
    (hbody : ∀ (cdv : Value) (A : Around) (outer : List Env) (s : Shared) (H : Hp) (vs : List V) (Q : VK) (E : XK), Room k (A.deeper (PyProof.Rows.envOfC qual scope s.heap.objs.size f cdv)) → sp vs H Q E →
      ∃ t, PSs (cxOf CX0 P w K mg base N qual scope f cdv A outer s H E).nox body t ∧ t { nx := fun _ H' => Q .non H', rt := Q } (start N vs) H) : FnOk P w K mg base CX0 (k + 1) f fd ps sp :=
  F.ok S len fun cdv A outer s H vs Q E hr hsp => by
    obtain ⟨t, h, q⟩ := hbody cdv A outer s H vs Q E hr hsp
    exact ⟨t, h.nox, q⟩
/-! ### the law's tape, names, functions -/
def TapeAt (H : Hp) (p : Addr) (l : Int) : Prop := ∃ c k : Int, 0 ≤ k ∧ H p = some (.lst [.int c, .int k, .int l])
theorem TapeAt.same {H H' : Hp} {p : Addr} {l : Int} (W : TapeAt H p l) (s : Same H H') : TapeAt H' p l := let ⟨c, k, h, e⟩ := W; ⟨c, k, h, s _ _ e⟩
theorem TapeAt.fresh {H : Hp} {p b : Addr} {l : Int} (W : TapeAt H p l) (h : H b = none) : b ≠ p := fun e => by
  obtain ⟨_, _, _, w⟩ := W
  rw [← e, h] at w; cases w
theorem TapeAt.neO {H : Hp} {p a : Addr} {l : Int} {o : HO} (W : TapeAt H p l) (h : H a = some o) (n : ∀ c k l : Int, o ≠ .lst [.int c, .int k, .int l]) : a ≠ p := fun e => by
  obtain ⟨c, k, _, w⟩ := W
  rw [← e, h] at w
  exact n _ _ _ (Option.some.inj w)
theorem strs_ne {xs : List Str} : ∀ c k l : Int, HO.lst (xs.map V.str) ≠ .lst [.int c, .int k, .int l] := fun c k l e => by
  cases xs with
  | nil => cases e
  | cons x r => injection e with e; injection e with e1 e2; cases e1
theorem TapeAt.ne {H : Hp} {p a : Addr} {l : Int} {xs : List Str} (W : TapeAt H p l) (h : H a = some (.lst (xs.map V.str))) : a ≠ p := W.neO h strs_ne
def NamesAt (H : Hp) (a : Addr) (ns : List Str) : Prop := H a = some (.lst (ns.map V.str))
def NamesOk (ns : List Str) : Prop := ns.length = 4 ∧ (∀ n ∈ ns, isNameW n = true) ∧ ∀ k ∈ [0, 1, 2, 3], cntTo (ns.take k) (ns.take k).length = (ns.take k).length
instance (ns : List Str) : Decidable (NamesOk ns) := by unfold NamesOk; infer_instance
theorem NamesAt.keep {H H' : Hp} {p a : Addr} {l : Int} {ns : List Str} (h : NamesAt H a ns) (k : KeepX p H H') (W : TapeAt H p l) : NamesAt H' a ns := k _ _ (W.ne h) h
def FunsAt (H : Hp) (g : Addr) (hs : List (Str × Nat)) : Prop := ∃ fvs, H g = some (.lst fvs) ∧ All2 (fun (h : Str × Nat) v => ∃ t, v = .ref t ∧ H t = some (.tup [.str h.1, .int (h.2 : Int)])) hs fvs
def FunsOk (hs : List (Str × Nat)) : Prop := hs.length ≤ 3 ∧ (hs.map Prod.fst).Nodup ∧ ∀ h ∈ hs, isNameW h.1 = true ∧ h.2 ≤ 3 ∧ h.1 ≠ Str.ofString "nofun"
theorem FunsAt.ne {H : Hp} {p g : Addr} {l : Int} {hs : List (Str × Nat)} (W : TapeAt H p l) (h : FunsAt H g hs) : g ≠ p := by
  obtain ⟨fvs, h1, h2⟩ := h
  refine W.neO h1 fun c k l e => ?_
  injection e with e
  rw [e] at h2
  cases h2 with
  | cons a _ => obtain ⟨t, ht, _⟩ := a; cases ht
theorem FunsAt.keep {H H' : Hp} {p g : Addr} {l : Int} {hs : List (Str × Nat)} (h : FunsAt H g hs) (k : KeepX p H H') (W : TapeAt H p l) : FunsAt H' g hs := by
  have n := FunsAt.ne W h
  obtain ⟨fvs, h1, h2⟩ := h
  exact ⟨fvs, k _ _ n h1, h2.mono fun a v ⟨t, e1, e2⟩ => ⟨t, e1, k _ _ (W.neO e2 fun _ _ _ z => by cases z) e2⟩⟩
theorem FunsAt.same {H H' : Hp} {g : Addr} {hs : List (Str × Nat)} (h : FunsAt H g hs) (s : Same H H') : FunsAt H' g hs := by
  obtain ⟨fvs, h1, h2⟩ := h
  exact ⟨fvs, s _ _ h1, h2.mono fun a v ⟨t, e1, e2⟩ => ⟨t, e1, s _ _ e2⟩⟩
def spDraw34 : Sp := fun vs H Q _ => ∃ (c k : Int), vs = [.int c, .int k] ∧ 0 ≤ k ∧ ∀ n : Int, 0 ≤ n → Q (.int n) H
def spTake : Sp := fun vs H Q _ => ∃ (p : Addr) (l m : Int), vs = [.ref p, .int m] ∧ TapeAt H p l ∧ 0 < m ∧ ∀ (n : Int) H', 0 ≤ n → n < m → KeepX p H H' → TapeAt H' p l → Q (.int n) H'
def spExpr34 (n : Nat) : Sp := fun vs H Q _ => ∃ (p a : Addr) (l : Int) (ns : List Str) (d : Nat), vs = [.ref p, .int (d : Int), .ref a] ∧ d < n ∧ d ≤ 3 ∧ TapeAt H p l ∧ NamesAt H a ns ∧ NamesOk ns ∧
  ∀ (e : Ex) H', e.Wf → e.depth ≤ d + 1 → e.parts + 1 ≤ 2 ^ (d + 1) → KeepX p H H' → TapeAt H' p l → Q (.str e.text) H'
def G1 : List (List L2.Key × V) := [([.inr "cell", .inl 1], .int 5)]
def O1 : List (List L2.Key × V) := [([.inl 0], .bl false)]
def SetO (C : Addr) (H : Hp) (v pv : V) : Prop := ∃ p dx g o, v = .ref p ∧ H p = some (.ins C dx [("program", pv), ("bound", .int 7), ("given", .ref g), ("goings", .ref o)]) ∧ H g = some (.dT G1) ∧ H o = some (.dT O1)
theorem SetO.same {C : Addr} {H H' : Hp} {v pv : V} (h : SetO C H v pv) (s : Same H H') : SetO C H' v pv := let ⟨p, dx, g, o, e, h1, h2, h3⟩ := h; ⟨p, dx, g, o, e, s _ _ h1, s _ _ h2, s _ _ h3⟩
def spSetI (C : Addr) : Sp := fun vs H Q _ => ∃ (p g o dx : Addr) (pv : V), vs = [.ref p, pv, .ref g, .int 7, .ref o] ∧ H p = some (.ins C dx []) ∧ H g = some (.dT G1) ∧ H o = some (.dT O1) ∧ ∀ H', SetO C H' (.ref p) pv → KeepX p H H' → Q .non H'
def spSetS (C : Addr) : Sp := fun vs H Q _ => ∃ (v pv : V), vs = [v] ∧ SetO C H v pv ∧ ∀ q, H q = none → Q (.ref q) (upd H q (.dT G1))
def spSetF (C : Addr) : Sp := fun vs H Q _ => ∃ (v pv : V), vs = [v] ∧ SetO C H v pv ∧ ∀ q, H q = none → Q (.ref q) (upd H q (.dT O1))
def spKeyOf : Sp := fun vs H Q _ => ∃ (t : Addr) (x y : V), vs = [.ref t] ∧ H t = some (.tup [.str "row", x, y]) ∧ ∀ q H', Same H H' → H' q = some (.tup [.str "row", x]) → Q (.ref q) H'
def spIsV : Sp := fun vs H Q _ => ∃ n : Int, vs = [.int n] ∧ 0 ≤ n ∧ n < 1000000 ∧ Q (.bl true) H
def spGiven : Sp := fun vs H Q _ => ∃ t : Addr, vs = [.ref t] ∧ H t = some (.tup [.str "cell", .int 1]) ∧ Q (.bl true) H

end K34
namespace K34
open PySem L2 TL
abbrev N_Row_shape : List Str := ["self"]
theorem sc_Row_shape : FnScope ["self"] ["self"] (defScope s_Row_shape) := ⟨rfl, rfl, rfl, by decide +kernel, rfl, by decide +kernel, by decide +kernel⟩
abbrev N_Choice_shape : List Str := ["self"]
theorem sc_Choice_shape : FnScope ["self"] ["self"] (defScope s_Choice_shape) := ⟨rfl, rfl, rfl, by decide +kernel, rfl, by decide +kernel, by decide +kernel⟩
abbrev N_Loop_shape : List Str := ["self"]
theorem sc_Loop_shape : FnScope ["self"] ["self"] (defScope s_Loop_shape) := ⟨rfl, rfl, rfl, by decide +kernel, rfl, by decide +kernel, by decide +kernel⟩
abbrev N_Call_shape : List Str := ["self"]
theorem sc_Call_shape : FnScope ["self"] ["self"] (defScope s_Call_shape) := ⟨rfl, rfl, rfl, by decide +kernel, rfl, by decide +kernel, by decide +kernel⟩
abbrev N_Give_shape : List Str := ["self"]
theorem sc_Give_shape : FnScope ["self"] ["self"] (defScope s_Give_shape) := ⟨rfl, rfl, rfl, by decide +kernel, rfl, by decide +kernel, by decide +kernel⟩
abbrev N_is_name : List Str := ["thing", "sign"]
theorem sc_is_name : FnScope ["thing", "sign"] ["thing"] (defScope s_is_name) := ⟨rfl, rfl, rfl, by decide +kernel, rfl, by decide +kernel, by decide +kernel⟩
abbrev N_is_value_word : List Str := ["word", "sign"]
theorem sc_is_value_word : FnScope ["word", "sign"] ["word"] (defScope s_is_value_word) := ⟨rfl, rfl, rfl, by decide +kernel, rfl, by decide +kernel, by decide +kernel⟩
abbrev N_Number_init : List Str := ["self", "value"]
theorem sc_Number_init : FnScope ["self", "value"] ["self", "value"] (defScope s_Number_init) := ⟨rfl, rfl, rfl, by decide +kernel, rfl, by decide +kernel, by decide +kernel⟩
abbrev N_Box_init : List Str := ["self", "name"]
theorem sc_Box_init : FnScope ["self", "name"] ["self", "name"] (defScope s_Box_init) := ⟨rfl, rfl, rfl, by decide +kernel, rfl, by decide +kernel, by decide +kernel⟩
abbrev N_Cell_init : List Str := ["self", "inner"]
theorem sc_Cell_init : FnScope ["self", "inner"] ["self", "inner"] (defScope s_Cell_init) := ⟨rfl, rfl, rfl, by decide +kernel, rfl, by decide +kernel, by decide +kernel⟩
abbrev N_Two_init : List Str := ["self", "word", "left", "right"]
theorem sc_Two_init : FnScope ["self", "word", "left", "right"] ["self", "word", "left", "right"] (defScope s_Two_init) := ⟨rfl, rfl, rfl, by decide +kernel, rfl, by decide +kernel, by decide +kernel⟩
abbrev N_Expr_parts : List Str := ["self"]
theorem sc_Expr_parts : FnScope ["self"] ["self"] (defScope s_Expr_parts) := ⟨rfl, rfl, rfl, by decide +kernel, rfl, by decide +kernel, by decide +kernel⟩
abbrev N_Cell_parts : List Str := ["self"]
theorem sc_Cell_parts : FnScope ["self"] ["self"] (defScope s_Cell_parts) := ⟨rfl, rfl, rfl, by decide +kernel, rfl, by decide +kernel, by decide +kernel⟩
abbrev N_Two_parts : List Str := ["self"]
theorem sc_Two_parts : FnScope ["self"] ["self"] (defScope s_Two_parts) := ⟨rfl, rfl, rfl, by decide +kernel, rfl, by decide +kernel, by decide +kernel⟩
abbrev N_expr_at : List Str := ["row", "at", "deep", "word", "inner", "behind", "left", "middle", "right"]
theorem sc_expr_at : FnScope ["row", "at", "deep", "word", "inner", "behind", "left", "middle", "right"] ["row", "at", "deep"] (defScope s_expr_at) := ⟨rfl, rfl, rfl, by decide +kernel, rfl, by decide +kernel, by decide +kernel⟩
abbrev N_exprs_of : List Str := ["row", "found", "at", "one"]
theorem sc_exprs_of : FnScope ["row", "found", "at", "one"] ["row"] (defScope s_exprs_of) := ⟨rfl, rfl, rfl, by decide +kernel, rfl, by decide +kernel, by decide +kernel⟩
abbrev N_Row_init : List Str := ["self", "number"]
theorem sc_Row_init : FnScope ["self", "number"] ["self", "number"] (defScope s_Row_init) := ⟨rfl, rfl, rfl, by decide +kernel, rfl, by decide +kernel, by decide +kernel⟩
abbrev N_Set_init : List Str := ["self", "number", "box", "expr"]
theorem sc_Set_init : FnScope ["self", "number", "box", "expr"] ["self", "number", "box", "expr"] (defScope s_Set_init) := ⟨rfl, rfl, rfl, by decide +kernel, rfl, by decide +kernel, by decide +kernel⟩
abbrev N_Put_init : List Str := ["self", "number", "first", "second"]
theorem sc_Put_init : FnScope ["self", "number", "first", "second"] ["self", "number", "first", "second"] (defScope s_Put_init) := ⟨rfl, rfl, rfl, by decide +kernel, rfl, by decide +kernel, by decide +kernel⟩
abbrev N_Ask_init : List Str := ["self", "number", "box", "word", "expr"]
theorem sc_Ask_init : FnScope ["self", "number", "box", "word", "expr"] ["self", "number", "box", "word", "expr"] (defScope s_Ask_init) := ⟨rfl, rfl, rfl, by decide +kernel, rfl, by decide +kernel, by decide +kernel⟩
abbrev N_Draw_init : List Str := ["self", "number", "box", "word"]
theorem sc_Draw_init : FnScope ["self", "number", "box", "word"] ["self", "number", "box", "word"] (defScope s_Draw_init) := ⟨rfl, rfl, rfl, by decide +kernel, rfl, by decide +kernel, by decide +kernel⟩
abbrev N_Tell_init : List Str := ["self", "number", "expr"]
theorem sc_Tell_init : FnScope ["self", "number", "expr"] ["self", "number", "expr"] (defScope s_Tell_init) := ⟨rfl, rfl, rfl, by decide +kernel, rfl, by decide +kernel, by decide +kernel⟩
abbrev N_Choice_init : List Str := ["self", "number", "test", "first", "second"]
theorem sc_Choice_init : FnScope ["self", "number", "test", "first", "second"] ["self", "number", "test", "first", "second"] (defScope s_Choice_init) := ⟨rfl, rfl, rfl, by decide +kernel, rfl, by decide +kernel, by decide +kernel⟩
abbrev N_Loop_init : List Str := ["self", "number", "test", "body"]
theorem sc_Loop_init : FnScope ["self", "number", "test", "body"] ["self", "number", "test", "body"] (defScope s_Loop_init) := ⟨rfl, rfl, rfl, by decide +kernel, rfl, by decide +kernel, by decide +kernel⟩
abbrev N_Call_init : List Str := ["self", "number", "box", "fun", "given"]
theorem sc_Call_init : FnScope ["self", "number", "box", "fun", "given"] ["self", "number", "box", "fun", "given"] (defScope s_Call_init) := ⟨rfl, rfl, rfl, by decide +kernel, rfl, by decide +kernel, by decide +kernel⟩
abbrev N_Give_init : List Str := ["self", "number", "expr"]
theorem sc_Give_init : FnScope ["self", "number", "expr"] ["self", "number", "expr"] (defScope s_Give_init) := ⟨rfl, rfl, rfl, by decide +kernel, rfl, by decide +kernel, by decide +kernel⟩
abbrev N_check_names : List Str := ["words", "many", "word"]
theorem sc_check_names : FnScope ["words", "many", "word"] ["words", "many"] (defScope s_check_names) := ⟨rfl, rfl, rfl, by decide +kernel, rfl, by decide +kernel, by decide +kernel⟩
abbrev N_only : List Str := ["found"]
theorem sc_only : FnScope ["found"] ["found"] (defScope s_only) := ⟨rfl, rfl, rfl, by decide +kernel, rfl, by decide +kernel, by decide +kernel⟩
abbrev N_simple_row : List Str := ["number", "words", "found"]
theorem sc_simple_row : FnScope ["number", "words", "found"] ["number", "words"] (defScope s_simple_row) := ⟨rfl, rfl, rfl, by decide +kernel, rfl, by decide +kernel, by decide +kernel⟩
abbrev N_Reader_head : List Str := ["self"]
theorem sc_Reader_head : FnScope ["self"] ["self"] (defScope s_Reader_head) := ⟨rfl, rfl, rfl, by decide +kernel, rfl, by decide +kernel, by decide +kernel⟩
abbrev N_Reader_init : List Str := ["self", "texts"]
theorem sc_Reader_init : FnScope ["self", "texts"] ["self", "texts"] (defScope s_Reader_init) := ⟨rfl, rfl, rfl, by decide +kernel, rfl, by decide +kernel, by decide +kernel⟩
abbrev N_Reader_pass_line : List Str := ["self", "text"]
theorem sc_Reader_pass_line : FnScope ["self", "text"] ["self", "text"] (defScope s_Reader_pass_line) := ⟨rfl, rfl, rfl, by decide +kernel, rfl, by decide +kernel, by decide +kernel⟩
abbrev N_Reader_call_row : List Str := ["self", "number", "words", "found"]
theorem sc_Reader_call_row : FnScope ["self", "number", "words", "found"] ["self", "number", "words"] (defScope s_Reader_call_row) := ⟨rfl, rfl, rfl, by decide +kernel, rfl, by decide +kernel, by decide +kernel⟩
abbrev N_Reader_row_with_rows : List Str := ["self", "number", "words", "within", "test", "first", "second"]
theorem sc_Reader_row_with_rows : FnScope ["self", "number", "words", "within", "test", "first", "second"] ["self", "number", "words", "within"] (defScope s_Reader_row_with_rows) := ⟨rfl, rfl, rfl, by decide +kernel, rfl, by decide +kernel, by decide +kernel⟩
abbrev N_Reader_block : List Str := ["self", "within", "found", "row"]
theorem sc_Reader_block : FnScope ["self", "within", "found", "row"] ["self", "within"] (defScope s_Reader_block) := ⟨rfl, rfl, rfl, by decide +kernel, rfl, by decide +kernel, by decide +kernel⟩
abbrev N_Reader_one_row : List Str := ["self", "within", "number", "words"]
theorem sc_Reader_one_row : FnScope ["self", "within", "number", "words"] ["self", "within"] (defScope s_Reader_one_row) := ⟨rfl, rfl, rfl, by decide +kernel, rfl, by decide +kernel, by decide +kernel⟩
abbrev N_Function_init : List Str := ["self", "name", "params", "body", "give"]
theorem sc_Function_init : FnScope ["self", "name", "params", "body", "give"] ["self", "name", "params", "body", "give"] (defScope s_Function_init) := ⟨rfl, rfl, rfl, by decide +kernel, rfl, by decide +kernel, by decide +kernel⟩
abbrev N_Reader_function : List Str := ["self", "words", "params", "body", "give"]
theorem sc_Reader_function : FnScope ["self", "words", "params", "body", "give"] ["self"] (defScope s_Reader_function) := ⟨rfl, rfl, rfl, by decide +kernel, rfl, by decide +kernel, by decide +kernel⟩
abbrev N_check_calls : List Str := ["calls", "functions", "one"]
theorem sc_check_calls : FnScope ["calls", "functions", "one"] ["calls", "functions"] (defScope s_check_calls) := ⟨rfl, rfl, rfl, by decide +kernel, rfl, by decide +kernel, by decide +kernel⟩
abbrev N_Program_init : List Str := ["self", "texts", "main", "functions", "by_number"]
theorem sc_Program_init : FnScope ["self", "texts", "main", "functions", "by_number"] ["self", "texts", "main", "functions", "by_number"] (defScope s_Program_init) := ⟨rfl, rfl, rfl, by decide +kernel, rfl, by decide +kernel, by decide +kernel⟩
abbrev N_Program_text : List Str := ["self"]
theorem sc_Program_text : FnScope ["self"] ["self"] (defScope s_Program_text) := ⟨rfl, rfl, rfl, by decide +kernel, rfl, by decide +kernel, by decide +kernel⟩
abbrev N_read_program : List Str := ["text", "texts", "reader", "functions", "found", "main"]
theorem sc_read_program : FnScope ["text", "texts", "reader", "functions", "found", "main"] ["text"] (defScope s_read_program) := ⟨rfl, rfl, rfl, by decide +kernel, rfl, by decide +kernel, by decide +kernel⟩
abbrev N_Program_lines : List Str := ["self"]
theorem sc_Program_lines : FnScope ["self"] ["self"] (defScope s_Program_lines) := ⟨rfl, rfl, rfl, by decide +kernel, rfl, by decide +kernel, by decide +kernel⟩
abbrev N_Program_with_line : List Str := ["self", "number", "line", "texts", "found"]
theorem sc_Program_with_line : FnScope ["self", "number", "line", "texts", "found"] ["self", "number", "line"] (defScope s_Program_with_line) := ⟨rfl, rfl, rfl, by decide +kernel, rfl, by decide +kernel, by decide +kernel⟩
abbrev N_is_value : List Str := ["thing"]
theorem sc_is_value : FnScope ["thing"] ["thing"] (defScope s_is_value) := ⟨rfl, rfl, rfl, by decide +kernel, rfl, by decide +kernel, by decide +kernel⟩
abbrev N_is_given : List Str := ["thing"]
theorem sc_is_given : FnScope ["thing"] ["thing"] (defScope s_is_given) := ⟨rfl, rfl, rfl, by decide +kernel, rfl, by decide +kernel, by decide +kernel⟩
abbrev N_key_of : List Str := ["change"]
theorem sc_key_of : FnScope ["change"] ["change"] (defScope s_key_of) := ⟨rfl, rfl, rfl, by decide +kernel, rfl, by decide +kernel, by decide +kernel⟩
abbrev N_Setting_init : List Str := ["self", "program", "start", "bound", "forced", "place", "value"]
theorem sc_Setting_init : FnScope ["self", "program", "start", "bound", "forced", "place", "value"] ["self", "program", "start", "bound", "forced"] (defScope s_Setting_init) := ⟨rfl, rfl, rfl, by decide +kernel, rfl, by decide +kernel, by decide +kernel⟩
abbrev N_Setting_start : List Str := ["self"]
theorem sc_Setting_start : FnScope ["self"] ["self"] (defScope s_Setting_start) := ⟨rfl, rfl, rfl, by decide +kernel, rfl, by decide +kernel, by decide +kernel⟩
abbrev N_Setting_forced : List Str := ["self"]
theorem sc_Setting_forced : FnScope ["self"] ["self"] (defScope s_Setting_forced) := ⟨rfl, rfl, rfl, by decide +kernel, rfl, by decide +kernel, by decide +kernel⟩
abbrev N_Setting_given_otherwise : List Str := ["self", "place", "value", "given"]
theorem sc_Setting_given_otherwise : FnScope ["self", "place", "value", "given"] ["self", "place", "value"] (defScope s_Setting_given_otherwise) := ⟨rfl, rfl, rfl, by decide +kernel, rfl, by decide +kernel, by decide +kernel⟩
abbrev N_Setting_going_otherwise : List Str := ["self", "address", "truth", "goings"]
theorem sc_Setting_going_otherwise : FnScope ["self", "address", "truth", "goings"] ["self", "address", "truth"] (defScope s_Setting_going_otherwise) := ⟨rfl, rfl, rfl, by decide +kernel, rfl, by decide +kernel, by decide +kernel⟩
abbrev N_Setting_changed : List Str := ["self", "change", "word", "where"]
theorem sc_Setting_changed : FnScope ["self", "change", "word", "where"] ["self", "change"] (defScope s_Setting_changed) := ⟨rfl, rfl, rfl, by decide +kernel, rfl, by decide +kernel, by decide +kernel⟩
abbrev N_l_cell_at : List Str := ["_law_script", "_law_k"]
theorem sc_l_cell_at : FnScope ["_law_script", "_law_k"] ["_law_script", "_law_k"] (defScope s_l_cell_at) := ⟨rfl, rfl, rfl, by decide +kernel, rfl, by decide +kernel, by decide +kernel⟩
abbrev N_l_draw : List Str := ["_law_cell", "_law_k", "_law_number"]
theorem sc_l_draw : FnScope ["_law_cell", "_law_k", "_law_number"] ["_law_cell", "_law_k"] (defScope s_l_draw) := ⟨rfl, rfl, rfl, by decide +kernel, rfl, by decide +kernel, by decide +kernel⟩
abbrev N_l_take : List Str := ["_law_tape", "_law_many"]
theorem sc_l_take : FnScope ["_law_tape", "_law_many"] ["_law_tape", "_law_many"] (defScope s_l_take) := ⟨rfl, rfl, rfl, by decide +kernel, rfl, by decide +kernel, by decide +kernel⟩
abbrev N_l_expr : List Str := ["_law_tape", "_law_deep", "_law_names", "_law_way", "_law_word", "_law_left"]
theorem sc_l_expr : FnScope ["_law_tape", "_law_deep", "_law_names", "_law_way", "_law_word", "_law_left"] ["_law_tape", "_law_deep", "_law_names"] (defScope s_l_expr) := ⟨rfl, rfl, rfl, by decide +kernel, rfl, by decide +kernel, by decide +kernel⟩
abbrev N_l_simple : List Str := ["_law_tape", "_law_names", "_law_way", "_law_box"]
theorem sc_l_simple : FnScope ["_law_tape", "_law_names", "_law_way", "_law_box"] ["_law_tape", "_law_names"] (defScope s_l_simple) := ⟨rfl, rfl, rfl, by decide +kernel, rfl, by decide +kernel, by decide +kernel⟩
abbrev N_l_call_row : List Str := ["_law_tape", "_law_names", "_law_funs", "_law_box", "_law_name", "_law_many", "_law_k"]
theorem sc_l_call_row : FnScope ["_law_tape", "_law_names", "_law_funs", "_law_box", "_law_name", "_law_many", "_law_k"] ["_law_tape", "_law_names", "_law_funs"] (defScope s_l_call_row) := ⟨rfl, rfl, rfl, by decide +kernel, rfl, by decide +kernel, by decide +kernel⟩
abbrev N_l_row : List Str := ["_law_tape", "_law_deep", "_law_names", "_law_funs", "_law_way", "_law_head", "_law_first", "_law_box", "_law_body"]
theorem sc_l_row : FnScope ["_law_tape", "_law_deep", "_law_names", "_law_funs", "_law_way", "_law_head", "_law_first", "_law_box", "_law_body"] ["_law_tape", "_law_deep", "_law_names", "_law_funs"] (defScope s_l_row) := ⟨rfl, rfl, rfl, by decide +kernel, rfl, by decide +kernel, by decide +kernel⟩
abbrev N_l_rows : List Str := ["_law_tape", "_law_deep", "_law_names", "_law_funs", "_law_most", "_law_lines", "_law_k"]
theorem sc_l_rows : FnScope ["_law_tape", "_law_deep", "_law_names", "_law_funs", "_law_most", "_law_lines", "_law_k"] ["_law_tape", "_law_deep", "_law_names", "_law_funs", "_law_most"] (defScope s_l_rows) := ⟨rfl, rfl, rfl, by decide +kernel, rfl, by decide +kernel, by decide +kernel⟩
abbrev N_l_kit : List Str := ["_law_cell", "_law_tape", "_law_names", "_law_called", "_law_funs", "_law_lines", "_law_name", "_law_many", "_law_k"]
theorem sc_l_kit : FnScope ["_law_cell", "_law_tape", "_law_names", "_law_called", "_law_funs", "_law_lines", "_law_name", "_law_many", "_law_k"] ["_law_cell"] (defScope s_l_kit) := ⟨rfl, rfl, rfl, by decide +kernel, rfl, by decide +kernel, by decide +kernel⟩
abbrev N_l_drawn : List Str := ["_law_tape", "_law_kit_here", "_law_lines", "_law_names", "_law_funs", "_law_way", "_law_name", "_law_many", "_law_handed", "_law_words", "_law_k"]
theorem sc_l_drawn : FnScope ["_law_tape", "_law_kit_here", "_law_lines", "_law_names", "_law_funs", "_law_way", "_law_name", "_law_many", "_law_handed", "_law_words", "_law_k"] ["_law_tape", "_law_kit_here"] (defScope s_l_drawn) := ⟨rfl, rfl, rfl, by decide +kernel, rfl, by decide +kernel, by decide +kernel⟩
abbrev N_l_shape : List Str := ["_law_line", "_law_head"]
theorem sc_l_shape : FnScope ["_law_line", "_law_head"] ["_law_line"] (defScope s_l_shape) := ⟨rfl, rfl, rfl, by decide +kernel, rfl, by decide +kernel, by decide +kernel⟩
abbrev N_law : List Str := ["_law_script", "_law_kit_here", "_law_lines", "_law_setting", "_law_cell", "_law_tape", "_law_number", "_law_line", "_law_fits", "_law_due", "_law_found", "_law_refused", "e"]
theorem sc_law : FnScope ["_law_script", "_law_kit_here", "_law_lines", "_law_setting", "_law_cell", "_law_tape", "_law_number", "_law_line", "_law_fits", "_law_due", "_law_found", "_law_refused", "e"] ["_law_script"] (defScope s_law) := ⟨rfl, rfl, rfl, by decide +kernel, rfl, by decide +kernel, by decide +kernel⟩
structure Ads where
  Row_shape : Addr
  Row_shape_d : FuncData
  Choice_shape : Addr
  Choice_shape_d : FuncData
  Loop_shape : Addr
  Loop_shape_d : FuncData
  Call_shape : Addr
  Call_shape_d : FuncData
  Give_shape : Addr
  Give_shape_d : FuncData
  is_name : Addr
  is_name_d : FuncData
  is_value_word : Addr
  is_value_word_d : FuncData
  Number_init : Addr
  Number_init_d : FuncData
  Box_init : Addr
  Box_init_d : FuncData
  Cell_init : Addr
  Cell_init_d : FuncData
  Two_init : Addr
  Two_init_d : FuncData
  Expr_parts : Addr
  Expr_parts_d : FuncData
  Cell_parts : Addr
  Cell_parts_d : FuncData
  Two_parts : Addr
  Two_parts_d : FuncData
  expr_at : Addr
  expr_at_d : FuncData
  exprs_of : Addr
  exprs_of_d : FuncData
  Row_init : Addr
  Row_init_d : FuncData
  Set_init : Addr
  Set_init_d : FuncData
  Put_init : Addr
  Put_init_d : FuncData
  Ask_init : Addr
  Ask_init_d : FuncData
  Draw_init : Addr
  Draw_init_d : FuncData
  Tell_init : Addr
  Tell_init_d : FuncData
  Choice_init : Addr
  Choice_init_d : FuncData
  Loop_init : Addr
  Loop_init_d : FuncData
  Call_init : Addr
  Call_init_d : FuncData
  Give_init : Addr
  Give_init_d : FuncData
  check_names : Addr
  check_names_d : FuncData
  only : Addr
  only_d : FuncData
  simple_row : Addr
  simple_row_d : FuncData
  Reader_head : Addr
  Reader_head_d : FuncData
  Reader_init : Addr
  Reader_init_d : FuncData
  Reader_pass_line : Addr
  Reader_pass_line_d : FuncData
  Reader_call_row : Addr
  Reader_call_row_d : FuncData
  Reader_row_with_rows : Addr
  Reader_row_with_rows_d : FuncData
  Reader_block : Addr
  Reader_block_d : FuncData
  Reader_one_row : Addr
  Reader_one_row_d : FuncData
  Function_init : Addr
  Function_init_d : FuncData
  Reader_function : Addr
  Reader_function_d : FuncData
  check_calls : Addr
  check_calls_d : FuncData
  Program_init : Addr
  Program_init_d : FuncData
  Program_text : Addr
  Program_text_d : FuncData
  read_program : Addr
  read_program_d : FuncData
  Program_lines : Addr
  Program_lines_d : FuncData
  Program_with_line : Addr
  Program_with_line_d : FuncData
  is_value : Addr
  is_value_d : FuncData
  is_given : Addr
  is_given_d : FuncData
  key_of : Addr
  key_of_d : FuncData
  Setting_init : Addr
  Setting_init_d : FuncData
  Setting_start : Addr
  Setting_start_d : FuncData
  Setting_forced : Addr
  Setting_forced_d : FuncData
  Setting_given_otherwise : Addr
  Setting_given_otherwise_d : FuncData
  Setting_going_otherwise : Addr
  Setting_going_otherwise_d : FuncData
  Setting_changed : Addr
  Setting_changed_d : FuncData
  l_cell_at : Addr
  l_cell_at_d : FuncData
  l_draw : Addr
  l_draw_d : FuncData
  l_take : Addr
  l_take_d : FuncData
  l_expr : Addr
  l_expr_d : FuncData
  l_simple : Addr
  l_simple_d : FuncData
  l_call_row : Addr
  l_call_row_d : FuncData
  l_row : Addr
  l_row_d : FuncData
  l_rows : Addr
  l_rows_d : FuncData
  l_kit : Addr
  l_kit_d : FuncData
  l_drawn : Addr
  l_drawn_d : FuncData
  l_shape : Addr
  l_shape_d : FuncData
  law : Addr
  law_d : FuncData
  Skip : Addr
  Row : Addr
  Set : Addr
  Put : Addr
  Ask : Addr
  Draw : Addr
  Tell : Addr
  Choice : Addr
  Loop : Addr
  Call : Addr
  Give : Addr
  Reader : Addr
  Function : Addr
  Program : Addr
  Setting : Addr
  Number : Addr
  Expr : Addr
  Box : Addr
  Cell : Addr
  Two : Addr
  PAIRS : Addr
  ROWS : Addr
  OTHERS : Addr
  CHANGES : Addr
  NoProgram : Addr
  NoChange : Addr
structure Txt (K : PySem.W.Frag) (mg : Str → Option Value) (A : Ads) : Prop where
  F_Row_shape : Fun K "shape" "Row.shape" s_Row_shape A.Row_shape A.Row_shape_d
  b_Row_shape : Binds K A.Row_shape_d ["self"] []
  F_Choice_shape : Fun K "shape" "Choice.shape" s_Choice_shape A.Choice_shape A.Choice_shape_d
  b_Choice_shape : Binds K A.Choice_shape_d ["self"] []
  F_Loop_shape : Fun K "shape" "Loop.shape" s_Loop_shape A.Loop_shape A.Loop_shape_d
  b_Loop_shape : Binds K A.Loop_shape_d ["self"] []
  F_Call_shape : Fun K "shape" "Call.shape" s_Call_shape A.Call_shape A.Call_shape_d
  b_Call_shape : Binds K A.Call_shape_d ["self"] []
  F_Give_shape : Fun K "shape" "Give.shape" s_Give_shape A.Give_shape A.Give_shape_d
  b_Give_shape : Binds K A.Give_shape_d ["self"] []
  F_is_name : Fun K "is_name" "is_name" s_is_name A.is_name A.is_name_d
  b_is_name : Binds K A.is_name_d ["thing"] []
  m_is_name : mg "is_name" = some (.ref A.is_name)
  F_is_value_word : Fun K "is_value_word" "is_value_word" s_is_value_word A.is_value_word A.is_value_word_d
  b_is_value_word : Binds K A.is_value_word_d ["word"] []
  m_is_value_word : mg "is_value_word" = some (.ref A.is_value_word)
  F_Number_init : Fun K "__init__" "Number.__init__" s_Number_init A.Number_init A.Number_init_d
  b_Number_init : Binds K A.Number_init_d ["self", "value"] []
  F_Box_init : Fun K "__init__" "Box.__init__" s_Box_init A.Box_init A.Box_init_d
  b_Box_init : Binds K A.Box_init_d ["self", "name"] []
  F_Cell_init : Fun K "__init__" "Cell.__init__" s_Cell_init A.Cell_init A.Cell_init_d
  b_Cell_init : Binds K A.Cell_init_d ["self", "inner"] []
  F_Two_init : Fun K "__init__" "Two.__init__" s_Two_init A.Two_init A.Two_init_d
  b_Two_init : Binds K A.Two_init_d ["self", "word", "left", "right"] []
  F_Expr_parts : Fun K "parts" "Expr.parts" s_Expr_parts A.Expr_parts A.Expr_parts_d
  b_Expr_parts : Binds K A.Expr_parts_d ["self"] []
  F_Cell_parts : Fun K "parts" "Cell.parts" s_Cell_parts A.Cell_parts A.Cell_parts_d
  b_Cell_parts : Binds K A.Cell_parts_d ["self"] []
  F_Two_parts : Fun K "parts" "Two.parts" s_Two_parts A.Two_parts A.Two_parts_d
  b_Two_parts : Binds K A.Two_parts_d ["self"] []
  F_expr_at : Fun K "expr_at" "expr_at" s_expr_at A.expr_at A.expr_at_d
  b_expr_at : Binds K A.expr_at_d ["row", "at", "deep"] []
  m_expr_at : mg "expr_at" = some (.ref A.expr_at)
  F_exprs_of : Fun K "exprs_of" "exprs_of" s_exprs_of A.exprs_of A.exprs_of_d
  b_exprs_of : Binds K A.exprs_of_d ["row"] []
  m_exprs_of : mg "exprs_of" = some (.ref A.exprs_of)
  F_Row_init : Fun K "__init__" "Row.__init__" s_Row_init A.Row_init A.Row_init_d
  b_Row_init : Binds K A.Row_init_d ["self", "number"] []
  F_Set_init : Fun K "__init__" "Set.__init__" s_Set_init A.Set_init A.Set_init_d
  b_Set_init : Binds K A.Set_init_d ["self", "number", "box", "expr"] []
  F_Put_init : Fun K "__init__" "Put.__init__" s_Put_init A.Put_init A.Put_init_d
  b_Put_init : Binds K A.Put_init_d ["self", "number", "first", "second"] []
  F_Ask_init : Fun K "__init__" "Ask.__init__" s_Ask_init A.Ask_init A.Ask_init_d
  b_Ask_init : Binds K A.Ask_init_d ["self", "number", "box", "word", "expr"] []
  F_Draw_init : Fun K "__init__" "Draw.__init__" s_Draw_init A.Draw_init A.Draw_init_d
  b_Draw_init : Binds K A.Draw_init_d ["self", "number", "box", "word"] []
  F_Tell_init : Fun K "__init__" "Tell.__init__" s_Tell_init A.Tell_init A.Tell_init_d
  b_Tell_init : Binds K A.Tell_init_d ["self", "number", "expr"] []
  F_Choice_init : Fun K "__init__" "Choice.__init__" s_Choice_init A.Choice_init A.Choice_init_d
  b_Choice_init : Binds K A.Choice_init_d ["self", "number", "test", "first", "second"] []
  F_Loop_init : Fun K "__init__" "Loop.__init__" s_Loop_init A.Loop_init A.Loop_init_d
  b_Loop_init : Binds K A.Loop_init_d ["self", "number", "test", "body"] []
  F_Call_init : Fun K "__init__" "Call.__init__" s_Call_init A.Call_init A.Call_init_d
  b_Call_init : Binds K A.Call_init_d ["self", "number", "box", "fun", "given"] []
  F_Give_init : Fun K "__init__" "Give.__init__" s_Give_init A.Give_init A.Give_init_d
  b_Give_init : Binds K A.Give_init_d ["self", "number", "expr"] []
  F_check_names : Fun K "check_names" "check_names" s_check_names A.check_names A.check_names_d
  b_check_names : Binds K A.check_names_d ["words", "many"] []
  m_check_names : mg "check_names" = some (.ref A.check_names)
  F_only : Fun K "only" "only" s_only A.only A.only_d
  b_only : Binds K A.only_d ["found"] []
  m_only : mg "only" = some (.ref A.only)
  F_simple_row : Fun K "simple_row" "simple_row" s_simple_row A.simple_row A.simple_row_d
  b_simple_row : Binds K A.simple_row_d ["number", "words"] []
  m_simple_row : mg "simple_row" = some (.ref A.simple_row)
  F_Reader_head : Fun K "head" "Reader.head" s_Reader_head A.Reader_head A.Reader_head_d
  b_Reader_head : Binds K A.Reader_head_d ["self"] []
  F_Reader_init : Fun K "__init__" "Reader.__init__" s_Reader_init A.Reader_init A.Reader_init_d
  b_Reader_init : Binds K A.Reader_init_d ["self", "texts"] []
  F_Reader_pass_line : Fun K "pass_line" "Reader.pass_line" s_Reader_pass_line A.Reader_pass_line A.Reader_pass_line_d
  b_Reader_pass_line : Binds K A.Reader_pass_line_d ["self", "text"] []
  F_Reader_call_row : Fun K "call_row" "Reader.call_row" s_Reader_call_row A.Reader_call_row A.Reader_call_row_d
  b_Reader_call_row : Binds K A.Reader_call_row_d ["self", "number", "words"] []
  F_Reader_row_with_rows : Fun K "row_with_rows" "Reader.row_with_rows" s_Reader_row_with_rows A.Reader_row_with_rows A.Reader_row_with_rows_d
  b_Reader_row_with_rows : Binds K A.Reader_row_with_rows_d ["self", "number", "words", "within"] []
  F_Reader_block : Fun K "block" "Reader.block" s_Reader_block A.Reader_block A.Reader_block_d
  b_Reader_block : Binds K A.Reader_block_d ["self", "within"] []
  F_Reader_one_row : Fun K "one_row" "Reader.one_row" s_Reader_one_row A.Reader_one_row A.Reader_one_row_d
  b_Reader_one_row : Binds K A.Reader_one_row_d ["self", "within"] []
  F_Function_init : Fun K "__init__" "Function.__init__" s_Function_init A.Function_init A.Function_init_d
  b_Function_init : Binds K A.Function_init_d ["self", "name", "params", "body", "give"] []
  F_Reader_function : Fun K "function" "Reader.function" s_Reader_function A.Reader_function A.Reader_function_d
  b_Reader_function : Binds K A.Reader_function_d ["self"] []
  F_check_calls : Fun K "check_calls" "check_calls" s_check_calls A.check_calls A.check_calls_d
  b_check_calls : Binds K A.check_calls_d ["calls", "functions"] []
  m_check_calls : mg "check_calls" = some (.ref A.check_calls)
  F_Program_init : Fun K "__init__" "Program.__init__" s_Program_init A.Program_init A.Program_init_d
  b_Program_init : Binds K A.Program_init_d ["self", "texts", "main", "functions", "by_number"] []
  F_Program_text : Fun K "text" "Program.text" s_Program_text A.Program_text A.Program_text_d
  b_Program_text : Binds K A.Program_text_d ["self"] []
  F_read_program : Fun K "read_program" "read_program" s_read_program A.read_program A.read_program_d
  b_read_program : Binds K A.read_program_d ["text"] []
  m_read_program : mg "read_program" = some (.ref A.read_program)
  F_Program_lines : Fun K "lines" "Program.lines" s_Program_lines A.Program_lines A.Program_lines_d
  b_Program_lines : Binds K A.Program_lines_d ["self"] []
  F_Program_with_line : Fun K "with_line" "Program.with_line" s_Program_with_line A.Program_with_line A.Program_with_line_d
  b_Program_with_line : Binds K A.Program_with_line_d ["self", "number", "line"] []
  F_is_value : Fun K "is_value" "is_value" s_is_value A.is_value A.is_value_d
  b_is_value : Binds K A.is_value_d ["thing"] []
  m_is_value : mg "is_value" = some (.ref A.is_value)
  F_is_given : Fun K "is_given" "is_given" s_is_given A.is_given A.is_given_d
  b_is_given : Binds K A.is_given_d ["thing"] []
  m_is_given : mg "is_given" = some (.ref A.is_given)
  F_key_of : Fun K "key_of" "key_of" s_key_of A.key_of A.key_of_d
  b_key_of : Binds K A.key_of_d ["change"] []
  m_key_of : mg "key_of" = some (.ref A.key_of)
  F_Setting_init : FunD K "__init__" "Setting.__init__" (defArgs s_Setting_init) (defBody s_Setting_init) (defScope s_Setting_init) [.int 400, .non] [] A.Setting_init A.Setting_init_d
  b_Setting_init : Binds K A.Setting_init_d ["self", "program", "start", "bound", "forced"] []
  F_Setting_start : Fun K "start" "Setting.start" s_Setting_start A.Setting_start A.Setting_start_d
  b_Setting_start : Binds K A.Setting_start_d ["self"] []
  F_Setting_forced : Fun K "forced" "Setting.forced" s_Setting_forced A.Setting_forced A.Setting_forced_d
  b_Setting_forced : Binds K A.Setting_forced_d ["self"] []
  F_Setting_given_otherwise : Fun K "given_otherwise" "Setting.given_otherwise" s_Setting_given_otherwise A.Setting_given_otherwise A.Setting_given_otherwise_d
  b_Setting_given_otherwise : Binds K A.Setting_given_otherwise_d ["self", "place", "value"] []
  F_Setting_going_otherwise : Fun K "going_otherwise" "Setting.going_otherwise" s_Setting_going_otherwise A.Setting_going_otherwise A.Setting_going_otherwise_d
  b_Setting_going_otherwise : Binds K A.Setting_going_otherwise_d ["self", "address", "truth"] []
  F_Setting_changed : Fun K "changed" "Setting.changed" s_Setting_changed A.Setting_changed A.Setting_changed_d
  b_Setting_changed : Binds K A.Setting_changed_d ["self", "change"] []
  F_l_cell_at : Fun K "_law_cell_at" "_law_cell_at" s_l_cell_at A.l_cell_at A.l_cell_at_d
  b_l_cell_at : Binds K A.l_cell_at_d ["_law_script", "_law_k"] []
  m_l_cell_at : mg "_law_cell_at" = some (.ref A.l_cell_at)
  F_l_draw : Fun K "_law_draw" "_law_draw" s_l_draw A.l_draw A.l_draw_d
  b_l_draw : Binds K A.l_draw_d ["_law_cell", "_law_k"] []
  m_l_draw : mg "_law_draw" = some (.ref A.l_draw)
  F_l_take : Fun K "_law_take" "_law_take" s_l_take A.l_take A.l_take_d
  b_l_take : Binds K A.l_take_d ["_law_tape", "_law_many"] []
  m_l_take : mg "_law_take" = some (.ref A.l_take)
  F_l_expr : Fun K "_law_expr" "_law_expr" s_l_expr A.l_expr A.l_expr_d
  b_l_expr : Binds K A.l_expr_d ["_law_tape", "_law_deep", "_law_names"] []
  m_l_expr : mg "_law_expr" = some (.ref A.l_expr)
  F_l_simple : Fun K "_law_simple" "_law_simple" s_l_simple A.l_simple A.l_simple_d
  b_l_simple : Binds K A.l_simple_d ["_law_tape", "_law_names"] []
  m_l_simple : mg "_law_simple" = some (.ref A.l_simple)
  F_l_call_row : Fun K "_law_call_row" "_law_call_row" s_l_call_row A.l_call_row A.l_call_row_d
  b_l_call_row : Binds K A.l_call_row_d ["_law_tape", "_law_names", "_law_funs"] []
  m_l_call_row : mg "_law_call_row" = some (.ref A.l_call_row)
  F_l_row : Fun K "_law_row" "_law_row" s_l_row A.l_row A.l_row_d
  b_l_row : Binds K A.l_row_d ["_law_tape", "_law_deep", "_law_names", "_law_funs"] []
  m_l_row : mg "_law_row" = some (.ref A.l_row)
  F_l_rows : Fun K "_law_rows" "_law_rows" s_l_rows A.l_rows A.l_rows_d
  b_l_rows : Binds K A.l_rows_d ["_law_tape", "_law_deep", "_law_names", "_law_funs", "_law_most"] []
  m_l_rows : mg "_law_rows" = some (.ref A.l_rows)
  F_l_kit : Fun K "_law_kit" "_law_kit" s_l_kit A.l_kit A.l_kit_d
  b_l_kit : Binds K A.l_kit_d ["_law_cell"] []
  m_l_kit : mg "_law_kit" = some (.ref A.l_kit)
  F_l_drawn : Fun K "_law_drawn" "_law_drawn" s_l_drawn A.l_drawn A.l_drawn_d
  b_l_drawn : Binds K A.l_drawn_d ["_law_tape", "_law_kit_here"] []
  m_l_drawn : mg "_law_drawn" = some (.ref A.l_drawn)
  F_l_shape : Fun K "_law_shape" "_law_shape" s_l_shape A.l_shape A.l_shape_d
  b_l_shape : Binds K A.l_shape_d ["_law_line"] []
  m_l_shape : mg "_law_shape" = some (.ref A.l_shape)
  F_law : Fun K "law" "law" s_law A.law A.law_d
  b_law : Binds K A.law_d ["_law_script"] []
  m_law : mg "law" = some (.ref A.law)
  m_Skip : mg "Skip" = some (.ref A.Skip)
  cl_Skip : Cls K A.Skip
  mk_Skip : PySem.W.makesIn K A.Skip = true
  n_Skip_number : NoAttr K A.Skip "number"
  k_Skip : Mk K A.Skip A.Row_init
  m_Row : mg "Row" = some (.ref A.Row)
  cl_Row : Cls K A.Row
  mk_Row : PySem.W.makesIn K A.Row = true
  k_Row : Mk K A.Row A.Row_init
  m_Set : mg "Set" = some (.ref A.Set)
  cl_Set : Cls K A.Set
  mk_Set : PySem.W.makesIn K A.Set = true
  n_Set_number : NoAttr K A.Set "number"
  n_Set_box : NoAttr K A.Set "box"
  n_Set_expr : NoAttr K A.Set "expr"
  k_Set : Mk K A.Set A.Set_init
  m_Put : mg "Put" = some (.ref A.Put)
  cl_Put : Cls K A.Put
  mk_Put : PySem.W.makesIn K A.Put = true
  n_Put_number : NoAttr K A.Put "number"
  n_Put_first : NoAttr K A.Put "first"
  n_Put_second : NoAttr K A.Put "second"
  k_Put : Mk K A.Put A.Put_init
  m_Ask : mg "Ask" = some (.ref A.Ask)
  cl_Ask : Cls K A.Ask
  mk_Ask : PySem.W.makesIn K A.Ask = true
  n_Ask_number : NoAttr K A.Ask "number"
  n_Ask_box : NoAttr K A.Ask "box"
  n_Ask_word : NoAttr K A.Ask "word"
  n_Ask_expr : NoAttr K A.Ask "expr"
  k_Ask : Mk K A.Ask A.Ask_init
  m_Draw : mg "Draw" = some (.ref A.Draw)
  cl_Draw : Cls K A.Draw
  mk_Draw : PySem.W.makesIn K A.Draw = true
  n_Draw_number : NoAttr K A.Draw "number"
  n_Draw_box : NoAttr K A.Draw "box"
  n_Draw_word : NoAttr K A.Draw "word"
  k_Draw : Mk K A.Draw A.Draw_init
  m_Tell : mg "Tell" = some (.ref A.Tell)
  cl_Tell : Cls K A.Tell
  mk_Tell : PySem.W.makesIn K A.Tell = true
  n_Tell_number : NoAttr K A.Tell "number"
  n_Tell_expr : NoAttr K A.Tell "expr"
  k_Tell : Mk K A.Tell A.Tell_init
  m_Choice : mg "Choice" = some (.ref A.Choice)
  cl_Choice : Cls K A.Choice
  mk_Choice : PySem.W.makesIn K A.Choice = true
  n_Choice_number : NoAttr K A.Choice "number"
  n_Choice_test : NoAttr K A.Choice "test"
  n_Choice_first : NoAttr K A.Choice "first"
  n_Choice_second : NoAttr K A.Choice "second"
  k_Choice : Mk K A.Choice A.Choice_init
  m_Loop : mg "Loop" = some (.ref A.Loop)
  cl_Loop : Cls K A.Loop
  mk_Loop : PySem.W.makesIn K A.Loop = true
  n_Loop_number : NoAttr K A.Loop "number"
  n_Loop_test : NoAttr K A.Loop "test"
  n_Loop_body : NoAttr K A.Loop "body"
  k_Loop : Mk K A.Loop A.Loop_init
  m_Call : mg "Call" = some (.ref A.Call)
  cl_Call : Cls K A.Call
  mk_Call : PySem.W.makesIn K A.Call = true
  n_Call_number : NoAttr K A.Call "number"
  n_Call_box : NoAttr K A.Call "box"
  n_Call_fun : NoAttr K A.Call "fun"
  n_Call_given : NoAttr K A.Call "given"
  k_Call : Mk K A.Call A.Call_init
  m_Give : mg "Give" = some (.ref A.Give)
  cl_Give : Cls K A.Give
  mk_Give : PySem.W.makesIn K A.Give = true
  n_Give_number : NoAttr K A.Give "number"
  n_Give_expr : NoAttr K A.Give "expr"
  k_Give : Mk K A.Give A.Give_init
  m_Reader : mg "Reader" = some (.ref A.Reader)
  cl_Reader : Cls K A.Reader
  mk_Reader : PySem.W.makesIn K A.Reader = true
  n_Reader_texts : NoAttr K A.Reader "texts"
  n_Reader_at : NoAttr K A.Reader "at"
  n_Reader_by_number : NoAttr K A.Reader "by_number"
  n_Reader_calls : NoAttr K A.Reader "calls"
  k_Reader : Mk K A.Reader A.Reader_init
  m_Function : mg "Function" = some (.ref A.Function)
  cl_Function : Cls K A.Function
  mk_Function : PySem.W.makesIn K A.Function = true
  n_Function_name : NoAttr K A.Function "name"
  n_Function_params : NoAttr K A.Function "params"
  n_Function_body : NoAttr K A.Function "body"
  n_Function_give : NoAttr K A.Function "give"
  k_Function : Mk K A.Function A.Function_init
  m_Program : mg "Program" = some (.ref A.Program)
  cl_Program : Cls K A.Program
  mk_Program : PySem.W.makesIn K A.Program = true
  n_Program_texts : NoAttr K A.Program "texts"
  n_Program_main : NoAttr K A.Program "main"
  n_Program_functions : NoAttr K A.Program "functions"
  n_Program_by_number : NoAttr K A.Program "by_number"
  k_Program : Mk K A.Program A.Program_init
  m_Setting : mg "Setting" = some (.ref A.Setting)
  cl_Setting : Cls K A.Setting
  mk_Setting : PySem.W.makesIn K A.Setting = true
  n_Setting_program : NoAttr K A.Setting "program"
  n_Setting_bound : NoAttr K A.Setting "bound"
  n_Setting_given : NoAttr K A.Setting "given"
  n_Setting_goings : NoAttr K A.Setting "goings"
  k_Setting : Mk K A.Setting A.Setting_init
  m_Number : mg "Number" = some (.ref A.Number)
  cl_Number : Cls K A.Number
  mk_Number : PySem.W.makesIn K A.Number = true
  n_Number_value : NoAttr K A.Number "value"
  k_Number : Mk K A.Number A.Number_init
  m_Expr : mg "Expr" = some (.ref A.Expr)
  cl_Expr : Cls K A.Expr
  mk_Expr : PySem.W.makesIn K A.Expr = true
  m_Box : mg "Box" = some (.ref A.Box)
  cl_Box : Cls K A.Box
  mk_Box : PySem.W.makesIn K A.Box = true
  n_Box_name : NoAttr K A.Box "name"
  k_Box : Mk K A.Box A.Box_init
  m_Cell : mg "Cell" = some (.ref A.Cell)
  cl_Cell : Cls K A.Cell
  mk_Cell : PySem.W.makesIn K A.Cell = true
  n_Cell_inner : NoAttr K A.Cell "inner"
  k_Cell : Mk K A.Cell A.Cell_init
  m_Two : mg "Two" = some (.ref A.Two)
  cl_Two : Cls K A.Two
  mk_Two : PySem.W.makesIn K A.Two = true
  n_Two_word : NoAttr K A.Two "word"
  n_Two_left : NoAttr K A.Two "left"
  n_Two_right : NoAttr K A.Two "right"
  k_Two : Mk K A.Two A.Two_init
  me_Skip_shape : Meth K A.Skip "shape" A.Row_shape
  me_Set_shape : Meth K A.Set "shape" A.Row_shape
  me_Put_shape : Meth K A.Put "shape" A.Row_shape
  me_Ask_shape : Meth K A.Ask "shape" A.Row_shape
  me_Draw_shape : Meth K A.Draw "shape" A.Row_shape
  me_Tell_shape : Meth K A.Tell "shape" A.Row_shape
  me_Choice_shape : Meth K A.Choice "shape" A.Choice_shape
  me_Loop_shape : Meth K A.Loop "shape" A.Loop_shape
  me_Call_shape : Meth K A.Call "shape" A.Call_shape
  me_Give_shape : Meth K A.Give "shape" A.Give_shape
  me_Number_parts : Meth K A.Number "parts" A.Expr_parts
  me_Box_parts : Meth K A.Box "parts" A.Expr_parts
  me_Cell_parts : Meth K A.Cell "parts" A.Cell_parts
  me_Two_parts : Meth K A.Two "parts" A.Two_parts
  me_Reader_block : Meth K A.Reader "block" A.Reader_block
  me_Reader_pass_line : Meth K A.Reader "pass_line" A.Reader_pass_line
  me_Reader_row_with_rows : Meth K A.Reader "row_with_rows" A.Reader_row_with_rows
  me_Reader_call_row : Meth K A.Reader "call_row" A.Reader_call_row
  me_Reader_head : Meth K A.Reader "head" A.Reader_head
  me_Reader_one_row : Meth K A.Reader "one_row" A.Reader_one_row
  me_Reader_function : Meth K A.Reader "function" A.Reader_function
  me_Setting_given_otherwise : Meth K A.Setting "given_otherwise" A.Setting_given_otherwise
  me_Program_with_line : Meth K A.Program "with_line" A.Program_with_line
  me_Setting_going_otherwise : Meth K A.Setting "going_otherwise" A.Setting_going_otherwise
  me_Setting_changed : Meth K A.Setting "changed" A.Setting_changed
  me_Program_lines : Meth K A.Program "lines" A.Program_lines
  me_Program_text : Meth K A.Program "text" A.Program_text
  me_Setting_start : Meth K A.Setting "start" A.Setting_start
  me_Setting_forced : Meth K A.Setting "forced" A.Setting_forced
  cf_Row_init : CFn K A.Row "__init__" A.Row_init
  m_PAIRS : mg "PAIRS" = some (.ref A.PAIRS)
  q_PAIRS : ∀ H, SqT K H A.PAIRS [V.str "plus", V.str "minus", V.str "times", V.str "over", V.str "rest", V.str "less", V.str "same"]
  m_ROWS : mg "ROWS" = some (.ref A.ROWS)
  q_ROWS : ∀ H, SqT K H A.ROWS [V.str "skip", V.str "set", V.str "put", V.str "ask", V.str "draw", V.str "tell", V.str "if", V.str "while", V.str "call"]
  m_OTHERS : mg "OTHERS" = some (.ref A.OTHERS)
  q_OTHERS : ∀ H, SqT K H A.OTHERS [V.str "else", V.str "end", V.str "fun", V.str "main", V.str "give", V.str "cell"]
  m_CHANGES : mg "CHANGES" = some (.ref A.CHANGES)
  q_CHANGES : ∀ H, SqT K H A.CHANGES [V.str "start", V.str "row", V.str "goes"]
  m_NoProgram : mg "NoProgram" = some (.ref A.NoProgram)
  x_NoProgram : PySem.W.excIn K A.NoProgram [.type "ValueError", .type "Exception", .type "BaseException", .type "object"] "ValueError.__new__" = true
  kk_NoProgram : PySem.W.keepIn K (.ref A.NoProgram) = true
  bb_NoProgram : PySem.W.subIn K (.ref A.NoProgram) (.type "BaseException") = some true
  tt_NoProgram : PySem.W.typeIn K (.ref A.NoProgram) = some (.type "type")
  m_NoChange : mg "NoChange" = some (.ref A.NoChange)
  x_NoChange : PySem.W.excIn K A.NoChange [.type "ValueError", .type "Exception", .type "BaseException", .type "object"] "ValueError.__new__" = true
  kk_NoChange : PySem.W.keepIn K (.ref A.NoChange) = true
  bb_NoChange : PySem.W.subIn K (.ref A.NoChange) (.type "BaseException") = some true
  tt_NoChange : PySem.W.typeIn K (.ref A.NoChange) = some (.type "type")
  ne_num_box : A.Number ≠ A.Box
  ne_num_cell : A.Number ≠ A.Cell
  ne_num_two : A.Number ≠ A.Two
  ne_box_num : A.Box ≠ A.Number
  ne_box_cell : A.Box ≠ A.Cell
  ne_box_two : A.Box ≠ A.Two
  ne_cell_num : A.Cell ≠ A.Number
  ne_cell_box : A.Cell ≠ A.Box
  ne_cell_two : A.Cell ≠ A.Two
  ne_two_num : A.Two ≠ A.Number
  ne_two_box : A.Two ≠ A.Box
  ne_two_cell : A.Two ≠ A.Cell
  ne_Skip_Set : A.Skip ≠ A.Set
  ne_Skip_Put : A.Skip ≠ A.Put
  ne_Skip_Ask : A.Skip ≠ A.Ask
  ne_Skip_Draw : A.Skip ≠ A.Draw
  ne_Skip_Tell : A.Skip ≠ A.Tell
  ne_Skip_Choice : A.Skip ≠ A.Choice
  ne_Skip_Loop : A.Skip ≠ A.Loop
  ne_Skip_Call : A.Skip ≠ A.Call
  ne_Skip_Give : A.Skip ≠ A.Give
  ne_Set_Skip : A.Set ≠ A.Skip
  ne_Set_Put : A.Set ≠ A.Put
  ne_Set_Ask : A.Set ≠ A.Ask
  ne_Set_Draw : A.Set ≠ A.Draw
  ne_Set_Tell : A.Set ≠ A.Tell
  ne_Set_Choice : A.Set ≠ A.Choice
  ne_Set_Loop : A.Set ≠ A.Loop
  ne_Set_Call : A.Set ≠ A.Call
  ne_Set_Give : A.Set ≠ A.Give
  ne_Put_Skip : A.Put ≠ A.Skip
  ne_Put_Set : A.Put ≠ A.Set
  ne_Put_Ask : A.Put ≠ A.Ask
  ne_Put_Draw : A.Put ≠ A.Draw
  ne_Put_Tell : A.Put ≠ A.Tell
  ne_Put_Choice : A.Put ≠ A.Choice
  ne_Put_Loop : A.Put ≠ A.Loop
  ne_Put_Call : A.Put ≠ A.Call
  ne_Put_Give : A.Put ≠ A.Give
  ne_Ask_Skip : A.Ask ≠ A.Skip
  ne_Ask_Set : A.Ask ≠ A.Set
  ne_Ask_Put : A.Ask ≠ A.Put
  ne_Ask_Draw : A.Ask ≠ A.Draw
  ne_Ask_Tell : A.Ask ≠ A.Tell
  ne_Ask_Choice : A.Ask ≠ A.Choice
  ne_Ask_Loop : A.Ask ≠ A.Loop
  ne_Ask_Call : A.Ask ≠ A.Call
  ne_Ask_Give : A.Ask ≠ A.Give
  ne_Draw_Skip : A.Draw ≠ A.Skip
  ne_Draw_Set : A.Draw ≠ A.Set
  ne_Draw_Put : A.Draw ≠ A.Put
  ne_Draw_Ask : A.Draw ≠ A.Ask
  ne_Draw_Tell : A.Draw ≠ A.Tell
  ne_Draw_Choice : A.Draw ≠ A.Choice
  ne_Draw_Loop : A.Draw ≠ A.Loop
  ne_Draw_Call : A.Draw ≠ A.Call
  ne_Draw_Give : A.Draw ≠ A.Give
  ne_Tell_Skip : A.Tell ≠ A.Skip
  ne_Tell_Set : A.Tell ≠ A.Set
  ne_Tell_Put : A.Tell ≠ A.Put
  ne_Tell_Ask : A.Tell ≠ A.Ask
  ne_Tell_Draw : A.Tell ≠ A.Draw
  ne_Tell_Choice : A.Tell ≠ A.Choice
  ne_Tell_Loop : A.Tell ≠ A.Loop
  ne_Tell_Call : A.Tell ≠ A.Call
  ne_Tell_Give : A.Tell ≠ A.Give
  ne_Choice_Skip : A.Choice ≠ A.Skip
  ne_Choice_Set : A.Choice ≠ A.Set
  ne_Choice_Put : A.Choice ≠ A.Put
  ne_Choice_Ask : A.Choice ≠ A.Ask
  ne_Choice_Draw : A.Choice ≠ A.Draw
  ne_Choice_Tell : A.Choice ≠ A.Tell
  ne_Choice_Loop : A.Choice ≠ A.Loop
  ne_Choice_Call : A.Choice ≠ A.Call
  ne_Choice_Give : A.Choice ≠ A.Give
  ne_Loop_Skip : A.Loop ≠ A.Skip
  ne_Loop_Set : A.Loop ≠ A.Set
  ne_Loop_Put : A.Loop ≠ A.Put
  ne_Loop_Ask : A.Loop ≠ A.Ask
  ne_Loop_Draw : A.Loop ≠ A.Draw
  ne_Loop_Tell : A.Loop ≠ A.Tell
  ne_Loop_Choice : A.Loop ≠ A.Choice
  ne_Loop_Call : A.Loop ≠ A.Call
  ne_Loop_Give : A.Loop ≠ A.Give
  ne_Call_Skip : A.Call ≠ A.Skip
  ne_Call_Set : A.Call ≠ A.Set
  ne_Call_Put : A.Call ≠ A.Put
  ne_Call_Ask : A.Call ≠ A.Ask
  ne_Call_Draw : A.Call ≠ A.Draw
  ne_Call_Tell : A.Call ≠ A.Tell
  ne_Call_Choice : A.Call ≠ A.Choice
  ne_Call_Loop : A.Call ≠ A.Loop
  ne_Call_Give : A.Call ≠ A.Give
  ne_Give_Skip : A.Give ≠ A.Skip
  ne_Give_Set : A.Give ≠ A.Set
  ne_Give_Put : A.Give ≠ A.Put
  ne_Give_Ask : A.Give ≠ A.Ask
  ne_Give_Draw : A.Give ≠ A.Draw
  ne_Give_Tell : A.Give ≠ A.Tell
  ne_Give_Choice : A.Give ≠ A.Choice
  ne_Give_Loop : A.Give ≠ A.Loop
  ne_Give_Call : A.Give ≠ A.Call
  nr_Number : A.Number ≠ A.Reader
  nr_Box : A.Box ≠ A.Reader
  nr_Cell : A.Cell ≠ A.Reader
  nr_Two : A.Two ≠ A.Reader
  nr_Function : A.Function ≠ A.Reader
  nr_Skip : A.Skip ≠ A.Reader
  nr_Set : A.Set ≠ A.Reader
  nr_Put : A.Put ≠ A.Reader
  nr_Ask : A.Ask ≠ A.Reader
  nr_Draw : A.Draw ≠ A.Reader
  nr_Tell : A.Tell ≠ A.Reader
  nr_Choice : A.Choice ≠ A.Reader
  nr_Loop : A.Loop ≠ A.Reader
  nr_Call : A.Call ≠ A.Reader
  nr_Give : A.Give ≠ A.Reader
  xg : PySem.W.findIn K (.ref A.NoProgram) "__getattribute__" = some (some (.builtin "BaseException.__getattribute__"))
  xk : PySem.W.findIn K (.ref A.NoProgram) "__getattr__" = some none
  xd : PySem.W.hasDictIn K A.NoProgram = true
  xa : PySem.W.findIn K (.ref A.NoProgram) "__class__" = some (some (.builtin "object.__class__"))
  xn : PySem.W.specialIn K (.builtin "object.__class__") "__get__" = some (some (.builtin "getset_descriptor.__get__"))
  xt : PySem.W.takesIn K (.builtin "object.__class__") = some true
  xm : PySem.W.mroIn K A.NoProgram (.type "object") = some true
  yg : PySem.W.findIn K (.ref A.NoChange) "__getattribute__" = some (some (.builtin "BaseException.__getattribute__"))
  yk : PySem.W.findIn K (.ref A.NoChange) "__getattr__" = some none
  yd : PySem.W.hasDictIn K A.NoChange = true
  ya : PySem.W.findIn K (.ref A.NoChange) "__class__" = some (some (.builtin "object.__class__"))
  ym : PySem.W.mroIn K A.NoChange (.type "object") = some true
  yp : PySem.W.exmOne K (.ref A.NoProgram) (.ref A.NoProgram) = some true
  ga_Program : PySem.W.findIn K (.ref A.Program) "__class__" = some (some (.builtin "object.__class__"))
  gm_Program : PySem.W.mroIn K A.Program (.type "object") = some true
  yc : PySem.W.exmOne K (.ref A.NoChange) (.ref A.NoChange) = some true
  yn : PySem.W.kitOne K (.ref A.NoChange) (.ref A.NoProgram) = some false
  c_LETTERS : ∃ t, mg "LETTERS" = some (.str "abcdefghijklmnopqrstuvwxyz" t)
  c_FIGURES : ∃ t, mg "FIGURES" = some (.str "0123456789" t)
  c_MOST_DEEP : ∃ t, mg "MOST_DEEP" = some (.int 6 t)
  c_MOST_PARTS : ∃ t, mg "MOST_PARTS" = some (.int 15 t)
  c_MOST_WITHIN : ∃ t, mg "MOST_WITHIN" = some (.int 5 t)
  c_MOST_PARAMS : ∃ t, mg "MOST_PARAMS" = some (.int 3 t)
  c_MOST_LINES : ∃ t, mg "MOST_LINES" = some (.int 60 t)
  c_MOST_FUNCTIONS : ∃ t, mg "MOST_FUNCTIONS" = some (.int 4 t)
  c_LIMIT : ∃ t, mg "LIMIT" = some (.int 1000000 t)
  z_str : mg "str" = none
  z_isinstance : mg "isinstance" = none
  z_len : mg "len" = none
  z_all : mg "all" = none
  z_int : mg "int" = none
  z_set : mg "set" = none
  z_list : mg "list" = none
  z_bool : mg "bool" = none
  z_tuple : mg "tuple" = none
  z_dict : mg "dict" = none
  z_range : mg "range" = none
  z_max : mg "max" = none
  z_min : mg "min" = none
abbrev Ads.ec (A : Ads) : EC := ⟨A.Number, A.Box, A.Cell, A.Two⟩
abbrev Ads.rc (A : Ads) : RC := ⟨A.Skip, A.Set, A.Put, A.Ask, A.Draw, A.Tell, A.Choice, A.Loop, A.Call, A.Give⟩
theorem excNP {K : PySem.W.Frag} {mg : Str → Option Value} {A : Ads} (T : Txt K mg A) : ExcC K A.NoProgram := ⟨T.xg, T.xk, T.bb_NoProgram, T.xd, T.xa, T.xn, T.xt, T.xm⟩
theorem is_self {K : PySem.W.Frag} (C : Addr) : PySem.W.kitOne K (.ref C) (.ref C) = some true := by
  unfold PySem.W.kitOne
  rw [if_pos (by simp)]

theorem notR_ec {K : PySem.W.Frag} {mg : Str → Option Value} {A : Ads} (T : Txt K mg A) : ∀ C, A.ec.Fam C → C ≠ A.Reader := fun C h => by
  rcases h with rfl | rfl | rfl | rfl
  · exact T.nr_Number
  · exact T.nr_Box
  · exact T.nr_Cell
  · exact T.nr_Two
theorem notR_rc {K : PySem.W.Frag} {mg : Str → Option Value} {A : Ads} (T : Txt K mg A) : ∀ C, A.rc.Fam C → C ≠ A.Reader := fun C h => by
  obtain ⟨rt, rfl⟩ := h
  cases rt with
  | skip => exact T.nr_Skip
  | set _ _ => exact T.nr_Set
  | put _ _ => exact T.nr_Put
  | ask _ _ _ => exact T.nr_Ask
  | draw _ _ => exact T.nr_Draw
  | tell _ => exact T.nr_Tell
  | ifr _ => exact T.nr_Choice
  | loop _ => exact T.nr_Loop
  | call _ _ _ => exact T.nr_Call
  | give _ => exact T.nr_Give
theorem excNC {K : PySem.W.Frag} {mg : Str → Option Value} {A : Ads} (T : Txt K mg A) : ExcC K A.NoChange := ⟨T.yg, T.yk, T.bb_NoChange, T.yd, T.ya, T.xn, T.xt, T.ym⟩
end K34
open PySem L2 TL

local macro_rules | `(tactic| walk_at "rd") => `(tactic| repeat (first
  | refine ⟨_, rfl, ?_⟩
  | refine ⟨_, _, rfl, rfl, ?_⟩
  | refine ⟨Or.inl ⟨by decide, by decide⟩, ?_⟩
  | refine ⟨Or.inr ⟨by decide, by decide⟩, ?_⟩
  | refine ⟨(⟨by decide, by decide⟩ : CDiv _ _), ?_⟩
  | refine ⟨(⟨by decide, by decide, by decide⟩ : CPow _ _), ?_⟩
  | refine ⟨(by show (0 : Int) < _; decide), ?_⟩
  | refine ⟨K34.mod64, ?_⟩))
namespace K34
open PySem L2 TL
section
variable {P : Program} {w : World} {K : PySem.W.Frag} {mg : Str → Option Value} {base : Heap} {A : Ads}
theorem ok_is_name (T : Txt K mg A) : FnOk P w K mg base CX0 1 A.is_name A.is_name_d ["thing"] (spTruthS isNameW) := by
  refine T.F_is_name.ok sc_is_name (fun vs H Q E h => ?_) (fun cdv A0 outer s H vs Q E hr h => ?_)
  · obtain ⟨s, rfl, hl, q⟩ := h
    rfl
  obtain ⟨s, rfl, hl, q⟩ := h
  refine ⟨_, (pss_cons (ps_if (PW.pt (pw_or (pt_not (pt_val (pe_callB call_isi (by rfl) T.z_isinstance (by decide +kernel) (pa_cons (pv 0) (pa_cons (pe_bltn (v := .ty "str") (by rfl) T.z_str (by decide +kernel) rfl) pa_nil))))) (pw_or1 (pt_not (pt_chain op_le op_le pe_int (pe_callB call_len_str (by rfl) T.z_len (by decide +kernel) (pa_cons (pv 0) pa_nil)) pe_int)))))
    (pss_one (ps_ret pe_bl))
    pss_nil)
   (pss_cons (ps_if (PW.pt (pw_or (pt_cmpR op_in_seq (pv 0) (pe_glob (v := .ref A.PAIRS) (by rfl) T.m_PAIRS rfl) (by rfl)) (pw_or (pt_cmpR op_in_seq (pv 0) (pe_glob (v := .ref A.ROWS) (by rfl) T.m_ROWS rfl) (by rfl)) (pw_or1 (pt_cmpR op_in_seq (pv 0) (pe_glob (v := .ref A.OTHERS) (by rfl) T.m_OTHERS rfl) (by rfl))))))
    (pss_one (ps_ret pe_bl))
    pss_nil)
   (pss_one (ps_ret (pe_callB (cr_all rfl) (by rfl) T.z_all (by decide +kernel) (pa_cons (pe_lc (own := [("sign", 1)]) (g := gName 1) (tt := tYes) rfl sc_is_name.nd (pi_str (pv 0)) (blkOk_by (own := [("sign", 1)]) (N := N_is_name) (sc := defScope s_is_name) (by decide +kernel)) (fun _ _ _ _ _ => pg_name (i := 1) sc_is_name.nd rfl (Or.inl rfl)) (fun _ _ _ _ _ => pts_nil) (fun _ _ _ _ _ => (pe_cmpR op_in_sign (pv 1) (pe_glob (v := .str "abcdefghijklmnopqrstuvwxyz") (by rfl) T.c_LETTERS.choose_spec ⟨_, rfl⟩) rfl))) pa_nil)))))), ?_⟩
  have hs : s.length = (tl s).length := len_tl s
  refine ⟨_, rfl, _, _, _, _, true, rfl, .ty _, .base (.str _), kit_ty (by decide +kernel), _, rfl, iteF ?_⟩
  refine ⟨_, rfl, _, rfl, len_line hl, _, _, rfl, rfl, _, rfl, ?_⟩
  refine iteD2 (fun c1 => ?_) (fun c1 => ?_)
  · refine ⟨_, _, rfl, rfl, _, rfl, iteN2 (fun c2 => ?_) (fun c2 => ?_)⟩
    · refine (nameW_false1 (s := s) (Or.inr ?_)) ▸ q _ (Same.refl H)
      omega
    · refine ⟨_, rfl, A.PAIRS, PAIRW.map V.str, rfl, .inr (T.q_PAIRS _), rfl, rfl, _, rfl, ?_⟩
      rw [if_neg Bool.false_ne_true, inV_str]
      refine iteD2 (fun c3 => (nameW_false2 (s := s) (.inl c3)) ▸ q _ (Same.refl H)) (fun c3 => ?_)
      refine ⟨_, rfl, A.ROWS, ROWW.map V.str, rfl, .inr (T.q_ROWS _), rfl, rfl, _, rfl, ?_⟩
      rw [if_neg Bool.false_ne_true, inV_str]
      refine iteD2 (fun c4 => (nameW_false2 (s := s) (.inr (.inl c4))) ▸ q _ (Same.refl H)) (fun c4 => ?_)
      refine ⟨_, rfl, A.OTHERS, OTHW.map V.str, rfl, .inr (T.q_OTHERS _), rfl, rfl, _, rfl, ?_⟩
      rw [if_neg Bool.false_ne_true, inV_str]
      refine iteD2 (fun c5 => (nameW_false2 (s := s) (.inr (.inr c5))) ▸ q _ (Same.refl H)) (fun c5 => ?_)
      exact rd_all (f := isLow) rfl (by show 1 < 2; decide) (by decide) (by omega) let_mem fun H' s' => (nameW_true (s := s) (by omega) (by omega) c3 c4 c5) ▸ q H' s'
  · refine ⟨_, rfl, iteT ?_⟩
    refine (nameW_false1 (s := s) (Or.inl ?_)) ▸ q _ (Same.refl H)
    omega

theorem ok_is_value_word (T : Txt K mg A) : FnOk P w K mg base CX0 1 A.is_value_word A.is_value_word_d ["word"] (spTruthS isValW) := by
  refine T.F_is_value_word.ok sc_is_value_word (fun vs H Q E h => ?_) (fun cdv A0 outer s H vs Q E hr h => ?_)
  · obtain ⟨s, rfl, hl, q⟩ := h
    rfl
  obtain ⟨s, rfl, hl, q⟩ := h
  refine ⟨_, (pss_cons (ps_if (PW.pt (pw_or (pt_not (pt_chain op_le op_le pe_int (pe_callB call_len_str (by rfl) T.z_len (by decide +kernel) (pa_cons (pv 0) pa_nil)) pe_int)) (pw_or1 (PW.pt (pw_and (pt_cmpR op_eq (pe_ix ix_str (pv 0) pe_int (fun _ _ => rfl)) pe_str (nomark _)) (pw_and1 (pt_cmpR op_ne (pv 0) pe_str (nomark _))))))))
    (pss_one (ps_ret pe_bl))
    pss_nil)
   (pss_one (ps_ret (pe_callB (cr_all rfl) (by rfl) T.z_all (by decide +kernel) (pa_cons (pe_lc (own := [("sign", 1)]) (g := gName 1) (tt := tYes) rfl sc_is_value_word.nd (pi_str (pv 0)) (blkOk_by (own := [("sign", 1)]) (N := N_is_value_word) (sc := defScope s_is_value_word) (by decide +kernel)) (fun _ _ _ _ _ => pg_name (i := 1) sc_is_value_word.nd rfl (Or.inl rfl)) (fun _ _ _ _ _ => pts_nil) (fun _ _ _ _ _ => (pe_cmpR op_in_sign (pv 1) (pe_glob (v := .str "0123456789") (by rfl) T.c_FIGURES.choose_spec ⟨_, rfl⟩) rfl))) pa_nil))))), ?_⟩
  have hs : s.length = (tl s).length := len_tl s
  refine ⟨_, rfl, _, rfl, len_line hl, _, _, rfl, rfl, _, rfl, ?_⟩
  refine iteD2 (fun c1 => ?_) (fun c1 => ?_)
  · refine ⟨_, _, rfl, rfl, _, rfl, iteN2 (fun c2 => ?_) (fun c2 => ?_)⟩
    · refine (valW_false1 (s := s) (Or.inr ?_)) ▸ q _ (Same.refl H)
      omega
    · have h6 : (tl s).length ≤ 6 ∧ 1 ≤ (tl s).length := by omega
      obtain ⟨c, r, hc⟩ : ∃ c r, tl s = c :: r := by
        cases e : tl s with
        | nil => rw [e] at h6; simp at h6
        | cons c r => exact ⟨c, r, rfl⟩
      refine ⟨_, rfl, s, 0, c, rfl, rfl, len_line hl, (by show atI (tl s) ((0 : Nat) : Int) = some c; rw [hc]; exact atI_nat rfl), rfl, _, rfl, ?_⟩
      refine iteD2 (fun c3 => ?_) (fun c3 => ?_)
      · refine ⟨_, rfl, rfl, _, rfl, iteN2 (fun c4 => ?_) (fun c4 => ?_)⟩
        · refine (valW_false2 (s := s) ?_ (fun e => c4 (congrArg V.str e))) ▸ q _ (Same.refl H)
          rw [hc]
          have := congrArg tl (V.str.inj c3)
          have z : tl (Str.ofString "0") = [48] := by decide +kernel
          rw [z] at this
          have e2 : [c] = [48] := this
          rw [List.cons.injEq] at e2
          rw [e2.1]; rfl
        · exact rd_all (f := isDig) rfl (by show 1 < 2; decide) (by decide) (by omega) fig_mem fun H' s' => (valW_true (s := s) h6.2 h6.1 (fun _ => V.str.inj c4)) ▸ q H' s'
      · refine rd_all (f := isDig) rfl (by show 1 < 2; decide) (by decide) (by omega) fig_mem fun H' s' => (valW_true (s := s) h6.2 h6.1 (fun e => ?_)) ▸ q H' s'
        rw [hc, List.head?_cons] at e
        refine absurd (congrArg V.str ?_) c3
        refine ext_tl ?_
        have z : tl (Str.ofString "0") = [48] := by decide +kernel
        rw [z, Option.some.inj e]
  · refine ⟨_, rfl, iteT ?_⟩
    refine (valW_false1 (s := s) (Or.inl ?_)) ▸ q _ (Same.refl H)
    omega

end
end K34
namespace K34
open PySem L2 TL
section
variable {P : Program} {w : World} {K : PySem.W.Frag} {mg : Str → Option Value} {base : Heap} {A : Ads}
theorem ok_Number_init (T : Txt K mg A) : FnOk P w K mg base CX0 1 A.Number_init A.Number_init_d ["self", "value"] (spInit1 A.Number "value") := by
  refine T.F_Number_init.ok sc_Number_init (fun vs H Q E h => ?_) (fun cdv A0 outer s H vs Q E hr h => ?_)
  · obtain ⟨p, dx, x, rfl, hp, q⟩ := h
    rfl
  obtain ⟨p, dx, x, rfl, hp, q⟩ := h
  refine ⟨_, (pss_one (ps_fld (pv 0) (pv 1) rfl)), ?_⟩
  exact ⟨_, rfl, _, rfl, p, A.Number, dx, [], rfl, hp, T.cl_Number, T.n_Number_value, (by show 0 < 1000; decide), q⟩

theorem ok_Box_init (T : Txt K mg A) : FnOk P w K mg base CX0 1 A.Box_init A.Box_init_d ["self", "name"] (spInit1 A.Box "name") := by
  refine T.F_Box_init.ok sc_Box_init (fun vs H Q E h => ?_) (fun cdv A0 outer s H vs Q E hr h => ?_)
  · obtain ⟨p, dx, x, rfl, hp, q⟩ := h
    rfl
  obtain ⟨p, dx, x, rfl, hp, q⟩ := h
  refine ⟨_, (pss_one (ps_fld (pv 0) (pv 1) rfl)), ?_⟩
  exact ⟨_, rfl, _, rfl, p, A.Box, dx, [], rfl, hp, T.cl_Box, T.n_Box_name, (by show 0 < 1000; decide), q⟩

theorem ok_Cell_init (T : Txt K mg A) : FnOk P w K mg base CX0 1 A.Cell_init A.Cell_init_d ["self", "inner"] (spInit1 A.Cell "inner") := by
  refine T.F_Cell_init.ok sc_Cell_init (fun vs H Q E h => ?_) (fun cdv A0 outer s H vs Q E hr h => ?_)
  · obtain ⟨p, dx, x, rfl, hp, q⟩ := h
    rfl
  obtain ⟨p, dx, x, rfl, hp, q⟩ := h
  refine ⟨_, (pss_one (ps_fld (pv 0) (pv 1) rfl)), ?_⟩
  exact ⟨_, rfl, _, rfl, p, A.Cell, dx, [], rfl, hp, T.cl_Cell, T.n_Cell_inner, (by show 0 < 1000; decide), q⟩

theorem ok_Two_init (T : Txt K mg A) : FnOk P w K mg base CX0 1 A.Two_init A.Two_init_d ["self", "word", "left", "right"] (spTwoI A.Two) := by
  refine T.F_Two_init.ok sc_Two_init (fun vs H Q E h => ?_) (fun cdv A0 outer s H vs Q E hr h => ?_)
  · obtain ⟨p, dx, wd, l, r, rfl, hp, q⟩ := h
    rfl
  obtain ⟨p, dx, wd, l, r, rfl, hp, q⟩ := h
  refine ⟨_, (pss_cons (ps_fld (pv 0) (pv 1) rfl)
   (pss_cons (ps_fld (pv 0) (pv 2) rfl)
   (pss_one (ps_fld (pv 0) (pv 3) rfl)))), ?_⟩
  refine ⟨_, rfl, _, rfl, p, A.Two, dx, [], rfl, hp, T.cl_Two, T.n_Two_word, (by show 0 < 1000; decide), ?_⟩
  refine ⟨_, rfl, _, rfl, p, A.Two, dx, _, rfl, upd_same, T.cl_Two, T.n_Two_left, (by show 1 < 1000; decide), ?_⟩
  refine ⟨_, rfl, _, rfl, p, A.Two, dx, _, rfl, upd_same, T.cl_Two, T.n_Two_right, (by show 2 < 1000; decide), ?_⟩
  rw [upd_upd, upd_upd]
  exact q

end
end K34
namespace K34
open PySem L2 TL
section
variable {P : Program} {w : World} {K : PySem.W.Frag} {mg : Str → Option Value} {base : Heap} {A : Ads}
theorem ok_Expr_parts (T : Txt K mg A) {n : Nat} {C : Addr} (hC : C = A.Number ∨ C = A.Box) : FnOk P w K mg base CX0 (n + 2) A.Expr_parts A.Expr_parts_d ["self"] (spParts A.ec (n + 1) C) := by
  refine T.F_Expr_parts.ok sc_Expr_parts (fun vs H Q E h => ?_) (fun cdv A0 outer s H vs Q E hr h => ?_)
  · obtain ⟨e, v, rfl, ho, hc, hd, q⟩ := h
    rfl
  obtain ⟨e, v, rfl, ho, hc, hd, q⟩ := h
  refine ⟨_, (pss_one (ps_ret pe_int)), ?_⟩
  cases e with
  | num n => exact q
  | box s => exact q
  | cell e =>
    rcases hC with h | h
    · exact (T.ne_cell_num (hc.trans h)).elim
    · exact (T.ne_cell_box (hc.trans h)).elim
  | two w l r =>
    rcases hC with h | h
    · exact (T.ne_two_num (hc.trans h)).elim
    · exact (T.ne_two_box (hc.trans h)).elim

theorem ok_Cell_parts (T : Txt K mg A) {n : Nat} (D_parts : ∀ C, A.ec.Fam C → Disp P w K mg base CX0 "parts" (n + 1) C (spParts A.ec n C)) : FnOk P w K mg base CX0 (n + 2) A.Cell_parts A.Cell_parts_d ["self"] (spParts A.ec (n + 1) A.Cell) := by
  refine T.F_Cell_parts.ok sc_Cell_parts (fun vs H Q E h => ?_) (fun cdv A0 outer s H vs Q E hr h => ?_)
  · obtain ⟨e, v, rfl, ho, hc, hd, q⟩ := h
    rfl
  obtain ⟨e, v, rfl, ho, hc, hd, q⟩ := h
  refine ⟨_, (pss_one (ps_ret (pe_op op_add pe_int (pe_methP0 (pe_fld (pv 0) rfl) D_parts (hr.mono (by omega)) pass0)))), ?_⟩
  cases e with
  | num n => exact (T.ne_num_cell hc).elim
  | box z => exact (T.ne_box_cell hc).elim
  | cell e =>
    obtain ⟨p, dx, i, rfl, h1, h2⟩ := ho
    have hd' : e.depth ≤ n := Nat.le_of_succ_le_succ hd
    obtain ⟨p2, d2, f2, e2, g1, g2⟩ := h2.at (m := "parts") (by decide +kernel)
    refine ⟨_, rfl, p, A.Cell, dx, _, _, rfl, h1, T.cl_Cell, T.n_Cell_inner, rfl, p2, _, d2, f2, e2, g1, g2, A.ec.fam e, e, i, rfl, h2, rfl, hd', ?_⟩
    refine ⟨_, _, rfl, rfl, ?_⟩
    have e1 : (1 : Int) + (e.parts : Int) = ((Ex.cell e).parts : Int) := by show (1 : Int) + (e.parts : Int) = ((1 + e.parts : Nat) : Int); omega
    show Q (.int ((1 : Int) + (e.parts : Int))) H
    rw [e1]
    exact q
  | two wd l r => exact (T.ne_two_cell hc).elim

theorem ok_Two_parts (T : Txt K mg A) {n : Nat} (D_parts : ∀ C, A.ec.Fam C → Disp P w K mg base CX0 "parts" (n + 1) C (spParts A.ec n C)) : FnOk P w K mg base CX0 (n + 2) A.Two_parts A.Two_parts_d ["self"] (spParts A.ec (n + 1) A.Two) := by
  refine T.F_Two_parts.ok sc_Two_parts (fun vs H Q E h => ?_) (fun cdv A0 outer s H vs Q E hr h => ?_)
  · obtain ⟨e, v, rfl, ho, hc, hd, q⟩ := h
    rfl
  obtain ⟨e, v, rfl, ho, hc, hd, q⟩ := h
  refine ⟨_, (pss_one (ps_ret (pe_op op_add (pe_op op_add pe_int (pe_methP0 (pe_fld (pv 0) rfl) D_parts (hr.mono (by omega)) pass0)) (pe_methP0 (pe_fld (pv 0) rfl) D_parts (hr.mono (by omega)) pass0)))), ?_⟩
  cases e with
  | num n => exact (T.ne_num_two hc).elim
  | box z => exact (T.ne_box_two hc).elim
  | cell e => exact (T.ne_cell_two hc).elim
  | two wd l r =>
    obtain ⟨p, dx, a, b, rfl, h1, h2, h3⟩ := ho
    have hd' : max l.depth r.depth ≤ n := Nat.le_of_succ_le_succ hd
    obtain ⟨p2, d2, f2, e2, g1, g2⟩ := h2.at (m := "parts") (by decide +kernel)
    obtain ⟨p3, d3, f3, e3, k1, k2⟩ := h3.at (m := "parts") (by decide +kernel)
    refine ⟨_, rfl, p, A.Two, dx, _, _, rfl, h1, T.cl_Two, T.n_Two_left, rfl, p2, _, d2, f2, e2, g1, g2, A.ec.fam l, l, a, rfl, h2, rfl, by omega, ?_⟩
    refine ⟨_, _, rfl, rfl, ?_⟩
    refine ⟨_, rfl, p, A.Two, dx, _, _, rfl, h1, T.cl_Two, T.n_Two_right, rfl, p3, _, d3, f3, e3, k1, k2, A.ec.fam r, r, b, rfl, h3, rfl, by omega, ?_⟩
    refine ⟨_, _, rfl, rfl, ?_⟩
    have e1 : (1 : Int) + (l.parts : Int) + (r.parts : Int) = ((Ex.two wd l r).parts : Int) := by show (1 : Int) + (l.parts : Int) + (r.parts : Int) = ((1 + l.parts + r.parts : Nat) : Int); omega
    show Q (.int ((1 : Int) + (l.parts : Int) + (r.parts : Int))) H
    rw [e1]
    exact q

theorem disp_parts (T : Txt K mg A) : ∀ (n : Nat) (C : Addr), A.ec.Fam C → Disp P w K mg base CX0 "parts" (n + 1) C (spParts A.ec n C)
  | 0, C, h => by
    have no : ∀ vs H Q E, spParts A.ec 0 C vs H Q E → False := fun vs H Q E ⟨e, v, _, _, _, hd, _⟩ => by have := e.depth_pos; omega
    rcases h with rfl | rfl | rfl | rfl
    · exact ⟨_, A.Expr_parts_d, _, T.cl_Number, T.me_Number_parts, fn_none (ps := ["self"]) no, T.b_Expr_parts⟩
    · exact ⟨_, A.Expr_parts_d, _, T.cl_Box, T.me_Box_parts, fn_none (ps := ["self"]) no, T.b_Expr_parts⟩
    · exact ⟨_, A.Cell_parts_d, _, T.cl_Cell, T.me_Cell_parts, fn_none (ps := ["self"]) no, T.b_Cell_parts⟩
    · exact ⟨_, A.Two_parts_d, _, T.cl_Two, T.me_Two_parts, fn_none (ps := ["self"]) no, T.b_Two_parts⟩
  | n + 1, C, h => by
    have D := disp_parts T n
    rcases h with rfl | rfl | rfl | rfl
    · exact ⟨_, _, _, T.cl_Number, T.me_Number_parts, ok_Expr_parts T (.inl rfl), T.b_Expr_parts⟩
    · exact ⟨_, _, _, T.cl_Box, T.me_Box_parts, ok_Expr_parts T (.inr rfl), T.b_Expr_parts⟩
    · exact ⟨_, _, _, T.cl_Cell, T.me_Cell_parts, ok_Cell_parts T D, T.b_Cell_parts⟩
    · exact ⟨_, _, _, T.cl_Two, T.me_Two_parts, ok_Two_parts T D, T.b_Two_parts⟩

end
end K34
namespace K34
open PySem L2 TL
section
variable {P : Program} {w : World} {K : PySem.W.Frag} {mg : Str → Option Value} {base : Heap} {A : Ads}
theorem ok_expr_at (T : Txt K mg A) : ∀ n : Nat, FnOk P w K mg base (L2N.CX P w) (n + 2) A.expr_at A.expr_at_d ["row", "at", "deep"] (spExprAt K A.ec A.NoProgram n)
| 0 => fn_none fun vs H Q E h => by
    obtain ⟨_, _, _, d, _, _, _, _, hd, _⟩ := h; omega
| n + 1 => by
  have G_expr_at := ok_expr_at T n
  have G_is_value_word := ok_is_value_word (P := P) (w := w) (base := base) T
  have G_Number_init := ok_Number_init (P := P) (w := w) (base := base) T
  have G_is_name := ok_is_name (P := P) (w := w) (base := base) T
  have G_Box_init := ok_Box_init (P := P) (w := w) (base := base) T
  have G_Cell_init := ok_Cell_init (P := P) (w := w) (base := base) T
  have G_Two_init := ok_Two_init (P := P) (w := w) (base := base) T
  refine okN T.F_expr_at sc_expr_at (fun vs H Q E h => ?_) (fun cdv A0 outer s H vs Q E hr h => ?_)
  · obtain ⟨a, ws, i, d, rfl, hS, hlen, hws, hdn, hd7, q1, q2⟩ := h
    rfl
  obtain ⟨a, ws, i, d, rfl, hS, hlen, hws, hdn, hd7, q1, q2⟩ := h
  refine ⟨_, (pss_cons (ps_if (PW.pt (pw_or (pt_cmpR op_gt (pv 2) (pe_glob (v := .int 6) (by rfl) T.c_MOST_DEEP.choose_spec ⟨_, rfl⟩) (nomark _)) (pw_or1 (pt_cmpR op_ge (pv 1) (pe_callB call_lenK (by rfl) T.z_len (by decide +kernel) (pa_cons (pv 0) pa_nil)) (nomark _)))))
    (pss_one (L2N.ps_raise rfl (L2N.takes_of rfl rfl rfl rfl) (L2N.pmk_own PySem.F.excBase_ValueError T.x_NoProgram T.m_NoProgram T.kk_NoProgram (raises_own T.bb_NoProgram T.tt_NoProgram) (by exact rfl))))
    pss_nil)
   (pss_cons (ps_set (i := 3) sc_expr_at.nd rfl (Or.inl rfl) (pe_ix ix_list (pv 0) (pv 1) (fun _ _ => rfl)))
   (pss_cons (ps_if (pt_val (pe_call G_is_value_word (hr.mono (by omega)) rfl T.m_is_value_word T.F_is_value_word.kp T.b_is_value_word .nil pass0 (pa_cons (pv 3) pa_nil)))
    (pss_one (ps_ret (pe_tup (pa_cons (pe_make T.k_Number G_Number_init (hr.mono (by omega)) rfl T.m_Number T.b_Number_init .nil pass0 (pa_cons (pe_callTy call_int_str (by rfl) T.z_int (by decide +kernel) (pa_cons (pv 3) pa_nil)) pa_nil)) (pa_cons (pe_op op_add (pv 1) pe_int) pa_nil)))))
    pss_nil)
   (pss_cons (ps_if (pt_val (pe_call G_is_name (hr.mono (by omega)) rfl T.m_is_name T.F_is_name.kp T.b_is_name .nil pass0 (pa_cons (pv 3) pa_nil)))
    (pss_one (ps_ret (pe_tup (pa_cons (pe_make T.k_Box G_Box_init (hr.mono (by omega)) rfl T.m_Box T.b_Box_init .nil pass0 (pa_cons (pv 3) pa_nil)) (pa_cons (pe_op op_add (pv 1) pe_int) pa_nil)))))
    pss_nil)
   (pss_cons (ps_if (pt_cmpR op_eq (pv 3) pe_str (nomark _))
    (pss_cons (ps_asg (pe_call G_expr_at (hr.mono (by omega)) rfl T.m_expr_at T.F_expr_at.kp T.b_expr_at .nil (L2N.passes_call (L2N.takes_of rfl rfl rfl rfl) (fun _ _ _ _ h => h)) (pa_cons (pv 0) (pa_cons (pe_op op_add (pv 1) pe_int) (pa_cons (pe_op op_add (pv 2) pe_int) pa_nil)))) (pg_tup (by rfl) (pgs_cons (pg_name (i := 4) sc_expr_at.nd rfl (Or.inl rfl)) (pgs_cons (pg_name (i := 5) sc_expr_at.nd rfl (Or.inl rfl)) pgs_nil))))
   (pss_one (ps_ret (pe_tup (pa_cons (pe_make T.k_Cell G_Cell_init (hr.mono (by omega)) rfl T.m_Cell T.b_Cell_init .nil pass0 (pa_cons (pv 4) pa_nil)) (pa_cons (pv 5) pa_nil))))))
    pss_nil)
   (pss_cons (ps_if (pt_cmpR op_notIn_seq (pv 3) (pe_glob (v := .ref A.PAIRS) (by rfl) T.m_PAIRS rfl) (by rfl))
    (pss_one (L2N.ps_raise rfl (L2N.takes_of rfl rfl rfl rfl) (L2N.pmk_own PySem.F.excBase_ValueError T.x_NoProgram T.m_NoProgram T.kk_NoProgram (raises_own T.bb_NoProgram T.tt_NoProgram) (by exact rfl))))
    pss_nil)
   (pss_cons (ps_asg (pe_call G_expr_at (hr.mono (by omega)) rfl T.m_expr_at T.F_expr_at.kp T.b_expr_at .nil (L2N.passes_call (L2N.takes_of rfl rfl rfl rfl) (fun _ _ _ _ h => h)) (pa_cons (pv 0) (pa_cons (pe_op op_add (pv 1) pe_int) (pa_cons (pe_op op_add (pv 2) pe_int) pa_nil)))) (pg_tup (by rfl) (pgs_cons (pg_name (i := 6) sc_expr_at.nd rfl (Or.inl rfl)) (pgs_cons (pg_name (i := 7) sc_expr_at.nd rfl (Or.inl rfl)) pgs_nil))))
   (pss_cons (ps_asg (pe_call G_expr_at (hr.mono (by omega)) rfl T.m_expr_at T.F_expr_at.kp T.b_expr_at .nil (L2N.passes_call (L2N.takes_of rfl rfl rfl rfl) (fun _ _ _ _ h => h)) (pa_cons (pv 0) (pa_cons (pv 7) (pa_cons (pe_op op_add (pv 2) pe_int) pa_nil)))) (pg_tup (by rfl) (pgs_cons (pg_name (i := 8) sc_expr_at.nd rfl (Or.inl rfl)) (pgs_cons (pg_name (i := 5) sc_expr_at.nd rfl (Or.inl rfl)) pgs_nil))))
   (pss_one (ps_ret (pe_tup (pa_cons (pe_make T.k_Two G_Two_init (hr.mono (by omega)) rfl T.m_Two T.b_Two_init .nil pass0 (pa_cons (pv 3) (pa_cons (pv 6) (pa_cons (pv 8) pa_nil)))) (pa_cons (pv 5) pa_nil))))))))))))), ?_⟩
  refine ⟨_, rfl, _, _, rfl, rfl, _, rfl, ?_⟩
  refine iteD2 (fun c1 => ?_) (fun c1 => ?_)
  · have d0 : d = 0 := by omega
    subst d0
    exact q2 rfl H (Same.refl H)
  obtain ⟨d', rfl⟩ : ∃ d', d = d' + 1 := ⟨d - 1, by omega⟩
  refine ⟨_, rfl, _, rfl, a, _, rfl, .inl hS, _, _, rfl, rfl, _, rfl, ?_⟩
  rw [List.length_map]
  refine iteD2 (fun c2 => ?_) (fun c2 => ?_)
  · refine q2 ?_ H (Same.refl H)
    rw [List.drop_eq_nil_of_le (by omega)]
    rfl
  obtain ⟨w1, r1, hw⟩ : ∃ w1 r1, ws.drop i = w1 :: r1 := ⟨_, _, List.drop_eq_getElem_cons (by omega)⟩
  obtain ⟨hi, hat, hdr, hrl, hmem⟩ := at_str hw
  rw [hw, parseE_cons] at q1 q2
  have hl1 := hws _ hmem
  refine ⟨_, rfl, _, rfl, a, _, _, _, rfl, rfl, hS, hat, ?_⟩
  refine ⟨_, rfl, w1, rfl, hl1, fun H1 s1 => ⟨_, rfl, iteB2 (fun c3 => ?_) (fun c3 => ?_)⟩⟩
  · rw [if_pos c3] at q1
    have hv := valW_int c3
    refine ⟨_, rfl, w1, valOf w1, rfl, hv.1, hv.2.1, fun x dx hx hdx _ => mk_init hx hdx fun H2 s2 h2 => ?_⟩
    refine ⟨_, rfl, _, _, rfl, rfl, by show 2 ≤ sizeLine; decide, fun t ht => ?_⟩
    refine q1 _ _ rfl t _ (.ref x) (s1.trans (s2.trans (same_new ht))) ?_ ⟨x, dx, rfl, (same_new ht) _ _ h2⟩
    rw [upd_same, hrl]
    have : ((ws.length - (ws.length - (i + 1)) : Nat) : Int) = (i : Int) + 1 := by omega
    rw [this]
  rw [if_neg (by rw [c3]; decide)] at q1 q2
  refine ⟨_, rfl, w1, rfl, hl1, fun H2 s2 => ⟨_, rfl, iteB2 (fun c4 => ?_) (fun c4 => ?_)⟩⟩
  · rw [if_pos c4] at q1
    refine ⟨_, rfl, fun x dx hx hdx _ => mk_init hx hdx fun H3 s3 h3 => ?_⟩
    refine ⟨_, rfl, _, _, rfl, rfl, by show 2 ≤ sizeLine; decide, fun t ht => ?_⟩
    refine q1 _ _ rfl t _ (.ref x) (s1.trans (s2.trans (s3.trans (same_new ht)))) ?_ ⟨x, dx, rfl, (same_new ht) _ _ h3⟩
    rw [upd_same, hrl]
    have : ((ws.length - (ws.length - (i + 1)) : Nat) : Int) = (i : Int) + 1 := by omega
    rw [this]
  rw [if_neg (by rw [c4]; decide)] at q1 q2
  have s12 := s1.trans s2
  have e1 : (i : Int) + 1 = ((i + 1 : Nat) : Int) := by omega
  have e2 : (7 : Int) - ((d' + 1 : Nat) : Int) + 1 = 7 - (d' : Int) := by omega
  refine ⟨_, rfl, rfl, _, rfl, ?_⟩
  refine iteD2 (fun c5 => ?_) (fun c5 => ?_)
  · rw [if_pos (V.str.inj c5)] at q1 q2
    refine ⟨_, rfl, _, rfl, _, _, rfl, rfl, _, rfl, _, _, rfl, rfl, a, ws, i + 1, d', (by show [V.ref a, V.int ((i : Int) + 1), V.int ((7 : Int) - ((d' + 1 : Nat) : Int) + 1)] = _; rw [e1, e2]), s12.seq hS, hlen, hws, by omega, by omega, fun e3 r3 p3 t H3 v s3 ht ho => ?_, fun p3 H3 s3 => ?_⟩
    · rw [hdr] at p3
      rw [p3] at q1
      refine ⟨t, _, rfl, SqT.of ht, rfl, _, _, rfl, _, _, rfl, rfl, ?_⟩
      refine ⟨_, rfl, fun x dx hx hdx _ => mk_init hx hdx fun H4 s4 h4 => ?_⟩
      refine ⟨_, rfl, by show 2 ≤ sizeLine; decide, fun t2 ht2 => ?_⟩
      exact q1 _ _ rfl t2 _ (.ref x) (s12.trans (s3.trans (s4.trans (same_new ht2)))) upd_same ⟨x, dx, v, rfl, (same_new ht2) _ _ h4, ho.same (s4.trans (same_new ht2))⟩
    · rw [hdr] at p3
      rw [p3] at q2
      exact q2 rfl H3 (s12.trans s3)
  rw [if_neg (fun e => c5 (congrArg V.str e))] at q1 q2
  refine ⟨_, rfl, A.PAIRS, PAIRW.map V.str, rfl, .inr (T.q_PAIRS _), rfl, rfl, _, rfl, ?_⟩
  rw [if_pos rfl, inV_str]
  refine iteN2 (fun c6 => ?_) (fun c6 => ?_)
  · rw [if_neg c6] at q2
    exact q2 rfl H2 s12
  rw [if_pos c6] at q1 q2
  refine ⟨_, rfl, _, rfl, _, _, rfl, rfl, _, rfl, _, _, rfl, rfl, a, ws, i + 1, d', (by show [V.ref a, V.int ((i : Int) + 1), V.int ((7 : Int) - ((d' + 1 : Nat) : Int) + 1)] = _; rw [e1, e2]), s12.seq hS, hlen, hws, by omega, by omega, fun e3 r3 p3 t H3 v s3 ht ho => ?_, fun p3 H3 s3 => ?_⟩
  · rw [hdr] at p3
    rw [p3] at q1 q2
    have pa := parse_at (i := i + 1) (d := d') (ws := ws) (by rw [hdr]; exact p3)
    refine ⟨t, _, rfl, SqT.of ht, rfl, _, _, rfl, _, _, rfl, rfl, ?_⟩
    refine ⟨_, rfl, _, rfl, _, rfl, _, _, rfl, rfl, a, ws, ws.length - r3.length, d', (by show [V.ref a, V.int _, V.int ((7 : Int) - ((d' + 1 : Nat) : Int) + 1)] = _; rw [e2]), s3.seq (s12.seq hS), hlen, hws, by omega, by omega, fun e4 r4 p4 t2 H4 v2 s4 ht2 ho2 => ?_, fun p4 H4 s4 => ?_⟩
    · rw [pa.2.2] at p4
      simp only at q1
      rw [p4] at q1
      refine ⟨t2, _, rfl, SqT.of ht2, rfl, _, _, rfl, _, _, rfl, rfl, ?_⟩
      refine ⟨_, rfl, _, rfl, _, rfl, fun x dx hx hdx _ => mk_two hx hdx fun H5 s5 h5 => ?_⟩
      refine ⟨_, rfl, by show 2 ≤ sizeLine; decide, fun t3 ht3 => ?_⟩
      exact q1 _ _ rfl t3 _ (.ref x) (s12.trans (s3.trans (s4.trans (s5.trans (same_new ht3))))) upd_same ⟨x, dx, v, v2, rfl, (same_new ht3) _ _ h5, ho.same (s4.trans (s5.trans (same_new ht3))), ho2.same (s5.trans (same_new ht3))⟩
    · rw [pa.2.2] at p4
      simp only at q2
      rw [p4] at q2
      exact q2 rfl H4 (s12.trans (s3.trans s4))
  · rw [hdr] at p3
    rw [p3] at q2
    exact q2 rfl H3 (s12.trans s3)

end
end K34
namespace K34
open PySem L2 TL
section
variable {P : Program} {w : World} {K : PySem.W.Frag} {mg : Str → Option Value} {base : Heap} {A : Ads}
theorem ok_exprs_of (T : Txt K mg A) : FnOk P w K mg base (L2N.CX P w) 11 A.exprs_of A.exprs_of_d ["row"] (spExprs K A.ec A.NoProgram) := by
  have G_expr_at := ok_expr_at (P := P) (w := w) (base := base) T 8
  have D_parts := disp_parts (P := P) (w := w) (base := base) T 7
  refine okN T.F_exprs_of sc_exprs_of (fun vs H Q E h => ?_) (fun cdv A0 outer s H vs Q E hr h => ?_)
  · obtain ⟨a, ws, rfl, hS, hlen, hws, q1, q2⟩ := h
    rfl
  obtain ⟨a, ws, rfl, hS, hlen, hws, q1, q2⟩ := h
  refine ⟨_, (pss_cons (ps_set (i := 1) sc_exprs_of.nd rfl (Or.inl rfl) (pe_lst pa_nil))
   (pss_cons (ps_set (i := 2) sc_exprs_of.nd rfl (Or.inl rfl) pe_int)
   (pss_cons (ps_while (passes_of rfl) (pt_cmpR op_lt (pv 2) (pe_callB call_lenK (by rfl) T.z_len (by decide +kernel) (pa_cons (pv 0) pa_nil)) (nomark _))
    (pss_cons (ps_asg (pe_call G_expr_at (hr.mono (by decide)) rfl T.m_expr_at T.F_expr_at.kp T.b_expr_at .nil (L2N.passes_call (L2N.takes_of rfl rfl rfl rfl) (fun _ _ _ _ h => h)) (pa_cons (pv 0) (pa_cons (pv 2) (pa_cons pe_int pa_nil)))) (pg_tup (by rfl) (pgs_cons (pg_name (i := 3) sc_exprs_of.nd rfl (Or.inl rfl)) (pgs_cons (pg_name (i := 2) sc_exprs_of.nd rfl (Or.inl rfl)) pgs_nil))))
   (pss_cons (ps_if (pt_cmpR op_gt (pe_methP0 (pv 3) D_parts (hr.mono (by decide)) pass0) (pe_glob (v := .int 15) (by rfl) T.c_MOST_PARTS.choose_spec ⟨_, rfl⟩) (nomark _))
    (pss_one (L2N.ps_raise rfl (L2N.takes_of rfl rfl rfl rfl) (L2N.pmk_own PySem.F.excBase_ValueError T.x_NoProgram T.m_NoProgram T.kk_NoProgram (raises_own T.bb_NoProgram T.tt_NoProgram) (by exact rfl))))
    pss_nil)
   (pss_one (ps_expr (pe_bm PySem.F.plainAttrs_list PySem.F.slot_list_append PySem.F.type_list_append mt_append (pv 1) (pa_cons (pv 3) pa_nil)))))))
   (pss_one (ps_ret (pv 1)))))), ?_⟩
  refine ⟨by show 0 ≤ sizeLine; decide, fun l hl => ?_⟩
  refine while_m (fun m σ H' => ∃ (i : Nat) (es : List Ex) (os : List V) (z : Option V), σ = [some (.ref a), some (.ref l), some (.int i), z] ∧ m = ws.length - i ∧ i ≤ ws.length ∧ Same H H' ∧ H' l = some (.lst os) ∧ os.length ≤ i ∧ AllE A.ec H' es os ∧ after es (parseAll (ws.drop i).length (ws.drop i)) = parseAll ws.length ws) ws.length
    ⟨0, [], [], none, rfl, rfl, Nat.zero_le _, same_new hl, upd_same, Nat.le_refl _, .nil, by rw [List.drop_zero]; cases parseAll ws.length ws <;> rfl⟩ ?_
  rintro m σ H1 ⟨i, es, os, z, rfl, rfl, hi, s1, h1, hos, ha, hp⟩
  refine ⟨_, rfl, _, rfl, a, _, rfl, .inl (s1.seq hS), _, _, rfl, rfl, _, rfl, ?_⟩
  rw [List.length_map]
  refine iteD2 (fun c1 => ?_) (fun c1 => ?_)
  · refine ⟨fun σ' H' => ∃ (i' : Nat) (es : List Ex) (os : List V) (z : Option V), i < i' ∧ σ' = [some (.ref a), some (.ref l), some (.int i'), z] ∧ i' ≤ ws.length ∧ Same H H' ∧ H' l = some (.lst os) ∧ os.length ≤ i' ∧ AllE A.ec H' es os ∧ after es (parseAll (ws.drop i').length (ws.drop i')) = parseAll ws.length ws,
      fun σ' H' ⟨i', es, os, z, hi', hσ, k⟩ => ⟨ws.length - i', by omega, i', es, os, z, hσ, rfl, k⟩, ?_⟩
    obtain ⟨w1, r1, hw⟩ : ∃ w1 r1, ws.drop i = w1 :: r1 := ⟨_, _, List.drop_eq_getElem_cons (by omega)⟩
    rw [hw, parseAll_step, ← hw] at hp
    refine ⟨_, rfl, _, rfl, a, ws, i, 6, rfl, s1.seq hS, hlen, hws, by decide, by decide, fun e r p t H2 v s2 ht ho => ?_, fun p H2 s2 => ?_⟩
    · rw [p] at hp
      have pa := parse_at p
      simp only at hp
      refine ⟨t, _, rfl, SqT.of ht, rfl, _, _, rfl, _, _, rfl, rfl, ?_⟩
      obtain ⟨p2, d2, f2, e2, g1, g2⟩ := ho.at (m := "parts") (by decide +kernel)
      refine ⟨_, rfl, p2, _, d2, f2, e2, g1, g2, A.ec.fam e, e, v, by rw [e2]; rfl, ho, rfl, by have := (parse_wf p).2.1; omega, ?_⟩
      refine ⟨_, _, rfl, rfl, _, rfl, ?_⟩
      refine iteD2 (fun c2 => ?_) (fun c2 => ?_)
      · rw [if_neg (by omega)] at hp
        exact q2 hp.symm H2 (s1.trans s2)
      · rw [if_pos (by omega)] at hp
        have h2 := s2 _ _ h1
        refine ⟨_, rfl, .inl ⟨rfl, _, SqL.of h2⟩, _, rfl, l, _, _, rfl, rfl, h2, Nat.lt_of_le_of_lt (Nat.le_trans hos (Nat.le_trans hi hlen)) (by decide), ?_⟩
        have kx : ∀ b o, H b = some o → upd H2 l (.lst (os ++ [v])) b = some o := fun b o hb => by rw [upd_ne (ne_of_none hb hl)]; exact (s1.trans s2) b o hb
        have hol : ∀ {e : Ex} {v : V} {X : Hp}, Same X H2 → ObjE A.ec X e v → ObjE A.ec (upd H2 l (.lst (os ++ [v]))) e v := fun sx hx => objE_upd h2 (hx.same sx)
        refine ⟨ws.length - r.length, es ++ [e], os ++ [v], _, pa.1, rfl, pa.2.1, kx, upd_same, by rw [List.length_append, List.length_singleton]; omega, allE_snoc_upd h2 (ha.same s2) ho, ?_⟩
        rw [pa.2.2, ← hp]
        cases q : parseAll r.length r with
        | none => rfl
        | some fs => show some ((es ++ [e]) ++ fs) = some (es ++ (e :: fs)); rw [List.append_assoc]; rfl
    · rw [p] at hp
      exact q2 hp.symm H2 (s1.trans s2)
  · have ei : i = ws.length := by omega
    subst ei
    rw [List.drop_length] at hp
    have hp' : some es = parseAll ws.length ws := by
      rw [← hp]; show _ = some (es ++ []); rw [List.append_nil]
    exact ⟨_, rfl, q1 es hp'.symm l H1 os s1 hl h1 ha⟩

end
end K34
namespace K34
open PySem L2 TL
section
variable {P : Program} {w : World} {K : PySem.W.Frag} {mg : Str → Option Value} {base : Heap} {A : Ads}
theorem ok_Row_init (T : Txt K mg A) : FnOk P w K mg base CX0 1 A.Row_init A.Row_init_d ["self", "number"] (spRowInit K) := by
  refine T.F_Row_init.ok sc_Row_init (fun vs H Q E h => ?_) (fun cdv A0 outer s H vs Q E hr h => ?_)
  · obtain ⟨p, C, dx, n, rfl, hp, hC, hN, q⟩ := h
    rfl
  obtain ⟨p, C, dx, n, rfl, hp, hC, hN, q⟩ := h
  refine ⟨_, (pss_one (ps_fld (pv 0) (pv 1) rfl)), ?_⟩
  exact ⟨_, rfl, _, rfl, p, C, dx, [], rfl, hp, hC, hN, (by show 0 < 1000; decide), q⟩

theorem ok_Set_init (T : Txt K mg A) : FnOk P w K mg base CX0 3 A.Set_init A.Set_init_d ["self", "number", "box", "expr"] (spRI A.Set ["number", "box", "expr"]) := by
  have G_Row_init := ok_Row_init (P := P) (w := w) (base := base) T
  refine T.F_Set_init.ok sc_Set_init (fun vs H Q E h => ?_) (fun cdv A0 outer s H vs Q E hr h => ?_)
  · obtain ⟨p, dx, xs, rfl, hl, hp, q⟩ := h
    exact congrArg (· + 1) hl
  obtain ⟨p, dx, xs, rfl, hl, hp, q⟩ := h
  refine ⟨_, (pss_cons (ps_expr (pe_cfn (pe_glob (v := .ref A.Row) (by rfl) T.m_Row rfl) T.cf_Row_init G_Row_init (hr.mono (by decide)) T.b_Row_init .nil pass0 (pa_cons (pv 0) (pa_cons (pv 1) pa_nil))))
   (pss_cons (ps_fld (pv 0) (pv 2) rfl)
   (pss_one (ps_fld (pv 0) (pv 3) rfl)))), ?_⟩
  obtain ⟨x0, x1, x2, rfl⟩ : ∃ x0 x1 x2, xs = [x0, x1, x2] := by
    match xs, hl with
    | [x0, x1, x2], _ => exact ⟨x0, x1, x2, rfl⟩
  refine ⟨rfl, _, rfl, _, rfl, p, A.Set, dx, x0, rfl, hp, T.cl_Set, T.n_Set_number, ?_⟩
  refine ⟨_, rfl, _, rfl, p, A.Set, dx, _, rfl, upd_same, T.cl_Set, T.n_Set_box, (by show 1 < 1000; decide), ?_⟩
  refine ⟨_, rfl, _, rfl, p, A.Set, dx, _, rfl, upd_same, T.cl_Set, T.n_Set_expr, (by show 2 < 1000; decide), ?_⟩
  rw [upd_upd, upd_upd]
  exact q

theorem ok_Put_init (T : Txt K mg A) : FnOk P w K mg base CX0 3 A.Put_init A.Put_init_d ["self", "number", "first", "second"] (spRI A.Put ["number", "first", "second"]) := by
  have G_Row_init := ok_Row_init (P := P) (w := w) (base := base) T
  refine T.F_Put_init.ok sc_Put_init (fun vs H Q E h => ?_) (fun cdv A0 outer s H vs Q E hr h => ?_)
  · obtain ⟨p, dx, xs, rfl, hl, hp, q⟩ := h
    exact congrArg (· + 1) hl
  obtain ⟨p, dx, xs, rfl, hl, hp, q⟩ := h
  refine ⟨_, (pss_cons (ps_expr (pe_cfn (pe_glob (v := .ref A.Row) (by rfl) T.m_Row rfl) T.cf_Row_init G_Row_init (hr.mono (by decide)) T.b_Row_init .nil pass0 (pa_cons (pv 0) (pa_cons (pv 1) pa_nil))))
   (pss_cons (ps_fld (pv 0) (pv 2) rfl)
   (pss_one (ps_fld (pv 0) (pv 3) rfl)))), ?_⟩
  obtain ⟨x0, x1, x2, rfl⟩ : ∃ x0 x1 x2, xs = [x0, x1, x2] := by
    match xs, hl with
    | [x0, x1, x2], _ => exact ⟨x0, x1, x2, rfl⟩
  refine ⟨rfl, _, rfl, _, rfl, p, A.Put, dx, x0, rfl, hp, T.cl_Put, T.n_Put_number, ?_⟩
  refine ⟨_, rfl, _, rfl, p, A.Put, dx, _, rfl, upd_same, T.cl_Put, T.n_Put_first, (by show 1 < 1000; decide), ?_⟩
  refine ⟨_, rfl, _, rfl, p, A.Put, dx, _, rfl, upd_same, T.cl_Put, T.n_Put_second, (by show 2 < 1000; decide), ?_⟩
  rw [upd_upd, upd_upd]
  exact q

theorem ok_Ask_init (T : Txt K mg A) : FnOk P w K mg base CX0 3 A.Ask_init A.Ask_init_d ["self", "number", "box", "word", "expr"] (spRI A.Ask ["number", "box", "word", "expr"]) := by
  have G_Row_init := ok_Row_init (P := P) (w := w) (base := base) T
  refine T.F_Ask_init.ok sc_Ask_init (fun vs H Q E h => ?_) (fun cdv A0 outer s H vs Q E hr h => ?_)
  · obtain ⟨p, dx, xs, rfl, hl, hp, q⟩ := h
    exact congrArg (· + 1) hl
  obtain ⟨p, dx, xs, rfl, hl, hp, q⟩ := h
  refine ⟨_, (pss_cons (ps_expr (pe_cfn (pe_glob (v := .ref A.Row) (by rfl) T.m_Row rfl) T.cf_Row_init G_Row_init (hr.mono (by decide)) T.b_Row_init .nil pass0 (pa_cons (pv 0) (pa_cons (pv 1) pa_nil))))
   (pss_cons (ps_fld (pv 0) (pv 2) rfl)
   (pss_cons (ps_fld (pv 0) (pv 3) rfl)
   (pss_one (ps_fld (pv 0) (pv 4) rfl))))), ?_⟩
  obtain ⟨x0, x1, x2, x3, rfl⟩ : ∃ x0 x1 x2 x3, xs = [x0, x1, x2, x3] := by
    match xs, hl with
    | [x0, x1, x2, x3], _ => exact ⟨x0, x1, x2, x3, rfl⟩
  refine ⟨rfl, _, rfl, _, rfl, p, A.Ask, dx, x0, rfl, hp, T.cl_Ask, T.n_Ask_number, ?_⟩
  refine ⟨_, rfl, _, rfl, p, A.Ask, dx, _, rfl, upd_same, T.cl_Ask, T.n_Ask_box, (by show 1 < 1000; decide), ?_⟩
  refine ⟨_, rfl, _, rfl, p, A.Ask, dx, _, rfl, upd_same, T.cl_Ask, T.n_Ask_word, (by show 2 < 1000; decide), ?_⟩
  refine ⟨_, rfl, _, rfl, p, A.Ask, dx, _, rfl, upd_same, T.cl_Ask, T.n_Ask_expr, (by show 3 < 1000; decide), ?_⟩
  rw [upd_upd, upd_upd, upd_upd]
  exact q

theorem ok_Draw_init (T : Txt K mg A) : FnOk P w K mg base CX0 3 A.Draw_init A.Draw_init_d ["self", "number", "box", "word"] (spRI A.Draw ["number", "box", "word"]) := by
  have G_Row_init := ok_Row_init (P := P) (w := w) (base := base) T
  refine T.F_Draw_init.ok sc_Draw_init (fun vs H Q E h => ?_) (fun cdv A0 outer s H vs Q E hr h => ?_)
  · obtain ⟨p, dx, xs, rfl, hl, hp, q⟩ := h
    exact congrArg (· + 1) hl
  obtain ⟨p, dx, xs, rfl, hl, hp, q⟩ := h
  refine ⟨_, (pss_cons (ps_expr (pe_cfn (pe_glob (v := .ref A.Row) (by rfl) T.m_Row rfl) T.cf_Row_init G_Row_init (hr.mono (by decide)) T.b_Row_init .nil pass0 (pa_cons (pv 0) (pa_cons (pv 1) pa_nil))))
   (pss_cons (ps_fld (pv 0) (pv 2) rfl)
   (pss_one (ps_fld (pv 0) (pv 3) rfl)))), ?_⟩
  obtain ⟨x0, x1, x2, rfl⟩ : ∃ x0 x1 x2, xs = [x0, x1, x2] := by
    match xs, hl with
    | [x0, x1, x2], _ => exact ⟨x0, x1, x2, rfl⟩
  refine ⟨rfl, _, rfl, _, rfl, p, A.Draw, dx, x0, rfl, hp, T.cl_Draw, T.n_Draw_number, ?_⟩
  refine ⟨_, rfl, _, rfl, p, A.Draw, dx, _, rfl, upd_same, T.cl_Draw, T.n_Draw_box, (by show 1 < 1000; decide), ?_⟩
  refine ⟨_, rfl, _, rfl, p, A.Draw, dx, _, rfl, upd_same, T.cl_Draw, T.n_Draw_word, (by show 2 < 1000; decide), ?_⟩
  rw [upd_upd, upd_upd]
  exact q

theorem ok_Tell_init (T : Txt K mg A) : FnOk P w K mg base CX0 3 A.Tell_init A.Tell_init_d ["self", "number", "expr"] (spRI A.Tell ["number", "expr"]) := by
  have G_Row_init := ok_Row_init (P := P) (w := w) (base := base) T
  refine T.F_Tell_init.ok sc_Tell_init (fun vs H Q E h => ?_) (fun cdv A0 outer s H vs Q E hr h => ?_)
  · obtain ⟨p, dx, xs, rfl, hl, hp, q⟩ := h
    exact congrArg (· + 1) hl
  obtain ⟨p, dx, xs, rfl, hl, hp, q⟩ := h
  refine ⟨_, (pss_cons (ps_expr (pe_cfn (pe_glob (v := .ref A.Row) (by rfl) T.m_Row rfl) T.cf_Row_init G_Row_init (hr.mono (by decide)) T.b_Row_init .nil pass0 (pa_cons (pv 0) (pa_cons (pv 1) pa_nil))))
   (pss_one (ps_fld (pv 0) (pv 2) rfl))), ?_⟩
  obtain ⟨x0, x1, rfl⟩ : ∃ x0 x1, xs = [x0, x1] := by
    match xs, hl with
    | [x0, x1], _ => exact ⟨x0, x1, rfl⟩
  refine ⟨rfl, _, rfl, _, rfl, p, A.Tell, dx, x0, rfl, hp, T.cl_Tell, T.n_Tell_number, ?_⟩
  refine ⟨_, rfl, _, rfl, p, A.Tell, dx, _, rfl, upd_same, T.cl_Tell, T.n_Tell_expr, (by show 1 < 1000; decide), ?_⟩
  rw [upd_upd]
  exact q

theorem ok_Choice_init (T : Txt K mg A) : FnOk P w K mg base CX0 3 A.Choice_init A.Choice_init_d ["self", "number", "test", "first", "second"] (spRI A.Choice ["number", "test", "first", "second"]) := by
  have G_Row_init := ok_Row_init (P := P) (w := w) (base := base) T
  refine T.F_Choice_init.ok sc_Choice_init (fun vs H Q E h => ?_) (fun cdv A0 outer s H vs Q E hr h => ?_)
  · obtain ⟨p, dx, xs, rfl, hl, hp, q⟩ := h
    exact congrArg (· + 1) hl
  obtain ⟨p, dx, xs, rfl, hl, hp, q⟩ := h
  refine ⟨_, (pss_cons (ps_expr (pe_cfn (pe_glob (v := .ref A.Row) (by rfl) T.m_Row rfl) T.cf_Row_init G_Row_init (hr.mono (by decide)) T.b_Row_init .nil pass0 (pa_cons (pv 0) (pa_cons (pv 1) pa_nil))))
   (pss_cons (ps_fld (pv 0) (pv 2) rfl)
   (pss_cons (ps_fld (pv 0) (pv 3) rfl)
   (pss_one (ps_fld (pv 0) (pv 4) rfl))))), ?_⟩
  obtain ⟨x0, x1, x2, x3, rfl⟩ : ∃ x0 x1 x2 x3, xs = [x0, x1, x2, x3] := by
    match xs, hl with
    | [x0, x1, x2, x3], _ => exact ⟨x0, x1, x2, x3, rfl⟩
  refine ⟨rfl, _, rfl, _, rfl, p, A.Choice, dx, x0, rfl, hp, T.cl_Choice, T.n_Choice_number, ?_⟩
  refine ⟨_, rfl, _, rfl, p, A.Choice, dx, _, rfl, upd_same, T.cl_Choice, T.n_Choice_test, (by show 1 < 1000; decide), ?_⟩
  refine ⟨_, rfl, _, rfl, p, A.Choice, dx, _, rfl, upd_same, T.cl_Choice, T.n_Choice_first, (by show 2 < 1000; decide), ?_⟩
  refine ⟨_, rfl, _, rfl, p, A.Choice, dx, _, rfl, upd_same, T.cl_Choice, T.n_Choice_second, (by show 3 < 1000; decide), ?_⟩
  rw [upd_upd, upd_upd, upd_upd]
  exact q

theorem ok_Loop_init (T : Txt K mg A) : FnOk P w K mg base CX0 3 A.Loop_init A.Loop_init_d ["self", "number", "test", "body"] (spRI A.Loop ["number", "test", "body"]) := by
  have G_Row_init := ok_Row_init (P := P) (w := w) (base := base) T
  refine T.F_Loop_init.ok sc_Loop_init (fun vs H Q E h => ?_) (fun cdv A0 outer s H vs Q E hr h => ?_)
  · obtain ⟨p, dx, xs, rfl, hl, hp, q⟩ := h
    exact congrArg (· + 1) hl
  obtain ⟨p, dx, xs, rfl, hl, hp, q⟩ := h
  refine ⟨_, (pss_cons (ps_expr (pe_cfn (pe_glob (v := .ref A.Row) (by rfl) T.m_Row rfl) T.cf_Row_init G_Row_init (hr.mono (by decide)) T.b_Row_init .nil pass0 (pa_cons (pv 0) (pa_cons (pv 1) pa_nil))))
   (pss_cons (ps_fld (pv 0) (pv 2) rfl)
   (pss_one (ps_fld (pv 0) (pv 3) rfl)))), ?_⟩
  obtain ⟨x0, x1, x2, rfl⟩ : ∃ x0 x1 x2, xs = [x0, x1, x2] := by
    match xs, hl with
    | [x0, x1, x2], _ => exact ⟨x0, x1, x2, rfl⟩
  refine ⟨rfl, _, rfl, _, rfl, p, A.Loop, dx, x0, rfl, hp, T.cl_Loop, T.n_Loop_number, ?_⟩
  refine ⟨_, rfl, _, rfl, p, A.Loop, dx, _, rfl, upd_same, T.cl_Loop, T.n_Loop_test, (by show 1 < 1000; decide), ?_⟩
  refine ⟨_, rfl, _, rfl, p, A.Loop, dx, _, rfl, upd_same, T.cl_Loop, T.n_Loop_body, (by show 2 < 1000; decide), ?_⟩
  rw [upd_upd, upd_upd]
  exact q

theorem ok_Call_init (T : Txt K mg A) : FnOk P w K mg base CX0 3 A.Call_init A.Call_init_d ["self", "number", "box", "fun", "given"] (spRI A.Call ["number", "box", "fun", "given"]) := by
  have G_Row_init := ok_Row_init (P := P) (w := w) (base := base) T
  refine T.F_Call_init.ok sc_Call_init (fun vs H Q E h => ?_) (fun cdv A0 outer s H vs Q E hr h => ?_)
  · obtain ⟨p, dx, xs, rfl, hl, hp, q⟩ := h
    exact congrArg (· + 1) hl
  obtain ⟨p, dx, xs, rfl, hl, hp, q⟩ := h
  refine ⟨_, (pss_cons (ps_expr (pe_cfn (pe_glob (v := .ref A.Row) (by rfl) T.m_Row rfl) T.cf_Row_init G_Row_init (hr.mono (by decide)) T.b_Row_init .nil pass0 (pa_cons (pv 0) (pa_cons (pv 1) pa_nil))))
   (pss_cons (ps_fld (pv 0) (pv 2) rfl)
   (pss_cons (ps_fld (pv 0) (pv 3) rfl)
   (pss_one (ps_fld (pv 0) (pv 4) rfl))))), ?_⟩
  obtain ⟨x0, x1, x2, x3, rfl⟩ : ∃ x0 x1 x2 x3, xs = [x0, x1, x2, x3] := by
    match xs, hl with
    | [x0, x1, x2, x3], _ => exact ⟨x0, x1, x2, x3, rfl⟩
  refine ⟨rfl, _, rfl, _, rfl, p, A.Call, dx, x0, rfl, hp, T.cl_Call, T.n_Call_number, ?_⟩
  refine ⟨_, rfl, _, rfl, p, A.Call, dx, _, rfl, upd_same, T.cl_Call, T.n_Call_box, (by show 1 < 1000; decide), ?_⟩
  refine ⟨_, rfl, _, rfl, p, A.Call, dx, _, rfl, upd_same, T.cl_Call, T.n_Call_fun, (by show 2 < 1000; decide), ?_⟩
  refine ⟨_, rfl, _, rfl, p, A.Call, dx, _, rfl, upd_same, T.cl_Call, T.n_Call_given, (by show 3 < 1000; decide), ?_⟩
  rw [upd_upd, upd_upd, upd_upd]
  exact q

theorem ok_Give_init (T : Txt K mg A) : FnOk P w K mg base CX0 3 A.Give_init A.Give_init_d ["self", "number", "expr"] (spRI A.Give ["number", "expr"]) := by
  have G_Row_init := ok_Row_init (P := P) (w := w) (base := base) T
  refine T.F_Give_init.ok sc_Give_init (fun vs H Q E h => ?_) (fun cdv A0 outer s H vs Q E hr h => ?_)
  · obtain ⟨p, dx, xs, rfl, hl, hp, q⟩ := h
    exact congrArg (· + 1) hl
  obtain ⟨p, dx, xs, rfl, hl, hp, q⟩ := h
  refine ⟨_, (pss_cons (ps_expr (pe_cfn (pe_glob (v := .ref A.Row) (by rfl) T.m_Row rfl) T.cf_Row_init G_Row_init (hr.mono (by decide)) T.b_Row_init .nil pass0 (pa_cons (pv 0) (pa_cons (pv 1) pa_nil))))
   (pss_one (ps_fld (pv 0) (pv 2) rfl))), ?_⟩
  obtain ⟨x0, x1, rfl⟩ : ∃ x0 x1, xs = [x0, x1] := by
    match xs, hl with
    | [x0, x1], _ => exact ⟨x0, x1, rfl⟩
  refine ⟨rfl, _, rfl, _, rfl, p, A.Give, dx, x0, rfl, hp, T.cl_Give, T.n_Give_number, ?_⟩
  refine ⟨_, rfl, _, rfl, p, A.Give, dx, _, rfl, upd_same, T.cl_Give, T.n_Give_expr, (by show 1 < 1000; decide), ?_⟩
  rw [upd_upd]
  exact q

end
end K34
namespace K34
open PySem L2 TL
section
variable {P : Program} {w : World} {K : PySem.W.Frag} {mg : Str → Option Value} {base : Heap} {A : Ads}
theorem ok_Row_shape (T : Txt K mg A) {C : Addr} (hC : ∀ rt : RT, A.rc.of rt = C → rt.shapeT = Str.ofString "simple") : FnOk P w K mg base CX0 1 A.Row_shape A.Row_shape_d ["self"] (spShape A.rc A.ec C) := by
  refine T.F_Row_shape.ok sc_Row_shape (fun vs H Q E h => ?_) (fun cdv A0 outer s H vs Q E hr h => ?_)
  · obtain ⟨n, rt, v, N, rfl, ho, hc, q⟩ := h
    rfl
  obtain ⟨n, rt, v, N, rfl, ho, hc, q⟩ := h
  refine ⟨_, (pss_one (ps_ret pe_str)), ?_⟩
  rw [hC rt hc] at q
  exact q

theorem ok_Choice_shape (T : Txt K mg A) {C : Addr} (hC : ∀ rt : RT, A.rc.of rt = C → rt.shapeT = Str.ofString "if") : FnOk P w K mg base CX0 1 A.Choice_shape A.Choice_shape_d ["self"] (spShape A.rc A.ec C) := by
  refine T.F_Choice_shape.ok sc_Choice_shape (fun vs H Q E h => ?_) (fun cdv A0 outer s H vs Q E hr h => ?_)
  · obtain ⟨n, rt, v, N, rfl, ho, hc, q⟩ := h
    rfl
  obtain ⟨n, rt, v, N, rfl, ho, hc, q⟩ := h
  refine ⟨_, (pss_one (ps_ret pe_str)), ?_⟩
  rw [hC rt hc] at q
  exact q

theorem ok_Loop_shape (T : Txt K mg A) {C : Addr} (hC : ∀ rt : RT, A.rc.of rt = C → rt.shapeT = Str.ofString "while") : FnOk P w K mg base CX0 1 A.Loop_shape A.Loop_shape_d ["self"] (spShape A.rc A.ec C) := by
  refine T.F_Loop_shape.ok sc_Loop_shape (fun vs H Q E h => ?_) (fun cdv A0 outer s H vs Q E hr h => ?_)
  · obtain ⟨n, rt, v, N, rfl, ho, hc, q⟩ := h
    rfl
  obtain ⟨n, rt, v, N, rfl, ho, hc, q⟩ := h
  refine ⟨_, (pss_one (ps_ret pe_str)), ?_⟩
  rw [hC rt hc] at q
  exact q

theorem ok_Call_shape (T : Txt K mg A) {C : Addr} (hC : ∀ rt : RT, A.rc.of rt = C → rt.shapeT = Str.ofString "call") : FnOk P w K mg base CX0 1 A.Call_shape A.Call_shape_d ["self"] (spShape A.rc A.ec C) := by
  refine T.F_Call_shape.ok sc_Call_shape (fun vs H Q E h => ?_) (fun cdv A0 outer s H vs Q E hr h => ?_)
  · obtain ⟨n, rt, v, N, rfl, ho, hc, q⟩ := h
    rfl
  obtain ⟨n, rt, v, N, rfl, ho, hc, q⟩ := h
  refine ⟨_, (pss_one (ps_ret pe_str)), ?_⟩
  rw [hC rt hc] at q
  exact q

theorem ok_Give_shape (T : Txt K mg A) {C : Addr} (hC : ∀ rt : RT, A.rc.of rt = C → rt.shapeT = Str.ofString "give") : FnOk P w K mg base CX0 1 A.Give_shape A.Give_shape_d ["self"] (spShape A.rc A.ec C) := by
  refine T.F_Give_shape.ok sc_Give_shape (fun vs H Q E h => ?_) (fun cdv A0 outer s H vs Q E hr h => ?_)
  · obtain ⟨n, rt, v, N, rfl, ho, hc, q⟩ := h
    rfl
  obtain ⟨n, rt, v, N, rfl, ho, hc, q⟩ := h
  refine ⟨_, (pss_one (ps_ret pe_str)), ?_⟩
  rw [hC rt hc] at q
  exact q

theorem disp_shape (T : Txt K mg A) (C : Addr) (h : A.rc.Fam C) : Disp P w K mg base CX0 "shape" 2 C (spShape A.rc A.ec C) := by
  obtain ⟨rt, rfl⟩ := h
  cases rt with
  | skip => exact ⟨_, _, _, T.cl_Skip, T.me_Skip_shape, (ok_Row_shape T fun rt h => by cases rt with
    | skip => exact rfl
    | set _ _ => exact rfl
    | put _ _ => exact rfl
    | ask _ _ _ => exact rfl
    | draw _ _ => exact rfl
    | tell _ => exact rfl
    | ifr _ => exact absurd h T.ne_Choice_Skip
    | loop _ => exact absurd h T.ne_Loop_Skip
    | call _ _ _ => exact absurd h T.ne_Call_Skip
    | give _ => exact absurd h T.ne_Give_Skip
    ).mono (by decide), T.b_Row_shape⟩
  | set _ _ => exact ⟨_, _, _, T.cl_Set, T.me_Set_shape, (ok_Row_shape T fun rt h => by cases rt with
    | skip => exact rfl
    | set _ _ => exact rfl
    | put _ _ => exact rfl
    | ask _ _ _ => exact rfl
    | draw _ _ => exact rfl
    | tell _ => exact rfl
    | ifr _ => exact absurd h T.ne_Choice_Set
    | loop _ => exact absurd h T.ne_Loop_Set
    | call _ _ _ => exact absurd h T.ne_Call_Set
    | give _ => exact absurd h T.ne_Give_Set
    ).mono (by decide), T.b_Row_shape⟩
  | put _ _ => exact ⟨_, _, _, T.cl_Put, T.me_Put_shape, (ok_Row_shape T fun rt h => by cases rt with
    | skip => exact rfl
    | set _ _ => exact rfl
    | put _ _ => exact rfl
    | ask _ _ _ => exact rfl
    | draw _ _ => exact rfl
    | tell _ => exact rfl
    | ifr _ => exact absurd h T.ne_Choice_Put
    | loop _ => exact absurd h T.ne_Loop_Put
    | call _ _ _ => exact absurd h T.ne_Call_Put
    | give _ => exact absurd h T.ne_Give_Put
    ).mono (by decide), T.b_Row_shape⟩
  | ask _ _ _ => exact ⟨_, _, _, T.cl_Ask, T.me_Ask_shape, (ok_Row_shape T fun rt h => by cases rt with
    | skip => exact rfl
    | set _ _ => exact rfl
    | put _ _ => exact rfl
    | ask _ _ _ => exact rfl
    | draw _ _ => exact rfl
    | tell _ => exact rfl
    | ifr _ => exact absurd h T.ne_Choice_Ask
    | loop _ => exact absurd h T.ne_Loop_Ask
    | call _ _ _ => exact absurd h T.ne_Call_Ask
    | give _ => exact absurd h T.ne_Give_Ask
    ).mono (by decide), T.b_Row_shape⟩
  | draw _ _ => exact ⟨_, _, _, T.cl_Draw, T.me_Draw_shape, (ok_Row_shape T fun rt h => by cases rt with
    | skip => exact rfl
    | set _ _ => exact rfl
    | put _ _ => exact rfl
    | ask _ _ _ => exact rfl
    | draw _ _ => exact rfl
    | tell _ => exact rfl
    | ifr _ => exact absurd h T.ne_Choice_Draw
    | loop _ => exact absurd h T.ne_Loop_Draw
    | call _ _ _ => exact absurd h T.ne_Call_Draw
    | give _ => exact absurd h T.ne_Give_Draw
    ).mono (by decide), T.b_Row_shape⟩
  | tell _ => exact ⟨_, _, _, T.cl_Tell, T.me_Tell_shape, (ok_Row_shape T fun rt h => by cases rt with
    | skip => exact rfl
    | set _ _ => exact rfl
    | put _ _ => exact rfl
    | ask _ _ _ => exact rfl
    | draw _ _ => exact rfl
    | tell _ => exact rfl
    | ifr _ => exact absurd h T.ne_Choice_Tell
    | loop _ => exact absurd h T.ne_Loop_Tell
    | call _ _ _ => exact absurd h T.ne_Call_Tell
    | give _ => exact absurd h T.ne_Give_Tell
    ).mono (by decide), T.b_Row_shape⟩
  | ifr _ => exact ⟨_, _, _, T.cl_Choice, T.me_Choice_shape, (ok_Choice_shape T fun rt h => by cases rt with
    | skip => exact absurd h T.ne_Skip_Choice
    | set _ _ => exact absurd h T.ne_Set_Choice
    | put _ _ => exact absurd h T.ne_Put_Choice
    | ask _ _ _ => exact absurd h T.ne_Ask_Choice
    | draw _ _ => exact absurd h T.ne_Draw_Choice
    | tell _ => exact absurd h T.ne_Tell_Choice
    | ifr _ => exact rfl
    | loop _ => exact absurd h T.ne_Loop_Choice
    | call _ _ _ => exact absurd h T.ne_Call_Choice
    | give _ => exact absurd h T.ne_Give_Choice
    ).mono (by decide), T.b_Choice_shape⟩
  | loop _ => exact ⟨_, _, _, T.cl_Loop, T.me_Loop_shape, (ok_Loop_shape T fun rt h => by cases rt with
    | skip => exact absurd h T.ne_Skip_Loop
    | set _ _ => exact absurd h T.ne_Set_Loop
    | put _ _ => exact absurd h T.ne_Put_Loop
    | ask _ _ _ => exact absurd h T.ne_Ask_Loop
    | draw _ _ => exact absurd h T.ne_Draw_Loop
    | tell _ => exact absurd h T.ne_Tell_Loop
    | ifr _ => exact absurd h T.ne_Choice_Loop
    | loop _ => exact rfl
    | call _ _ _ => exact absurd h T.ne_Call_Loop
    | give _ => exact absurd h T.ne_Give_Loop
    ).mono (by decide), T.b_Loop_shape⟩
  | call _ _ _ => exact ⟨_, _, _, T.cl_Call, T.me_Call_shape, (ok_Call_shape T fun rt h => by cases rt with
    | skip => exact absurd h T.ne_Skip_Call
    | set _ _ => exact absurd h T.ne_Set_Call
    | put _ _ => exact absurd h T.ne_Put_Call
    | ask _ _ _ => exact absurd h T.ne_Ask_Call
    | draw _ _ => exact absurd h T.ne_Draw_Call
    | tell _ => exact absurd h T.ne_Tell_Call
    | ifr _ => exact absurd h T.ne_Choice_Call
    | loop _ => exact absurd h T.ne_Loop_Call
    | call _ _ _ => exact rfl
    | give _ => exact absurd h T.ne_Give_Call
    ).mono (by decide), T.b_Call_shape⟩
  | give _ => exact ⟨_, _, _, T.cl_Give, T.me_Give_shape, (ok_Give_shape T fun rt h => by cases rt with
    | skip => exact absurd h T.ne_Skip_Give
    | set _ _ => exact absurd h T.ne_Set_Give
    | put _ _ => exact absurd h T.ne_Put_Give
    | ask _ _ _ => exact absurd h T.ne_Ask_Give
    | draw _ _ => exact absurd h T.ne_Draw_Give
    | tell _ => exact absurd h T.ne_Tell_Give
    | ifr _ => exact absurd h T.ne_Choice_Give
    | loop _ => exact absurd h T.ne_Loop_Give
    | call _ _ _ => exact absurd h T.ne_Call_Give
    | give _ => exact rfl
    ).mono (by decide), T.b_Give_shape⟩

end
end K34
namespace K34
open PySem L2 TL
section
variable {P : Program} {w : World} {K : PySem.W.Frag} {mg : Str → Option Value} {base : Heap} {A : Ads}
theorem ok_check_names (T : Txt K mg A) : FnOk P w K mg base (L2N.CX P w) 2 A.check_names A.check_names_d ["words", "many"] (spNames K A.NoProgram) := by
  have G_is_name := ok_is_name (P := P) (w := w) (base := base) T
  refine okN T.F_check_names sc_check_names (fun vs H Q E h => ?_) (fun cdv A0 outer s H vs Q E hr h => ?_)
  · obtain ⟨l, ws, k, rfl, hS, hsm, q1, q2⟩ := h
    rfl
  obtain ⟨l, ws, k, rfl, hS, hsm, q1, q2⟩ := h
  refine ⟨_, (pss_one (ps_if (PW.pt (pw_or (pt_cmpR op_ne (pe_callB call_lenK (by rfl) T.z_len (by decide +kernel) (pa_cons (pv 0) pa_nil)) (pv 1) (nomark _)) (pw_or1 (pt_not (pt_val (pe_callB (cr_all rfl) (by rfl) T.z_all (by decide +kernel) (pa_cons (pe_lc (own := [("word", 2)]) (g := gName 2) (tt := tYes) rfl sc_check_names.nd (pi_list (pv 0)) (blkOk_by (own := [("word", 2)]) (N := N_check_names) (sc := defScope s_check_names) (by decide +kernel)) (fun _ _ _ _ _ => pg_name (i := 2) sc_check_names.nd rfl (Or.inl rfl)) (fun _ _ _ _ _ => pts_nil) (fun _ _ _ _ _ => (pe_call G_is_name (hr.mono (by decide)) rfl T.m_is_name T.F_is_name.kp T.b_is_name .nil pass0 (pa_cons (pv 2) pa_nil)))) pa_nil)))))))
    (pss_one (L2N.ps_raise rfl (L2N.takes_of rfl rfl rfl rfl) (L2N.pmk_own PySem.F.excBase_ValueError T.x_NoProgram T.m_NoProgram T.kk_NoProgram (raises_own T.bb_NoProgram T.tt_NoProgram) (by exact rfl))))
    pss_nil)), ?_⟩
  refine ⟨_, rfl, l, _, rfl, .inl hS, _, rfl, rfl, _, rfl, iteN2 (fun c1 => ?_) (fun c1 => ?_)⟩
  · refine q2 ?_ H (Same.refl H)
    unfold namesOk
    rw [decide_eq_false (fun e => c1 (by rw [List.length_map, e])), Bool.false_and]
  · have hk : ws.length = k := by
      have := V.int.inj c1
      rw [List.length_map] at this
      omega
    refine ⟨_, rfl, l, rfl, ⟨_, hS⟩, fun D hD => lc_mapA ws V.str (fun w => V.bl (isNameW w)) (Str.ofString "") walk_list hD (by have := hsm.1; omega) (by show 2 < 3; decide) (fun H' s' => s'.seq hS) ?_ ?_⟩
    · intro s hs H' Z s' z
      exact ⟨_, rfl, s, rfl, hsm.2 s hs, z⟩
    · intro H' s' hD'
      refine ⟨D, ws.map isNameW, rfl, SqL.of (by rw [hD', List.map_map]; rfl), _, rfl, ?_⟩
      have e : (ws.map isNameW).all id = ws.all isNameW := by rw [List.all_map]; rfl
      rw [e]
      cases ha : ws.all isNameW with
      | true => exact iteF (q1 (by unfold namesOk; rw [ha, decide_eq_true hk]; rfl) H' s')
      | false => exact iteT (q2 (by unfold namesOk; rw [ha, Bool.and_false]) H' s')

end
end K34
namespace K34
open PySem L2 TL
section
variable {P : Program} {w : World} {K : PySem.W.Frag} {mg : Str → Option Value} {base : Heap} {A : Ads}
theorem ok_only (T : Txt K mg A) : FnOk P w K mg base (L2N.CX P w) 1 A.only A.only_d ["found"] (spOnly A.NoProgram) := by
  refine okN T.F_only sc_only (fun vs H Q E h => ?_) (fun cdv A0 outer s H vs Q E hr h => ?_)
  · obtain ⟨l, os, rfl, hl, q1, q2⟩ := h
    rfl
  obtain ⟨l, os, rfl, hl, q1, q2⟩ := h
  refine ⟨_, (pss_cons (ps_if (pt_cmpR op_ne (pe_callB call_lenK (by rfl) T.z_len (by decide +kernel) (pa_cons (pv 0) pa_nil)) pe_int (nomark _))
    (pss_one (L2N.ps_raise rfl (L2N.takes_of rfl rfl rfl rfl) (L2N.pmk_own PySem.F.excBase_ValueError T.x_NoProgram T.m_NoProgram T.kk_NoProgram (raises_own T.bb_NoProgram T.tt_NoProgram) (by exact rfl))))
    pss_nil)
   (pss_one (ps_ret (pe_ix ix_list (pv 0) pe_int (fun _ _ => rfl))))), ?_⟩
  refine ⟨_, rfl, l, _, rfl, .inl (SqL.of hl), rfl, _, rfl, iteN2 (fun c1 => ?_) (fun c1 => ?_)⟩
  · exact q2 fun e => c1 (by rw [e]; rfl)
  · have c1 := V.int.inj c1
    obtain ⟨v, rfl⟩ : ∃ v, os = [v] := by
      match os, c1 with
      | [v], _ => exact ⟨v, rfl⟩
      | [], h => exact absurd h (by decide)
      | _ :: _ :: r, h => simp only [List.length_cons] at h; omega
    exact ⟨_, rfl, l, _, _, _, rfl, rfl, SqL.of hl, rfl, q1 v rfl⟩

end
end K34
namespace K34
open PySem L2 TL
section
variable {P : Program} {w : World} {K : PySem.W.Frag} {mg : Str → Option Value} {base : Heap} {A : Ads}
theorem ok_simple_row (T : Txt K mg A) : FnOk P w K mg base (L2N.CX P w) 12 A.simple_row A.simple_row_d ["number", "words"] (spSimple K A.rc A.ec A.NoProgram) := by
  have G_check_names := ok_check_names (P := P) (w := w) (base := base) T
  have G_Set_init := ok_Set_init (P := P) (w := w) (base := base) T
  have G_only := ok_only (P := P) (w := w) (base := base) T
  have G_exprs_of := ok_exprs_of (P := P) (w := w) (base := base) T
  have G_Put_init := ok_Put_init (P := P) (w := w) (base := base) T
  have G_Ask_init := ok_Ask_init (P := P) (w := w) (base := base) T
  have G_Draw_init := ok_Draw_init (P := P) (w := w) (base := base) T
  have G_Tell_init := ok_Tell_init (P := P) (w := w) (base := base) T
  have G_Row_init := ok_Row_init (P := P) (w := w) (base := base) T
  refine okN T.F_simple_row sc_simple_row (fun vs H Q E h => ?_) (fun cdv A0 outer s H vs Q E hr h => ?_)
  · obtain ⟨num, w, ws, rfl, hS, hne, hsm, hsc, q1, q2⟩ := h
    rfl
  obtain ⟨num, w, ws, rfl, hS, hne, hsm, hsc, q1, q2⟩ := h
  refine ⟨_, (pss_cons (ps_if (pt_cmpR op_eq (pe_ix ix_list (pv 1) pe_int (fun _ _ => rfl)) pe_str (nomark _))
    (pss_cons (ps_expr (pe_call G_check_names (hr.mono (by decide)) rfl T.m_check_names T.F_check_names.kp T.b_check_names .nil (L2N.passes_call (L2N.takes_of rfl rfl rfl rfl) (fun _ _ _ _ h => h)) (pa_cons (pe_slice sl_list (pv 1) (po_some pe_int) (po_some pe_int)) (pa_cons pe_int pa_nil))))
   (pss_one (ps_ret (pe_make T.k_Set G_Set_init (hr.mono (by decide)) rfl T.m_Set T.b_Set_init .nil pass0 (pa_cons (pv 0) (pa_cons (pe_ix ix_list (pv 1) pe_int (fun _ _ => rfl)) (pa_cons (pe_call G_only (hr.mono (by decide)) rfl T.m_only T.F_only.kp T.b_only .nil (L2N.passes_call (L2N.takes_of rfl rfl rfl rfl) (fun _ _ _ _ h => h)) (pa_cons (pe_call G_exprs_of (hr.mono (by decide)) rfl T.m_exprs_of T.F_exprs_of.kp T.b_exprs_of .nil (L2N.passes_call (L2N.takes_of rfl rfl rfl rfl) (fun _ _ _ _ h => h)) (pa_cons (pe_slice sl_list (pv 1) (po_some pe_int) po_none) pa_nil)) pa_nil)) pa_nil)))))))
    pss_nil)
   (pss_cons (ps_if (pt_cmpR op_eq (pe_ix ix_list (pv 1) pe_int (fun _ _ => rfl)) pe_str (nomark _))
    (pss_cons (ps_set (i := 2) sc_simple_row.nd rfl (Or.inl rfl) (pe_call G_exprs_of (hr.mono (by decide)) rfl T.m_exprs_of T.F_exprs_of.kp T.b_exprs_of .nil (L2N.passes_call (L2N.takes_of rfl rfl rfl rfl) (fun _ _ _ _ h => h)) (pa_cons (pe_slice sl_list (pv 1) (po_some pe_int) po_none) pa_nil)))
   (pss_cons (ps_if (pt_cmpR op_ne (pe_callB call_lenK (by rfl) T.z_len (by decide +kernel) (pa_cons (pv 2) pa_nil)) pe_int (nomark _))
    (pss_one (L2N.ps_raise rfl (L2N.takes_of rfl rfl rfl rfl) (L2N.pmk_own PySem.F.excBase_ValueError T.x_NoProgram T.m_NoProgram T.kk_NoProgram (raises_own T.bb_NoProgram T.tt_NoProgram) (by exact rfl))))
    pss_nil)
   (pss_one (ps_ret (pe_make T.k_Put G_Put_init (hr.mono (by decide)) rfl T.m_Put T.b_Put_init .nil pass0 (pa_cons (pv 0) (pa_cons (pe_ix ix_list (pv 2) pe_int (fun _ _ => rfl)) (pa_cons (pe_ix ix_list (pv 2) pe_int (fun _ _ => rfl)) pa_nil))))))))
    pss_nil)
   (pss_cons (ps_if (pt_cmpR op_eq (pe_ix ix_list (pv 1) pe_int (fun _ _ => rfl)) pe_str (nomark _))
    (pss_cons (ps_expr (pe_call G_check_names (hr.mono (by decide)) rfl T.m_check_names T.F_check_names.kp T.b_check_names .nil (L2N.passes_call (L2N.takes_of rfl rfl rfl rfl) (fun _ _ _ _ h => h)) (pa_cons (pe_slice sl_list (pv 1) (po_some pe_int) (po_some pe_int)) (pa_cons pe_int pa_nil))))
   (pss_one (ps_ret (pe_make T.k_Ask G_Ask_init (hr.mono (by decide)) rfl T.m_Ask T.b_Ask_init .nil pass0 (pa_cons (pv 0) (pa_cons (pe_ix ix_list (pv 1) pe_int (fun _ _ => rfl)) (pa_cons (pe_ix ix_list (pv 1) pe_int (fun _ _ => rfl)) (pa_cons (pe_call G_only (hr.mono (by decide)) rfl T.m_only T.F_only.kp T.b_only .nil (L2N.passes_call (L2N.takes_of rfl rfl rfl rfl) (fun _ _ _ _ h => h)) (pa_cons (pe_call G_exprs_of (hr.mono (by decide)) rfl T.m_exprs_of T.F_exprs_of.kp T.b_exprs_of .nil (L2N.passes_call (L2N.takes_of rfl rfl rfl rfl) (fun _ _ _ _ h => h)) (pa_cons (pe_slice sl_list (pv 1) (po_some pe_int) po_none) pa_nil)) pa_nil)) pa_nil))))))))
    pss_nil)
   (pss_cons (ps_if (pt_cmpR op_eq (pe_ix ix_list (pv 1) pe_int (fun _ _ => rfl)) pe_str (nomark _))
    (pss_cons (ps_expr (pe_call G_check_names (hr.mono (by decide)) rfl T.m_check_names T.F_check_names.kp T.b_check_names .nil (L2N.passes_call (L2N.takes_of rfl rfl rfl rfl) (fun _ _ _ _ h => h)) (pa_cons (pe_slice sl_list (pv 1) (po_some pe_int) po_none) (pa_cons pe_int pa_nil))))
   (pss_one (ps_ret (pe_make T.k_Draw G_Draw_init (hr.mono (by decide)) rfl T.m_Draw T.b_Draw_init .nil pass0 (pa_cons (pv 0) (pa_cons (pe_ix ix_list (pv 1) pe_int (fun _ _ => rfl)) (pa_cons (pe_ix ix_list (pv 1) pe_int (fun _ _ => rfl)) pa_nil)))))))
    pss_nil)
   (pss_cons (ps_if (pt_cmpR op_eq (pe_ix ix_list (pv 1) pe_int (fun _ _ => rfl)) pe_str (nomark _))
    (pss_one (ps_ret (pe_make T.k_Tell G_Tell_init (hr.mono (by decide)) rfl T.m_Tell T.b_Tell_init .nil pass0 (pa_cons (pv 0) (pa_cons (pe_call G_only (hr.mono (by decide)) rfl T.m_only T.F_only.kp T.b_only .nil (L2N.passes_call (L2N.takes_of rfl rfl rfl rfl) (fun _ _ _ _ h => h)) (pa_cons (pe_call G_exprs_of (hr.mono (by decide)) rfl T.m_exprs_of T.F_exprs_of.kp T.b_exprs_of .nil (L2N.passes_call (L2N.takes_of rfl rfl rfl rfl) (fun _ _ _ _ h => h)) (pa_cons (pe_slice sl_list (pv 1) (po_some pe_int) po_none) pa_nil)) pa_nil)) pa_nil)))))
    pss_nil)
   (pss_cons (ps_if (pt_cmpR (op_neD hr.units) (pv 1) (pe_lst (pa_cons pe_str pa_nil)) (nomark _))
    (pss_one (L2N.ps_raise rfl (L2N.takes_of rfl rfl rfl rfl) (L2N.pmk_own PySem.F.excBase_ValueError T.x_NoProgram T.m_NoProgram T.kk_NoProgram (raises_own T.bb_NoProgram T.tt_NoProgram) (by exact rfl))))
    pss_nil)
   (pss_one (ps_ret (pe_make T.k_Skip G_Row_init (hr.mono (by decide)) rfl T.m_Skip T.b_Row_init .nil pass0 (pa_cons (pv 0) pa_nil)))))))))), ?_⟩
  unfold simpleF at q1 q2

  refine ⟨_, rfl, w, _, _, _, rfl, rfl, hS, at_hd hne, rfl, _, rfl, iteD2 (fun c1 => ?_) (fun c1 => ?_)⟩
  · rw [if_pos (V.str.inj c1)] at q1 q2
    refine ⟨_, rfl, 1, rfl, 2, rfl, w, _, rfl, hS, fun l1 hl1 => ?_⟩
    rw [show ((1 : Int) = ((1 : Nat) : Int)) from rfl, show ((2 : Int) = ((2 : Nat) : Int)) from rfl, cut_mid]
    have s1 := same_new (o := .lst (((ws.drop 1).take (2 - 1)).map V.str)) hl1
    refine ⟨l1, (ws.drop 1).take 1, 1, rfl, SqL.of upd_same, (hsm.drop 1).take 1, fun ok H1 s2 => ?_, fun no H1 s2 => ?_⟩
    rotate_left
    · exact q2 (if_neg (by rw [no]; decide)) H1 (s1.trans s2)
    rw [if_pos ok] at q1 q2
    have hl2 : 1 < ws.length := by have := (names_len ok).1; rw [List.length_take, List.length_drop] at this; omega
    have s12 := s1.trans s2
    refine ⟨_, rfl, _, rfl, w, _, _, _, rfl, rfl, s12.seq hS, at_wd (i := 1) hl2, ?_⟩
    refine ⟨_, rfl, 2, rfl, w, _, rfl, s12.seq hS, fun l2 hl2 => ?_⟩
    rw [show ((2 : Int) = ((2 : Nat) : Int)) from rfl, cut_drop]
    have s3 := same_new (o := .lst ((ws.drop 2).map V.str)) hl2
    refine ⟨l2, ws.drop 2, rfl, SqL.of upd_same, (hsm.drop 2).1, (hsm.drop 2).2, fun es pe l3 H2 os s4 hn4 h4 ha => ?_, fun pe H2 s4 => ?_⟩
    · have s14 := s12.trans (s3.trans s4)
      have pe' : exL (ws.drop 2) = some es := pe
      rw [pe'] at q1 q2
      refine ⟨l3, os, rfl, h4, fun v hv => ?_, fun hn => ?_⟩
      · obtain ⟨e, rfl, ho⟩ := (allE_one ha).1 v hv
        refine fun x dx hx hdx _ => mk_row (xs := [_, _, _]) hx hdx rfl fun H3 s5 g5 => ?_
        exact q1 _ _ H3 rfl (s14.trans s5) fun M => ⟨x, dx, v, rfl, g5, ho.same s5⟩
      · rw [(allE_one ha).2 hn] at q2
        exact q2 rfl H2 s14
    · have pe' : exL (ws.drop 2) = none := pe
      rw [pe'] at q2
      exact q2 rfl H2 (s12.trans (s3.trans s4))
  rw [if_neg (fun e => c1 (congrArg V.str e))] at q1 q2

  refine ⟨_, rfl, w, _, _, _, rfl, rfl, hS, at_hd hne, rfl, _, rfl, iteD2 (fun c2 => ?_) (fun c2 => ?_)⟩
  · rw [if_pos (V.str.inj c2)] at q1 q2
    refine ⟨_, rfl, 1, rfl, w, _, rfl, hS, fun l2 hl2 => ?_⟩
    rw [show ((1 : Int) = ((1 : Nat) : Int)) from rfl, cut_drop]
    have s3 := same_new (o := .lst ((ws.drop 1).map V.str)) hl2
    refine ⟨l2, ws.drop 1, rfl, SqL.of upd_same, (hsm.drop 1).1, (hsm.drop 1).2, fun es pe l3 H2 os s4 hn4 h4 ha => ?_, fun pe H2 s4 => ?_⟩
    rotate_left
    · have pe' : exL (ws.drop 1) = none := pe
      rw [pe'] at q2
      exact q2 rfl H2 (s3.trans s4)
    have s34 := s3.trans s4
    have pe' : exL (ws.drop 1) = some es := pe
    rw [pe'] at q1 q2
    refine ⟨_, rfl, l3, _, rfl, .inl (SqL.of h4), rfl, _, rfl, iteN2 (fun d1 => ?_) (fun d1 => ?_)⟩
    · refine q2 ?_ H2 s34
      have hl := ha.length
      match es, hl with
      | [], _ => rfl
      | [_], _ => rfl
      | [_, _], h => exact absurd (by rw [← h]; rfl) d1
      | _ :: _ :: _ :: _, _ => rfl
    · have d1 := V.int.inj d1
      obtain ⟨a, b, x1, x2, rfl, rfl, o1, o2⟩ : ∃ a b x1 x2, es = [a, b] ∧ os = [x1, x2] ∧ ObjE A.ec H2 a x1 ∧ ObjE A.ec H2 b x2 := by
        cases ha with
        | nil => exact absurd d1 (by decide)
        | cons a1 r1 =>
          cases r1 with
          | nil => exact absurd d1 (by show ¬ (((1 : Nat) : Int) = 2); decide)
          | cons a2 r2 =>
            cases r2 with
            | nil => exact ⟨_, _, _, _, rfl, rfl, a1, a2⟩
            | cons a3 r3 => simp only [List.length_cons] at d1; omega
      refine ⟨_, rfl, _, rfl, l3, _, _, _, rfl, rfl, SqL.of h4, rfl, _, rfl, l3, _, _, _, rfl, rfl, SqL.of h4, rfl, fun x dx hx hdx _ => mk_row (xs := [_, _, _]) hx hdx rfl fun H3 s5 g5 => ?_⟩
      exact q1 _ _ H3 rfl (s34.trans s5) fun M => ⟨x, dx, x1, x2, rfl, g5, o1.same s5, o2.same s5⟩
  rw [if_neg (fun e => c2 (congrArg V.str e))] at q1 q2

  refine ⟨_, rfl, w, _, _, _, rfl, rfl, hS, at_hd hne, rfl, _, rfl, iteD2 (fun c3 => ?_) (fun c3 => ?_)⟩
  · rw [if_pos (V.str.inj c3)] at q1 q2
    refine ⟨_, rfl, 1, rfl, 3, rfl, w, _, rfl, hS, fun l1 hl1 => ?_⟩
    rw [show ((1 : Int) = ((1 : Nat) : Int)) from rfl, show ((3 : Int) = ((3 : Nat) : Int)) from rfl, cut_mid]
    have s1 := same_new (o := .lst (((ws.drop 1).take (3 - 1)).map V.str)) hl1
    refine ⟨l1, (ws.drop 1).take 2, 2, rfl, SqL.of upd_same, (hsm.drop 1).take 2, fun ok H1 s2 => ?_, fun no H1 s2 => ?_⟩
    rotate_left
    · exact q2 (if_neg (by rw [no]; decide)) H1 (s1.trans s2)
    rw [if_pos ok] at q1 q2
    have hl2 : 2 < ws.length := by have := (names_len ok).1; rw [List.length_take, List.length_drop] at this; omega
    have s12 := s1.trans s2
    refine ⟨_, rfl, _, rfl, w, _, _, _, rfl, rfl, s12.seq hS, at_wd (i := 1) (by omega), ?_⟩
    refine ⟨_, rfl, w, _, _, _, rfl, rfl, s12.seq hS, at_wd (i := 2) hl2, ?_⟩
    refine ⟨_, rfl, 3, rfl, w, _, rfl, s12.seq hS, fun l2 hl2 => ?_⟩
    rw [show ((3 : Int) = ((3 : Nat) : Int)) from rfl, cut_drop]
    have s3 := same_new (o := .lst ((ws.drop 3).map V.str)) hl2
    refine ⟨l2, ws.drop 3, rfl, SqL.of upd_same, (hsm.drop 3).1, (hsm.drop 3).2, fun es pe l3 H2 os s4 hn4 h4 ha => ?_, fun pe H2 s4 => ?_⟩
    · have s14 := s12.trans (s3.trans s4)
      have pe' : exL (ws.drop 3) = some es := pe
      rw [pe'] at q1 q2
      refine ⟨l3, os, rfl, h4, fun v hv => ?_, fun hn => ?_⟩
      · obtain ⟨e, rfl, ho⟩ := (allE_one ha).1 v hv
        refine fun x dx hx hdx _ => mk_row (xs := [_, _, _, _]) hx hdx rfl fun H3 s5 g5 => ?_
        exact q1 _ _ H3 rfl (s14.trans s5) fun M => ⟨x, dx, v, rfl, g5, ho.same s5⟩
      · rw [(allE_one ha).2 hn] at q2
        exact q2 rfl H2 s14
    · have pe' : exL (ws.drop 3) = none := pe
      rw [pe'] at q2
      exact q2 rfl H2 (s12.trans (s3.trans s4))
  rw [if_neg (fun e => c3 (congrArg V.str e))] at q1 q2

  refine ⟨_, rfl, w, _, _, _, rfl, rfl, hS, at_hd hne, rfl, _, rfl, iteD2 (fun c4 => ?_) (fun c4 => ?_)⟩
  · rw [if_pos (V.str.inj c4)] at q1 q2
    refine ⟨_, rfl, 1, rfl, w, _, rfl, hS, fun l1 hl1 => ?_⟩
    rw [show ((1 : Int) = ((1 : Nat) : Int)) from rfl, cut_drop]
    have s1 := same_new (o := .lst ((ws.drop 1).map V.str)) hl1
    refine ⟨l1, ws.drop 1, 2, rfl, SqL.of upd_same, hsm.drop 1, fun ok H1 s2 => ?_, fun no H1 s2 => ?_⟩
    rotate_left
    · exact q2 (if_neg (by rw [no]; decide)) H1 (s1.trans s2)
    rw [if_pos ok] at q1 q2
    have hl2 : 2 < ws.length := by have := (names_len ok).1; rw [List.length_drop] at this; omega
    have s12 := s1.trans s2
    refine ⟨_, rfl, _, rfl, w, _, _, _, rfl, rfl, s12.seq hS, at_wd (i := 1) (by omega), ?_⟩
    refine ⟨_, rfl, w, _, _, _, rfl, rfl, s12.seq hS, at_wd (i := 2) hl2, fun x dx hx hdx _ => mk_row (xs := [_, _, _]) hx hdx rfl fun H3 s5 g5 => ?_⟩
    exact q1 _ _ H3 rfl (s12.trans s5) fun M => ⟨x, dx, rfl, g5⟩
  rw [if_neg (fun e => c4 (congrArg V.str e))] at q1 q2

  refine ⟨_, rfl, w, _, _, _, rfl, rfl, hS, at_hd hne, rfl, _, rfl, iteD2 (fun c5 => ?_) (fun c5 => ?_)⟩
  · rw [if_pos (V.str.inj c5)] at q1 q2
    refine ⟨_, rfl, _, rfl, 1, rfl, w, _, rfl, hS, fun l2 hl2 => ?_⟩
    rw [show ((1 : Int) = ((1 : Nat) : Int)) from rfl, cut_drop]
    have s3 := same_new (o := .lst ((ws.drop 1).map V.str)) hl2
    refine ⟨l2, ws.drop 1, rfl, SqL.of upd_same, (hsm.drop 1).1, (hsm.drop 1).2, fun es pe l3 H2 os s4 hn4 h4 ha => ?_, fun pe H2 s4 => ?_⟩
    · have s14 := s3.trans s4
      have pe' : exL (ws.drop 1) = some es := pe
      rw [pe'] at q1 q2
      refine ⟨l3, os, rfl, h4, fun v hv => ?_, fun hn => ?_⟩
      · obtain ⟨e, rfl, ho⟩ := (allE_one ha).1 v hv
        refine fun x dx hx hdx _ => mk_row (xs := [_, _]) hx hdx rfl fun H3 s5 g5 => ?_
        exact q1 _ _ H3 rfl (s14.trans s5) fun M => ⟨x, dx, v, rfl, g5, ho.same s5⟩
      · rw [(allE_one ha).2 hn] at q2
        exact q2 rfl H2 s14
    · have pe' : exL (ws.drop 1) = none := pe
      rw [pe'] at q2
      exact q2 rfl H2 (s3.trans s4)
  rw [if_neg (fun e => c5 (congrArg V.str e))] at q1 q2

  refine ⟨_, rfl, by show 1 ≤ sizeLine; decide, fun l1 hl1 => ?_⟩
  have s1 := same_new (o := .lst [V.str "skip"]) hl1
  refine ⟨strsD ws, strsD [Str.ofString "skip"], .lst (s1.seq hS) (dp_strs ws), .lst (SqL.of upd_same) (dp_strs [Str.ofString "skip"]), strs_shaped hsc, strs_shaped (by unfold Codes; decide +kernel), _, rfl, ?_⟩
  rw [strs_eqv]
  refine iteN2 (fun c6 => ?_) (fun c6 => ?_)
  · exact q2 (if_neg c6) _ s1
  · rw [if_pos c6] at q1
    refine ⟨_, rfl, fun x dx hx hdx _ => ?_⟩
    refine ⟨x, A.Skip, dx, _, rfl, upd_same, T.cl_Skip, T.n_Skip_number, rfl, ?_⟩
    have s2 := made_same (o := .own x) (o1 := .ins A.Skip dx []) (o2 := .ins A.Skip dx [("number", .int (num : Int))]) hx hdx
    exact q1 _ _ _ rfl (s1.trans s2) fun M => ⟨x, dx, rfl, upd_same⟩

end
end K34
namespace K34
open PySem L2 TL
section
variable {P : Program} {w : World} {K : PySem.W.Frag} {mg : Str → Option Value} {base : Heap} {A : Ads}
theorem ok_Reader_head (T : Txt K mg A) : FnOk P w K mg base CX0 1 A.Reader_head A.Reader_head_d ["self"] (spHead K A.rc A.ec A.Reader) := by
  refine T.F_Reader_head.ok sc_Reader_head (fun vs H Q E h => ?_) (fun cdv A0 outer s H vs Q E hr h => ?_)
  · obtain ⟨X, st, rfl, hR, q⟩ := h
    rfl
  obtain ⟨X, st, rfl, hR, q⟩ := h
  refine ⟨_, (pss_cons (ps_if (pt_cmpR op_eq (pe_fld (pv 0) rfl) (pe_callB call_lenK (by rfl) T.z_len (by decide +kernel) (pa_cons (pe_fld (pv 0) rfl) pa_nil)) (nomark _))
    (pss_one (ps_ret pe_non))
    pss_nil)
   (pss_one (ps_ret (pe_ix ix_list (pe_split (pe_ix ix_list (pe_fld (pv 0) rfl) (pe_fld (pv 0) rfl) (fun _ _ => rfl)) pe_str) pe_int (fun _ _ => rfl))))), ?_⟩
  obtain ⟨dx, h1⟩ := hR.obj
  refine ⟨_, rfl, X.p, A.Reader, dx, _, _, rfl, h1, T.cl_Reader, T.n_Reader_at, rfl, _, rfl, X.p, A.Reader, dx, _, _, rfl, h1, T.cl_Reader, T.n_Reader_texts, rfl, X.a, _, rfl, .inl (SqL.of hR.txts), rfl, _, rfl, iteD2 (fun c1 => ?_) (fun c1 => ?_)⟩
  · have e : headV X.ts st.at_ = .non := by
      have c1 := V.int.inj c1
      rw [List.length_map] at c1
      unfold headV headAt
      rw [if_neg (by omega)]
    rw [e] at q
    exact q H (Same.refl H)
  · have hlt : st.at_ < X.ts.length := by
      have := hR.at_
      have c2 : ¬ ((st.at_ : Nat) : Int) = ((X.ts.length : Nat) : Int) := fun e => c1 (by rw [List.length_map, e])
      omega
    have e : headV X.ts st.at_ = .str (hd0 (wordsAt X.ts st.at_)) := by
      unfold headV headAt
      rw [if_pos hlt]
    rw [e] at q
    have hok := wordsAt_ok hR.sm.2 st.at_
    refine ⟨_, rfl, X.p, A.Reader, dx, _, _, rfl, h1, T.cl_Reader, T.n_Reader_texts, rfl, _, rfl, X.p, A.Reader, dx, _, _, rfl, h1, T.cl_Reader, T.n_Reader_at, rfl, X.a, _, _, _, rfl, rfl, (SqL.of hR.txts), at_wd hlt, ⟨_, rfl⟩, _, _, rfl, rfl, (by decide +kernel), ?_, fun l hl => ?_⟩
    · have : (wd X.ts st.at_).length ≤ 99999 := by
        unfold wd
        rw [List.getD_eq_getElem?_getD, List.getElem?_eq_getElem hlt]
        exact hR.sm.2 _ (List.getElem_mem hlt)
      exact sizeL2 (by omega)
    · refine ⟨l, (wordsAt X.ts st.at_).map V.str, _, _, rfl, rfl, SqL.of upd_same, at_hd hok.2, ?_⟩
      exact q _ (same_new hl)

end
end K34
namespace K34
open PySem L2 TL
section
variable {P : Program} {w : World} {K : PySem.W.Frag} {mg : Str → Option Value} {base : Heap} {A : Ads}
theorem ok_Reader_init (T : Txt K mg A) : FnOk P w K mg base CX0 1 A.Reader_init A.Reader_init_d ["self", "texts"] (spRdInit K A.rc A.ec A.Reader) := by
  refine T.F_Reader_init.ok sc_Reader_init (fun vs H Q E h => ?_) (fun cdv A0 outer s H vs Q E hr h => ?_)
  · obtain ⟨p, dx, a, ts, rfl, hp, hS, hl, ht, hcod, q⟩ := h
    rfl
  obtain ⟨p, dx, a, ts, rfl, hp, hS, hl, ht, hcod, q⟩ := h
  refine ⟨_, (pss_cons (ps_fld (pv 0) (pv 1) rfl)
   (pss_cons (ps_fld (pv 0) pe_int rfl)
   (pss_cons (ps_fld (pv 0) pe_dnewK rfl)
   (pss_one (ps_fld (pv 0) (pe_lst pa_nil) rfl))))), ?_⟩
  refine ⟨_, rfl, _, rfl, p, A.Reader, dx, [], rfl, hp, T.cl_Reader, T.n_Reader_texts, (by show 0 < 1000; decide), ?_⟩
  refine ⟨_, rfl, p, A.Reader, dx, _, rfl, upd_same, T.cl_Reader, T.n_Reader_at, (by show 1 < 1000; decide), ?_⟩
  rw [upd_upd]
  have f1 : KeepL [p] H (upd H p (.ins A.Reader dx [("texts", .ref a), ("at", .int 0)])) := fun z o n h => by rw [upd_ne (fun e => n (by rw [e]; exact List.mem_singleton.mpr rfl))]; exact h
  have g1 := upd_same (H := H) (a := p) (o := .ins A.Reader dx [("texts", .ref a), ("at", .int 0)])
  show ∀ d, _ → _
  intro d hd
  have ndp : d ≠ p := fun e => by rw [e, upd_same] at hd; cases hd
  have hd0 : H d = none := by rw [upd_ne ndp] at hd; exact hd
  have s2 := same_new (o := .dK []) hd
  refine ⟨_, rfl, p, A.Reader, dx, _, rfl, s2 _ _ g1, T.cl_Reader, T.n_Reader_by_number, (by show 2 < 1000; decide), ?_⟩
  refine ⟨by show 0 ≤ sizeLine; decide, fun cl hcl => ?_⟩
  have g2 : upd (upd (upd H p (.ins A.Reader dx [("texts", .ref a), ("at", .int 0)])) d (.dK [])) p (.ins A.Reader dx [("texts", .ref a), ("at", .int 0), ("by_number", .ref d)]) p = some (.ins A.Reader dx [("texts", .ref a), ("at", .int 0), ("by_number", .ref d)]) := upd_same
  have hd2 : upd (upd (upd H p (.ins A.Reader dx [("texts", .ref a), ("at", .int 0)])) d (.dK [])) p (.ins A.Reader dx [("texts", .ref a), ("at", .int 0), ("by_number", .ref d)]) d = some (.dK []) := by rw [upd_ne ndp]; exact upd_same
  have k2 : KeepL [p] H (upd (upd (upd H p (.ins A.Reader dx [("texts", .ref a), ("at", .int 0)])) d (.dK [])) p (.ins A.Reader dx [("texts", .ref a), ("at", .int 0), ("by_number", .ref d)])) := fun z o n h => by
    have nz : z ≠ p := fun e => n (by rw [e]; exact List.mem_singleton.mpr rfl)
    rw [upd_ne nz]
    exact s2 _ _ (f1 z o n h)
  have hcl0 : H cl = none := by
    cases e : H cl with
    | none => rfl
    | some o =>
      by_cases c : cl = p
      · have hcl' : upd (upd (upd H p (.ins A.Reader dx [("texts", .ref a), ("at", .int 0)])) d (.dK [])) p (.ins A.Reader dx [("texts", .ref a), ("at", .int 0), ("by_number", .ref d)]) cl = none := hcl
        rw [c, g2] at hcl'; cases hcl'
      · have hcl' : upd (upd (upd H p (.ins A.Reader dx [("texts", .ref a), ("at", .int 0)])) d (.dK [])) p (.ins A.Reader dx [("texts", .ref a), ("at", .int 0), ("by_number", .ref d)]) cl = none := hcl
        have := k2 cl o (fun h => c (List.mem_singleton.mp h)) e
        rw [hcl'] at this; cases this
  have ncp : cl ≠ p := fun e => by rw [e, hp] at hcl0; cases hcl0
  have ncd : cl ≠ d := fun e => by
    have hcl' : upd (upd (upd H p (.ins A.Reader dx [("texts", .ref a), ("at", .int 0)])) d (.dK [])) p (.ins A.Reader dx [("texts", .ref a), ("at", .int 0), ("by_number", .ref d)]) cl = none := hcl
    rw [e, hd2] at hcl'; cases hcl'
  have nac : a ≠ cl := fun e => by rw [e, hcl0] at hS; cases hS
  have nap : a ≠ p := ne_of hS hp (by intro z; cases z)
  refine ⟨_, rfl, p, A.Reader, dx, _, rfl, by rw [upd_ne (Ne.symm ncp)]; exact g2, T.cl_Reader, T.n_Reader_calls, (by show 3 < 1000; decide), ?_⟩
  have sc := same_new (o := .lst ([] : List V)) hcl
  refine q d cl _ hd0 hcl0 (fun z o n h => ?_) ⟨⟨dx, upd_same⟩, ⟨[], by rw [upd_ne ndp]; exact sc _ _ hd2, .nil⟩, ⟨[], by rw [upd_ne ncp]; exact upd_same, .nil⟩, (by rw [upd_ne nap]; exact sc _ _ (k2 _ _ (fun h => nap (List.mem_singleton.mp h)) hS)), nac, ⟨hl, ht⟩, hcod, Nat.zero_le _, (fun _ h => by cases h), Nat.zero_le _, Nat.zero_le _⟩
  rw [upd_ne (fun e => n (by rw [e]; exact List.mem_singleton.mpr rfl))]
  exact sc _ _ (k2 z o n h)

end
end K34
namespace K34
open PySem L2 TL
section
variable {P : Program} {w : World} {K : PySem.W.Frag} {mg : Str → Option Value} {base : Heap} {A : Ads}
theorem ok_Reader_pass_line (T : Txt K mg A) : FnOk P w K mg base (L2N.CX P w) 1 A.Reader_pass_line A.Reader_pass_line_d ["self", "text"] (spPass K A.rc A.ec A.Reader A.NoProgram) := by
  refine okN T.F_Reader_pass_line sc_Reader_pass_line (fun vs H Q E h => ?_) (fun cdv A0 outer s H vs Q E hr h => ?_)
  · obtain ⟨X, st, t, rfl, hR, q1, q2⟩ := h
    rfl
  obtain ⟨X, st, t, rfl, hR, q1, q2⟩ := h
  refine ⟨_, (pss_cons (ps_if (PW.pt (pw_or (pt_cmpR op_eq (pe_fld (pv 0) rfl) (pe_callB call_lenK (by rfl) T.z_len (by decide +kernel) (pa_cons (pe_fld (pv 0) rfl) pa_nil)) (nomark _)) (pw_or1 (pt_cmpR op_ne (pe_ix ix_list (pe_fld (pv 0) rfl) (pe_fld (pv 0) rfl) (fun _ _ => rfl)) (pv 1) (nomark _)))))
    (pss_one (L2N.ps_raise rfl (L2N.takes_of rfl rfl rfl rfl) (L2N.pmk_own PySem.F.excBase_ValueError T.x_NoProgram T.m_NoProgram T.kk_NoProgram (raises_own T.bb_NoProgram T.tt_NoProgram) (by exact rfl))))
    pss_nil)
   (pss_one (ps_fldaug (pv 0) pe_int in_add))), ?_⟩
  obtain ⟨dx, h1⟩ := hR.obj
  refine ⟨_, rfl, X.p, A.Reader, dx, _, _, rfl, h1, T.cl_Reader, T.n_Reader_at, rfl, _, rfl, X.p, A.Reader, dx, _, _, rfl, h1, T.cl_Reader, T.n_Reader_texts, rfl, X.a, _, rfl, .inl (SqL.of hR.txts), rfl, _, rfl, iteD2 (fun c1 => ?_) (fun c1 => ?_)⟩
  · have c1 := V.int.inj c1
    rw [List.length_map] at c1
    refine q2 ?_ H (mv_same (Same.refl H))
    unfold passF
    rw [if_neg (fun h => by have := h.1; omega)]
  · have hlt : st.at_ < X.ts.length := by
      have := hR.at_
      have c2 : ¬ ((st.at_ : Nat) : Int) = ((X.ts.length : Nat) : Int) := fun e => c1 (by rw [List.length_map, e])
      omega
    refine ⟨_, rfl, X.p, A.Reader, dx, _, _, rfl, h1, T.cl_Reader, T.n_Reader_texts, rfl, _, rfl, X.p, A.Reader, dx, _, _, rfl, h1, T.cl_Reader, T.n_Reader_at, rfl, X.a, _, _, _, rfl, rfl, (SqL.of hR.txts), at_wd hlt, _, rfl, rfl, _, rfl, iteN2 (fun c2 => ?_) (fun c2 => ?_)⟩
    · refine q2 ?_ H (mv_same (Same.refl H))
      unfold passF
      rw [if_neg (fun h => c2 (congrArg V.str h.2))]
    · have hp : passF X.ts t st = some { st with at_ := st.at_ + 1 } := by
        unfold passF
        rw [if_pos ⟨hlt, V.str.inj c2⟩]
      refine ⟨_, rfl, X.p, A.Reader, dx, _, _, rfl, h1, T.cl_Reader, T.n_Reader_at, rfl, _, _, rfl, rfl, dx, _, h1, (by show 4 < 1000; decide), ?_⟩
      have e1 : putF "at" (V.int ((st.at_ : Nat) + 1)) (rdF X st) = rdF X { st with at_ := st.at_ + 1 } := by
        show [_, (_, V.int (((st.at_ : Nat) : Int) + 1)), _, _] = [_, (_, V.int ((st.at_ + 1 : Nat) : Int)), _, _]
        rw [show ((st.at_ + 1 : Nat) : Int) = ((st.at_ : Nat) : Int) + 1 from by omega]
      have mv : Mv X H (upd H X.p (.ins A.Reader dx (rdF X { st with at_ := st.at_ + 1 }))) := fun z o n h => by rw [upd_ne (fun e => n (by rw [e]; exact List.mem_cons_self))]; exact h
      obtain ⟨kvs, k1, k2⟩ := hR.dict
      obtain ⟨os, k3, k4⟩ := hR.calls
      have ki := hR.keepI mv
      have e2 : putF "at" (V.int (((st.at_ : Nat) : Int) + 1)) (rdF X st) = rdF X { st with at_ := st.at_ + 1 } := e1
      show Q .non (upd H X.p (.ins A.Reader dx (putF "at" (V.int (((st.at_ : Nat) : Int) + 1)) (rdF X st))))
      rw [e2]
      refine q1 _ _ hp mv (hR.ats (notR_ec T) (notR_rc T) mv upd_same (by rw [upd_ne (ne_of k1 h1 (by intro z; cases z))]; exact k1) (k2.mono fun x kv h => ⟨h.1, h.2.keepI ki (notR_ec T) (notR_rc T)⟩) (by rw [upd_ne (ne_of k3 h1 (by intro z; cases z))]; exact k3) (k4.mono fun f v ⟨n, b, es, z1, z2⟩ => ⟨n, b, es, z1, z2.keepI ki (notR_ec T) (notR_rc T)⟩) (show st.at_ + 1 ≤ X.ts.length by omega) (show st.calls.length ≤ st.at_ + 1 by have := hR.cn; omega) (show st.num.length ≤ st.at_ + 1 by have := hR.nn; omega))

end
end K34
namespace K34
open PySem L2 TL
section
variable {P : Program} {w : World} {K : PySem.W.Frag} {mg : Str → Option Value} {base : Heap} {A : Ads}
theorem ok_Reader_call_row (T : Txt K mg A) : FnOk P w K mg base (L2N.CX P w) 12 A.Reader_call_row A.Reader_call_row_d ["self", "number", "words"] (spCallRow K A.rc A.ec A.Reader A.NoProgram) := by
  have G_check_names := ok_check_names (P := P) (w := w) (base := base) T
  have G_Call_init := ok_Call_init (P := P) (w := w) (base := base) T
  have G_exprs_of := ok_exprs_of (P := P) (w := w) (base := base) T
  refine okN T.F_Reader_call_row sc_Reader_call_row (fun vs H Q E h => ?_) (fun cdv A0 outer s H vs Q E hr h => ?_)
  · obtain ⟨X, st, num, w, ws, rfl, hR, hS, hwc, hne, hsm, hcn, q1, q2⟩ := h
    rfl
  obtain ⟨X, st, num, w, ws, rfl, hR, hS, hwc, hne, hsm, hcn, q1, q2⟩ := h
  refine ⟨_, (pss_cons (ps_expr (pe_call G_check_names (hr.mono (by decide)) rfl T.m_check_names T.F_check_names.kp T.b_check_names .nil (L2N.passes_call (L2N.takes_of rfl rfl rfl rfl) (fun _ _ _ _ h => h)) (pa_cons (pe_slice sl_list (pv 2) (po_some pe_int) (po_some pe_int)) (pa_cons pe_int pa_nil))))
   (pss_cons (ps_set (i := 3) sc_Reader_call_row.nd rfl (Or.inl rfl) (pe_make T.k_Call G_Call_init (hr.mono (by decide)) rfl T.m_Call T.b_Call_init .nil pass0 (pa_cons (pv 1) (pa_cons (pe_ix ix_list (pv 2) pe_int (fun _ _ => rfl)) (pa_cons (pe_ix ix_list (pv 2) pe_int (fun _ _ => rfl)) (pa_cons (pe_call G_exprs_of (hr.mono (by decide)) rfl T.m_exprs_of T.F_exprs_of.kp T.b_exprs_of .nil (L2N.passes_call (L2N.takes_of rfl rfl rfl rfl) (fun _ _ _ _ h => h)) (pa_cons (pe_slice sl_list (pv 2) (po_some pe_int) po_none) pa_nil)) pa_nil))))))
   (pss_cons (ps_expr (pe_bm PySem.F.plainAttrs_list PySem.F.slot_list_append PySem.F.type_list_append mt_append (pe_fld (pv 0) rfl) (pa_cons (pv 3) pa_nil)))
   (pss_one (ps_ret (pv 3)))))), ?_⟩
  unfold callF at q2
  refine ⟨_, rfl, 1, rfl, 3, rfl, w, _, rfl, hS, fun l1 hl1 => ?_⟩
  rw [show ((1 : Int) = ((1 : Nat) : Int)) from rfl, show ((3 : Int) = ((3 : Nat) : Int)) from rfl, cut_mid]
  have s1 := same_new (o := .lst (((ws.drop 1).take (3 - 1)).map V.str)) hl1
  refine ⟨l1, (ws.drop 1).take 2, 2, rfl, SqL.of upd_same, (hsm.drop 1).take 2, fun ok H1 s2 => ?_, fun no H1 s2 => ?_⟩
  rotate_left
  · exact q2 (if_neg (by rw [no]; decide)) H1 (mv_same (s1.trans s2))
  rw [if_pos ok] at q2
  have hl2 : 2 < ws.length := by have := (names_len ok).1; rw [List.length_take, List.length_drop] at this; omega
  have s12 := s1.trans s2
  refine ⟨_, rfl, _, rfl, w, _, _, _, rfl, rfl, s12.seq hS, at_wd (i := 1) (by omega), ?_⟩
  refine ⟨_, rfl, w, _, _, _, rfl, rfl, s12.seq hS, at_wd (i := 2) hl2, ?_⟩
  refine ⟨_, rfl, 3, rfl, w, _, rfl, s12.seq hS, fun l2 hl2 => ?_⟩
  rw [show ((3 : Int) = ((3 : Nat) : Int)) from rfl, cut_drop]
  have s3 := same_new (o := .lst ((ws.drop 3).map V.str)) hl2
  refine ⟨l2, ws.drop 3, rfl, SqL.of upd_same, (hsm.drop 3).1, (hsm.drop 3).2, fun es pe l3 H2 os s4 hn4 h4 ha => ?_, fun pe H2 s4 => ?_⟩
  rotate_left
  · have pe' : exL (ws.drop 3) = none := pe
    rw [pe'] at q2
    exact q2 rfl H2 (mv_same (s12.trans (s3.trans s4)))
  have s14 := s12.trans (s3.trans s4)
  have pe' : exL (ws.drop 3) = some es := pe
  refine fun x dx hx hdx _ => mk_row (xs := [_, _, _, _]) hx hdx rfl fun H3 s5 g5 => ?_
  have s15 := s14.trans s5
  have hR3 := hR.same s15
  obtain ⟨dxr, k1⟩ := hR3.obj
  obtain ⟨kvs, k2, k3⟩ := hR3.dict
  obtain ⟨os2, k4, k5⟩ := hR3.calls
  have hol := k5.length
  have ncl : l3 ≠ X.cl := fun e => by
    obtain ⟨os3, z1, _⟩ := (hR.same (s12.trans s3)).calls
    rw [← e, hn4] at z1; cases z1
  have nav : l3 ∉ X.av := fun e => by
    obtain ⟨_, _, xs3, z1⟩ := (hR.same (s12.trans s3)).lists l3 e
    rw [hn4] at z1; cases z1
  refine ⟨_, rfl, X.p, A.Reader, dxr, _, _, rfl, k1, T.cl_Reader, T.n_Reader_calls, rfl, .inl ⟨rfl, _, SqL.of k4⟩, _, rfl, X.cl, _, _, rfl, rfl, k4, Nat.lt_of_lt_of_le (show os2.length < 16777216 by have := hR.sm.1; have := hR.at_; omega) (by decide), ?_⟩
  have mv : Mv X H (upd H3 X.cl (.lst (os2 ++ [.ref x]))) := fun z o n h => by
    rw [upd_ne (fun e => n (by rw [e]; simp))]
    exact s15 _ _ h
  have mv3 : Mv X H3 (upd H3 X.cl (.lst (os2 ++ [.ref x]))) := fun z o n h => by
    rw [upd_ne (fun e => n (by rw [e]; simp))]
    exact h
  have ki := hR3.keepI mv3
  have row : RowO A.rc A.ec X.N H3 (num : Int) (.call (wd ws 1) (wd ws 2) es) (.ref x) := ⟨x, dx, l3, os, rfl, g5, ⟨ncl, nav⟩, s5 _ _ h4, allE_same s5 ha⟩
  have row2 := row.keepI ki (notR_ec T) (notR_rc T)
  have e1 : callF ws = some (wd ws 1, wd ws 2, es) := by
    unfold callF
    rw [if_pos ok, pe']; rfl
  refine ⟨_, rfl, q1 _ _ _ _ _ e1 mv (hR.ats (notR_ec T) (notR_rc T) mv (st' := ⟨st.at_, st.num, st.calls ++ [(wd ws 2, es.length)]⟩) (by rw [upd_ne (ne_of k1 k4 (by intro z; cases z))]; exact k1) (by rw [upd_ne (ne_of k2 k4 (by intro z; cases z))]; exact k2) (k3.mono fun x kv h => ⟨h.1, h.2.keepI ki (notR_ec T) (notR_rc T)⟩) upd_same ((k5.mono fun f v ⟨n, b, es, z1, z2⟩ => ⟨n, b, es, z1, z2.keepI ki (notR_ec T) (notR_rc T)⟩).snoc ⟨_, _, es, rfl, row2⟩) hR.at_ (by rw [List.length_append, List.length_singleton]; exact hcn) hR.nn) row2⟩

end
end K34
namespace K34
open PySem L2 TL
section
variable {P : Program} {w : World} {K : PySem.W.Frag} {mg : Str → Option Value} {base : Heap} {A : Ads}
theorem ok_Reader_row_with_rows (T : Txt K mg A) {m : Nat} (G_Reader_block : FnOk P w K mg base (L2N.CX P w) (3 * m + 12) A.Reader_block A.Reader_block_d ["self", "within"] (spBlk K A.rc A.ec A.Reader A.NoProgram m)) : FnOk P w K mg base (L2N.CX P w) (3 * m + 13) A.Reader_row_with_rows A.Reader_row_with_rows_d ["self", "number", "words", "within"] (spRows K A.rc A.ec A.Reader A.NoProgram m) := by
  have G_only := ok_only (P := P) (w := w) (base := base) T
  have G_exprs_of := ok_exprs_of (P := P) (w := w) (base := base) T
  have G_Reader_pass_line := ok_Reader_pass_line (P := P) (w := w) (base := base) T
  have G_Loop_init := ok_Loop_init (P := P) (w := w) (base := base) T
  have G_Choice_init := ok_Choice_init (P := P) (w := w) (base := base) T
  refine okN T.F_Reader_row_with_rows sc_Reader_row_with_rows (fun vs H Q E h => ?_) (fun cdv A0 outer s H vs Q E hr h => ?_)
  · obtain ⟨X, st, num, w, ws, rfl, hR, hS, hwc, hne, hsm, q1, q2⟩ := h
    rfl
  obtain ⟨X, st, num, w, ws, rfl, hR, hS, hwc, hne, hsm, q1, q2⟩ := h
  refine ⟨_, (pss_cons (ps_if (pt_cmpR op_gt (pv 3) (pe_glob (v := .int 5) (by rfl) T.c_MOST_WITHIN.choose_spec ⟨_, rfl⟩) (nomark _))
    (pss_one (L2N.ps_raise rfl (L2N.takes_of rfl rfl rfl rfl) (L2N.pmk_own PySem.F.excBase_ValueError T.x_NoProgram T.m_NoProgram T.kk_NoProgram (raises_own T.bb_NoProgram T.tt_NoProgram) (by exact rfl))))
    pss_nil)
   (pss_cons (ps_set (i := 4) sc_Reader_row_with_rows.nd rfl (Or.inl rfl) (pe_call G_only (hr.mono (by omega)) rfl T.m_only T.F_only.kp T.b_only .nil (L2N.passes_call (L2N.takes_of rfl rfl rfl rfl) (fun _ _ _ _ h => h)) (pa_cons (pe_call G_exprs_of (hr.mono (by omega)) rfl T.m_exprs_of T.F_exprs_of.kp T.b_exprs_of .nil (L2N.passes_call (L2N.takes_of rfl rfl rfl rfl) (fun _ _ _ _ h => h)) (pa_cons (pe_slice sl_list (pv 2) (po_some pe_int) po_none) pa_nil)) pa_nil)))
   (pss_cons (ps_set (i := 5) sc_Reader_row_with_rows.nd rfl (Or.inl rfl) (pe_meth (pv 0) T.cl_Reader T.me_Reader_block G_Reader_block (hr.mono (by omega)) T.b_Reader_block .nil (L2N.passes_call (L2N.takes_of rfl rfl rfl rfl) (fun _ _ _ _ h => h)) (pa_cons (pv 3) pa_nil)))
   (pss_cons (ps_if (pt_cmpR op_eq (pe_ix ix_list (pv 2) pe_int (fun _ _ => rfl)) pe_str (nomark _))
    (pss_cons (ps_expr (pe_meth (pv 0) T.cl_Reader T.me_Reader_pass_line G_Reader_pass_line (hr.mono (by omega)) T.b_Reader_pass_line .nil (L2N.passes_call (L2N.takes_of rfl rfl rfl rfl) (fun _ _ _ _ h => h)) (pa_cons pe_str pa_nil)))
   (pss_one (ps_ret (pe_make T.k_Loop G_Loop_init (hr.mono (by omega)) rfl T.m_Loop T.b_Loop_init .nil pass0 (pa_cons (pv 1) (pa_cons (pv 4) (pa_cons (pv 5) pa_nil)))))))
    pss_nil)
   (pss_cons (ps_expr (pe_meth (pv 0) T.cl_Reader T.me_Reader_pass_line G_Reader_pass_line (hr.mono (by omega)) T.b_Reader_pass_line .nil (L2N.passes_call (L2N.takes_of rfl rfl rfl rfl) (fun _ _ _ _ h => h)) (pa_cons pe_str pa_nil)))
   (pss_cons (ps_set (i := 6) sc_Reader_row_with_rows.nd rfl (Or.inl rfl) (pe_meth (pv 0) T.cl_Reader T.me_Reader_block G_Reader_block (hr.mono (by omega)) T.b_Reader_block .nil (L2N.passes_call (L2N.takes_of rfl rfl rfl rfl) (fun _ _ _ _ h => h)) (pa_cons (pv 3) pa_nil)))
   (pss_cons (ps_expr (pe_meth (pv 0) T.cl_Reader T.me_Reader_pass_line G_Reader_pass_line (hr.mono (by omega)) T.b_Reader_pass_line .nil (L2N.passes_call (L2N.takes_of rfl rfl rfl rfl) (fun _ _ _ _ h => h)) (pa_cons pe_str pa_nil)))
   (pss_one (ps_ret (pe_make T.k_Choice G_Choice_init (hr.mono (by omega)) rfl T.m_Choice T.b_Choice_init .nil pass0 (pa_cons (pv 1) (pa_cons (pv 4) (pa_cons (pv 5) (pa_cons (pv 6) pa_nil)))))))))))))), ?_⟩
  unfold rowsF at q1 q2
  refine ⟨_, rfl, _, _, rfl, rfl, _, rfl, iteD2 (fun c1 => ?_) (fun c1 => ?_)⟩
  · have hm0 : ¬ 0 < m := by omega
    refine q2 ?_ H (mv_same (Same.refl H))
    rw [decide_eq_false hm0]; rfl
  have hm0 : 0 < m := by omega
  rw [decide_eq_true hm0, if_pos rfl] at q2
  rw [decide_eq_true hm0] at q1
  simp only [if_true] at q1
  refine ⟨_, rfl, 1, rfl, w, _, rfl, hS, fun l2 hl2 => ?_⟩
  rw [show ((1 : Int) = ((1 : Nat) : Int)) from rfl, cut_drop]
  have s3 := same_new (o := .lst ((ws.drop 1).map V.str)) hl2
  refine ⟨l2, ws.drop 1, rfl, SqL.of upd_same, (hsm.drop 1).1, (hsm.drop 1).2, fun es pe l3 H2 os s4 hn4 h4 ha => ?_, fun pe H2 s4 => ?_⟩
  rotate_left
  · have pe' : exL (ws.drop 1) = none := pe
    rw [pe'] at q2
    exact q2 rfl H2 (mv_same (s3.trans s4))
  have s34 := s3.trans s4
  have pe' : exL (ws.drop 1) = some es := pe
  rw [pe'] at q1 q2
  refine ⟨l3, os, rfl, h4, fun v hv => ?_, fun hn => ?_⟩
  rotate_left
  · rw [(allE_one ha).2 hn] at q2
    exact q2 rfl H2 (mv_same s34)
  obtain ⟨e, rfl, ho⟩ := (allE_one ha).1 v hv
  simp only [only1] at q1 q2
  have hR2 := hR.same s34
  obtain ⟨dx2, o2⟩ := hR2.obj
  refine ⟨_, rfl, X.p, dx2, _, rfl, o2, rfl, _, rfl, X, st, rfl, hR2, hm0, fun st2 first H3 b1 mv1 hR3 => ?_, fun b1 H3 mv1 => ?_⟩
  rotate_left
  · rw [b1] at q2
    exact q2 rfl H3 ((mv_same s34).trans mv1)
  rw [b1] at q1 q2
  simp only at q1 q2
  have mv3 := (mv_same (X := X) s34).trans mv1
  have ho3 := ho.keepI (hR2.keepI mv1) (notR_ec T)
  have hS3 := hR.seq mv3 hwc hS
  refine ⟨_, rfl, w, _, _, _, rfl, rfl, hS3, at_hd hne, rfl, _, rfl, iteD2 (fun c2 => ?_) (fun c2 => ?_)⟩
  · rw [if_pos (V.str.inj c2)] at q2
    simp only [if_pos (V.str.inj c2)] at q1
    obtain ⟨dx3, o3⟩ := hR3.obj
    refine ⟨_, rfl, X.p, dx3, _, rfl, o3, rfl, X, st2, _, rfl, hR3, fun st3 H4 p1 mv4 hR4 => ?_, fun p1 H4 mv4 => ?_⟩
    rotate_left
    · rw [p1] at q2
      exact q2 rfl H4 (mv3.trans mv4)
    rw [p1] at q1
    have ho4 := ho3.keepI (hR3.keepI mv4) (notR_ec T)
    refine ⟨_, rfl, _, rfl, _, rfl, fun x dx hx hdx _ => mk_row (xs := [_, _, _]) hx hdx rfl fun H5 s5 g5 => ?_⟩
    exact q1 _ _ _ H5 rfl ((mv3.trans mv4).trans (mv_same s5)) (hR4.same s5) ⟨x, dx, v, first, rfl, g5, ho4.same s5⟩
  · have c2' : ¬ hd0 ws = "while" := fun e => c2 (congrArg V.str e)
    rw [if_neg c2'] at q2
    simp only [if_neg c2'] at q1
    obtain ⟨dx3, o3⟩ := hR3.obj
    refine ⟨_, rfl, X.p, dx3, _, rfl, o3, rfl, X, st2, _, rfl, hR3, fun st3 H4 p1 mv4 hR4 => ?_, fun p1 H4 mv4 => ?_⟩
    rotate_left
    · rw [p1] at q2
      exact q2 rfl H4 (mv3.trans mv4)
    rw [p1] at q1 q2
    simp only at q1 q2
    have ho4 := ho3.keepI (hR3.keepI mv4) (notR_ec T)
    obtain ⟨dx4, o4⟩ := hR4.obj
    refine ⟨_, rfl, X.p, dx4, _, rfl, o4, rfl, _, rfl, X, st3, rfl, hR4, hm0, fun st4 second H5 b2 mv5 hR5 => ?_, fun b2 H5 mv5 => ?_⟩
    rotate_left
    · rw [b2] at q2
      exact q2 rfl H5 ((mv3.trans mv4).trans mv5)
    rw [b2] at q1 q2
    simp only at q1 q2
    have ho5 := ho4.keepI (hR4.keepI mv5) (notR_ec T)
    obtain ⟨dx5, o5⟩ := hR5.obj
    refine ⟨_, rfl, X.p, dx5, _, rfl, o5, rfl, X, st4, _, rfl, hR5, fun st5 H6 p2 mv6 hR6 => ?_, fun p2 H6 mv6 => ?_⟩
    rotate_left
    · rw [p2] at q2
      exact q2 rfl H6 (((mv3.trans mv4).trans mv5).trans mv6)
    rw [p2] at q1
    have ho6 := ho5.keepI (hR5.keepI mv6) (notR_ec T)
    refine ⟨_, rfl, _, rfl, _, rfl, _, rfl, fun x dx hx hdx _ => mk_row (xs := [_, _, _, _]) hx hdx rfl fun H7 s7 g7 => ?_⟩
    exact q1 _ _ _ H7 rfl ((((mv3.trans mv4).trans mv5).trans mv6).trans (mv_same s7)) (hR6.same s7) ⟨x, dx, v, first, second, rfl, g7, ho6.same s7⟩

theorem rc_cls (T : Txt K mg A) : ∀ rt : RT, Cls K (A.rc.of rt) ∧ NoAttr K (A.rc.of rt) "number"
  | .skip => ⟨T.cl_Skip, T.n_Skip_number⟩
  | .set _ _ => ⟨T.cl_Set, T.n_Set_number⟩
  | .put _ _ => ⟨T.cl_Put, T.n_Put_number⟩
  | .ask _ _ _ => ⟨T.cl_Ask, T.n_Ask_number⟩
  | .draw _ _ => ⟨T.cl_Draw, T.n_Draw_number⟩
  | .tell _ => ⟨T.cl_Tell, T.n_Tell_number⟩
  | .ifr _ => ⟨T.cl_Choice, T.n_Choice_number⟩
  | .loop _ => ⟨T.cl_Loop, T.n_Loop_number⟩
  | .call _ _ _ => ⟨T.cl_Call, T.n_Call_number⟩
  | .give _ => ⟨T.cl_Give, T.n_Give_number⟩

theorem joinL_mem {b : List Nat} : ∀ {ps : List (List Nat)} {p : List Nat}, p ∈ ps → ∀ c ∈ p, c ∈ joinL b ps
  | [], _, h => by cases h
  | [x], p, h => by
    rw [List.mem_singleton.mp h]
    exact fun c hc => hc
  | x :: y :: r, p, h => by
    intro c hc
    show c ∈ x ++ (b ++ joinL b (y :: r))
    rcases List.mem_cons.mp h with rfl | h
    · exact List.mem_append.mpr (.inl hc)
    · exact List.mem_append.mpr (.inr (List.mem_append.mpr (.inr (joinL_mem h c hc))))
theorem split_cod {s : Str} (h : PyData.strOk s = true) (t : Str) : ∀ p ∈ Txt.split s t, PyData.strOk p = true := by
  intro p hp
  have e2 := congrArg tl (PySem.StrLaws.join_split s t)
  rw [tl_join] at e2
  unfold PyData.strOk at h ⊢
  rw [← Array.all_toList] at h ⊢
  refine List.all_eq_true.mpr fun c hc => ?_
  refine List.all_eq_true.mp h c ?_
  show c ∈ tl s
  rw [← e2]
  exact joinL_mem (List.mem_map.mpr ⟨p, hp, rfl⟩) c hc
theorem words_cod {ts : List Str} (h : ∀ t ∈ ts, PyData.strOk t = true) (i : Nat) : Codes (wordsAt ts i) := fun s hs => by
  refine split_cod ?_ _ s hs
  rw [List.getD_eq_getElem?_getD]
  by_cases hi : i < ts.length
  · rw [List.getElem?_eq_getElem hi]; exact h _ (List.getElem_mem hi)
  · rw [List.getElem?_eq_none (by omega)]; decide +kernel
theorem wd_size {ts : List Str} (h : ∀ t ∈ ts, t.length ≤ 99999) {i : Nat} (hi : i < ts.length) : (wd ts i).length + 2 ≤ sizeLine := by
  have : (wd ts i).length ≤ 99999 := by
    unfold wd
    rw [List.getD_eq_getElem?_getD, List.getElem?_eq_getElem hi]
    exact h _ (List.getElem_mem hi)
  exact sizeL2 (by omega)
theorem all2_find {α : Type} {R : α → Key × V → Prop} {p : α → Bool} {k : Key} (hp : ∀ a kv, R a kv → p a = decide (kv.1 = k)) : ∀ {as : List α} {kvs : List (Key × V)}, All2 R as kvs →
    (as.find? p = none ∧ valV kvs k = none) ∨ ∃ a v, a ∈ as ∧ as.find? p = some a ∧ p a = true ∧ valV kvs k = some v ∧ R a (k, v)
  | _, _, .nil => .inl ⟨rfl, rfl⟩
  | a :: as, kv :: kvs, .cons h t => by
    have e := hp a kv h
    by_cases c : kv.1 = k
    · rw [decide_eq_true c] at e
      refine .inr ⟨a, kv.2, List.mem_cons_self, by rw [List.find?_cons, e], e, valV_pos c, ?_⟩
      rw [← c]; exact h
    · rw [decide_eq_false c] at e
      rcases all2_find hp t with ⟨e1, e2⟩ | ⟨b, v, hb, e1, e3, e2, hr⟩
      · exact .inl ⟨by rw [List.find?_cons, e]; exact e1, by rw [valV_neg c]; exact e2⟩
      · exact .inr ⟨b, v, List.mem_cons_of_mem _ hb, by rw [List.find?_cons, e]; exact e1, e3, by rw [valV_neg c]; exact e2, hr⟩

end
end K34
namespace K34
open PySem L2 TL
section
variable {P : Program} {w : World} {K : PySem.W.Frag} {mg : Str → Option Value} {base : Heap} {A : Ads}
theorem ok_Reader_one_row (T : Txt K mg A) {m : Nat} (G_Reader_row_with_rows : FnOk P w K mg base (L2N.CX P w) (3 * m + 13) A.Reader_row_with_rows A.Reader_row_with_rows_d ["self", "number", "words", "within"] (spRows K A.rc A.ec A.Reader A.NoProgram m)) : FnOk P w K mg base (L2N.CX P w) (3 * m + 14) A.Reader_one_row A.Reader_one_row_d ["self", "within"] (spOne K A.rc A.ec A.Reader A.NoProgram m) := by
  have G_Reader_call_row := ok_Reader_call_row (P := P) (w := w) (base := base) T
  have G_simple_row := ok_simple_row (P := P) (w := w) (base := base) T
  refine okN T.F_Reader_one_row sc_Reader_one_row (fun vs H Q E h => ?_) (fun cdv A0 outer s H vs Q E hr h => ?_)
  · obtain ⟨X, st, rfl, hR, hat, q1, q2⟩ := h
    rfl
  obtain ⟨X, st, rfl, hR, hat, q1, q2⟩ := h
  refine ⟨_, (pss_cons (ps_set (i := 2) sc_Reader_one_row.nd rfl (Or.inl rfl) (pe_fld (pv 0) rfl))
   (pss_cons (ps_set (i := 3) sc_Reader_one_row.nd rfl (Or.inl rfl) (pe_split (pe_ix ix_list (pe_fld (pv 0) rfl) (pv 2) (fun _ _ => rfl)) pe_str))
   (pss_cons (ps_fldaug (pv 0) pe_int in_add)
   (pss_cons (ps_ifC (PW.pt (pw_or (pt_cmpR op_eq (pe_ix ix_list (pv 3) pe_int (fun _ _ => rfl)) pe_str (nomark _)) (pw_or1 (pt_cmpR op_eq (pe_ix ix_list (pv 3) pe_int (fun _ _ => rfl)) pe_str (nomark _)))))
    (pss_one (ps_ret (pe_meth (pv 0) T.cl_Reader T.me_Reader_row_with_rows G_Reader_row_with_rows (hr.mono (by omega)) T.b_Reader_row_with_rows .nil (L2N.passes_call (L2N.takes_of rfl rfl rfl rfl) (fun _ _ _ _ h => h)) (pa_cons (pv 2) (pa_cons (pv 3) (pa_cons (pe_op op_add (pv 1) pe_int) pa_nil))))))
    pss_nil)
   (pss_cons (ps_if (pt_cmpR op_eq (pe_ix ix_list (pv 3) pe_int (fun _ _ => rfl)) pe_str (nomark _))
    (pss_one (ps_ret (pe_meth (pv 0) T.cl_Reader T.me_Reader_call_row G_Reader_call_row (hr.mono (by omega)) T.b_Reader_call_row .nil (L2N.passes_call (L2N.takes_of rfl rfl rfl rfl) (fun _ _ _ _ h => h)) (pa_cons (pv 2) (pa_cons (pv 3) pa_nil)))))
    pss_nil)
   (pss_one (ps_ret (pe_call G_simple_row (hr.mono (by omega)) rfl T.m_simple_row T.F_simple_row.kp T.b_simple_row .nil (L2N.passes_call (L2N.takes_of rfl rfl rfl rfl) (fun _ _ _ _ h => h)) (pa_cons (pv 2) (pa_cons (pv 3) pa_nil)))))))))), ?_⟩
  unfold oneF at q1 q2
  obtain ⟨dx, h1⟩ := hR.obj
  have hok := wordsAt_ok hR.sm.2 st.at_
  refine ⟨_, rfl, X.p, A.Reader, dx, _, _, rfl, h1, T.cl_Reader, T.n_Reader_at, rfl, _, rfl, X.p, A.Reader, dx, _, _, rfl, h1, T.cl_Reader, T.n_Reader_texts, rfl, _, rfl, X.a, _, _, _, rfl, rfl, (SqL.of hR.txts), at_wd hat, ⟨_, rfl⟩, _, _, rfl, rfl, (by decide +kernel), ?_, fun l hl => ?_⟩
  · have : (wd X.ts st.at_).length ≤ 99999 := by
      unfold wd
      rw [List.getD_eq_getElem?_getD, List.getElem?_eq_getElem hat]
      exact hR.sm.2 _ (List.getElem_mem hat)
    exact sizeL2 (by omega)
  have s1 := same_new (o := .lst ((wordsAt X.ts st.at_).map V.str)) hl
  have hR1 := hR.same s1
  have k1 := s1 _ _ h1
  refine ⟨_, rfl, X.p, A.Reader, dx, _, _, rfl, k1, T.cl_Reader, T.n_Reader_at, rfl, _, _, rfl, rfl, dx, _, k1, (by show 4 < 1000; decide), ?_⟩
  obtain ⟨mv2, hR2⟩ := hR1.step (notR_ec T) (notR_rc T) hat k1
  show tSeq _ _ _ _ (upd (upd H l (.lst ((wordsAt X.ts st.at_).map V.str))) X.p (.ins A.Reader dx (putF "at" (V.int (((st.at_ : Nat) : Int) + 1)) (rdF X st))))
  generalize hG : upd (upd H l (.lst ((wordsAt X.ts st.at_).map V.str))) X.p (.ins A.Reader dx (putF "at" (V.int (((st.at_ : Nat) : Int) + 1)) (rdF X st))) = H2 at mv2 hR2 ⊢
  have nlcl : l ≠ X.cl := fun e => by
    obtain ⟨os, z, _⟩ := hR.calls
    rw [← e, hl] at z; cases z
  have mv := (mv_same (X := X) s1).trans mv2
  have hS2 : SqL K H2 l ((wordsAt X.ts st.at_).map V.str) := hR1.seq mv2 nlcl (SqL.of upd_same)
  have hne := hok.2
  obtain ⟨dx2, o2⟩ := hR2.obj
  refine ⟨decide (hd0 (wordsAt X.ts st.at_) = "if" ∨ hd0 (wordsAt X.ts st.at_) = "while"), H2, fun Z hZ => ?_, ?_⟩
  · refine ⟨_, rfl, l, _, _, _, rfl, rfl, hS2, at_hd hne, rfl, _, rfl, iteD2 (fun c1 => ?_) (fun c1 => ?_)⟩
    · exact zTrue hZ (.inl (V.str.inj c1))
    · refine ⟨_, rfl, l, _, _, _, rfl, rfl, hS2, at_hd hne, rfl, _, rfl, ?_⟩
      by_cases c2 : hd0 (wordsAt X.ts st.at_) = "while"
      · rw [decide_eq_true (congrArg V.str c2)]; exact zTrue hZ (.inr c2)
      · rw [decide_eq_false (fun e => c2 (V.str.inj e))]
        exact zFalse hZ fun h => h.elim (fun e => c1 (congrArg V.str e)) c2
  refine iteD2 (fun c1 => ?_) (fun c1 => ?_)
  · rw [if_pos c1] at q2
    simp only [if_pos c1] at q1
    refine ⟨_, rfl, X.p, dx2, _, rfl, o2, rfl, _, rfl, _, rfl, _, rfl, _, _, rfl, rfl, ?_⟩
    refine ⟨X, _, st.at_, l, _, ?_, hR2, hS2, nlcl, hne, hok.1, fun rt st' v H' e mv' hR' ho => q1 rt st' v H' e (mv.trans mv') hR' ho, fun e H' mv' => q2 e H' (mv.trans mv')⟩
    show _ = [V.ref X.p, .int (st.at_ : Int), .ref l, .int (6 - (m : Int))]
    rw [show (6 : Int) - m = 5 - m + 1 from by omega]
    rfl
  rw [if_neg c1] at q2
  simp only [if_neg c1] at q1
  refine ⟨_, rfl, l, _, _, _, rfl, rfl, hS2, at_hd hne, rfl, _, rfl, iteD2 (fun c2 => ?_) (fun c2 => ?_)⟩
  · rw [if_pos (V.str.inj c2)] at q2
    simp only [if_pos (V.str.inj c2)] at q1
    refine ⟨_, rfl, X.p, dx2, _, rfl, o2, rfl, _, rfl, _, rfl, ?_⟩
    refine ⟨X, _, st.at_, l, _, rfl, hR2, hS2, nlcl, hne, hok.1, Nat.lt_succ_of_le hR.cn, fun b f es v H' e mv' hR' ho => ?_, fun e H' mv' => ?_⟩
    · exact q1 _ _ v H' (by rw [e]) (mv.trans mv') hR' ho
    · exact q2 (by rw [e]) H' (mv.trans mv')
  · have c2' : ¬ hd0 (wordsAt X.ts st.at_) = "call" := fun e => c2 (congrArg V.str e)
    rw [if_neg c2'] at q2
    simp only [if_neg c2'] at q1
    refine ⟨_, rfl, _, rfl, st.at_, l, _, rfl, hS2, hne, hok.1, words_cod hR.cod st.at_, fun rt v H' e s' ho => ?_, fun e H' s' => ?_⟩
    · exact q1 _ _ v H' (by rw [e]; rfl) (mv.trans (mv_same s')) (hR2.same s') (ho _)
    · exact q2 (by rw [e]; rfl) H' (mv.trans (mv_same s'))

end
end K34
namespace K34
open PySem L2 TL
section
variable {P : Program} {w : World} {K : PySem.W.Frag} {mg : Str → Option Value} {base : Heap} {A : Ads}
theorem ok_Reader_block (T : Txt K mg A) : ∀ n : Nat, FnOk P w K mg base (L2N.CX P w) (3 * n + 12) A.Reader_block A.Reader_block_d ["self", "within"] (spBlk K A.rc A.ec A.Reader A.NoProgram n)
| 0 => fn_none fun vs H Q E h => by
    obtain ⟨X, st, _, _, h1, _⟩ := h; omega
| n + 1 => by
  have G_Reader_block := ok_Reader_block T n
  have G_Reader_head := ok_Reader_head (P := P) (w := w) (base := base) T
  have G_Reader_row_with_rows := ok_Reader_row_with_rows (P := P) (w := w) (base := base) T G_Reader_block
  have G_Reader_one_row := ok_Reader_one_row (P := P) (w := w) (base := base) T G_Reader_row_with_rows
  refine okN T.F_Reader_block sc_Reader_block (fun vs H Q E h => ?_) (fun cdv A0 outer s H vs Q E hr h => ?_)
  · obtain ⟨X, st, rfl, hR, hn, q1, q2⟩ := h
    rfl
  obtain ⟨X, st, rfl, hR, hn, q1, q2⟩ := h
  refine ⟨_, (pss_cons (ps_set (i := 2) sc_Reader_block.nd rfl (Or.inl rfl) (pe_lst pa_nil))
   (pss_cons (ps_while (passes_of rfl) (pt_cmpR op_in_seq (pe_meth0 (pv 0) T.cl_Reader T.me_Reader_head G_Reader_head (hr.mono (by omega)) T.b_Reader_head .nil pass0) (pe_glob (v := .ref A.ROWS) (by rfl) T.m_ROWS rfl) (by rfl))
    (pss_cons (ps_set (i := 3) sc_Reader_block.nd rfl (Or.inl rfl) (pe_meth (pv 0) T.cl_Reader T.me_Reader_one_row G_Reader_one_row (hr.mono (by omega)) T.b_Reader_one_row .nil (L2N.passes_call (L2N.takes_of rfl rfl rfl rfl) (fun _ _ _ _ h => h)) (pa_cons (pv 1) pa_nil)))
   (pss_cons (ps_dput (hu_of hr) (pe_fld (pv 0) rfl) (pe_fld (pv 3) rfl) (pv 3) rfl)
   (pss_one (ps_expr (pe_bm PySem.F.plainAttrs_list PySem.F.slot_list_append PySem.F.type_list_append mt_append (pv 2) (pa_cons (pv 3) pa_nil)))))))
   (pss_one (ps_ret (pv 2))))), ?_⟩
  refine ⟨by show 0 ≤ sizeLine; decide, fun l hl => ?_⟩
  have ew : (6 : Int) - ((n + 1 : Nat) : Int) = 5 - (n : Int) := by omega
  have s0 := same_new (o := .lst ([] : List V)) hl
  refine while_m (fun m σ H' => ∃ (st' : RS) (f : Nat) (os : List V) (z : Option V), σ = [some (.ref X.p), some (.int (6 - ((n + 1 : Nat) : Int))), some (.ref l), z] ∧ m = X.ts.length - st'.at_ ∧ Mv X H H' ∧ RdH K A.rc A.ec A.Reader (X.add l) H' st' ∧ H' l = some (.lst os) ∧ os.length ≤ st'.at_ ∧ X.ts.length + 1 ≤ f + st'.at_ ∧ blkF X.ts (oneF X.ts (rowsF X.ts (blockF X.ts n) (decide (0 < n)))) f st' = blockF X.ts (n + 1) st) (X.ts.length - st.at_)
    ⟨st, X.ts.length + 1, [], none, rfl, rfl, mv_same s0, hR.add hl, upd_same, Nat.zero_le _, Nat.le_add_right _ _, rfl⟩ ?_
  rintro m σ H1 ⟨st1, f, os, z, rfl, rfl, mv1, hR1, h1, hos, hf, hb⟩
  have hat1 := hR1.at_
  obtain ⟨f, rfl⟩ : ∃ f', f = f' + 1 := ⟨f - 1, by have : st1.at_ ≤ X.ts.length := hat1; omega⟩
  obtain ⟨dx1, o1⟩ := hR1.obj
  refine ⟨_, rfl, X.p, dx1, _, rfl, o1, rfl, X.add l, st1, rfl, hR1, fun H2 s2 => ?_⟩
  have hR2 := hR1.same s2
  have mv2 := mv1.trans (mv_same s2)
  refine ⟨A.ROWS, ROWW.map V.str, rfl, .inr (T.q_ROWS _), ?_, rfl, _, rfl, ?_⟩
  · unfold headV; cases headAt (X.add l).ts st1.at_ <;> rfl
  rw [if_neg Bool.false_ne_true]
  have hb' := hb
  unfold blkF at hb'
  unfold headV
  show if inV (match headAt X.ts st1.at_ with | some w => V.str w | none => V.non) (ROWW.map V.str) = true then _ else _
  cases hh : headAt X.ts st1.at_ with
  | none =>
    rw [hh] at hb'
    refine iteF ⟨_, rfl, q1 st1 _ H2 hb'.symm mv2 hR2.drop⟩
  | some w =>
    rw [hh] at hb'
    simp only at hb'
    rw [inV_str]
    refine iteD2 (fun c1 => ?_) (fun c1 => ?_)
    rotate_left
    · rw [if_neg c1] at hb'
      exact ⟨_, rfl, q1 st1 _ H2 hb'.symm mv2 hR2.drop⟩
    rw [if_pos c1] at hb'
    obtain ⟨hlt, hw⟩ := headAt_lt hh
    refine ⟨fun σ' H' => ∃ (st' : RS) (f : Nat) (os : List V) (z : Option V), st1.at_ < st'.at_ ∧ st'.at_ ≤ X.ts.length ∧ σ' = [some (.ref X.p), some (.int (6 - ((n + 1 : Nat) : Int))), some (.ref l), z] ∧ Mv X H H' ∧ RdH K A.rc A.ec A.Reader (X.add l) H' st' ∧ H' l = some (.lst os) ∧ os.length ≤ st'.at_ ∧ X.ts.length + 1 ≤ f + st'.at_ ∧ blkF X.ts (oneF X.ts (rowsF X.ts (blockF X.ts n) (decide (0 < n)))) f st' = blockF X.ts (n + 1) st,
      fun σ' H' ⟨st', f, os, z, g1, g2, hσ, k⟩ => ⟨X.ts.length - st'.at_, by omega, st', f, os, z, hσ, rfl, k⟩, ?_⟩
    obtain ⟨dx2, o2⟩ := hR2.obj
    refine ⟨_, rfl, X.p, dx2, _, rfl, o2, rfl, _, rfl, X.add l, st1, ?_, hR2, hlt, fun rt st2 v H3 e3 mv3 hR3 ho => ?_, fun e3 H3 mv3 => ?_⟩
    · show [V.ref X.p, V.int (6 - ((n + 1 : Nat) : Int))] = [V.ref X.p, V.int (5 - (n : Int))]
      rw [ew]
    rotate_left
    · have e3' : oneF X.ts (rowsF X.ts (blockF X.ts n) (decide (0 < n))) st1 = none := e3
      rw [e3'] at hb'
      exact q2 hb'.symm H3 (mv2.trans mv3)
    have e3' : oneF X.ts (rowsF X.ts (blockF X.ts n) (decide (0 < n))) st1 = some (rt, st2) := e3
    rw [e3'] at hb'
    simp only at hb'
    have gr := oneF_gr (fun ws st rt st' h => rowsF_gr (fun st st' h => blockF_gr h) h) e3'
    have hat3 : st2.at_ ≤ X.ts.length := hR3.at_
    have hlt3 : st1.at_ < st2.at_ := (oneF_at (fun ws st rt st' hs h => rowsF_at (fun st st' hs h => blockF_at hs h) hs h) hlt e3').1
    have ncl : l ≠ X.cl := (hR1.lists l List.mem_cons_self).1
    have h2 := s2 _ _ h1
    have h3 := hR2.keepList mv3 ncl h2
    obtain ⟨pr, dr, fr, er, gr1, gr2, gr3⟩ := ho.at
    obtain ⟨dx3, o3⟩ := hR3.obj
    have hn3 : (putN st2.num st1.at_ rt).length ≤ st2.at_ := by
      have := putN_len st2.num st1.at_ rt
      have hnn : st1.num.length ≤ st1.at_ := hR1.nn
      omega
    obtain ⟨kvs, k1, k2, mv4, hR4⟩ := hR3.put (notR_ec T) (notR_rc T) ho hn3
    have k1' : H3 X.d = some (.dK kvs) := k1
    refine ⟨_, rfl, _, rfl, X.p, A.Reader, dx3, _, _, rfl, o3, T.cl_Reader, T.n_Reader_by_number, rfl, _, rfl, pr, _, dr, _, _, er, gr1, (rc_cls T rt).1, (rc_cls T rt).2, gr3, X.d, _, rfl, DPut.k (k := .inl (st1.at_ : Int)) (v := v) k1' (Nat.lt_of_le_of_lt k2 (by decide)), ?_⟩
    have h4 : upd H3 (X.add l).d (.dK (putK kvs (.inl (st1.at_ : Int)) v)) l = some (.lst os) := hR3.keepList mv4 ncl h3
    show tSeq _ _ _ _ (upd H3 (X.add l).d (.dK (putK kvs (.inl (st1.at_ : Int)) v)))
    generalize hG : upd H3 (X.add l).d (.dK (putK kvs (.inl (st1.at_ : Int)) v)) = H4 at mv4 hR4 h4 ⊢
    refine ⟨_, rfl, .inl ⟨rfl, _, SqL.of h4⟩, _, rfl, l, _, _, rfl, rfl, h4, Nat.lt_of_le_of_lt (show os.length ≤ 60 by have := hR1.sm.1; have : st1.at_ ≤ X.ts.length := hat1; have : X.ts.length ≤ 60 := hR1.sm.1; omega) (by decide), ?_⟩
    refine ⟨⟨st2.at_, putN st2.num st1.at_ rt, st2.calls⟩, f, _, _, hlt3, hat3, rfl, ?_, hR4.grow h4, upd_same, ?_, ?_, hb'⟩
    · exact fun z o n h => by
        rw [upd_ne (ne_of_none h hl)]
        exact ((mv2.trans mv3).trans mv4) z o n h
    · rw [List.length_append, List.length_singleton]; show os.length + 1 ≤ st2.at_; omega
    · show X.ts.length + 1 ≤ f + st2.at_; omega

end
end K34
namespace K34
open PySem L2 TL
section
variable {P : Program} {w : World} {K : PySem.W.Frag} {mg : Str → Option Value} {base : Heap} {A : Ads}
theorem ok_Function_init (T : Txt K mg A) : FnOk P w K mg base CX0 1 A.Function_init A.Function_init_d ["self", "name", "params", "body", "give"] (spRI A.Function ["name", "params", "body", "give"]) := by
  refine T.F_Function_init.ok sc_Function_init (fun vs H Q E h => ?_) (fun cdv A0 outer s H vs Q E hr h => ?_)
  · obtain ⟨p, dx, xs, rfl, hl, hp, q⟩ := h
    exact congrArg (· + 1) hl
  obtain ⟨p, dx, xs, rfl, hl, hp, q⟩ := h
  refine ⟨_, (pss_cons (ps_fld (pv 0) (pv 1) rfl)
   (pss_cons (ps_fld (pv 0) (pv 2) rfl)
   (pss_cons (ps_fld (pv 0) (pv 3) rfl)
   (pss_one (ps_fld (pv 0) (pv 4) rfl))))), ?_⟩
  obtain ⟨x0, x1, x2, x3, rfl⟩ : ∃ x0 x1 x2 x3, xs = [x0, x1, x2, x3] := by
    match xs, hl with
    | [x0, x1, x2, x3], _ => exact ⟨x0, x1, x2, x3, rfl⟩
  refine ⟨_, rfl, _, rfl, p, A.Function, dx, _, rfl, hp, T.cl_Function, T.n_Function_name, (by show 0 < 1000; decide), ?_⟩
  refine ⟨_, rfl, _, rfl, p, A.Function, dx, _, rfl, upd_same, T.cl_Function, T.n_Function_params, (by show 1 < 1000; decide), ?_⟩
  refine ⟨_, rfl, _, rfl, p, A.Function, dx, _, rfl, upd_same, T.cl_Function, T.n_Function_body, (by show 2 < 1000; decide), ?_⟩
  refine ⟨_, rfl, _, rfl, p, A.Function, dx, _, rfl, upd_same, T.cl_Function, T.n_Function_give, (by show 3 < 1000; decide), ?_⟩
  rw [upd_upd, upd_upd, upd_upd]
  exact q

end
end K34
namespace K34
open PySem L2 TL
section
variable {P : Program} {w : World} {K : PySem.W.Frag} {mg : Str → Option Value} {base : Heap} {A : Ads}
theorem ok_Reader_function (T : Txt K mg A) : FnOk P w K mg base (L2N.CX P w) 31 A.Reader_function A.Reader_function_d ["self"] (spFunction K A.rc A.ec A.Reader A.NoProgram A.Function) := by
  have G_check_names := ok_check_names (P := P) (w := w) (base := base) T
  have G_Reader_block := ok_Reader_block (P := P) (w := w) (base := base) T 6
  have G_Reader_head := ok_Reader_head (P := P) (w := w) (base := base) T
  have G_Give_init := ok_Give_init (P := P) (w := w) (base := base) T
  have G_only := ok_only (P := P) (w := w) (base := base) T
  have G_exprs_of := ok_exprs_of (P := P) (w := w) (base := base) T
  have G_Function_init := ok_Function_init (P := P) (w := w) (base := base) T
  refine okN T.F_Reader_function sc_Reader_function (fun vs H Q E h => ?_) (fun cdv A0 outer s H vs Q E hr h => ?_)
  · obtain ⟨X, st, rfl, hR, hh, q1, q2⟩ := h
    rfl
  obtain ⟨X, st, rfl, hR, hh, q1, q2⟩ := h
  refine ⟨_, (pss_cons (ps_set (i := 1) sc_Reader_function.nd rfl (Or.inl rfl) (pe_split (pe_ix ix_list (pe_fld (pv 0) rfl) (pe_fld (pv 0) rfl) (fun _ _ => rfl)) pe_str))
   (pss_cons (ps_fldaug (pv 0) pe_int in_add)
   (pss_cons (ps_set (i := 2) sc_Reader_function.nd rfl (Or.inl rfl) (pe_slice sl_list (pv 1) (po_some pe_int) po_none))
   (pss_cons (ps_expr (pe_call G_check_names (hr.mono (by decide)) rfl T.m_check_names T.F_check_names.kp T.b_check_names .nil (L2N.passes_call (L2N.takes_of rfl rfl rfl rfl) (fun _ _ _ _ h => h)) (pa_cons (pe_slice sl_list (pv 1) (po_some pe_int) po_none) (pa_cons (pe_op op_sub (pe_callB call_lenK (by rfl) T.z_len (by decide +kernel) (pa_cons (pv 1) pa_nil)) pe_int) pa_nil))))
   (pss_cons (ps_ifC (PW.pt (pw_or (pt_cmpR op_lt (pe_callB call_lenK (by rfl) T.z_len (by decide +kernel) (pa_cons (pv 1) pa_nil)) pe_int (nomark _)) (pw_or (pt_cmpR op_gt (pe_callB call_lenK (by rfl) T.z_len (by decide +kernel) (pa_cons (pv 2) pa_nil)) (pe_glob (v := .int 3) (by rfl) T.c_MOST_PARAMS.choose_spec ⟨_, rfl⟩) (nomark _)) (pw_or1 (pt_cmpR op_ne (pe_lenTexts rfl (by rfl) T.z_len (by rfl) T.z_set (pv 2)) (pe_callB call_lenK (by rfl) T.z_len (by decide +kernel) (pa_cons (pv 2) pa_nil)) (nomark _))))))
    (pss_one (L2N.ps_raise rfl (L2N.takes_of rfl rfl rfl rfl) (L2N.pmk_own PySem.F.excBase_ValueError T.x_NoProgram T.m_NoProgram T.kk_NoProgram (raises_own T.bb_NoProgram T.tt_NoProgram) (by exact rfl))))
    pss_nil)
   (pss_cons (ps_set (i := 3) sc_Reader_function.nd rfl (Or.inl rfl) (pe_meth (pv 0) T.cl_Reader T.me_Reader_block G_Reader_block (hr.mono (by decide)) T.b_Reader_block .nil (L2N.passes_call (L2N.takes_of rfl rfl rfl rfl) (fun _ _ _ _ h => h)) (pa_cons pe_int pa_nil)))
   (pss_cons (ps_if (pt_cmpR op_ne (pe_meth0 (pv 0) T.cl_Reader T.me_Reader_head G_Reader_head (hr.mono (by decide)) T.b_Reader_head .nil pass0) pe_str (nomark _))
    (pss_one (L2N.ps_raise rfl (L2N.takes_of rfl rfl rfl rfl) (L2N.pmk_own PySem.F.excBase_ValueError T.x_NoProgram T.m_NoProgram T.kk_NoProgram (raises_own T.bb_NoProgram T.tt_NoProgram) (by exact rfl))))
    pss_nil)
   (pss_cons (ps_set (i := 4) sc_Reader_function.nd rfl (Or.inl rfl) (pe_make T.k_Give G_Give_init (hr.mono (by decide)) rfl T.m_Give T.b_Give_init .nil pass0 (pa_cons (pe_fld (pv 0) rfl) (pa_cons (pe_call G_only (hr.mono (by decide)) rfl T.m_only T.F_only.kp T.b_only .nil (L2N.passes_call (L2N.takes_of rfl rfl rfl rfl) (fun _ _ _ _ h => h)) (pa_cons (pe_call G_exprs_of (hr.mono (by decide)) rfl T.m_exprs_of T.F_exprs_of.kp T.b_exprs_of .nil (L2N.passes_call (L2N.takes_of rfl rfl rfl rfl) (fun _ _ _ _ h => h)) (pa_cons (pe_slice sl_list (pe_split (pe_ix ix_list (pe_fld (pv 0) rfl) (pe_fld (pv 0) rfl) (fun _ _ => rfl)) pe_str) (po_some pe_int) po_none) pa_nil)) pa_nil)) pa_nil))))
   (pss_cons (ps_dput (hu_of hr) (pe_fld (pv 0) rfl) (pe_fld (pv 0) rfl) (pv 4) rfl)
   (pss_cons (ps_fldaug (pv 0) pe_int in_add)
   (pss_one (ps_ret (pe_make T.k_Function G_Function_init (hr.mono (by decide)) rfl T.m_Function T.b_Function_init .nil pass0 (pa_cons (pe_ix ix_list (pv 1) pe_int (fun _ _ => rfl)) (pa_cons (pv 2) (pa_cons (pv 3) (pa_cons (pv 4) pa_nil))))))))))))))))), ?_⟩
  obtain ⟨hat, hw⟩ := headAt_lt hh
  obtain ⟨dx, h1⟩ := hR.obj
  have hok := wordsAt_ok hR.sm.2 st.at_
  refine ⟨_, rfl, X.p, A.Reader, dx, _, _, rfl, h1, T.cl_Reader, T.n_Reader_texts, rfl, _, rfl, X.p, A.Reader, dx, _, _, rfl, h1, T.cl_Reader, T.n_Reader_at, rfl, X.a, _, _, _, rfl, rfl, (SqL.of hR.txts), at_wd hat, ⟨_, rfl⟩, _, _, rfl, rfl, (by decide +kernel), wd_size hR.sm.2 hat, fun l hl => ?_⟩
  have s1 := same_new (o := .lst ((wordsAt X.ts st.at_).map V.str)) hl
  have hR1 := hR.same s1
  have k1 := s1 _ _ h1
  refine ⟨_, rfl, X.p, A.Reader, dx, _, _, rfl, k1, T.cl_Reader, T.n_Reader_at, rfl, _, _, rfl, rfl, dx, _, k1, (by show 4 < 1000; decide), ?_⟩
  obtain ⟨mv2, hR2⟩ := hR1.step (notR_ec T) (notR_rc T) hat k1
  show tSeq _ _ _ _ (upd (upd H l (.lst ((wordsAt X.ts st.at_).map V.str))) X.p (.ins A.Reader dx (putF "at" (V.int (((st.at_ : Nat) : Int) + 1)) (rdF X st))))
  generalize hG : upd (upd H l (.lst ((wordsAt X.ts st.at_).map V.str))) X.p (.ins A.Reader dx (putF "at" (V.int (((st.at_ : Nat) : Int) + 1)) (rdF X st))) = H2 at mv2 hR2 ⊢
  have nlcl : l ≠ X.cl := fun e => by
    obtain ⟨os, z, _⟩ := hR.calls
    rw [← e, hl] at z; cases z
  have mv := (mv_same (X := X) s1).trans mv2
  have hS2 : SqL K H2 l ((wordsAt X.ts st.at_).map V.str) := hR1.seq mv2 nlcl (SqL.of upd_same)
  have hne := hok.2
  have hsm := hok.1
  unfold functionF at q1 q2
  generalize hW : wordsAt X.ts st.at_ = ws at *
  -- params
  refine ⟨_, rfl, 2, rfl, l, _, rfl, hS2, fun lp hlp => ?_⟩
  rw [show ((2 : Int) = ((2 : Nat) : Int)) from rfl, cut_drop]
  have s3 := same_new (o := .lst ((ws.drop 2).map V.str)) hlp
  have gp : upd H2 lp (.lst ((ws.drop 2).map V.str)) lp = some (.lst ((ws.drop 2).map V.str)) := upd_same
  generalize hG3 : upd H2 lp (.lst ((ws.drop 2).map V.str)) = H3 at s3 gp ⊢
  have hR3 := hR2.same s3
  have nlp : lp ≠ X.cl := fun e => by
    obtain ⟨os, z, _⟩ := hR2.calls
    rw [← e, hlp] at z; cases z
  have nav : lp ∉ X.av := fun e => by
    obtain ⟨_, _, xs3, z1⟩ := hR2.lists lp e
    rw [hlp] at z1; cases z1
  have mv3 := mv.trans (mv_same s3)
  have hS3 := s3.seq hS2
  -- check_names
  refine ⟨_, rfl, 1, rfl, l, _, rfl, hS3, fun l1 hl1 => ?_⟩
  rw [show ((1 : Int) = ((1 : Nat) : Int)) from rfl, cut_drop]
  have s4 := same_new (o := .lst ((ws.drop 1).map V.str)) hl1
  have hpos : 0 < ws.length := List.length_pos_iff.mpr hne
  refine ⟨_, rfl, l, _, rfl, .inl (s4.seq hS3), _, _, rfl, rfl, ?_⟩
  rw [List.length_map]
  refine ⟨l1, ws.drop 1, ws.length - 1, ?_, SqL.of upd_same, hsm.drop 1, fun ok H4 s5 => ?_, fun no H4 s5 => ?_⟩
  · show [V.ref l1, V.int (((ws.length : Nat) : Int) - 1)] = _
    rw [show ((ws.length - 1 : Nat) : Int) = (ws.length : Int) - 1 from by omega]
  rotate_left
  · refine q2 (if_neg fun h => ?_) H4 (mv3.trans (mv_same (s4.trans s5)))
    have : namesOk (ws.drop 1) (ws.length - 1) = true := by
      unfold namesOk
      rw [h.1, List.length_drop, decide_eq_true rfl]; rfl
    rw [no] at this; cases this
  have s45 := s4.trans s5
  have hR4 := hR3.same s45
  have mv4 := mv3.trans (mv_same s45)
  have hS4 := s45.seq hS3
  have gp4 := s45 _ _ gp
  have ha : (ws.drop 1).all isNameW = true := by rw [List.all_eq_true]; exact (names_len ok).2
  have hdl : (ws.drop 2).length ≤ 100000 := by rw [List.length_drop]; have := hsm.1; omega
  refine ⟨decide (¬ (2 ≤ ws.length ∧ (ws.drop 2).length ≤ 3 ∧ cntTo (ws.drop 2) (ws.drop 2).length = (ws.drop 2).length)), H4, fun Z hZ => ?_, ?_⟩
  · refine ⟨_, rfl, l, _, rfl, .inl hS4, _, _, rfl, rfl, _, rfl, ?_⟩
    rw [List.length_map]
    refine iteD2 (fun c1 => zTrue hZ fun h => by have := h.1; omega) (fun c1 => ?_)
    refine ⟨_, rfl, lp, _, rfl, .inl (SqL.of gp4), _, _, rfl, rfl, _, rfl, ?_⟩
    rw [List.length_map]
    refine iteD2 (fun c2 => zTrue hZ fun h => by have := h.2.1; omega) (fun c2 => ?_)
    refine ⟨_, rfl, lp, _, rfl, SqL.of gp4, by omega, _, rfl, lp, _, rfl, .inl (SqL.of gp4), rfl, _, rfl, ?_⟩
    rw [List.length_map]
    by_cases c3 : cntTo (ws.drop 2) (ws.drop 2).length = (ws.drop 2).length
    · rw [decide_eq_true (by rw [c3])]
      exact zFalse hZ fun h => h ⟨by omega, by omega, c3⟩
    · rw [decide_eq_false (fun e => c3 (by have := V.int.inj e; omega))]
      exact zTrue hZ fun h => c3 h.2.2
  refine iteD2 (fun c1 => ?_) (fun c1 => ?_)
  · exact q2 (if_neg fun h => c1 h.2) H4 mv4
  have c1 := Decidable.not_not.mp c1
  rw [if_pos ⟨ha, c1⟩] at q2
  simp only [if_pos (And.intro ha c1)] at q1
  -- body
  obtain ⟨dx4, o4⟩ := hR4.obj
  refine ⟨_, rfl, X.p, dx4, _, rfl, o4, rfl, X, _, rfl, hR4, by decide, fun st2 body H5 b1 mv5 hR5 => ?_, fun b1 H5 mv5 => ?_⟩
  rotate_left
  · rw [b1] at q2
    exact q2 rfl H5 (mv4.trans mv5)
  rw [b1] at q1 q2
  simp only at q1 q2
  have mv5' := mv4.trans mv5
  have gp5 := hR4.keepList mv5 nlp gp4
  have hS5 := hR4.seq mv5 nlcl hS4
  obtain ⟨dx5, o5⟩ := hR5.obj
  refine ⟨_, rfl, X.p, dx5, _, rfl, o5, rfl, X, st2, rfl, hR5, fun H6 s6 => ?_⟩
  have hR6 := hR5.same s6
  have mv6 := mv5'.trans (mv_same s6)
  have gp6 := s6 _ _ gp5
  have hS6 := s6.seq hS5
  refine ⟨by unfold headV; cases headAt X.ts st2.at_ <;> rfl, _, rfl, iteN2 (fun c2 => ?_) (fun c2 => ?_)⟩
  · refine q2 (if_neg fun h => c2 ?_) H6 mv6
    unfold headV; rw [h]; rfl
  have hg : headAt X.ts st2.at_ = some "give" := by
    unfold headV at c2
    cases e : headAt X.ts st2.at_ with
    | none => rw [e] at c2; cases c2
    | some w => rw [e] at c2; rw [V.str.inj c2]; rfl
  rw [if_pos hg] at q2
  simp only [if_pos hg] at q1
  obtain ⟨hat2, hw2⟩ := headAt_lt hg
  have hok2 := wordsAt_ok hR.sm.2 st2.at_
  obtain ⟨dx6, o6⟩ := hR6.obj
  refine ⟨_, rfl, X.p, A.Reader, dx6, _, _, rfl, o6, T.cl_Reader, T.n_Reader_at, rfl, _, rfl, X.p, A.Reader, dx6, _, _, rfl, o6, T.cl_Reader, T.n_Reader_texts, rfl, _, rfl, X.p, A.Reader, dx6, _, _, rfl, o6, T.cl_Reader, T.n_Reader_at, rfl, X.a, _, _, _, rfl, rfl, (SqL.of hR6.txts), at_wd hat2, ⟨_, rfl⟩, _, _, rfl, rfl, (by decide +kernel), wd_size hR.sm.2 hat2, fun l7 hl7 => ?_⟩
  have s7 := same_new (o := .lst ((wordsAt X.ts st2.at_).map V.str)) hl7
  refine ⟨1, rfl, l7, (wordsAt X.ts st2.at_).map V.str, rfl, SqL.of upd_same, fun l8 hl8 => ?_⟩
  rw [show ((1 : Int) = ((1 : Nat) : Int)) from rfl, cut_drop]
  have s8 := same_new (o := .lst (((wordsAt X.ts st2.at_).drop 1).map V.str)) hl8
  have s78 := s7.trans s8
  refine ⟨l8, (wordsAt X.ts st2.at_).drop 1, rfl, SqL.of upd_same, (hok2.1.drop 1).1, (hok2.1.drop 1).2, fun es pe l9 H9 os s9 hn9 h9 hae => ?_, fun pe H9 s9 => ?_⟩
  rotate_left
  · have pe' : exL ((wordsAt X.ts st2.at_).drop 1) = none := pe
    rw [pe'] at q2
    exact q2 rfl H9 (mv6.trans (mv_same (s78.trans s9)))
  have s79 := s78.trans s9
  have pe' : exL ((wordsAt X.ts st2.at_).drop 1) = some es := pe
  rw [pe'] at q1 q2
  refine ⟨l9, os, rfl, h9, fun v hv => ?_, fun hn => ?_⟩
  rotate_left
  · rw [(allE_one hae).2 hn] at q2
    exact q2 rfl H9 (mv6.trans (mv_same s79))
  obtain ⟨e, rfl, ho⟩ := (allE_one hae).1 v hv
  simp only [only1] at q1
  refine fun x dxx hx hdx _ => mk_row (xs := [_, _]) hx hdx rfl fun H10 s10 g10 => ?_
  have s710 := s79.trans s10
  have hR10 := hR6.same s710
  have mv10 := mv6.trans (mv_same s710)
  have gp10 := s710 _ _ gp6
  have hS10 := s710.seq hS6
  obtain ⟨dx10, o10⟩ := hR10.obj
  have row : RowO A.rc A.ec X.N H10 (st2.at_ : Int) (.give e) (.ref x) := ⟨x, dxx, v, rfl, g10, ho.same s10⟩
  have gr := blockF_gr b1
  have hn10 : (putN st2.num st2.at_ (.give e)).length ≤ st2.at_ := by
    have := putN_len st2.num st2.at_ (.give e)
    have hnn : st.num.length ≤ st.at_ := hR.nn
    have gr' : st2.num.length + (st.at_ + 1) ≤ st.num.length + st2.at_ := gr
    omega
  obtain ⟨kvs, y1, y2, mv11, hR11⟩ := hR10.put (notR_ec T) (notR_rc T) row hn10
  refine ⟨_, rfl, _, rfl, X.p, A.Reader, dx10, _, _, rfl, o10, T.cl_Reader, T.n_Reader_by_number, rfl, _, rfl, X.p, A.Reader, dx10, _, _, rfl, o10, T.cl_Reader, T.n_Reader_at, rfl, X.d, _, rfl, DPut.k (k := .inl (st2.at_ : Int)) (v := .ref x) y1 (Nat.lt_of_le_of_lt y2 (by decide)), ?_⟩
  show tSeq _ _ _ _ (upd H10 X.d (.dK (putK kvs (.inl (st2.at_ : Int)) (.ref x))))
  have gp11 := hR10.keepList mv11 nlp gp10
  have hS11 := hR10.seq mv11 nlcl hS10
  generalize hG11 : upd H10 X.d (.dK (putK kvs (.inl (st2.at_ : Int)) (.ref x))) = H11 at mv11 hR11 gp11 hS11 ⊢
  obtain ⟨dx11, o11⟩ := hR11.obj
  refine ⟨_, rfl, X.p, A.Reader, dx11, _, _, rfl, o11, T.cl_Reader, T.n_Reader_at, rfl, _, _, rfl, rfl, dx11, _, o11, (by show 4 < 1000; decide), ?_⟩
  obtain ⟨mv12, hR12⟩ := hR11.step (notR_ec T) (notR_rc T) hat2 o11
  show tSeq _ _ _ _ (upd H11 X.p (.ins A.Reader dx11 (putF "at" (V.int (((st2.at_ : Nat) : Int) + 1)) (rdF X ⟨st2.at_, putN st2.num st2.at_ (.give e), st2.calls⟩))))
  have gp12 := hR11.keepList mv12 nlp gp11
  have hS12 := hR11.seq mv12 nlcl hS11
  generalize hG12 : upd H11 X.p (.ins A.Reader dx11 (putF "at" (V.int (((st2.at_ : Nat) : Int) + 1)) (rdF X ⟨st2.at_, putN st2.num st2.at_ (.give e), st2.calls⟩))) = H12 at mv12 hR12 gp12 hS12 ⊢
  refine ⟨_, rfl, l, _, _, _, rfl, rfl, hS12, at_wd (i := 1) (by have := c1.1; omega), _, rfl, _, rfl, _, rfl, fun y dxy hy hdy _ => mk_row (xs := [_, _, _, _]) hy hdy rfl fun H13 s13 g13 => ?_⟩
  exact q1 _ _ _ H13 rfl (((mv10.trans mv11).trans mv12).trans (mv_same s13)) (hR12.same s13) ⟨y, dxy, lp, ws.drop 2, body, .ref x, rfl, g13, ⟨nlp, nav⟩, s13 _ _ gp12, rfl⟩

theorem FunO.keepI {F : Addr} {cs N : Addr → Prop} {H H' : Hp} (k : KeepI cs N H H') (hF : cs F) {f : Str × Nat} {v : V} (h : FunO F N H f v) : FunO F N H' f v := by
  obtain ⟨p, dx, l, ps, b, g, h1, h2, h3, h4, h5⟩ := h
  exact ⟨p, dx, l, ps, b, g, h1, k.1 _ _ _ _ hF h2, h3, k.2 _ _ h3 h4, h5⟩
theorem FunK.keepI {F : Addr} {cs N : Addr → Prop} {H H' : Hp} {f : Str × Nat} {kv : Key × V} (h : FunK F N H f kv) (k : KeepI cs N H H') (hF : cs F) : FunK F N H' f kv := ⟨h.1, h.2.keepI k hF⟩
theorem FunK.same {F : Addr} {N : Addr → Prop} {H H' : Hp} {f : Str × Nat} {kv : Key × V} (h : FunK F N H f kv) (s : Same H H') : FunK F N H' f kv := ⟨h.1, h.2.keepI (cs := fun _ => True) (keepI_same s) trivial⟩
theorem keepI_dict {N : Addr → Prop} {H : Hp} {d : Addr} {kvs kvs' : List (Key × V)} (e : H d = some (.dK kvs)) : KeepI (fun _ => True) N H (upd H d (.dK kvs')) :=
  ⟨fun q C dx fs _ hq => by rw [upd_ne (ne_of hq e (by intro z; cases z))]; exact hq, fun q xs _ hq => by rw [upd_ne (ne_of hq e (by intro z; cases z))]; exact hq⟩
theorem RdH.dictU {K : PySem.W.Frag} {c : RC} {ec : EC} {R : Addr} {X : Rd} {H : Hp} {st : RS} (h : RdH K c ec R X H st) {d : Addr} {kvs kvs' : List (Key × V)} (e : H d = some (.dK kvs)) (n : d ≠ X.d) : RdH K c ec R X (upd H d (.dK kvs')) st := by
  have ki : KeepI (fun _ => True) X.N H (upd H d (.dK kvs')) := keepI_dict e
  obtain ⟨dx, h1⟩ := h.obj
  obtain ⟨ks, k1, k2⟩ := h.dict
  obtain ⟨os, k3, k4⟩ := h.calls
  exact ⟨⟨dx, (upd_ne (ne_of h1 e (by intro z; cases z))).trans h1⟩, ⟨ks, (upd_ne (Ne.symm n)).trans k1, k2.mono fun x kv z => ⟨z.1, z.2.keepI ki (fun _ _ => trivial) fun _ _ => trivial⟩⟩,
    ⟨os, (upd_ne (ne_of k3 e (by intro z; cases z))).trans k3, k4.mono fun f v ⟨n, b, es, z1, z2⟩ => ⟨n, b, es, z1, z2.keepI ki (fun _ _ => trivial) fun _ _ => trivial⟩⟩, (upd_ne (ne_of h.txts e (by intro z; cases z))).trans h.txts, h.ne, h.sm, h.cod, h.at_,
    fun a ha => by
      obtain ⟨n1, n2, xs, z⟩ := h.lists a ha
      exact ⟨n1, n2, xs, (upd_ne (ne_of z e (by intro z; cases z))).trans z⟩, h.cn, h.nn⟩
theorem all2_any {α : Type} {R : α → Key × V → Prop} {p : α → Bool} {k : Key} (hp : ∀ a kv, R a kv → p a = decide (kv.1 = k)) : ∀ {as : List α} {kvs : List (Key × V)}, All2 R as kvs → (valV kvs k).isSome = as.any p
  | _, _, .nil => rfl
  | a :: as, kv :: kvs, .cons h t => by
    have e := hp a kv h
    by_cases c : kv.1 = k
    · rw [decide_eq_true c] at e
      rw [valV_pos c, List.any_cons, e]; rfl
    · rw [decide_eq_false c] at e
      rw [valV_neg c, List.any_cons, e, all2_any hp t]; rfl
theorem valV_some_of_any {kvs : List (Key × V)} {k : Key} (h : (kvs.any fun kv => decide (kv.1 = k)) = true) : (valV kvs k).isSome = true := by
  induction kvs with
  | nil => cases h
  | cons kv r ih =>
    by_cases c : kv.1 = k
    · rw [valV_pos c]; rfl
    · rw [valV_neg c]
      rw [List.any_cons, decide_eq_false c, Bool.false_or] at h
      exact ih h
theorem functionF_at {ts : List Str} {st st' : RS} {f : Str × Nat} (hs : st.at_ < ts.length) (h : functionF ts st = some (f, st')) : st.at_ < st'.at_ := by
  unfold functionF at h
  split at h
  · cases b : blockF ts 6 { st with at_ := st.at_ + 1 } with
    | none => rw [b] at h; cases h
    | some st2 =>
      rw [b] at h
      simp only at h
      split at h
      · cases o : only1 (exL ((wordsAt ts st2.at_).drop 1)) with
        | none => rw [o] at h; cases h
        | some e =>
          rw [o] at h
          cases h
          have t : st.at_ + 1 ≤ st2.at_ := (blockF_at (st := { st with at_ := st.at_ + 1 }) hs b).1
          show st.at_ < st2.at_ + 1
          omega
      · cases h
  · cases h

end
end K34
namespace K34
open PySem L2 TL
section
variable {P : Program} {w : World} {K : PySem.W.Frag} {mg : Str → Option Value} {base : Heap} {A : Ads}
theorem ok_check_calls (T : Txt K mg A) : FnOk P w K mg base (L2N.CX P w) 1 A.check_calls A.check_calls_d ["calls", "functions"] (spCalls A.rc A.ec A.NoProgram A.Function) := by
  refine okN T.F_check_calls sc_check_calls (fun vs H Q E h => ?_) (fun cdv A0 outer s H vs Q E hr h => ?_)
  · obtain ⟨a, d, os, kvs, M, cs, fs, rfl, ha, hd, hos, hfs, q1, q2⟩ := h
    rfl
  obtain ⟨a, d, os, kvs, M, cs, fs, rfl, ha, hd, hos, hfs, q1, q2⟩ := h
  refine ⟨_, (pss_one (ps_for (passes_of rfl) rfl (pi_list (pv 0)) (pg_name (i := 2) sc_check_calls.nd rfl (Or.inl rfl))
    (pss_one (ps_ifC (PW.pt (pw_or (pt_cmp (pc_dnotin (hu_of hr) (pe_fld (pv 2) rfl) (pv 1))) (pw_or1 (pt_cmpR op_ne (pe_callB call_lenK (by rfl) T.z_len (by decide +kernel) (pa_cons (pe_fld (pe_dget (hu_of hr) (pv 1) (pe_fld (pv 2) rfl) (fun _ _ => rfl)) rfl) pa_nil)) (pe_callB call_lenK (by rfl) T.z_len (by decide +kernel) (pa_cons (pe_fld (pv 2) rfl) pa_nil)) (nomark _)))))
    (pss_one (L2N.ps_raise rfl (L2N.takes_of rfl rfl rfl rfl) (L2N.pmk_own PySem.F.excBase_ValueError T.x_NoProgram T.m_NoProgram T.kk_NoProgram (raises_own T.bb_NoProgram T.tt_NoProgram) (by exact rfl))))
    pss_nil)))), ?_⟩
  refine ⟨_, rfl, a, rfl, ⟨_, SqL.of ha⟩, for_list (xs := os) (fun i σ H' => ∃ z : Option V, σ = [some (.ref a), some (.ref d), z] ∧ H' = H ∧ (cs.take i).all (callOk fs) = true) ⟨none, rfl, rfl, rfl⟩ (fun i σ H' _ ⟨_, _, h, _⟩ => by rw [h]; exact SqL.of ha) ?_ ?_⟩
  · rintro i x σ H' hx ⟨z, rfl, rfl, hall⟩
    obtain ⟨c, hc, n, b, es, hel, p, dx, lg, os2, rfl, g1, g2, g3, g4⟩ := hos.at hx
    have hlen := g4.length
    have hi : i < cs.length := by
      by_cases h : i < cs.length
      · exact h
      · rw [List.getElem?_eq_none (by omega)] at hc; cases hc
    have ht : (cs.take (i + 1)).all (callOk fs) = callOk fs c := by
      rw [List.take_succ, List.all_append, hall, hc]
      show (true && (callOk fs c && true)) = callOk fs c
      rw [Bool.and_true, Bool.true_and]
    refine ⟨!callOk fs c, H', fun Z hZ => ?_, ?_⟩
    · refine ⟨_, rfl, p, A.Call, dx, _, _, rfl, g1, T.cl_Call, T.n_Call_fun, rfl, _, rfl, d, _, rfl, DGet.k (k := .inr c.1) hd, _, rfl, ?_⟩
      have hp : ∀ (f : Str × Nat) (kv : Key × V), FunK A.Function M H' f kv → decide (f.1 = c.1) = decide (kv.1 = (.inr c.1 : Key)) := fun f kv h => by
        rw [h.1]
        by_cases q : f.1 = c.1
        · rw [decide_eq_true q, decide_eq_true (congrArg Sum.inr q : (.inr f.1 : Key) = .inr c.1)]
        · rw [decide_eq_false q, decide_eq_false (fun e : (.inr f.1 : Key) = .inr c.1 => q (Sum.inr.inj e))]
      unfold callOk at hZ
      rcases all2_find (p := fun f => decide (f.1 = c.1)) (k := .inr c.1) hp hfs with ⟨e1, e2⟩ | ⟨f, v, hf, e1, e3, e2, hr⟩
      · rw [e1] at hZ
        rw [e2]
        exact iteT hZ
      · rw [e1] at hZ
        rw [e2]
        refine iteF ?_
        obtain ⟨pf, dxf, lf, ps, bd, gv, hv, f1, f2, f3, f4⟩ := hr.2
        have hv' : v = .ref pf := hv
        subst hv'
        refine ⟨_, rfl, _, rfl, p, A.Call, dx, _, _, rfl, g1, T.cl_Call, T.n_Call_fun, rfl, d, _, rfl, (by rw [← e2]; exact DGet.k (k := .inr c.1) hd), pf, A.Function, dxf, _, _, rfl, f1, T.cl_Function, T.n_Function_params, rfl, lf, _, rfl, .inl (SqL.of f3), _, rfl, p, A.Call, dx, _, _, rfl, g1, T.cl_Call, T.n_Call_given, rfl, lg, _, rfl, .inl (SqL.of g3), rfl, _, rfl, ?_⟩
        rw [List.length_map]
        have hq : (!decide (V.int (ps.length : Nat) = V.int (os2.length : Nat))) = !decide (f.2 = c.2) := by
          congr 1
          rw [f4, ← hlen, hel]
          by_cases q : f.2 = c.2
          · rw [decide_eq_true q, q, decide_eq_true rfl]
          · rw [decide_eq_false q, decide_eq_false fun e => q (by have := V.int.inj e; omega)]
        show Z (!decide (V.int (ps.length : Nat) = V.int (os2.length : Nat))) H'
        rw [hq]
        exact hZ
    · cases hcc : callOk fs c with
      | true => exact iteF ⟨_, rfl, rfl, by rw [ht, hcc]⟩
      | false =>
        refine iteT (q2 ?_)
        cases hall2 : cs.all (callOk fs) with
        | false => rfl
        | true =>
          have := List.all_eq_true.mp hall2 c (List.mem_of_getElem? hc)
          rw [hcc] at this; cases this
  · rintro σ H' ⟨z, rfl, rfl, hall⟩
    rw [← hos.length, List.take_length] at hall
    exact q1 hall

end
end K34
namespace K34
open PySem L2 TL
section
variable {P : Program} {w : World} {K : PySem.W.Frag} {mg : Str → Option Value} {base : Heap} {A : Ads}
theorem ok_Program_init (T : Txt K mg A) : FnOk P w K mg base CX0 1 A.Program_init A.Program_init_d ["self", "texts", "main", "functions", "by_number"] (spRI A.Program ["texts", "main", "functions", "by_number"]) := by
  refine T.F_Program_init.ok sc_Program_init (fun vs H Q E h => ?_) (fun cdv A0 outer s H vs Q E hr h => ?_)
  · obtain ⟨p, dx, xs, rfl, hl, hp, q⟩ := h
    exact congrArg (· + 1) hl
  obtain ⟨p, dx, xs, rfl, hl, hp, q⟩ := h
  refine ⟨_, (pss_cons (ps_fld (pv 0) (pv 1) rfl)
   (pss_cons (ps_fld (pv 0) (pv 2) rfl)
   (pss_cons (ps_fld (pv 0) (pv 3) rfl)
   (pss_one (ps_fld (pv 0) (pv 4) rfl))))), ?_⟩
  obtain ⟨x0, x1, x2, x3, rfl⟩ : ∃ x0 x1 x2 x3, xs = [x0, x1, x2, x3] := by
    match xs, hl with
    | [x0, x1, x2, x3], _ => exact ⟨x0, x1, x2, x3, rfl⟩
  refine ⟨_, rfl, _, rfl, p, A.Program, dx, _, rfl, hp, T.cl_Program, T.n_Program_texts, (by show 0 < 1000; decide), ?_⟩
  refine ⟨_, rfl, _, rfl, p, A.Program, dx, _, rfl, upd_same, T.cl_Program, T.n_Program_main, (by show 1 < 1000; decide), ?_⟩
  refine ⟨_, rfl, _, rfl, p, A.Program, dx, _, rfl, upd_same, T.cl_Program, T.n_Program_functions, (by show 2 < 1000; decide), ?_⟩
  refine ⟨_, rfl, _, rfl, p, A.Program, dx, _, rfl, upd_same, T.cl_Program, T.n_Program_by_number, (by show 3 < 1000; decide), ?_⟩
  rw [upd_upd, upd_upd, upd_upd]
  exact q

end
end K34
namespace K34
open PySem L2 TL
section
variable {P : Program} {w : World} {K : PySem.W.Frag} {mg : Str → Option Value} {base : Heap} {A : Ads}
theorem ok_Program_text (T : Txt K mg A) : FnOk P w K mg base CX0 1 A.Program_text A.Program_text_d ["self"] (spPText K A.rc A.ec A.Program) := by
  refine T.F_Program_text.ok sc_Program_text (fun vs H Q E h => ?_) (fun cdv A0 outer s H vs Q E hr h => ?_)
  · obtain ⟨v, ts, num, rfl, hP, hl, ht, q⟩ := h
    rfl
  obtain ⟨v, ts, num, rfl, hP, hl, ht, q⟩ := h
  refine ⟨_, (pss_one (ps_ret (pe_join pe_str (pe_fld (pv 0) rfl)))), ?_⟩
  obtain ⟨p, dx, a, d, m, f, kvs, rfl, hp, ha, hd, hn⟩ := hP
  refine ⟨⟨_, rfl⟩, _, rfl, p, A.Program, dx, _, _, rfl, hp, T.cl_Program, T.n_Program_texts, rfl, _, a, ts, rfl, rfl, .inl ha, ?_, q⟩
  have h1 : (ts.map (·.length)).sum ≤ ts.length * 99999 := by
    clear ha hn q hl
    induction ts with
    | nil => exact Nat.zero_le _
    | cons x r ih =>
      have := ih fun t h => ht t (List.mem_cons_of_mem _ h)
      have := ht x List.mem_cons_self
      rw [List.map_cons, List.sum_cons, List.length_cons]
      omega
  have h2 : (Str.ofString "\n").length = 1 := by decide +kernel
  rw [h2]
  omega

/-! ### rows as the law writes them -/
def ExOk (e : Ex) : Prop := e.Wf ∧ e.depth ≤ 6 ∧ e.parts ≤ 15
def RT.pairs : RT → List (Str × List Str)
  | .skip => [("skip", ["skip"])]
  | .set b e => [("set", ["set"]), (b, [b]), (e.text, e.toks)]
  | .put a b => [("put", ["put"]), (a.text, a.toks), (b.text, b.toks)]
  | .ask b w e => [("ask", ["ask"]), (b, [b]), (w, [w]), (e.text, e.toks)]
  | .draw b w => [("draw", ["draw"]), (b, [b]), (w, [w])]
  | .tell e => [("tell", ["tell"]), (e.text, e.toks)]
  | .ifr e => [("if", ["if"]), (e.text, e.toks)]
  | .loop e => [("while", ["while"]), (e.text, e.toks)]
  | .call b f es => ("call", ["call"]) :: (b, [b]) :: (f, [f]) :: es.map fun e => (e.text, e.toks)
  | .give e => [("give", ["give"]), (e.text, e.toks)]
def RT.words (rt : RT) : List Str := rt.pairs.map Prod.fst
def RT.text (rt : RT) : Str := Txt.join (Str.ofString " ") rt.words
def RT.toks : RT → List Str
  | .skip => ["skip"]
  | .set b e => "set" :: b :: e.toks
  | .put a b => "put" :: (a.toks ++ b.toks)
  | .ask b w e => "ask" :: b :: w :: e.toks
  | .draw b w => ["draw", b, w]
  | .tell e => "tell" :: e.toks
  | .ifr e => "if" :: e.toks
  | .loop e => "while" :: e.toks
  | .call b f es => "call" :: b :: f :: es.flatMap Ex.toks
  | .give e => "give" :: e.toks
def RT.Ok : RT → Prop
  | .skip => True
  | .set b e => isNameW b = true ∧ ExOk e
  | .put a b => ExOk a ∧ ExOk b
  | .ask b w e => isNameW b = true ∧ isNameW w = true ∧ ExOk e
  | .draw b w => isNameW b = true ∧ isNameW w = true
  | .tell e => ExOk e
  | .ifr e => ExOk e
  | .loop e => ExOk e
  | .call b f es => isNameW b = true ∧ isNameW f = true ∧ (∀ e ∈ es, ExOk e) ∧ es.length ≤ 3
  | .give e => ExOk e
theorem joinL_app : ∀ (a b : List (List Nat)), a ≠ [] → b ≠ [] → joinL [32] a ++ ([32] ++ joinL [32] b) = joinL [32] (a ++ b) := by
  intro a
  induction a with
  | nil => intro b h; exact absurd rfl h
  | cons x a ih =>
    intro b _ hb
    cases a with
    | nil =>
      cases b with
      | nil => exact absurd rfl hb
      | cons y b => rfl
    | cons x2 a =>
      have := ih b (by simp) hb
      show (x ++ ([32] ++ joinL [32] (x2 :: a))) ++ _ = x ++ ([32] ++ joinL [32] ((x2 :: a) ++ b))
      rw [← this]
      simp only [List.append_assoc]
theorem tl_blank : tl (Str.ofString " ") = [32] := by decide +kernel
theorem tl_end : tl (Str.ofString "\n") = [10] := by decide +kernel
theorem join_toks : ∀ (ps : List (Str × List Str)), ps ≠ [] → (∀ p ∈ ps, p.2 ≠ [] ∧ tl p.1 = joinL [32] (p.2.map tl)) → joinL [32] ((ps.map Prod.fst).map tl) = joinL [32] ((ps.flatMap Prod.snd).map tl)
  | [], h, _ => absurd rfl h
  | [p], _, h => by
    have := (h p (List.mem_singleton.mpr rfl)).2
    show tl p.1 = joinL [32] ((p.2 ++ []).map tl)
    rw [List.append_nil]; exact this
  | p :: q :: r, _, h => by
    have h1 := h p List.mem_cons_self
    have h2 := join_toks (q :: r) (by simp) fun z hz => h z (List.mem_cons_of_mem _ hz)
    show tl p.1 ++ ([32] ++ joinL [32] (((q :: r).map Prod.fst).map tl)) = joinL [32] ((p.2 ++ (q :: r).flatMap Prod.snd).map tl)
    rw [h1.2, h2, List.map_append]
    refine joinL_app _ _ (fun e => h1.1 (List.map_eq_nil_iff.mp e)) fun e => ?_
    have hq := (h q (List.mem_cons_of_mem _ List.mem_cons_self)).1
    have e2 := List.map_eq_nil_iff.mp e
    rw [List.flatMap_cons, List.append_eq_nil_iff] at e2
    exact hq e2.1
theorem Ex.toks_ne (e : Ex) : e.toks ≠ [] := fun h => by
  have := e.toks_len
  rw [h] at this
  have := e.parts_pos
  simp at *; omega
theorem pair_one (s : Str) : ([s] : List Str) ≠ [] ∧ tl s = joinL [32] (([s] : List Str).map tl) := ⟨by simp, rfl⟩
theorem pair_ex (e : Ex) : e.toks ≠ [] ∧ tl e.text = joinL [32] (e.toks.map tl) := ⟨e.toks_ne, Ex.text_toks⟩
theorem RT.pairs_ok (rt : RT) : ∀ p ∈ rt.pairs, p.2 ≠ [] ∧ tl p.1 = joinL [32] (p.2.map tl) := by
  cases rt with
  | call b f es =>
    intro p hp
    rcases List.mem_cons.mp hp with rfl | hp
    · exact pair_one _
    rcases List.mem_cons.mp hp with rfl | hp
    · exact pair_one _
    rcases List.mem_cons.mp hp with rfl | hp
    · exact pair_one _
    · obtain ⟨e, _, rfl⟩ := List.mem_map.mp hp
      exact pair_ex e
  | _ =>
    intro p hp
    simp only [RT.pairs, List.mem_cons, List.not_mem_nil, or_false] at hp
    first
      | (rcases hp with rfl | rfl | rfl | rfl <;> first | exact pair_one _ | exact pair_ex _)
      | (rcases hp with rfl | rfl | rfl <;> first | exact pair_one _ | exact pair_ex _)
      | (rcases hp with rfl | rfl <;> first | exact pair_one _ | exact pair_ex _)
      | (subst hp; first | exact pair_one _ | exact pair_ex _)
theorem RT.flat (rt : RT) : rt.pairs.flatMap Prod.snd = rt.toks := by
  cases rt with
  | call b f es =>
    show Str.ofString "call" :: b :: f :: (es.map fun e => (e.text, e.toks)).flatMap Prod.snd = Str.ofString "call" :: b :: f :: es.flatMap Ex.toks
    rw [List.flatMap_map]
  | _ => simp [RT.pairs, RT.toks]
theorem RT.tl_text (rt : RT) : tl rt.text = joinL [32] (rt.toks.map tl) := by
  unfold RT.text RT.words
  rw [join_eq, tl_join, tl_blank, join_toks rt.pairs (by cases rt <;> simp [RT.pairs]) rt.pairs_ok, rt.flat]
/-- letters and figures, at most six -/
def TokOk (s : Str) : Prop := (tl s).length ≤ 6 ∧ ∀ c ∈ tl s, 48 ≤ c ∧ c ≤ 122
theorem tok_name {s : Str} (h : isNameW s = true) : TokOk s := by
  obtain ⟨h1, _, _, _, h4⟩ := nameW_parts h
  exact ⟨h1.2, fun c hc => by have := h4 c hc; omega⟩
theorem tok_ex {e : Ex} (h : e.Wf) : ∀ s ∈ e.toks, TokOk s := fun s hs => by
  have := Ex.toks_ok h s hs
  exact ⟨this.1, fun c hc => by have := this.2 c hc; omega⟩
theorem tok_word : ∀ s ∈ (["skip", "set", "put", "ask", "draw", "tell", "if", "while", "call", "give", "fun", "main", "else", "end"] : List Str), TokOk s := by
  unfold TokOk; decide +kernel
theorem RT.tok {rt : RT} (h : rt.Ok) : ∀ s ∈ rt.toks, TokOk s := by
  have w : ∀ {s : Str}, s ∈ (["skip", "set", "put", "ask", "draw", "tell", "if", "while", "call", "give", "fun", "main", "else", "end"] : List Str) → TokOk s := fun {s} hs => tok_word s hs
  cases rt with
  | skip => intro s hs; rw [List.mem_singleton.mp hs]; exact w (by decide +kernel)
  | set b e =>
    intro s hs
    rcases List.mem_cons.mp hs with rfl | hs
    · exact w (by decide +kernel)
    rcases List.mem_cons.mp hs with rfl | hs
    · exact tok_name h.1
    · exact tok_ex h.2.1 s hs
  | put a b =>
    intro s hs
    rcases List.mem_cons.mp hs with rfl | hs
    · exact w (by decide +kernel)
    rcases List.mem_append.mp hs with hs | hs
    · exact tok_ex h.1.1 s hs
    · exact tok_ex h.2.1 s hs
  | ask b c e =>
    intro s hs
    rcases List.mem_cons.mp hs with rfl | hs
    · exact w (by decide +kernel)
    rcases List.mem_cons.mp hs with rfl | hs
    · exact tok_name h.1
    rcases List.mem_cons.mp hs with rfl | hs
    · exact tok_name h.2.1
    · exact tok_ex h.2.2.1 s hs
  | draw b c =>
    intro s hs
    rcases List.mem_cons.mp hs with rfl | hs
    · exact w (by decide +kernel)
    rcases List.mem_cons.mp hs with rfl | hs
    · exact tok_name h.1
    · rw [List.mem_singleton.mp hs]; exact tok_name h.2
  | tell e =>
    intro s hs
    rcases List.mem_cons.mp hs with rfl | hs
    · exact w (by decide +kernel)
    · exact tok_ex h.1 s hs
  | ifr e =>
    intro s hs
    rcases List.mem_cons.mp hs with rfl | hs
    · exact w (by decide +kernel)
    · exact tok_ex h.1 s hs
  | loop e =>
    intro s hs
    rcases List.mem_cons.mp hs with rfl | hs
    · exact w (by decide +kernel)
    · exact tok_ex h.1 s hs
  | give e =>
    intro s hs
    rcases List.mem_cons.mp hs with rfl | hs
    · exact w (by decide +kernel)
    · exact tok_ex h.1 s hs
  | call b f es =>
    intro s hs
    rcases List.mem_cons.mp hs with rfl | hs
    · exact w (by decide +kernel)
    rcases List.mem_cons.mp hs with rfl | hs
    · exact tok_name h.1
    rcases List.mem_cons.mp hs with rfl | hs
    · exact tok_name h.2.1
    · obtain ⟨e, he, hs⟩ := List.mem_flatMap.mp hs
      exact tok_ex (h.2.2.1 e he).1 s hs
def LineOk (t : Str) : Prop := t.length ≤ 1000 ∧ ∀ c ∈ tl t, 32 ≤ c ∧ c ≤ 122
theorem joinL_le {ps : List (List Nat)} (h : ∀ p ∈ ps, p.length ≤ 6) : (joinL [32] ps).length ≤ 7 * ps.length := by
  induction ps with
  | nil => exact Nat.zero_le _
  | cons p r ih =>
    have h1 := h p List.mem_cons_self
    have h2 := ih fun q hq => h q (List.mem_cons_of_mem _ hq)
    cases r with
    | nil => show p.length ≤ 7 * 1; omega
    | cons q r =>
      show (p ++ ([32] ++ joinL [32] (q :: r))).length ≤ 7 * ((q :: r).length + 1)
      rw [List.length_append, List.length_append]
      show p.length + (1 + _) ≤ _
      omega
theorem joinL_mem2 {b : Nat} : ∀ {ps : List (List Nat)} {c : Nat}, c ∈ joinL [b] ps → c = b ∨ ∃ p ∈ ps, c ∈ p
  | [], _, h => by cases h
  | [x], c, h => .inr ⟨x, List.mem_singleton.mpr rfl, h⟩
  | x :: y :: r, c, h => by
    have h' : c ∈ x ++ ([b] ++ joinL [b] (y :: r)) := h
    rcases List.mem_append.mp h' with h | h
    · exact .inr ⟨x, List.mem_cons_self, h⟩
    rcases List.mem_append.mp h with h | h
    · exact .inl (List.mem_singleton.mp h)
    · rcases joinL_mem2 h with h | ⟨p, hp, hc⟩
      · exact .inl h
      · exact .inr ⟨p, List.mem_cons_of_mem _ hp, hc⟩
theorem line_of {t : Str} {ws : List Str} (e : tl t = joinL [32] (ws.map tl)) (hw : ∀ s ∈ ws, TokOk s) (hl : ws.length ≤ 100) : LineOk t := by
  constructor
  · rw [len_tl, e]
    have := joinL_le (ps := ws.map tl) fun p hp => by
      obtain ⟨s, hs, rfl⟩ := List.mem_map.mp hp
      exact (hw s hs).1
    rw [List.length_map] at this
    omega
  · intro c hc
    rw [e] at hc
    rcases joinL_mem2 hc with rfl | ⟨p, hp, hc⟩
    · decide
    · obtain ⟨s, hs, rfl⟩ := List.mem_map.mp hp
      have := (hw s hs).2 c hc
      omega
theorem split_of {t : Str} {ws : List Str} (e : tl t = joinL [32] (ws.map tl)) (hw : ∀ s ∈ ws, TokOk s) (hn : ws ≠ []) : Txt.split t (Str.ofString " ") = ws := by
  have ej : t = Txt.join (Str.ofString " ") ws := by
    refine ext_tl ?_
    rw [join_eq, tl_join, tl_blank, e]
  rw [ej]
  refine split_join (s := 32) (S := []) tl_blank (by decide +kernel) hn fun p hp hm => ?_
  have := (hw p hp).2 32 hm
  omega
theorem RT.toks_ne (rt : RT) : rt.toks ≠ [] := by cases rt <;> simp [RT.toks]
theorem RT.split {rt : RT} (h : rt.Ok) : Txt.split rt.text (Str.ofString " ") = rt.toks := split_of rt.tl_text (RT.tok h) rt.toks_ne
theorem flat_len {es : List Ex} (h : ∀ e ∈ es, ExOk e) : (es.flatMap Ex.toks).length ≤ 15 * es.length := by
  induction es with
  | nil => exact Nat.zero_le _
  | cons e r ih =>
    have h1 := (h e List.mem_cons_self).2.2
    have h2 := ih fun x hx => h x (List.mem_cons_of_mem _ hx)
    rw [List.flatMap_cons, List.length_append, e.toks_len, List.length_cons]
    omega
theorem RT.toks_len {rt : RT} (h : rt.Ok) : rt.toks.length ≤ 100 := by
  cases rt with
  | skip => show 1 ≤ 100; decide
  | set b e => have := h.2.2.2; have := e.toks_len; show e.toks.length + 1 + 1 ≤ 100; omega
  | put a b => have := h.1.2.2; have := h.2.2.2; have := a.toks_len; have := b.toks_len; show (a.toks ++ b.toks).length + 1 ≤ 100; rw [List.length_append]; omega
  | ask b w e => have := h.2.2.2.2; have := e.toks_len; show e.toks.length + 1 + 1 + 1 ≤ 100; omega
  | draw b w => show 3 ≤ 100; decide
  | tell e => have := h.2.2; have := e.toks_len; show e.toks.length + 1 ≤ 100; omega
  | ifr e => have := h.2.2; have := e.toks_len; show e.toks.length + 1 ≤ 100; omega
  | loop e => have := h.2.2; have := e.toks_len; show e.toks.length + 1 ≤ 100; omega
  | give e => have := h.2.2; have := e.toks_len; show e.toks.length + 1 ≤ 100; omega
  | call b f es => have := flat_len h.2.2.1; have := h.2.2.2; show (es.flatMap Ex.toks).length + 1 + 1 + 1 ≤ 100; omega
theorem RT.line {rt : RT} (h : rt.Ok) : LineOk rt.text := line_of rt.tl_text (RT.tok h) (RT.toks_len h)
theorem exL_flat : ∀ {es : List Ex}, (∀ e ∈ es, ExOk e) → exL (es.flatMap Ex.toks) = some es
  | [], _ => rfl
  | e :: r, h => by
    have h1 := h e List.mem_cons_self
    have h2 := exL_flat (es := r) fun x hx => h x (List.mem_cons_of_mem _ hx)
    unfold exL at h2 ⊢
    rw [List.flatMap_cons]
    have pt := parse_toks (d := 6) h1.1 h1.2.1 (r.flatMap Ex.toks)
    cases q : e.toks ++ r.flatMap Ex.toks with
    | nil => exact absurd (List.append_eq_nil_iff.mp q).1 e.toks_ne
    | cons x t =>
      rw [parseAll_step, ← q, pt]
      simp only
      rw [if_pos h1.2.2, h2]
theorem exL_one {e : Ex} (h : ExOk e) : exL e.toks = some [e] := by
  have := exL_flat (es := [e]) fun x hx => by rw [List.mem_singleton.mp hx]; exact h
  rw [List.flatMap_cons, List.flatMap_nil, List.append_nil] at this
  exact this
theorem exL_two {a b : Ex} (h1 : ExOk a) (h2 : ExOk b) : exL (a.toks ++ b.toks) = some [a, b] := by
  have := exL_flat (es := [a, b]) fun x hx => by
    simp only [List.mem_cons, List.not_mem_nil, or_false] at hx
    rcases hx with rfl | rfl
    · exact h1
    · exact h2
  rw [List.flatMap_cons, List.flatMap_cons, List.flatMap_nil, List.append_nil] at this
  exact this
/-- rows of one line but calls -/
def RT.simple : RT → Bool
  | .call _ _ _ => false
  | .ifr _ => false
  | .loop _ => false
  | .give _ => false
  | _ => true
theorem namesOk1 {b : Str} (h : isNameW b = true) : namesOk [b] 1 = true := by unfold namesOk; rw [List.all_cons, h]; rfl
theorem namesOk2 {b w : Str} (h : isNameW b = true) (h2 : isNameW w = true) : namesOk [b, w] 2 = true := by unfold namesOk; rw [List.all_cons, List.all_cons, h, h2]; rfl
theorem simpleF_toks {rt : RT} (h : rt.Ok) (s : rt.simple = true) : simpleF rt.toks = some rt := by
  cases rt with
  | skip =>
    show simpleF [Str.ofString "skip"] = some .skip
    unfold simpleF
    rw [if_neg (by decide +kernel), if_neg (by decide +kernel), if_neg (by decide +kernel), if_neg (by decide +kernel), if_neg (by decide +kernel), if_pos rfl]
  | set b e =>
    have e1 : hd0 (RT.set b e).toks = "set" := rfl
    have e2 : (((RT.set b e).toks.drop 1).take 1) = [b] := rfl
    have e3 : (RT.set b e).toks.drop 2 = e.toks := rfl
    unfold simpleF
    rw [if_pos e1, e2, if_pos (namesOk1 h.1), e3, exL_one h.2]; rfl
  | put a b =>
    have e1 : hd0 (RT.put a b).toks = "put" := rfl
    have e3 : (RT.put a b).toks.drop 1 = a.toks ++ b.toks := rfl
    unfold simpleF
    rw [e1, if_neg (by decide +kernel), if_pos rfl, e3, exL_two h.1 h.2]
  | ask b w e =>
    have e1 : hd0 (RT.ask b w e).toks = "ask" := rfl
    have e2 : (((RT.ask b w e).toks.drop 1).take 2) = [b, w] := rfl
    have e3 : (RT.ask b w e).toks.drop 3 = e.toks := rfl
    unfold simpleF
    rw [e1, if_neg (by decide +kernel), if_neg (by decide +kernel), if_pos rfl, e2, if_pos (namesOk2 h.1 h.2.1), e3, exL_one h.2.2]; rfl
  | draw b w =>
    have e1 : hd0 (RT.draw b w).toks = "draw" := rfl
    have e2 : ((RT.draw b w).toks.drop 1) = [b, w] := rfl
    unfold simpleF
    rw [e1, if_neg (by decide +kernel), if_neg (by decide +kernel), if_neg (by decide +kernel), if_pos rfl, e2, if_pos (namesOk2 h.1 h.2)]; rfl
  | tell e =>
    have e1 : hd0 (RT.tell e).toks = "tell" := rfl
    have e3 : (RT.tell e).toks.drop 1 = e.toks := rfl
    unfold simpleF
    rw [e1, if_neg (by decide +kernel), if_neg (by decide +kernel), if_neg (by decide +kernel), if_neg (by decide +kernel), if_pos rfl, e3, exL_one h]; rfl
  | _ => cases s
theorem callF_toks {b f : Str} {es : List Ex} (h : (RT.call b f es).Ok) : callF (RT.call b f es).toks = some (b, f, es) := by
  have e2 : (((RT.call b f es).toks.drop 1).take 2) = [b, f] := rfl
  have e3 : (RT.call b f es).toks.drop 3 = es.flatMap Ex.toks := rfl
  unfold callF
  rw [e2, if_pos (namesOk2 h.1 h.2.1), e3, exL_flat h.2.2.1]; rfl
theorem simple_hd {rt : RT} (s : rt.simple = true) : hd0 rt.toks ∈ ROWW ∧ ¬ (hd0 rt.toks = "if" ∨ hd0 rt.toks = "while") ∧ ¬ hd0 rt.toks = "call" := by
  cases rt with
  | skip => decide +kernel
  | set b e => show hd0 ("set" :: ([] : List Str)) ∈ ROWW ∧ _; exact ⟨by decide +kernel, by show ¬ (hd0 ("set" :: ([] : List Str)) = "if" ∨ hd0 ("set" :: ([] : List Str)) = "while"); decide +kernel, by show ¬ hd0 ("set" :: ([] : List Str)) = "call"; decide +kernel⟩
  | put a b => exact ⟨by show hd0 ("put" :: ([] : List Str)) ∈ ROWW; decide +kernel, by show ¬ (hd0 ("put" :: ([] : List Str)) = "if" ∨ hd0 ("put" :: ([] : List Str)) = "while"); decide +kernel, by show ¬ hd0 ("put" :: ([] : List Str)) = "call"; decide +kernel⟩
  | ask b w e => exact ⟨by show hd0 ("ask" :: ([] : List Str)) ∈ ROWW; decide +kernel, by show ¬ (hd0 ("ask" :: ([] : List Str)) = "if" ∨ hd0 ("ask" :: ([] : List Str)) = "while"); decide +kernel, by show ¬ hd0 ("ask" :: ([] : List Str)) = "call"; decide +kernel⟩
  | draw b w => exact ⟨by show hd0 ("draw" :: ([] : List Str)) ∈ ROWW; decide +kernel, by show ¬ (hd0 ("draw" :: ([] : List Str)) = "if" ∨ hd0 ("draw" :: ([] : List Str)) = "while"); decide +kernel, by show ¬ hd0 ("draw" :: ([] : List Str)) = "call"; decide +kernel⟩
  | tell e => exact ⟨by show hd0 ("tell" :: ([] : List Str)) ∈ ROWW; decide +kernel, by show ¬ (hd0 ("tell" :: ([] : List Str)) = "if" ∨ hd0 ("tell" :: ([] : List Str)) = "while"); decide +kernel, by show ¬ hd0 ("tell" :: ([] : List Str)) = "call"; decide +kernel⟩
  | _ => cases s
/-! ### where rows stand -/
theorem rowOf_put (num : List (Nat × RT)) (n : Nat) (r : RT) (m : Nat) : rowOf (putN num n r) (m : Int) = if m = n then some r else rowOf num (m : Int) := by
  have key : ∀ l : List (Nat × RT), rowOf (l.map fun x => if x.1 = n then (x.1, r) else x) (m : Int) = if m = n then (rowOf l (m : Int)).map (fun _ => r) else rowOf l (m : Int) := by
    intro l
    induction l with
    | nil => unfold rowOf; split <;> rfl
    | cons x t ih =>
      unfold rowOf at ih ⊢
      rw [List.map_cons, List.find?_cons, List.find?_cons]
      by_cases c : (x.1 : Int) = (m : Int)
      · have e1 : ((if x.1 = n then (x.1, r) else x).1 : Int) = (m : Int) := by split <;> exact c
        rw [decide_eq_true e1, decide_eq_true c]
        simp only
        by_cases c2 : m = n
        · have : x.1 = n := by omega
          rw [if_pos c2, if_pos this]; rfl
        · have : ¬ x.1 = n := by omega
          rw [if_neg c2, if_neg this]
      · have e1 : ¬ ((if x.1 = n then (x.1, r) else x).1 : Int) = (m : Int) := by split <;> exact c
        rw [decide_eq_false e1, decide_eq_false c]
        exact ih
  unfold putN
  by_cases c : (num.any fun x => decide (x.1 = n)) = true
  · rw [if_pos c, key]
    by_cases c2 : m = n
    · rw [if_pos c2, if_pos c2]
      obtain ⟨x, hx, hd⟩ := List.any_eq_true.mp c
      have hd := of_decide_eq_true hd
      cases q : rowOf num (m : Int) with
      | some _ => rfl
      | none =>
        unfold rowOf at q
        rw [Option.map_eq_none_iff, List.find?_eq_none] at q
        have := q x hx
        rw [decide_eq_true (by omega : (x.1 : Int) = (m : Int))] at this
        exact absurd rfl this
    · rw [if_neg c2, if_neg c2]
  · rw [if_neg c]
    unfold rowOf
    rw [List.find?_append]
    by_cases c2 : m = n
    · rw [if_pos c2]
      have : num.find? (fun x => decide ((x.1 : Int) = (m : Int))) = none := by
        rw [List.find?_eq_none]
        intro x hx hd
        have hd := of_decide_eq_true hd
        exact c (List.any_eq_true.mpr ⟨x, hx, decide_eq_true (by omega)⟩)
      rw [this, List.find?_cons, decide_eq_true (by rw [c2])]; rfl
    · rw [if_neg c2, List.find?_cons, decide_eq_false (fun e : ((n, r).1 : Int) = (m : Int) => c2 (by have e' : (n : Int) = m := e; omega))]
      show Option.map _ (Option.or _ none) = _
      rw [Option.or_none]
def NumIs (num : List (Nat × RT)) (B : List (Option RT)) : Prop := ∀ n : Nat, rowOf num (n : Int) = B.getD n none
theorem getD_app {B C : List (Option RT)} (n : Nat) : (B ++ C).getD n none = if n < B.length then B.getD n none else C.getD (n - B.length) none := by
  rw [List.getD_eq_getElem?_getD, List.getD_eq_getElem?_getD, List.getD_eq_getElem?_getD]
  by_cases h : n < B.length
  · rw [if_pos h, List.getElem?_append_left h]
  · rw [if_neg h, List.getElem?_append_right (by omega)]
theorem getD_out {B : List (Option RT)} {n : Nat} (h : B.length ≤ n) : B.getD n none = none := by
  rw [List.getD_eq_getElem?_getD, List.getElem?_eq_none h]; rfl
theorem NumIs.pad {num : List (Nat × RT)} {B : List (Option RT)} (h : NumIs num B) : NumIs num (B ++ [none]) := fun n => by
  rw [h n, getD_app]
  by_cases c : n < B.length
  · rw [if_pos c]
  · rw [if_neg c, getD_out (by omega)]
    cases n - B.length with
    | zero => rfl
    | succ k => rfl
theorem NumIs.put {num : List (Nat × RT)} {B R : List (Option RT)} {n : Nat} {rt : RT} (hn : B.length = n) (h : NumIs num ((B ++ [none]) ++ R)) : NumIs (putN num n rt) (B ++ (some rt :: R)) := fun m => by
  rw [rowOf_put, h m, getD_app, getD_app, getD_app, List.length_append, List.length_singleton]
  by_cases c : m = n
  · rw [if_pos c, if_neg (by omega), c, hn, Nat.sub_self]; rfl
  · rw [if_neg c]
    by_cases c2 : m < B.length
    · rw [if_pos (by omega), if_pos c2, if_pos c2]
    · rw [if_neg (by omega), if_neg c2]
      have : m - B.length = (m - (B.length + 1)) + 1 := by omega
      rw [this, List.getD_cons_succ]
theorem NumIs.put1 {num : List (Nat × RT)} {B : List (Option RT)} {n : Nat} {rt : RT} (hn : B.length = n) (h : NumIs num B) : NumIs (putN num n rt) (B ++ [some rt]) := by
  have := NumIs.put (R := []) (rt := rt) hn (by rw [List.append_nil]; exact h.pad)
  exact this
/-! ### bodies -/
inductive Body (hs : List (Str × Nat)) : Nat → List Str → List (Option RT) → Prop where
  | nil {d : Nat} : Body hs d [] []
  | app {d : Nat} {L1 L2 : List Str} {R1 R2 : List (Option RT)} : Body hs d L1 R1 → Body hs d L2 R2 → Body hs d (L1 ++ L2) (R1 ++ R2)
  | row {d : Nat} {rt : RT} : rt.Ok → rt.simple = true → Body hs d [rt.text] [some rt]
  | call {d : Nat} {b f : Str} {es : List Ex} : (RT.call b f es).Ok → (f, es.length) ∈ hs → Body hs d [(RT.call b f es).text] [some (.call b f es)]
  | loop {d : Nat} {e : Ex} {L : List Str} {R : List (Option RT)} : ExOk e → Body hs d L R → Body hs (d + 1) ((RT.loop e).text :: (L ++ [Str.ofString "end"])) (some (.loop e) :: (R ++ [none]))
  | ifr {d : Nat} {e : Ex} {L1 L2 : List Str} {R1 R2 : List (Option RT)} : ExOk e → Body hs d L1 R1 → Body hs d L2 R2 → Body hs (d + 1) ((RT.ifr e).text :: (L1 ++ (Str.ofString "else" :: (L2 ++ [Str.ofString "end"])))) (some (.ifr e) :: (R1 ++ (none :: (R2 ++ [none]))))
theorem Body.len {hs : List (Str × Nat)} : ∀ {d : Nat} {L : List Str} {R : List (Option RT)}, Body hs d L R → L.length = R.length := by
  intro d L R h
  induction h with
  | nil => rfl
  | app _ _ h1 h2 => rw [List.length_append, List.length_append, h1, h2]
  | row _ _ => rfl
  | call _ _ => rfl
  | loop _ _ h => simp only [List.length_cons, List.length_append, h, List.length_nil]
  | ifr _ _ _ h1 h2 => simp only [List.length_cons, List.length_append, h1, h2, List.length_nil]
theorem line_word : ∀ s ∈ (["else", "end", "main"] : List Str), LineOk s := by unfold LineOk; decide +kernel
theorem Body.lines {hs : List (Str × Nat)} : ∀ {d : Nat} {L : List Str} {R : List (Option RT)}, Body hs d L R → ∀ t ∈ L, LineOk t := by
  intro d L R h
  induction h with
  | nil => intro t ht; cases ht
  | app _ _ h1 h2 =>
    intro t ht
    rcases List.mem_append.mp ht with h | h
    · exact h1 t h
    · exact h2 t h
  | row h _ => intro t ht; rw [List.mem_singleton.mp ht]; exact RT.line h
  | call h _ => intro t ht; rw [List.mem_singleton.mp ht]; exact RT.line h
  | loop he _ h =>
    intro t ht
    rcases List.mem_cons.mp ht with rfl | ht
    · exact RT.line (rt := .loop _) he
    rcases List.mem_append.mp ht with ht | ht
    · exact h t ht
    · rw [List.mem_singleton.mp ht]; exact line_word _ (by decide +kernel)
  | ifr he _ _ h1 h2 =>
    intro t ht
    rcases List.mem_cons.mp ht with rfl | ht
    · exact RT.line (rt := .ifr _) he
    rcases List.mem_append.mp ht with ht | ht
    · exact h1 t ht
    rcases List.mem_cons.mp ht with rfl | ht
    · exact line_word _ (by decide +kernel)
    rcases List.mem_append.mp ht with ht | ht
    · exact h2 t ht
    · rw [List.mem_singleton.mp ht]; exact line_word _ (by decide +kernel)
/-! ### bodies, read -/
abbrev ONE (ts : List Str) (d : Nat) : RS → Option (RT × RS) := oneF ts (rowsF ts (blockF ts d) (decide (0 < d)))
theorem blkF_mono {ts : List Str} {one : RS → Option (RT × RS)} : ∀ {f : Nat} {st r : RS}, blkF ts one f st = some r → ∀ {g : Nat}, f ≤ g → blkF ts one g st = some r
  | 0, _, _, h, _, _ => by cases h
  | f + 1, st, r, h, g, hg => by
    obtain ⟨g, rfl⟩ : ∃ g', g = g' + 1 := ⟨g - 1, by omega⟩
    unfold blkF at h ⊢
    cases q : headAt ts st.at_ with
    | none => rw [q] at h; exact h
    | some w =>
      rw [q] at h
      simp only at h ⊢
      by_cases c : w ∈ ROWW
      · rw [if_pos c] at h ⊢
        cases q2 : one st with
        | none => rw [q2] at h; cases h
        | some z =>
          obtain ⟨rt, st2⟩ := z
          rw [q2] at h
          simp only at h ⊢
          exact blkF_mono h (by omega)
      · rw [if_neg c] at h ⊢; exact h
theorem drop_cons {ts : List Str} {i : Nat} {t : Str} {r : List Str} (h : ts.drop i = t :: r) : i < ts.length ∧ ts.getD i (Str.ofString "") = t ∧ ts.drop (i + 1) = r := by
  have hi : i < ts.length := by
    by_cases c : i < ts.length
    · exact c
    · rw [List.drop_eq_nil_of_le (by omega)] at h; cases h
  rw [List.drop_eq_getElem_cons hi] at h
  injection h with h1 h2
  refine ⟨hi, ?_, h2⟩
  rw [List.getD_eq_getElem?_getD, List.getElem?_eq_getElem hi, h1]; rfl
theorem drop_app {ts : List Str} {i : Nat} {L r : List Str} (h : ts.drop i = L ++ r) : ts.drop (i + L.length) = r := by
  rw [← List.drop_drop, h, List.drop_left]
theorem drop_len {ts : List Str} {i : Nat} {L : List Str} (h : ts.drop i = L) (hi : i ≤ ts.length) : i + L.length = ts.length := by
  have := congrArg List.length h
  rw [List.length_drop] at this
  omega
theorem words_here {ts : List Str} {i : Nat} {t : Str} {r ws : List Str} (h : ts.drop i = t :: r) (hs : Txt.split t (Str.ofString " ") = ws) : wordsAt ts i = ws ∧ headAt ts i = some (hd0 ws) := by
  obtain ⟨h1, h2, _⟩ := drop_cons h
  have e : wordsAt ts i = ws := by unfold wordsAt; rw [h2]; exact hs
  exact ⟨e, by unfold headAt; rw [if_pos h1, e]⟩
theorem blkF_stop {ts : List Str} {one : RS → Option (RT × RS)} {st : RS} {w : Str} (h : headAt ts st.at_ = some w) (hw : w ∉ ROWW) (f : Nat) : blkF ts one (f + 1) st = some st := by
  unfold blkF
  rw [h]
  simp only
  rw [if_neg hw]
theorem blkF_end {ts : List Str} {one : RS → Option (RT × RS)} {st : RS} (h : headAt ts st.at_ = none) (f : Nat) : blkF ts one (f + 1) st = some st := by
  unfold blkF
  rw [h]
theorem blkF_go {ts : List Str} {one : RS → Option (RT × RS)} {st st2 r : RS} {w : Str} {rt : RT} {f : Nat} (h : headAt ts st.at_ = some w) (hw : w ∈ ROWW) (ho : one st = some (rt, st2)) (hr : blkF ts one f ⟨st2.at_, putN st2.num st.at_ rt, st2.calls⟩ = some r) : blkF ts one (f + 1) st = some r := by
  unfold blkF
  rw [h]
  simp only
  rw [if_pos hw, ho]
  exact hr
theorem split_end : Txt.split (Str.ofString "end") (Str.ofString " ") = [Str.ofString "end"] := split_of (by rfl) (fun s hs => by rw [List.mem_singleton.mp hs]; exact tok_word _ (by decide +kernel)) (by simp)
theorem split_else : Txt.split (Str.ofString "else") (Str.ofString " ") = [Str.ofString "else"] := split_of (by rfl) (fun s hs => by rw [List.mem_singleton.mp hs]; exact tok_word _ (by decide +kernel)) (by simp)
theorem split_main : Txt.split (Str.ofString "main") (Str.ofString " ") = [Str.ofString "main"] := split_of (by rfl) (fun s hs => by rw [List.mem_singleton.mp hs]; exact tok_word _ (by decide +kernel)) (by simp)
theorem passF_here {ts : List Str} {st : RS} {t : Str} {r : List Str} (h : ts.drop st.at_ = t :: r) : passF ts t st = some ⟨st.at_ + 1, st.num, st.calls⟩ := by
  obtain ⟨h1, h2, _⟩ := drop_cons h
  unfold passF
  rw [if_pos ⟨h1, h2⟩]
/-- what a body leaves -/
structure Read (hs : List (Str × Nat)) (B : List (Option RT)) (n : Nat) (st : RS) : Prop where
  at_ : st.at_ = n
  num : NumIs st.num B
  calls : ∀ c ∈ st.calls, c ∈ hs
/-- a whole block -/
theorem block_of {ts : List Str} {d : Nat} {L : List Str} {st st' : RS} (hl : L.length ≤ ts.length)
    (hr : ∀ f r, blkF ts (ONE ts d) f st' = some r → blkF ts (ONE ts d) (f + L.length) st = some r) (hstop : blkF ts (ONE ts d) 1 st' = some st') : blockF ts (d + 1) st = some st' := by
  have := hr 1 st' hstop
  exact blkF_mono this (by omega)
theorem Body.read {hs : List (Str × Nat)} {ts : List Str} : ∀ {d : Nat} {L : List Str} {R : List (Option RT)}, Body hs d L R → ∀ {st : RS} {rest : List Str} {B : List (Option RT)}, ts.drop st.at_ = L ++ rest → Read hs B B.length st →
    ∃ st', Read hs (B ++ R) (B.length + L.length) st' ∧ ∀ f r, blkF ts (ONE ts d) f st' = some r → blkF ts (ONE ts d) (f + L.length) st = some r := by
  intro d L R h
  induction h with
  | nil => intro st rest B hd hR; exact ⟨st, by rw [List.append_nil]; exact hR, fun f r h => h⟩
  | @app d L1 L2 R1 R2 b1 b2 ih1 ih2 =>
    intro st rest B hd hR
    rw [List.append_assoc] at hd
    obtain ⟨st1, hR1, k1⟩ := ih1 hd hR
    have e1 : (B ++ R1).length = B.length + L1.length := by rw [List.length_append, b1.len]
    obtain ⟨st2, hR2, k2⟩ := ih2 (st := st1) (B := B ++ R1) (rest := rest) (by rw [hR1.at_, ← hR.at_]; exact drop_app hd) (by rw [e1]; exact hR1)
    refine ⟨st2, ?_, fun f r hf => ?_⟩
    · rw [← List.append_assoc, List.length_append, ← Nat.add_assoc, ← e1]; exact hR2
    · have := k1 _ _ (k2 f r hf)
      rw [List.length_append, ← Nat.add_assoc, Nat.add_right_comm]
      exact this
  | @row d rt ok sm =>
    intro st rest B hd hR
    obtain ⟨hw, hh⟩ := words_here hd (RT.split ok)
    obtain ⟨g1, g2, g3⟩ := simple_hd sm
    refine ⟨⟨st.at_ + 1, putN st.num st.at_ rt, st.calls⟩, ⟨by show st.at_ + 1 = _; rw [hR.at_]; rfl, hR.num.put1 hR.at_.symm, hR.calls⟩, fun f r hf => ?_⟩
    refine blkF_go (st2 := ⟨st.at_ + 1, st.num, st.calls⟩) hh g1 ?_ hf
    unfold ONE oneF
    rw [hw, if_neg g2, if_neg g3, simpleF_toks ok sm]; rfl
  | @call d b fn es ok hc =>
    intro st rest B hd hR
    obtain ⟨hw, hh⟩ := words_here hd (RT.split ok)
    have g0 : hd0 (RT.call b fn es).toks = "call" := rfl
    refine ⟨⟨st.at_ + 1, putN st.num st.at_ (.call b fn es), st.calls ++ [(fn, es.length)]⟩, ⟨by show st.at_ + 1 = _; rw [hR.at_]; rfl, hR.num.put1 hR.at_.symm, fun c hm => ?_⟩, fun f r hf => ?_⟩
    · rcases List.mem_append.mp hm with hm | hm
      · exact hR.calls c hm
      · rw [List.mem_singleton.mp hm]; exact hc
    refine blkF_go (st2 := ⟨st.at_ + 1, st.num, st.calls ++ [(fn, es.length)]⟩) hh (by rw [g0]; decide +kernel) ?_ hf
    unfold ONE oneF
    rw [hw, g0, if_neg (by decide +kernel), if_pos rfl, callF_toks ok]
  | @loop d e L R he b ih =>
    intro st rest B hd hR
    have ok : (RT.loop e).Ok := he
    obtain ⟨hw, hh⟩ := words_here hd (RT.split ok)
    obtain ⟨hlt, _, hd1⟩ := drop_cons hd
    replace hd1 := hd1.trans (List.append_assoc L [Str.ofString "end"] rest)
    have g0 : hd0 (RT.loop e).toks = "while" := rfl
    have eB : (B ++ [none]).length = st.at_ + 1 := by rw [List.length_append, hR.at_]; rfl
    obtain ⟨st1, hR1, k1⟩ := ih (st := ⟨st.at_ + 1, st.num, st.calls⟩) (B := B ++ [none]) (rest := [Str.ofString "end"] ++ rest) hd1 ⟨eB.symm, hR.num.pad, hR.calls⟩
    have a1 : st1.at_ = st.at_ + 1 + L.length := by rw [hR1.at_, eB]
    have hd2 : ts.drop st1.at_ = Str.ofString "end" :: rest := by rw [a1]; exact drop_app (i := st.at_ + 1) hd1
    obtain ⟨hl2, _, _⟩ := drop_cons hd2
    obtain ⟨_, hh2⟩ := words_here hd2 split_end
    have hb : blockF ts (d + 1) ⟨st.at_ + 1, st.num, st.calls⟩ = some st1 := block_of (by omega) k1 (blkF_stop hh2 (by decide +kernel) 0)
    have hp := passF_here hd2
    have lc : ((RT.loop e).text :: (L ++ [Str.ofString "end"])).length = L.length + 2 := by simp
    refine ⟨⟨st1.at_ + 1, putN st1.num st.at_ (.loop e), st1.calls⟩, ⟨?_, ?_, hR1.calls⟩, fun f r hf => ?_⟩
    · show st1.at_ + 1 = _
      rw [lc, a1, hR.at_]; omega
    · have := NumIs.put (n := st.at_) (rt := .loop e) (R := R ++ [none]) hR.at_.symm (by rw [← List.append_assoc]; exact hR1.num.pad)
      exact this
    · rw [lc]
      refine blkF_mono (blkF_go (st2 := ⟨st1.at_ + 1, st1.num, st1.calls⟩) hh (by rw [g0]; decide +kernel) ?_ hf) (by omega)
      unfold ONE oneF
      rw [hw, g0, if_pos (.inr rfl)]
      unfold rowsF
      have e3 : (RT.loop e).toks.drop 1 = e.toks := rfl
      rw [if_pos (decide_eq_true (Nat.succ_pos d)), e3, exL_one he]
      simp only [only1]
      rw [hb]
      simp only
      rw [g0, if_pos rfl]
      have hp' : passF ts "end" st1 = some ⟨st1.at_ + 1, st1.num, st1.calls⟩ := hp
      rw [hp']
  | @ifr d e L1 L2 R1 R2 he b1 b2 ih1 ih2 =>
    intro st rest B hd hR
    have ok : (RT.ifr e).Ok := he
    obtain ⟨hw, hh⟩ := words_here hd (RT.split ok)
    obtain ⟨hlt, _, hd1⟩ := drop_cons hd
    replace hd1 := hd1.trans (List.append_assoc L1 (Str.ofString "else" :: (L2 ++ [Str.ofString "end"])) rest)
    have g0 : hd0 (RT.ifr e).toks = "if" := rfl
    have eB : (B ++ [none]).length = st.at_ + 1 := by rw [List.length_append, hR.at_]; rfl
    obtain ⟨st1, hR1, k1⟩ := ih1 (st := ⟨st.at_ + 1, st.num, st.calls⟩) (B := B ++ [none]) (rest := (Str.ofString "else" :: (L2 ++ [Str.ofString "end"])) ++ rest) hd1 ⟨eB.symm, hR.num.pad, hR.calls⟩
    have a1 : st1.at_ = st.at_ + 1 + L1.length := by rw [hR1.at_, eB]
    have hd2 : ts.drop st1.at_ = Str.ofString "else" :: ((L2 ++ [Str.ofString "end"]) ++ rest) := by rw [a1]; exact drop_app (i := st.at_ + 1) hd1
    obtain ⟨hl2, _, hd3⟩ := drop_cons hd2
    obtain ⟨_, hh2⟩ := words_here hd2 split_else
    have hb : blockF ts (d + 1) ⟨st.at_ + 1, st.num, st.calls⟩ = some st1 := block_of (by omega) k1 (blkF_stop hh2 (by decide +kernel) 0)
    have hp := passF_here hd2
    have eB2 : (((B ++ [none]) ++ R1) ++ [none]).length = st1.at_ + 1 := by rw [List.length_append, List.length_append, ← b1.len, a1, eB]; rfl
    replace hd3 := hd3.trans (List.append_assoc L2 [Str.ofString "end"] rest)
    obtain ⟨st2, hR2, k2⟩ := ih2 (st := ⟨st1.at_ + 1, st1.num, st1.calls⟩) (B := ((B ++ [none]) ++ R1) ++ [none]) (rest := [Str.ofString "end"] ++ rest) hd3 ⟨eB2.symm, hR1.num.pad, hR1.calls⟩
    have a2 : st2.at_ = st1.at_ + 1 + L2.length := by rw [hR2.at_, eB2]
    have hd4 : ts.drop st2.at_ = Str.ofString "end" :: rest := by rw [a2]; exact drop_app (i := st1.at_ + 1) hd3
    obtain ⟨hl4, _, _⟩ := drop_cons hd4
    obtain ⟨_, hh4⟩ := words_here hd4 split_end
    have hb2 : blockF ts (d + 1) ⟨st1.at_ + 1, st1.num, st1.calls⟩ = some st2 := block_of (by omega) k2 (blkF_stop hh4 (by decide +kernel) 0)
    have hp2 := passF_here hd4
    have lc : ((RT.ifr e).text :: (L1 ++ (Str.ofString "else" :: (L2 ++ [Str.ofString "end"])))).length = L1.length + L2.length + 3 := by simp; omega
    refine ⟨⟨st2.at_ + 1, putN st2.num st.at_ (.ifr e), st2.calls⟩, ⟨?_, ?_, hR2.calls⟩, fun f r hf => ?_⟩
    · show st2.at_ + 1 = _
      rw [lc, a2, a1, hR.at_]; omega
    · have := NumIs.put (n := st.at_) (rt := .ifr e) (B := B) (R := R1 ++ (none :: (R2 ++ [none]))) hR.at_.symm (by
        have := hR2.num.pad
        simp only [List.append_assoc, List.cons_append, List.nil_append] at this ⊢
        exact this)
      exact this
    · rw [lc]
      refine blkF_mono (blkF_go (st2 := ⟨st2.at_ + 1, st2.num, st2.calls⟩) hh (by rw [g0]; decide +kernel) ?_ hf) (by omega)
      unfold ONE oneF
      rw [hw, g0, if_pos (.inl rfl)]
      unfold rowsF
      have e3 : (RT.ifr e).toks.drop 1 = e.toks := rfl
      rw [if_pos (decide_eq_true (Nat.succ_pos d)), e3, exL_one he]
      simp only [only1]
      rw [hb]
      simp only
      rw [g0, if_neg (by decide +kernel)]
      have hp' : passF ts "else" st1 = some ⟨st1.at_ + 1, st1.num, st1.calls⟩ := hp
      rw [hp']
      simp only
      rw [hb2]
      simp only
      have hp2' : passF ts "end" st2 = some ⟨st2.at_ + 1, st2.num, st2.calls⟩ := hp2
      rw [hp2']

/-! ### functions, whole programs -/
structure FnB where
  nm : Str
  ps : List Str
  L : List Str
  R : List (Option RT)
  e : Ex
def headText (nm : Str) (ps : List Str) : Str := Txt.join (Str.ofString " ") (Str.ofString "fun" :: nm :: ps)
def FnB.lines (b : FnB) : List Str := headText b.nm b.ps :: (b.L ++ [(RT.give b.e).text])
def FnB.rows (b : FnB) : List (Option RT) := none :: (b.R ++ [some (.give b.e)])
def FnB.ar (b : FnB) : Str × Nat := (b.nm, b.ps.length)
def HeadOk (nm : Str) (ps : List Str) : Prop := isNameW nm = true ∧ (∀ p ∈ ps, isNameW p = true) ∧ ps.length ≤ 3 ∧ cntTo ps ps.length = ps.length
structure FnB.Ok (hs : List (Str × Nat)) (b : FnB) : Prop where
  head : HeadOk b.nm b.ps
  ex : ExOk b.e
  body : Body hs 5 b.L b.R
theorem head_tl (nm : Str) (ps : List Str) : tl (headText nm ps) = joinL [32] ((Str.ofString "fun" :: nm :: ps).map tl) := by
  unfold headText
  rw [join_eq, tl_join, tl_blank]
theorem head_tok {nm : Str} {ps : List Str} (h : HeadOk nm ps) : ∀ s ∈ (Str.ofString "fun" :: nm :: ps), TokOk s := fun s hs => by
  rcases List.mem_cons.mp hs with rfl | hs
  · exact tok_word _ (by decide +kernel)
  rcases List.mem_cons.mp hs with rfl | hs
  · exact tok_name h.1
  · exact tok_name (h.2.1 s hs)
theorem head_split {nm : Str} {ps : List Str} (h : HeadOk nm ps) : Txt.split (headText nm ps) (Str.ofString " ") = Str.ofString "fun" :: nm :: ps := split_of (head_tl nm ps) (head_tok h) (by simp)
theorem head_line {nm : Str} {ps : List Str} (h : HeadOk nm ps) : LineOk (headText nm ps) := line_of (head_tl nm ps) (head_tok h) (by have := h.2.2.1; simp; omega)
theorem FnB.Ok.len {hs : List (Str × Nat)} {b : FnB} (h : b.Ok hs) : b.lines.length = b.rows.length := by
  have := h.body.len
  unfold FnB.lines FnB.rows
  simp only [List.length_cons, List.length_append, List.length_nil, this]
theorem FnB.Ok.lineOk {hs : List (Str × Nat)} {b : FnB} (h : b.Ok hs) : ∀ t ∈ b.lines, LineOk t := fun t ht => by
  rcases List.mem_cons.mp ht with rfl | ht
  · exact head_line h.head
  rcases List.mem_append.mp ht with ht | ht
  · exact h.body.lines t ht
  · rw [List.mem_singleton.mp ht]; exact RT.line (rt := .give b.e) h.ex
theorem fn_read {hs : List (Str × Nat)} {ts : List Str} {b : FnB} (ok : b.Ok hs) {st : RS} {rest : List Str} {B : List (Option RT)} (hd : ts.drop st.at_ = b.lines ++ rest) (hR : Read hs B B.length st) :
    ∃ st', Read hs (B ++ b.rows) (B.length + b.lines.length) st' ∧ functionF ts st = some (b.ar, st') ∧ headAt ts st.at_ = some (Str.ofString "fun") := by
  have hd0' : ts.drop st.at_ = headText b.nm b.ps :: ((b.L ++ [(RT.give b.e).text]) ++ rest) := hd
  obtain ⟨hw, hh⟩ := words_here hd0' (head_split ok.head)
  obtain ⟨hlt, _, hd1⟩ := drop_cons hd0'
  replace hd1 := hd1.trans (List.append_assoc b.L [(RT.give b.e).text] rest)
  have eB : (B ++ [none]).length = st.at_ + 1 := by rw [List.length_append, hR.at_]; rfl
  obtain ⟨st1, hR1, k1⟩ := ok.body.read (st := ⟨st.at_ + 1, st.num, st.calls⟩) (B := B ++ [none]) hd1 ⟨eB.symm, hR.num.pad, hR.calls⟩
  have a1 : st1.at_ = st.at_ + 1 + b.L.length := by rw [hR1.at_, eB]
  have hd2 : ts.drop st1.at_ = (RT.give b.e).text :: rest := by rw [a1]; exact drop_app (i := st.at_ + 1) hd1
  obtain ⟨hl2, _, _⟩ := drop_cons hd2
  have okg : (RT.give b.e).Ok := ok.ex
  obtain ⟨hw2, hh2⟩ := words_here hd2 (RT.split okg)
  have hb : blockF ts 6 ⟨st.at_ + 1, st.num, st.calls⟩ = some st1 := block_of (by omega) k1 (blkF_stop hh2 (by show hd0 (RT.give b.e).toks ∉ ROWW; show hd0 (Str.ofString "give" :: ([] : List Str)) ∉ ROWW; decide +kernel) 0)
  refine ⟨⟨st1.at_ + 1, putN st1.num st1.at_ (.give b.e), st1.calls⟩, ⟨?_, ?_, hR1.calls⟩, ?_, hh⟩
  · show st1.at_ + 1 = _
    unfold FnB.lines
    rw [a1, hR.at_]; simp only [List.length_cons, List.length_append, List.length_nil]; omega
  · have := hR1.num.put1 (rt := .give b.e) (n := st1.at_) (by rw [List.length_append, ← ok.body.len, a1, eB])
    unfold FnB.rows
    simp only [List.append_assoc, List.cons_append, List.nil_append] at this ⊢
    exact this
  · unfold functionF
    obtain ⟨h1, h2, h3, h4⟩ := ok.head
    have hall : ((Str.ofString "fun" :: b.nm :: b.ps).drop 1).all isNameW = true := by
      rw [List.all_eq_true]
      intro x hx
      rcases List.mem_cons.mp hx with rfl | hx
      · exact h1
      · exact h2 x hx
    rw [hw, if_pos ⟨hall, by simp, h3, h4⟩, hb]
    simp only
    have hh2' : headAt ts st1.at_ = some "give" := hh2
    rw [if_pos hh2', hw2]
    have e3 : (RT.give b.e).toks.drop 1 = b.e.toks := rfl
    rw [e3, exL_one ok.ex]; rfl
theorem funs_read {hs : List (Str × Nat)} {ts : List Str} : ∀ (bs : List FnB), (∀ b ∈ bs, b.Ok hs) → ∀ {fs : List (Str × Nat)} {st : RS} {rest : List Str} {B : List (Option RT)}, ts.drop st.at_ = bs.flatMap FnB.lines ++ rest → Read hs B B.length st →
    fs.length + bs.length ≤ 4 → ((fs ++ bs.map FnB.ar).map Prod.fst).Nodup → ∃ st', Read hs (B ++ bs.flatMap FnB.rows) (B.length + (bs.flatMap FnB.lines).length) st' ∧ ∀ f r, funsF ts f (fs ++ bs.map FnB.ar) st' = some r → funsF ts (f + bs.length) fs st = some r
  | [], _, fs, st, rest, B, hd, hR, _, _ => ⟨st, by rw [List.flatMap_nil, List.append_nil]; exact hR, fun f r h => by rw [List.map_nil, List.append_nil] at h; exact h⟩
  | b :: bs, ok, fs, st, rest, B, hd, hR, hl, hn => by
    have ok1 := ok b List.mem_cons_self
    rw [List.flatMap_cons, List.append_assoc] at hd
    obtain ⟨st1, hR1, e1, hh⟩ := fn_read ok1 hd hR
    have el : (B ++ b.rows).length = B.length + b.lines.length := by rw [List.length_append, ok1.len]
    have hn' : (((fs ++ [b.ar]) ++ bs.map FnB.ar).map Prod.fst).Nodup := by rw [List.append_assoc]; exact hn
    obtain ⟨st2, hR2, k2⟩ := funs_read bs (fun x hx => ok x (List.mem_cons_of_mem _ hx)) (fs := fs ++ [b.ar]) (st := st1) (rest := rest) (B := B ++ b.rows) (by rw [hR1.at_, ← hR.at_]; exact drop_app hd) (by rw [el]; exact hR1) (by rw [List.length_append, List.length_singleton]; rw [List.length_cons] at hl; omega) hn'
    refine ⟨st2, ?_, fun f r h => ?_⟩
    · rw [List.flatMap_cons, List.flatMap_cons, ← List.append_assoc, List.length_append, ← Nat.add_assoc, ← el]; exact hR2
    · have hk := k2 f r (by rw [List.append_assoc]; exact h)
      show funsF ts (f + bs.length + 1) fs st = some r
      unfold funsF
      have hh' : headAt ts st.at_ = some "fun" := hh
      rw [if_pos hh', e1]
      simp only
      rw [if_neg ?_]
      · exact hk
      · rintro (hc | hc)
        · obtain ⟨g, hg, hd⟩ := List.any_eq_true.mp hc
          have hd := of_decide_eq_true hd
          rw [List.map_append, List.nodup_append] at hn
          exact hn.2.2 g.1 (List.mem_map.mpr ⟨g, hg, rfl⟩) b.ar.1 (by rw [List.map_cons, List.map_cons]; exact List.mem_cons_self) hd
        · rw [List.length_cons] at hl; omega
theorem nodup_fst : ∀ {hs : List (Str × Nat)}, (hs.map Prod.fst).Nodup → ∀ {g c : Str × Nat}, g ∈ hs → c ∈ hs → g.1 = c.1 → g = c
  | [], _, _, _, h, _, _ => by cases h
  | x :: r, hn, g, c, hg, hc, e => by
    rw [List.map_cons, List.nodup_cons] at hn
    rcases List.mem_cons.mp hg with hg | hg
    · rcases List.mem_cons.mp hc with hc | hc
      · rw [hg, hc]
      · exact absurd (List.mem_map.mpr ⟨c, hc, by rw [← e, hg]⟩ : x.1 ∈ r.map Prod.fst) hn.1
    · rcases List.mem_cons.mp hc with hc | hc
      · exact absurd (List.mem_map.mpr ⟨g, hg, by rw [e, hc]⟩ : x.1 ∈ r.map Prod.fst) hn.1
      · exact nodup_fst hn.2 hg hc e
theorem callOk_mem {hs : List (Str × Nat)} (hn : (hs.map Prod.fst).Nodup) {c : Str × Nat} (hc : c ∈ hs) : callOk hs c = true := by
  unfold callOk
  cases q : hs.find? fun f => decide (f.1 = c.1) with
  | none =>
    rw [List.find?_eq_none] at q
    have := q c hc
    rw [decide_eq_true rfl] at this
    exact absurd rfl this
  | some g =>
    have g1 := List.mem_of_find?_eq_some q
    have g2 : g.1 = c.1 := of_decide_eq_true (by have := List.find?_some q; exact this)
    have : g = c := nodup_fst hn g1 hc g2
    rw [this]
    exact decide_eq_true rfl
theorem flat_ge : ∀ bs : List FnB, bs.length ≤ (bs.flatMap FnB.lines).length
  | [] => Nat.zero_le _
  | b :: r => by
    have := flat_ge r
    rw [List.flatMap_cons, List.length_append, List.length_cons]
    have : 1 ≤ b.lines.length := by unfold FnB.lines; rw [List.length_cons]; omega
    omega
theorem flat_same {hs : List (Str × Nat)} : ∀ bs : List FnB, (∀ b ∈ bs, b.Ok hs) → (bs.flatMap FnB.lines).length = (bs.flatMap FnB.rows).length
  | [], _ => rfl
  | b :: r, ok => by
    rw [List.flatMap_cons, List.flatMap_cons, List.length_append, List.length_append, (ok b List.mem_cons_self).len, flat_same r fun x hx => ok x (List.mem_cons_of_mem _ hx)]
/-- the lines of a program, its rows -/
structure ProgOk (ts : List Str) (R : List (Option RT)) : Prop where
  ex : ∃ (bs : List FnB) (L : List Str) (M : List (Option RT)), (∀ b ∈ bs, b.Ok (bs.map FnB.ar)) ∧ bs.length ≤ 4 ∧ ((bs.map FnB.ar).map Prod.fst).Nodup ∧ Body (bs.map FnB.ar) 5 L M ∧ ts = bs.flatMap FnB.lines ++ Str.ofString "main" :: L ∧ R = bs.flatMap FnB.rows ++ none :: M
  len : ts.length ≤ 60
theorem ProgOk.read {ts : List Str} {R : List (Option RT)} (h : ProgOk ts R) : ∃ num, readF ts = some num ∧ NumIs num R := by
  obtain ⟨bs, L, M, ok, h4, hn, hb, hts, hR⟩ := h.ex
  obtain ⟨st1, r1, k1⟩ := funs_read (ts := ts) bs ok (fs := []) (st := ⟨0, [], []⟩) (rest := Str.ofString "main" :: L) (B := []) (by rw [List.drop_zero]; exact hts) ⟨rfl, fun n => by rfl, fun c hc => by cases hc⟩ (by show 0 + bs.length ≤ 4; omega) (by rw [List.nil_append]; exact hn)
  have a1 : st1.at_ = (bs.flatMap FnB.lines).length := by rw [r1.at_]; exact Nat.zero_add _
  have hd : ts.drop st1.at_ = Str.ofString "main" :: L := by rw [a1, hts, List.drop_left]
  obtain ⟨_, hh⟩ := words_here hd split_main
  obtain ⟨hlt, _, hd2⟩ := drop_cons hd
  have hf : ∃ f, ts.length + 1 = (f + 1) + bs.length := by
    have hx := flat_ge bs
    exact ⟨ts.length - bs.length, by omega⟩
  obtain ⟨f, hf⟩ := hf
  have hfun : funsF ts (f + 1) ([] ++ bs.map FnB.ar) st1 = some (bs.map FnB.ar, st1) := by
    unfold funsF
    rw [if_neg]
    · rfl
    · rw [hh]
      show ¬ some (hd0 [Str.ofString "main"]) = some (Str.ofString "fun")
      intro e
      exact absurd (Option.some.inj e) (by decide +kernel)
  have hp := passF_here hd
  have eB : (([] ++ bs.flatMap FnB.rows) ++ [none]).length = st1.at_ + 1 := by
    rw [List.nil_append, List.length_append, a1]
    rw [flat_same bs ok]; rfl
  obtain ⟨st2, r2, k2⟩ := hb.read (ts := ts) (st := ⟨st1.at_ + 1, st1.num, st1.calls⟩) (rest := []) (B := ([] ++ bs.flatMap FnB.rows) ++ [none]) (by rw [List.append_nil]; exact hd2) ⟨eB.symm, r1.num.pad, r1.calls⟩
  have a2 : st2.at_ = ts.length := by
    rw [r2.at_, eB]
    exact drop_len hd2 hlt
  have hblk : blockF ts 6 ⟨st1.at_ + 1, st1.num, st1.calls⟩ = some st2 := block_of (by rw [hts, List.length_append, List.length_cons]; omega) k2 (blkF_end (by unfold headAt; rw [if_neg (by omega)]) 0)
  refine ⟨st2.num, ?_, ?_⟩
  · unfold readF
    rw [if_pos h.len, hf, k1 (f + 1) _ hfun]
    simp only
    have hp' : passF ts "main" st1 = some ⟨st1.at_ + 1, st1.num, st1.calls⟩ := hp
    rw [hp']
    simp only
    rw [hblk]
    simp only
    rw [if_pos ⟨a2, List.all_eq_true.mpr fun c hc => callOk_mem hn (r2.calls c hc)⟩]
  · have := r2.num
    rw [hR]
    simp only [List.append_assoc, List.cons_append, List.nil_append] at this ⊢
    exact this
theorem ProgOk.lines {ts : List Str} {R : List (Option RT)} (h : ProgOk ts R) : ∀ t ∈ ts, LineOk t := by
  obtain ⟨bs, L, M, ok, h4, hn, hb, hts, hR⟩ := h.ex
  intro t ht
  rw [hts] at ht
  rcases List.mem_append.mp ht with ht | ht
  · obtain ⟨b, hb, ht⟩ := List.mem_flatMap.mp ht
    exact (ok b hb).lineOk t ht
  rcases List.mem_cons.mp ht with rfl | ht
  · exact line_word _ (by decide +kernel)
  · exact hb.lines t ht
theorem ProgOk.ne {ts : List Str} {R : List (Option RT)} (h : ProgOk ts R) : ts ≠ [] := by
  obtain ⟨bs, L, M, ok, h4, hn, hb, hts, hR⟩ := h.ex
  rw [hts]; simp
theorem split_lines {ts : List Str} (h : ∀ t ∈ ts, LineOk t) (hn : ts ≠ []) : Txt.split (Txt.join (Str.ofString "\n") ts) (Str.ofString "\n") = ts :=
  split_join (s := 10) (S := []) tl_end (by decide +kernel) hn fun p hp hm => by have := (h p hp).2 10 hm; omega
theorem LineOk.cod {t : Str} (h : LineOk t) : PyData.strOk t = true := strOk_of fun c hc => (h.2 c hc).2
theorem text_ok {ts : List Str} (h : ∀ t ∈ ts, LineOk t) (hl : ts.length ≤ 100) (hn : ts ≠ []) : TextOk (Txt.join (Str.ofString "\n") ts) := by
  have e := split_lines h hn
  refine ⟨?_, ?_, ?_⟩
  · have hj : ∀ (ps : List (List Nat)), (∀ p ∈ ps, p.length ≤ 1000) → (joinL [10] ps).length ≤ 1001 * ps.length := by
      intro ps
      induction ps with
      | nil => intro _; exact Nat.zero_le _
      | cons p r ih =>
        intro h
        have h1 := h p List.mem_cons_self
        have h2 := ih fun q hq => h q (List.mem_cons_of_mem _ hq)
        cases r with
        | nil => show p.length ≤ 1001 * 1; omega
        | cons q r =>
          show (p ++ ([10] ++ joinL [10] (q :: r))).length ≤ 1001 * ((q :: r).length + 1)
          rw [List.length_append, List.length_append]
          show p.length + (1 + _) ≤ _
          omega
    rw [len_tl, join_eq, tl_join, tl_end]
    have := hj (ts.map tl) fun p hp => by
      obtain ⟨t, ht, rfl⟩ := List.mem_map.mp hp
      have := (h t ht).1
      rw [len_tl] at this; exact this
    rw [List.length_map] at this
    omega
  · have e' : Txt.split (Txt.join (Str.ofString "\n") ts) "\n" = ts := e
    rw [e']
    exact fun t ht => Nat.le_trans (h t ht).1 (by decide)
  · refine strOk_of fun c hc => ?_
    rw [join_eq, tl_join, tl_end] at hc
    rcases joinL_mem2 hc with rfl | ⟨p, hp, hc⟩
    · decide
    · obtain ⟨t, ht, rfl⟩ := List.mem_map.mp hp
      exact ((h t ht).2 c hc).2

/-! ### the law's world -/
theorem freshNe {H : Hp} {p q : Addr} {o : HO} (h : H p = some o) (n : H q = none) : q ≠ p := fun e => by rw [e, h] at n; cases n
def KeepT (H H' : Hp) : Prop := ∀ t xs, H t = some (.tup xs) → H' t = some (.tup xs)
theorem KeepT.trans {H H1 H2 : Hp} (a : KeepT H H1) (b : KeepT H1 H2) : KeepT H H2 := fun t xs h => b t xs (a t xs h)
theorem keepT_same {H H' : Hp} (s : Same H H') : KeepT H H' := fun t xs h => s _ _ h
theorem keepT_x {p : Addr} {H H' : Hp} (k : KeepX p H H') (W : WellAt H p) : KeepT H H' := fun t xs h => k.tup W h
theorem keepT_upd {H : Hp} {a : Addr} {o o' : HO} (e : H a = some o) (n : ∀ xs, o ≠ .tup xs) : KeepT H (upd H a o') := fun t xs h => by
  rw [upd_ne (ne_of h e (fun z => n xs z.symm))]; exact h
theorem ToldE.keepT {K : PySem.W.Frag} {H H' : Hp} (k : KeepT H H') : ∀ {e : Ex} {v : V}, ToldE K H e v → ToldE K H' e v
  | .num n, v, ⟨t, h1, h2⟩ => ⟨t, h1, k _ _ h2⟩
  | .box n, v, ⟨t, h1, h2⟩ => ⟨t, h1, k _ _ h2⟩
  | .cell e, v, ⟨t, i, h1, h2, h3⟩ => ⟨t, i, h1, k _ _ h2, ToldE.keepT k h3⟩
  | .two w l r, v, ⟨t, a, b, h1, h2, h3, h4⟩ => ⟨t, a, b, h1, k _ _ h2, ToldE.keepT k h3, ToldE.keepT k h4⟩
theorem RTold.keepT {K : PySem.W.Frag} {H H' : Hp} (k : KeepT H H') : ∀ {rt : RT} {v : V}, RTold K H rt v → RTold K H' rt v
  | .skip, v, ⟨t, h1, h2⟩ => ⟨t, h1, k _ _ h2⟩
  | .set _ _, v, ⟨t, x, h1, h2, h3⟩ => ⟨t, x, h1, k _ _ h2, h3.keepT k⟩
  | .put _ _, v, ⟨t, x, y, h1, h2, h3, h4⟩ => ⟨t, x, y, h1, k _ _ h2, h3.keepT k, h4.keepT k⟩
  | .ask _ _ _, v, ⟨t, x, h1, h2, h3⟩ => ⟨t, x, h1, k _ _ h2, h3.keepT k⟩
  | .draw _ _, v, ⟨t, h1, h2⟩ => ⟨t, h1, k _ _ h2⟩
  | .tell _, v, ⟨t, x, h1, h2, h3⟩ => ⟨t, x, h1, k _ _ h2, h3.keepT k⟩
  | .ifr _, v, ⟨t, x, h1, h2, h3⟩ => ⟨t, x, h1, k _ _ h2, h3.keepT k⟩
  | .loop _, v, ⟨t, x, h1, h2, h3⟩ => ⟨t, x, h1, k _ _ h2, h3.keepT k⟩
  | .call _ _ _, v, ⟨t, xs, h1, h2, h3⟩ => ⟨t, xs, h1, k _ _ h2, h3.mono fun _ _ h => h.keepT k⟩
  | .give _, v, ⟨t, x, h1, h2, h3⟩ => ⟨t, x, h1, k _ _ h2, h3.keepT k⟩
def RT.parts : RT → List (Str ⊕ Ex)
  | .skip => [.inl "skip"]
  | .set b e => [.inl "set", .inl b, .inr e]
  | .put a b => [.inl "put", .inr a, .inr b]
  | .ask b w e => [.inl "ask", .inl b, .inl w, .inr e]
  | .draw b w => [.inl "draw", .inl b, .inl w]
  | .tell e => [.inl "tell", .inr e]
  | .ifr e => [.inl "if", .inr e]
  | .loop e => [.inl "while", .inr e]
  | .call b f es => .inl "call" :: .inl b :: .inl f :: es.map .inr
  | .give e => [.inl "give", .inr e]
def partText : Str ⊕ Ex → Str
  | .inl s => s
  | .inr e => e.text
theorem RT.words_parts (rt : RT) : rt.words = rt.parts.map partText := by
  cases rt with
  | call b f es =>
    show Str.ofString "call" :: b :: f :: (es.map fun e => (e.text, e.toks)).map Prod.fst = Str.ofString "call" :: b :: f :: (es.map Sum.inr).map partText
    rw [List.map_map, List.map_map]; rfl
  | _ => rfl
def PartV (K : PySem.W.Frag) (H : Hp) : Str ⊕ Ex → V → Prop
  | .inl s, x => x = .str s
  | .inr e, x => ToldE K H e x
theorem parts_told {K : PySem.W.Frag} {H : Hp} : ∀ {es : List Ex} {xs : List V}, All2 (ToldE K H) es xs → All2 (PartV K H) (es.map Sum.inr) xs
  | _, _, .nil => .nil
  | _, _, .cons h t => .cons h (parts_told t)
theorem RTold.parts {K : PySem.W.Frag} {H : Hp} : ∀ {rt : RT} {r : V}, RTold K H rt r → ∃ t xs, r = .ref t ∧ H t = some (.tup xs) ∧ All2 (PartV K H) rt.parts xs
  | .skip, r, ⟨t, h1, h2⟩ => ⟨t, _, h1, h2, .cons rfl .nil⟩
  | .set _ _, r, ⟨t, x, h1, h2, h3⟩ => ⟨t, _, h1, h2, .cons rfl (.cons rfl (.cons h3 .nil))⟩
  | .put _ _, r, ⟨t, x, y, h1, h2, h3, h4⟩ => ⟨t, _, h1, h2, .cons rfl (.cons h3 (.cons h4 .nil))⟩
  | .ask _ _ _, r, ⟨t, x, h1, h2, h3⟩ => ⟨t, _, h1, h2, .cons rfl (.cons rfl (.cons rfl (.cons h3 .nil)))⟩
  | .draw _ _, r, ⟨t, h1, h2⟩ => ⟨t, _, h1, h2, .cons rfl (.cons rfl (.cons rfl .nil))⟩
  | .tell _, r, ⟨t, x, h1, h2, h3⟩ => ⟨t, _, h1, h2, .cons rfl (.cons h3 .nil)⟩
  | .ifr _, r, ⟨t, x, h1, h2, h3⟩ => ⟨t, _, h1, h2, .cons rfl (.cons h3 .nil)⟩
  | .loop _, r, ⟨t, x, h1, h2, h3⟩ => ⟨t, _, h1, h2, .cons rfl (.cons h3 .nil)⟩
  | .call _ _ _, r, ⟨t, xs, h1, h2, h3⟩ => ⟨t, _, h1, h2, .cons rfl (.cons rfl (.cons rfl (parts_told h3)))⟩
  | .give _, r, ⟨t, x, h1, h2, h3⟩ => ⟨t, _, h1, h2, .cons rfl (.cons h3 .nil)⟩
theorem RT.parts_ok {rt : RT} (h : rt.Ok) : (∀ p ∈ rt.parts, match p with | .inl s => (tl s).length ≤ 6 | .inr e => ExOk e) ∧ rt.parts.length ≤ 6 := by
  have nm : ∀ {s : Str}, isNameW s = true → (tl s).length ≤ 6 := fun h => (tok_name h).1
  cases rt with
  | call b f es =>
    refine ⟨fun p hp => ?_, ?_⟩
    · rcases List.mem_cons.mp hp with rfl | hp
      · exact (tok_word "call" (by decide +kernel)).1
      rcases List.mem_cons.mp hp with rfl | hp
      · exact nm h.1
      rcases List.mem_cons.mp hp with rfl | hp
      · exact nm h.2.1
      · obtain ⟨e, he, rfl⟩ := List.mem_map.mp hp
        exact h.2.2.1 e he
    · have := h.2.2.2
      show (es.map Sum.inr).length + 1 + 1 + 1 ≤ 6
      rw [List.length_map]; omega
  | skip =>
    refine ⟨fun p hp => ?_, by simp [RT.parts]⟩
    rw [List.mem_singleton.mp hp]
    exact (tok_word "skip" (by decide +kernel)).1
  | set b e =>
    refine ⟨fun p hp => ?_, by simp [RT.parts]⟩
    simp only [RT.parts, List.mem_cons, List.not_mem_nil, or_false] at hp
    rcases hp with rfl | rfl | rfl
    · exact (tok_word "set" (by decide +kernel)).1
    · exact nm h.1
    · exact h.2
  | put a b =>
    refine ⟨fun p hp => ?_, by simp [RT.parts]⟩
    simp only [RT.parts, List.mem_cons, List.not_mem_nil, or_false] at hp
    rcases hp with rfl | rfl | rfl
    · exact (tok_word "put" (by decide +kernel)).1
    · exact h.1
    · exact h.2
  | ask b w e =>
    refine ⟨fun p hp => ?_, by simp [RT.parts]⟩
    simp only [RT.parts, List.mem_cons, List.not_mem_nil, or_false] at hp
    rcases hp with rfl | rfl | rfl | rfl
    · exact (tok_word "ask" (by decide +kernel)).1
    · exact nm h.1
    · exact nm h.2.1
    · exact h.2.2
  | draw b w =>
    refine ⟨fun p hp => ?_, by simp [RT.parts]⟩
    simp only [RT.parts, List.mem_cons, List.not_mem_nil, or_false] at hp
    rcases hp with rfl | rfl | rfl
    · exact (tok_word "draw" (by decide +kernel)).1
    · exact nm h.1
    · exact nm h.2
  | tell e =>
    refine ⟨fun p hp => ?_, by simp [RT.parts]⟩
    simp only [RT.parts, List.mem_cons, List.not_mem_nil, or_false] at hp
    rcases hp with rfl | rfl
    · exact (tok_word "tell" (by decide +kernel)).1
    · exact h
  | ifr e =>
    refine ⟨fun p hp => ?_, by simp [RT.parts]⟩
    simp only [RT.parts, List.mem_cons, List.not_mem_nil, or_false] at hp
    rcases hp with rfl | rfl
    · exact (tok_word "if" (by decide +kernel)).1
    · exact h
  | loop e =>
    refine ⟨fun p hp => ?_, by simp [RT.parts]⟩
    simp only [RT.parts, List.mem_cons, List.not_mem_nil, or_false] at hp
    rcases hp with rfl | rfl
    · exact (tok_word "while" (by decide +kernel)).1
    · exact h
  | give e =>
    refine ⟨fun p hp => ?_, by simp [RT.parts]⟩
    simp only [RT.parts, List.mem_cons, List.not_mem_nil, or_false] at hp
    rcases hp with rfl | rfl
    · exact (tok_word "give" (by decide +kernel)).1
    · exact h
theorem part_len {p : Str ⊕ Ex} (h : match p with | .inl s => (tl s).length ≤ 6 | .inr e => ExOk e) : (partText p).length ≤ 110 := by
  cases p with
  | inl s => show s.length ≤ 110; rw [len_tl]; exact Nat.le_trans h (by decide)
  | inr e =>
    have := Ex.text_len (e := e) h.1
    have := h.2.2
    show e.text.length ≤ 110
    omega
structure WA where
  w : Addr
  ll : Addr
  lr : Addr
  lh : Addr
structure WS where
  ls : List Str
  R : List (Option RT)
  left : Int
def wF (X : WA) (n : Int) : List (Key × V) := [(.inr "lines", .ref X.ll), (.inr "rows", .ref X.lr), (.inr "heads", .ref X.lh), (.inr "left", .int n)]
def HeadH (N : Addr → Prop) (H : Hp) (f : Str × List Str) (v : V) : Prop := ∃ t l, v = .ref t ∧ H t = some (.tup [.str f.1, .ref l]) ∧ N l ∧ H l = some (.lst (f.2.map V.str))
def RowsD (K : PySem.W.Frag) (H : Hp) (kvs : List (Key × V)) (R : List (Option RT)) : Prop := kvs.length ≤ R.length ∧ (∀ n : Int, n < 0 → valV kvs (.inl n) = none) ∧
  (∀ n : Nat, (R.getD n none = none ∧ valV kvs (.inl (n : Int)) = none) ∨ ∃ rt v, R.getD n none = some rt ∧ valV kvs (.inl (n : Int)) = some v ∧ RTold K H rt v) ∧
  ∃ ks : List Nat, kvs.map Prod.fst = ks.map (fun k : Nat => (Sum.inl (k : Int) : Key)) ∧ ks.Nodup ∧ ∀ k ∈ ks, k < R.length
structure WH (K : PySem.W.Frag) (X : WA) (hs : List (Str × List Str)) (H : Hp) (s : WS) : Prop where
  dict : H X.w = some (.dK (wF X s.left))
  lines : H X.ll = some (.lst (s.ls.map V.str))
  rows : ∃ kvs, H X.lr = some (.dK kvs) ∧ RowsD K H kvs s.R
  heads : ∃ hv, H X.lh = some (.lst hv) ∧ All2 (HeadH (fun l => l ≠ X.ll) H) hs hv
  ne : X.ll ≠ X.lh
  ne2 : X.w ≠ X.lr
  len : s.ls.length = s.R.length
theorem keyNe {a b : Str} (h : a ≠ b) {v : V} : ¬ ((Sum.inr a : Key), v).1 = (Sum.inr b : Key) := fun e => h (Sum.inr.inj e)
theorem wF_lines (X : WA) (n : Int) : valV (wF X n) (.inr "lines") = some (.ref X.ll) := valV_pos rfl
theorem wF_rows (X : WA) (n : Int) : valV (wF X n) (.inr "rows") = some (.ref X.lr) := by
  unfold wF; rw [valV_neg (keyNe (by decide +kernel)), valV_pos rfl]
theorem wF_heads (X : WA) (n : Int) : valV (wF X n) (.inr "heads") = some (.ref X.lh) := by
  unfold wF; rw [valV_neg (keyNe (by decide +kernel)), valV_neg (keyNe (by decide +kernel)), valV_pos rfl]
theorem wF_left (X : WA) (n : Int) : valV (wF X n) (.inr "left") = some (.int n) := by
  unfold wF; rw [valV_neg (keyNe (by decide +kernel)), valV_neg (keyNe (by decide +kernel)), valV_neg (keyNe (by decide +kernel)), valV_pos rfl]
theorem wF_put (X : WA) (n m : Int) : putK (wF X n) (.inr "left") (.int m) = wF X m := by
  have e : ((wF X n).any fun kv => decide (kv.1 = (.inr "left" : Key))) = true := by
    exact List.any_eq_true.mpr ⟨((.inr "left" : Key), V.int n), by unfold wF; simp, decide_eq_true rfl⟩
  unfold putK
  rw [if_pos e]
  unfold wF
  rw [List.map_cons, List.map_cons, List.map_cons, List.map_cons, if_neg (keyNe (by decide +kernel)), if_neg (keyNe (by decide +kernel)), if_neg (keyNe (by decide +kernel)), if_pos rfl]; rfl
theorem mergeK_new : ∀ (kvs acc : List (Key × V)), (∀ kv ∈ kvs, ∀ a ∈ acc, a.1 ≠ kv.1) → (kvs.map Prod.fst).Nodup → mergeK acc kvs = acc ++ kvs
  | [], acc, _, _ => by rw [List.append_nil]; rfl
  | kv :: r, acc, h, hn => by
    rw [List.map_cons, List.nodup_cons] at hn
    have e : putK acc kv.1 kv.2 = acc ++ [kv] := by
      unfold putK
      rw [if_neg]
      intro c
      obtain ⟨a, ha, hd⟩ := List.any_eq_true.mp c
      exact h kv List.mem_cons_self a ha (of_decide_eq_true hd)
    show mergeK (putK acc kv.1 kv.2) r = _
    rw [e, mergeK_new r (acc ++ [kv]) ?_ hn.2, List.append_assoc]; rfl
    intro x hx a ha
    rcases List.mem_append.mp ha with ha | ha
    · exact h x (List.mem_cons_of_mem _ hx) a ha
    · rw [List.mem_singleton.mp ha]
      exact fun e => hn.1 (List.mem_map.mpr ⟨x, hx, e.symm⟩)
theorem wF_merge (X : WA) (n : Int) : mergeK [] (wF X n) = wF X n := by
  rw [mergeK_new (wF X n) [] (fun _ _ a ha => by cases ha) (by show (([.inr "lines", .inr "rows", .inr "heads", .inr "left"] : List Key)).Nodup; decide +kernel), List.nil_append]
section
variable {K : PySem.W.Frag} {X : WA} {hs : List (Str × List Str)} {H H' : Hp} {s : WS} {p : Addr}
theorem WH.gLines (h : WH K X hs H s) : DGet H X.w (.str "lines") (some (.ref X.ll)) := by rw [← wF_lines X s.left]; exact DGet.k (k := .inr "lines") h.dict
theorem WH.gRows (h : WH K X hs H s) : DGet H X.w (.str "rows") (some (.ref X.lr)) := by rw [← wF_rows X s.left]; exact DGet.k (k := .inr "rows") h.dict
theorem WH.gHeads (h : WH K X hs H s) : DGet H X.w (.str "heads") (some (.ref X.lh)) := by rw [← wF_heads X s.left]; exact DGet.k (k := .inr "heads") h.dict
theorem WH.gLeft (h : WH K X hs H s) : DGet H X.w (.str "left") (some (.int s.left)) := by rw [← wF_left X s.left]; exact DGet.k (k := .inr "left") h.dict
theorem wG_lines {n : Int} (h : H X.w = some (.dK (wF X n))) : DGet H X.w (.str "lines") (some (.ref X.ll)) := by rw [← wF_lines X n]; exact DGet.k (k := .inr "lines") h
theorem HeadH.mv {N : Addr → Prop} {f : Str × List Str} {v : V} (kt : KeepT H H') (kl : ∀ l (ws : List Str), N l → H l = some (.lst (ws.map V.str)) → H' l = some (.lst (ws.map V.str))) (h : HeadH N H f v) : HeadH N H' f v := by
  obtain ⟨t, l, h1, h2, h3, h4⟩ := h
  exact ⟨t, l, h1, kt _ _ h2, h3, kl _ _ h3 h4⟩
theorem RowsD.mv {kvs : List (Key × V)} {R : List (Option RT)} (kt : KeepT H H') (h : RowsD K H kvs R) : RowsD K H' kvs R := ⟨h.1, h.2.1, (fun n => by
  rcases h.2.2.1 n with c | ⟨rt, v, c1, c2, c3⟩
  · exact .inl c
  · exact .inr ⟨rt, v, c1, c2, c3.keepT kt⟩), h.2.2.2⟩
theorem well_strs {a : Addr} {ws : List Str} (W : WellAt H p) (h : H a = some (.lst (ws.map V.str))) : a ≠ p := fun e => by
  obtain ⟨x, y, z, u, w⟩ := W
  rw [e, w] at h
  cases ws with
  | nil => cases h
  | cons a r => simp at h
theorem well_heads {N : Addr → Prop} {a : Addr} {hv : List V} (W : WellAt H p) (h : H a = some (.lst hv)) (hh : All2 (HeadH N H) hs hv) : a ≠ p := fun e => by
  obtain ⟨x, y, z, u, w⟩ := W
  rw [e, w] at h
  cases h
  cases hh with
  | cons h1 _ => obtain ⟨t, l, h1, _⟩ := h1; cases h1
theorem WH.keepX (h : WH K X hs H s) (k : KeepX p H H') (W : WellAt H p) : WH K X hs H' s := by
  obtain ⟨kvs, r1, r2⟩ := h.rows
  obtain ⟨hv, q1, q2⟩ := h.heads
  have kt := keepT_x k W
  exact ⟨k _ _ (W.ne h.dict (by intro _ z; cases z)) h.dict, k _ _ (well_strs W h.lines) h.lines, ⟨kvs, k _ _ (W.ne r1 (by intro _ z; cases z)) r1, r2.mv kt⟩, ⟨hv, k _ _ (well_heads W q1 q2) q1, q2.mono fun f v z => z.mv kt fun l ws _ e => k _ _ (well_strs W e) e⟩, h.ne, h.ne2, h.len⟩
theorem WH.same (h : WH K X hs H s) (k : Same H H') : WH K X hs H' s := by
  obtain ⟨kvs, r1, r2⟩ := h.rows
  obtain ⟨hv, q1, q2⟩ := h.heads
  have kt := keepT_same k
  exact ⟨k _ _ h.dict, k _ _ h.lines, ⟨kvs, k _ _ r1, r2.mv kt⟩, ⟨hv, k _ _ q1, q2.mono fun f v z => z.mv kt fun l ws _ e => k _ _ e⟩, h.ne, h.ne2, h.len⟩
/-- what moves: the well, the world -/
def WMv (X : WA) (p : Addr) (H H' : Hp) : Prop := KeepL [p, X.w, X.ll, X.lr] H H'
theorem WMv.trans {H1 H2 : Hp} (a : WMv X p H H1) (b : WMv X p H1 H2) : WMv X p H H2 := fun q o n h => b q o n (a q o n h)
theorem wmv_x (k : KeepX p H H') : WMv X p H H' := fun q o n h => k q o (fun e => n (by rw [e]; exact List.mem_cons_self)) h
theorem wmv_same (k : Same H H') : WMv X p H H' := fun q o n h => k q o h
theorem wmv_upd {a : Addr} {o : HO} (ha : a ∈ [X.w, X.ll, X.lr]) : WMv X p H (upd H a o) := fun q u n h => by
  rw [upd_ne (fun e => n (by rw [e]; exact List.mem_cons_of_mem _ ha))]; exact h
theorem well_world (h : WH K X hs H s) (W : WellAt H p) : p ≠ X.w ∧ p ≠ X.ll ∧ p ≠ X.lr := by
  obtain ⟨kvs, r1, _⟩ := h.rows
  exact ⟨fun e => W.ne h.dict (by intro _ z; cases z) e.symm, fun e => well_strs W h.lines e.symm, fun e => W.ne r1 (by intro _ z; cases z) e.symm⟩
theorem WellAt.updN {a : Addr} {o : HO} (W : WellAt H p) (n : p ≠ a) : WellAt (upd H a o) p := by
  obtain ⟨x, y, z, u, w⟩ := W
  exact ⟨x, y, z, u, by rw [upd_ne n]; exact w⟩
theorem WH.cast {s' : WS} (h : WH K X hs H s) (e : s = s') : WH K X hs H s' := e ▸ h
theorem wmv_ll (k : KeepL [X.ll, X.lr] H H') : WMv X p H H' := fun q o n h => k q o (fun hm => n (List.mem_cons_of_mem _ (List.mem_cons_of_mem _ hm))) h
theorem keepL_well (k : KeepL [X.ll, X.lr] H H') (h : WH K X hs H s) (W : WellAt H p) : WellAt H' p := by
  obtain ⟨_, n1, n2⟩ := well_world h W
  obtain ⟨x, y, z, u, w⟩ := W
  refine ⟨x, y, z, u, k _ _ (fun hm => ?_) w⟩
  simp only [List.mem_cons, List.not_mem_nil, or_false] at hm
  exact hm.elim n1 n2
/-- left is told anew -/
theorem WH.left (h : WH K X hs H s) (m : Int) : WH K X hs (upd H X.w (.dK (wF X m))) ⟨s.ls, s.R, m⟩ := by
  obtain ⟨kvs, r1, r2⟩ := h.rows
  obtain ⟨hv, q1, q2⟩ := h.heads
  have kt : KeepT H (upd H X.w (.dK (wF X m))) := keepT_upd h.dict (by intro _ z; cases z)
  exact ⟨upd_same, by rw [upd_ne (ne_of h.lines h.dict (by intro z; cases z))]; exact h.lines, ⟨kvs, by rw [upd_ne (Ne.symm h.ne2)]; exact r1, r2.mv kt⟩, ⟨hv, by rw [upd_ne (ne_of q1 h.dict (by intro z; cases z))]; exact q1, q2.mono fun f v z => z.mv kt fun l ws _ e => by rw [upd_ne (ne_of e h.dict (by intro z; cases z))]; exact e⟩, h.ne, h.ne2, h.len⟩
/-- one line more, with no row -/
theorem WH.line (h : WH K X hs H s) (t : Str) : WH K X hs (upd H X.ll (.lst (s.ls.map V.str ++ [.str t]))) ⟨s.ls ++ [t], s.R ++ [none], s.left⟩ := by
  obtain ⟨kvs, r1, r2⟩ := h.rows
  obtain ⟨hv, q1, q2⟩ := h.heads
  have kt : KeepT H (upd H X.ll (.lst (s.ls.map V.str ++ [.str t]))) := keepT_upd h.lines (by intro _ z; cases z)
  refine ⟨by rw [upd_ne (ne_of h.dict h.lines (by intro z; cases z))]; exact h.dict, by rw [upd_same, List.map_append]; rfl, ⟨kvs, by rw [upd_ne (ne_of r1 h.lines (by intro z; cases z))]; exact r1, ?_⟩, ⟨hv, by rw [upd_ne (Ne.symm h.ne)]; exact q1, q2.mono fun f v z => z.mv kt fun l ws n e => by rw [upd_ne n]; exact e⟩, h.ne, h.ne2, by rw [List.length_append, List.length_append, h.len]; rfl⟩
  have r3 := r2.mv kt
  refine ⟨by rw [List.length_append]; have := r3.1; omega, r3.2.1, fun n => ?_, ?_⟩
  rotate_left
  · obtain ⟨ks, k1, k2, k3⟩ := r3.2.2.2
    exact ⟨ks, k1, k2, fun k hk => by rw [List.length_append]; have := k3 k hk; omega⟩
  have e : (s.R ++ [none]).getD n none = s.R.getD n none := by
    rw [getD_app]
    by_cases c : n < s.R.length
    · rw [if_pos c]
    · rw [if_neg c, getD_out (B := s.R) (by omega)]
      cases n - s.R.length with
      | zero => rfl
      | succ k => rfl
  rw [e]
  exact r3.2.2.1 n
/-- one row more: its dict entry, then its line -/
theorem RowsD.put {kvs : List (Key × V)} {R : List (Option RT)} {rt : RT} {v : V} (h : RowsD K H kvs R) (ht : RTold K H rt v) : RowsD K H (putK kvs (.inl ((R.length : Nat) : Int)) v) (R ++ [some rt]) := by
  refine ⟨?_, fun n hn => ?_, fun n => ?_, ?_⟩
  · rw [List.length_append, List.length_singleton]
    have := h.1
    unfold putK
    split
    · rw [List.length_map]; omega
    · rw [List.length_append, List.length_singleton]; omega
  · rw [valV_put, if_neg (fun e => by have := Sum.inl.inj e; omega)]
    exact h.2.1 n hn
  · rw [valV_put, getD_app]
    by_cases c : n = R.length
    · subst c
      rw [if_pos rfl, if_neg (Nat.lt_irrefl _), Nat.sub_self]
      exact .inr ⟨rt, v, rfl, rfl, ht⟩
    · rw [if_neg (show ¬ (Sum.inl ((n : Nat) : Int) : Key) = Sum.inl ((R.length : Nat) : Int) from fun e => c (by have := Sum.inl.inj e; omega))]
      by_cases c2 : n < R.length
      · rw [if_pos c2]; exact h.2.2.1 n
      · rw [if_neg c2]
        have h3 := h.2.2.1 n
        rw [getD_out (B := R) (by omega)] at h3
        rcases h3 with ⟨_, h3⟩ | ⟨_, _, h3, _⟩
        · refine .inl ⟨?_, h3⟩
          have : n - R.length = (n - R.length - 1) + 1 := by omega
          rw [this]; rfl
        · cases h3
  · obtain ⟨ks, k1, k2, k3⟩ := h.2.2.2
    have nk : R.length ∉ ks := fun hm => by have := k3 _ hm; omega
    have e : putK kvs (.inl ((R.length : Nat) : Int)) v = kvs ++ [(.inl ((R.length : Nat) : Int), v)] := by
      unfold putK
      rw [if_neg]
      intro c
      obtain ⟨a, ha, hd⟩ := List.any_eq_true.mp c
      have hm : (Sum.inl ((R.length : Nat) : Int) : Key) ∈ kvs.map Prod.fst := List.mem_map.mpr ⟨a, ha, of_decide_eq_true hd⟩
      rw [k1] at hm
      obtain ⟨k, hk, e⟩ := List.mem_map.mp hm
      have e := Sum.inl.inj e
      exact nk (by have : k = R.length := by omega
                   rw [← this]; exact hk)
    refine ⟨ks ++ [R.length], by rw [e, List.map_append, List.map_append, k1]; rfl, ?_, fun k hk => ?_⟩
    · rw [List.nodup_append]
      refine ⟨k2, List.nodup_cons.mpr ⟨by simp, List.nodup_nil⟩, fun a ha b hb e => ?_⟩
      rw [List.mem_singleton.mp hb] at e
      exact nk (e ▸ ha)
    · rw [List.length_append, List.length_singleton]
      rcases List.mem_append.mp hk with hk | hk
      · have := k3 k hk; omega
      · rw [List.mem_singleton.mp hk]; omega
end
theorem some_at {way : Int} (h0 : 0 ≤ way) (h1 : way < 4) : ∃ d m : Int, atI [V.int 1, V.int 2, V.int 3, V.int 6] way = some (.int d) ∧ atI [V.int 1, V.int 3, V.int 5, V.int 15] way = some (.int m) ∧ 1 ≤ d ∧ d ≤ 6 ∧ 1 ≤ m ∧ m ≤ 15 := by
  have : way = 0 ∨ way = 1 ∨ way = 2 ∨ way = 3 := by omega
  rcases this with rfl | rfl | rfl | rfl
  · exact ⟨1, 1, rfl, rfl, by decide, by decide, by decide, by decide⟩
  · exact ⟨2, 3, rfl, rfl, by decide, by decide, by decide, by decide⟩
  · exact ⟨3, 5, rfl, rfl, by decide, by decide, by decide, by decide⟩
  · exact ⟨6, 15, rfl, rfl, by decide, by decide, by decide, by decide⟩
theorem sum_le_len : ∀ ws : List Str, (∀ w ∈ ws, w.length ≤ 110) → (ws.map (·.length)).sum ≤ 110 * ws.length
  | [], _ => Nat.zero_le _
  | x :: r, h => by
    have := sum_le_len r fun w hw => h w (List.mem_cons_of_mem _ hw)
    have := h x List.mem_cons_self
    rw [List.map_cons, List.sum_cons, List.length_cons]
    omega
def PARN : List Str := ["a", "b", "cells"]
theorem names_at {i : Nat} (h : i < 4) : ∃ nm : Str, (["f", "go", "funs", "zzzzzz"] : List Str)[i]? = some nm ∧ atI [V.str "f", V.str "go", V.str "funs", V.str "zzzzzz"] (0 + (i : Int)) = some (.str nm) := by
  have : i = 0 ∨ i = 1 ∨ i = 2 ∨ i = 3 := by omega
  rcases this with rfl | rfl | rfl | rfl
  · exact ⟨_, rfl, rfl⟩
  · exact ⟨_, rfl, rfl⟩
  · exact ⟨_, rfl, rfl⟩
  · exact ⟨_, rfl, rfl⟩
theorem nm4_ok : ∀ s ∈ (["f", "go", "funs", "zzzzzz"] : List Str), isNameW s = true := by decide +kernel
theorem rot_ok : ∀ t, t < 3 → ∀ m, m < 4 → (∀ p ∈ (PARN.drop t ++ PARN.take t).take m, isNameW p = true) ∧ ((PARN.drop t ++ PARN.take t).take m).length ≤ 3 ∧ cntTo ((PARN.drop t ++ PARN.take t).take m) ((PARN.drop t ++ PARN.take t).take m).length = ((PARN.drop t ++ PARN.take t).take m).length := by decide +kernel
theorem fresh_well {H : Hp} {p q : Addr} (W : WellAt H p) (h : H q = none) : q ≠ p := W.fresh h
def headD (h : Str × List Str) : PyData := .tuple [.str h.1, strsD h.2]
theorem heads_dp {K : PySem.W.Frag} {H : Hp} {N : Addr → Prop} : ∀ {hs : List (Str × List Str)} {hv : List V}, All2 (HeadH N H) hs hv → DpAll K H hv (hs.map headD)
  | _, _, .nil => .nil
  | _, _, .cons h r => by
    obtain ⟨t, l, rfl, h1, _, h2⟩ := h
    exact .cons (.tup (SqT.of h1) (.cons (.str _) (.cons (.lst (SqL.of h2) (dp_strs _)) .nil))) (heads_dp r)
theorem heads_eqv : ∀ hs : List (Str × List Str), PyData.eqv (.list (hs.map headD)) (.list []) = decide (hs = [])
  | [] => rfl
  | _ :: _ => rfl
theorem heads_shaped {hs : List (Str × List Str)} (h : ∀ x ∈ hs, HeadOk x.1 x.2) : SeqAt.shaped (.list (hs.map headD)) = true := by
  have nm : ∀ {s : Str}, isNameW s = true → PyData.strOk s = true := fun h => strOk_of fun c hc => ((tok_name h).2 c hc).2
  have h1 : PyData.canLayAll0 (hs.map headD) = true := by
    induction hs with
    | nil => rfl
    | cons x r ih =>
      have hx := h x List.mem_cons_self
      have e := strs_shaped (ws := x.2) fun s hs => nm (hx.2.1 s hs)
      have e2 : (strsD x.2).canLay0 = true := (Bool.and_eq_true _ _ ▸ e : _ ∧ _).1
      show ((PyData.strOk x.1 && ((strsD x.2).canLay0 && true)) && PyData.canLayAll0 (r.map headD)) = true
      rw [nm hx.1, e2, ih fun y hy => h y (List.mem_cons_of_mem _ hy)]; rfl
  have h2 : PyData.depthAll (hs.map headD) ≤ 2 := by
    clear h h1
    induction hs with
    | nil => exact Nat.zero_le _
    | cons x r ih =>
      have d : ∀ ws : List Str, PyData.depthAll (ws.map PyData.str) = 0 := by
        intro ws
        induction ws with
        | nil => rfl
        | cons s r ih => show max 0 (PyData.depthAll (r.map PyData.str)) = 0; rw [ih]; rfl
      show max (max 0 (max (PyData.depthAll (x.2.map PyData.str) + 1) 0) + 1) (PyData.depthAll (r.map headD)) ≤ 2
      rw [d]
      omega
  show (PyData.canLayAll0 _ && decide (PyData.depthAll _ + 1 ≤ 64)) = true
  rw [h1, decide_eq_true (by omega)]; rfl
/-- [some_expr(well) for one in xs] -/
theorem lc_exprs {K : PySem.W.Frag} {J : It} {n : Nat} {G : Hp → Prop} {Y : Nat → Hp → V → Hp → Prop} (w : Walk J n G Y) {p : Addr} {j : Nat} {te : TE} {σ : St} {H1 : Hp} {D : Addr} {Qd : Hp → Prop} (W : WellAt H1 p) (hD : H1 D = none) (hn : n < 16777216) (hj : j < σ.length)
    (hG : ∀ H, KeepX p H1 H → G H) (hY : ∀ i H x H', Y i H x H' → H' = H)
    (step : ∀ i x H (Z : VK), i < n → KeepX p H1 H → WellAt H p → Y i H x H → (∀ H' e y, KeepX p H H' → WellAt H' p → ExOk e → ToldE K H' e y → Z y H') → te ((σ.set j none).set j (some x)) H Z)
    (hd : ∀ H es ys, KeepX p H1 H → WellAt H p → All2 (ToldE K H) es ys → (∀ e ∈ es, ExOk e) → es.length = n → H D = some (.lst ys) → Qd H) : LcGoal J D te j σ H1 Qd := by
  have npD : D ≠ p := W.fresh hD
  refine lc_it w (fun i H => ∃ es ys, H D = some (.lst ys) ∧ KeepX p H1 H ∧ WellAt H p ∧ All2 (ToldE K H) es ys ∧ (∀ e ∈ es, ExOk e) ∧ es.length = i) ⟨[], [], upd_same, keepX_of (same_new hD), W.same (same_new hD), .nil, (fun _ h => by cases h), rfl⟩ (fun i H _ h => by obtain ⟨_, _, _, k, _⟩ := h; exact hG H k) ?_ fun H ⟨es, ys, h1, h2, h3, h4, h5, h6⟩ => hd H es ys h2 h3 h4 h5 h6 h1
  rintro i v H H2 hi ⟨es, ys, h1, h2, h3, h4, h5, h6⟩ y
  have e := hY _ _ _ _ y
  subst e
  have hw2 : wipe ((wipe σ [j]).set j (some v)) [j] = wipe σ [j] := by
    show ((σ.set j none).set j (some v)).set j none = σ.set j none
    simp
  refine ⟨hw2, ?_⟩
  refine step i v _ _ hi h2 h3 y fun H3 e z k3 W3 ex told => ⟨ys, k3 _ _ npD h1, ?_, ?_⟩
  · have := h4.length
    exact Nat.lt_of_lt_of_le (show ys.length < 16777216 by omega) (by decide)
  · have g3 := k3 _ _ npD h1
    have kt : KeepT H3 (upd H3 D (.lst (ys ++ [z]))) := keepT_upd g3 (by intro _ z; cases z)
    have h4' := (h4.mono fun a b h => (h.keep k3 h3).keepT kt).snoc (told.keepT kt)
    refine ⟨es ++ [e], ys ++ [z], upd_same, fun b o nb hb => ?_, W3.updN npD.symm, h4', fun x hx => ?_, by rw [List.length_append, h6]; rfl⟩
    · rw [upd_ne (ne_of_none hb hD)]
      exact k3 _ _ nb (h2 b o nb hb)
    · rcases List.mem_append.mp hx with h | h
      · exact h5 x h
      · rw [List.mem_singleton.mp h]; exact ex
/-! ### rows as data -/
theorem name_str {s : Str} (h : isNameW s = true) : PyData.strOk s = true := strOk_of fun c hc => ((tok_name h).2 c hc).2
theorem word_str {s : Str} (h : s ∈ (["skip", "set", "put", "ask", "draw", "tell", "if", "while", "call", "give", "fun", "main", "else", "end"] : List Str)) : PyData.strOk s = true := strOk_of fun c hc => ((tok_word s h).2 c hc).2
theorem told_lays : ∀ {es : List Ex}, (∀ e ∈ es, ExOk e) → PyData.canLayAll0 (es.map Ex.told) = true ∧ PyData.depthAll (es.map Ex.told) ≤ 6
  | [], _ => ⟨rfl, Nat.zero_le _⟩
  | e :: r, h => by
    have h1 := h e List.mem_cons_self
    have h2 := told_lays (es := r) fun x hx => h x (List.mem_cons_of_mem _ hx)
    have h3 := Ex.told_depth e
    have h4 := h1.2.1
    refine ⟨?_, ?_⟩
    · show (e.told.canLay0 && PyData.canLayAll0 (r.map Ex.told)) = true
      rw [Ex.lay h1.1, h2.1]; rfl
    · show max e.told.depth (PyData.depthAll (r.map Ex.told)) ≤ 6
      omega
theorem RT.lay {rt : RT} (h : rt.Ok) : rt.data.canLay0 = true ∧ rt.data.depth ≤ 7 := by
  have dl : ∀ {e : Ex}, ExOk e → e.told.depth ≤ 6 := fun {e} h => Nat.le_trans (Ex.told_depth e) h.2.1
  cases rt with
  | skip => exact ⟨by show (PyData.strOk _ && true) = true; rw [word_str (by decide +kernel)]; rfl, by show max 0 0 + 1 ≤ 7; omega⟩
  | set b e =>
    have := dl h.2
    exact ⟨by show (PyData.strOk _ && (PyData.strOk b && (e.told.canLay0 && true))) = true; rw [word_str (by decide +kernel), name_str h.1, Ex.lay h.2.1]; rfl, by show max 0 (max 0 (max e.told.depth 0)) + 1 ≤ 7; omega⟩
  | put a b =>
    have := dl h.1
    have := dl h.2
    exact ⟨by show (PyData.strOk _ && (a.told.canLay0 && (b.told.canLay0 && true))) = true; rw [word_str (by decide +kernel), Ex.lay h.1.1, Ex.lay h.2.1]; rfl, by show max 0 (max a.told.depth (max b.told.depth 0)) + 1 ≤ 7; omega⟩
  | ask b w e =>
    have := dl h.2.2
    exact ⟨by show (PyData.strOk _ && (PyData.strOk b && (PyData.strOk w && (e.told.canLay0 && true)))) = true; rw [word_str (by decide +kernel), name_str h.1, name_str h.2.1, Ex.lay h.2.2.1]; rfl, by show max 0 (max 0 (max 0 (max e.told.depth 0))) + 1 ≤ 7; omega⟩
  | draw b w => exact ⟨by show (PyData.strOk _ && (PyData.strOk b && (PyData.strOk w && true))) = true; rw [word_str (by decide +kernel), name_str h.1, name_str h.2]; rfl, by show max 0 (max 0 (max 0 0)) + 1 ≤ 7; omega⟩
  | tell e =>
    have := dl h
    exact ⟨by show (PyData.strOk _ && (e.told.canLay0 && true)) = true; rw [word_str (by decide +kernel), Ex.lay h.1]; rfl, by show max 0 (max e.told.depth 0) + 1 ≤ 7; omega⟩
  | ifr e =>
    have := dl h
    exact ⟨by show (PyData.strOk _ && (e.told.canLay0 && true)) = true; rw [word_str (by decide +kernel), Ex.lay h.1]; rfl, by show max 0 (max e.told.depth 0) + 1 ≤ 7; omega⟩
  | loop e =>
    have := dl h
    exact ⟨by show (PyData.strOk _ && (e.told.canLay0 && true)) = true; rw [word_str (by decide +kernel), Ex.lay h.1]; rfl, by show max 0 (max e.told.depth 0) + 1 ≤ 7; omega⟩
  | give e =>
    have := dl h
    exact ⟨by show (PyData.strOk _ && (e.told.canLay0 && true)) = true; rw [word_str (by decide +kernel), Ex.lay h.1]; rfl, by show max 0 (max e.told.depth 0) + 1 ≤ 7; omega⟩
  | call b f es =>
    have t := told_lays h.2.2.1
    exact ⟨by show (PyData.strOk _ && (PyData.strOk b && (PyData.strOk f && PyData.canLayAll0 (es.map Ex.told)))) = true; rw [word_str (by decide +kernel), name_str h.1, name_str h.2.1, t.1]; rfl, by show max 0 (max 0 (max 0 (PyData.depthAll (es.map Ex.told)))) + 1 ≤ 7; omega⟩
theorem RT.shaped {rt : RT} (h : rt.Ok) : SeqAt.shaped rt.data = true := by
  have t := RT.lay h
  show (rt.data.canLay0 && decide (rt.data.depth ≤ 64)) = true
  rw [t.1, decide_eq_true (by omega)]; rfl
theorem RT.eqv {rt : RT} (h : rt.Ok) : PyData.eqv rt.data rt.data = true := SeqAt.eqv_refl _ (RT.lay h).1
theorem Body.oks {hs : List (Str × Nat)} : ∀ {d : Nat} {L : List Str} {R : List (Option RT)}, Body hs d L R → ∀ rt, some rt ∈ R → rt.Ok := by
  intro d L R h
  induction h with
  | nil => intro t ht; cases ht
  | app _ _ h1 h2 =>
    intro t ht
    rcases List.mem_append.mp ht with h | h
    · exact h1 t h
    · exact h2 t h
  | row h _ => intro t ht; rw [Option.some.inj (List.mem_singleton.mp ht)]; exact h
  | call h _ => intro t ht; rw [Option.some.inj (List.mem_singleton.mp ht)]; exact h
  | loop he _ h =>
    intro t ht
    rcases List.mem_cons.mp ht with e | ht
    · rw [Option.some.inj e]; exact he
    rcases List.mem_append.mp ht with ht | ht
    · exact h t ht
    · cases List.mem_singleton.mp ht
  | ifr he _ _ h1 h2 =>
    intro t ht
    rcases List.mem_cons.mp ht with e | ht
    · rw [Option.some.inj e]; exact he
    rcases List.mem_append.mp ht with ht | ht
    · exact h1 t ht
    rcases List.mem_cons.mp ht with e | ht
    · cases e
    rcases List.mem_append.mp ht with ht | ht
    · exact h2 t ht
    · cases List.mem_singleton.mp ht
theorem ProgOk.oks {ts : List Str} {R : List (Option RT)} (h : ProgOk ts R) : ∀ rt, some rt ∈ R → rt.Ok := by
  obtain ⟨bs, L, M, ok, h4, hn, hb, hts, hR⟩ := h.ex
  intro t ht
  rw [hR] at ht
  rcases List.mem_append.mp ht with ht | ht
  · obtain ⟨b, hb, ht⟩ := List.mem_flatMap.mp ht
    rcases List.mem_cons.mp ht with e | ht
    · cases e
    rcases List.mem_append.mp ht with ht | ht
    · exact (ok b hb).body.oks t ht
    · rw [Option.some.inj (List.mem_singleton.mp ht)]; exact (ok b hb).ex
  rcases List.mem_cons.mp ht with e | ht
  · cases e
  · exact hb.oks t ht
theorem ProgOk.at_ok {ts : List Str} {R : List (Option RT)} (h : ProgOk ts R) {num : List (Nat × RT)} (hN : NumIs num R) {n : Int} {rt : RT} (e : rowOf num n = some rt) : rt.Ok ∧ ∃ m : Nat, n = (m : Int) ∧ R.getD m none = some rt := by
  have e' := e
  unfold rowOf at e'
  cases q : num.find? fun x => decide ((x.1 : Int) = n) with
  | none => rw [q] at e'; cases e'
  | some x =>
    have hx : (x.1 : Int) = n := of_decide_eq_true (by have := List.find?_some q; exact this)
    subst hx
    have hg := (hN x.1).symm.trans e
    refine ⟨h.oks rt ?_, x.1, rfl, hg⟩
    rw [List.getD_eq_getElem?_getD] at hg
    cases c : R[x.1]? with
    | none => rw [c] at hg; cases hg
    | some y => rw [c] at hg; rw [← (show y = some rt from hg)]; exact List.mem_of_getElem? c
theorem RT.exs_ok {rt : RT} (h : rt.Ok) : (∀ e ∈ rt.exs, e.depth ≤ 7) ∧ rt.exs.length ≤ 1000 := by
  have one : ∀ {e : Ex}, ExOk e → (∀ x ∈ [e], x.depth ≤ 7) ∧ ([e] : List Ex).length ≤ 1000 := fun {e} h => ⟨fun x hx => by rw [List.mem_singleton.mp hx]; have := h.2.1; omega, by show 1 ≤ 1000; decide⟩
  cases rt with
  | skip => exact ⟨(fun _ h => by cases h), by show 0 ≤ 1000; decide⟩
  | draw _ _ => exact ⟨(fun _ h => by cases h), by show 0 ≤ 1000; decide⟩
  | set b e => exact one h.2
  | ask b w e => exact one h.2.2
  | tell e => exact one h
  | ifr e => exact one h
  | loop e => exact one h
  | give e => exact one h
  | put a b =>
    refine ⟨fun x hx => ?_, by show 2 ≤ 1000; decide⟩
    rcases List.mem_cons.mp hx with rfl | hx
    · have := h.1.2.1; omega
    · rw [List.mem_singleton.mp hx]; have := h.2.2.1; omega
  | call b f es =>
    exact ⟨fun x hx => by have := (h.2.2.1 x hx).2.1; omega, by have := h.2.2.2; show es.length ≤ 1000; omega⟩
/-- what the rows tell at n -/
theorem RowsD.at {K : PySem.W.Frag} {H : Hp} {kvs : List (Key × V)} {R : List (Option RT)} {num : List (Nat × RT)} (h : RowsD K H kvs R) (hN : NumIs num R) (n : Int) : (rowOf num n = none ∧ valV kvs (.inl n) = none) ∨ ∃ rt v, rowOf num n = some rt ∧ valV kvs (.inl n) = some v ∧ RTold K H rt v := by
  by_cases c : n < 0
  · refine .inl ⟨?_, h.2.1 n c⟩
    unfold rowOf
    rw [List.find?_eq_none.mpr fun x _ => by
      rw [decide_eq_false (by omega)]; decide]
    rfl
  · obtain ⟨m, rfl⟩ : ∃ m : Nat, n = (m : Int) := ⟨n.toNat, by omega⟩
    rw [hN m]
    exact h.2.2.1 m
def arsOf (hs : List (Str × List Str)) : List (Str × Nat) := hs.map fun h => (h.1, h.2.length)
def HeadsOk (hs : List (Str × List Str)) : Prop := hs.length ≤ 4 ∧ (hs.map Prod.fst).Nodup ∧ ∀ h ∈ hs, HeadOk h.1 h.2
section
variable (K : PySem.W.Frag)
def spLSome : Sp := fun vs H Q _ => ∃ p : Addr, vs = [.ref p] ∧ WellAt H p ∧ ∀ e v H', ExOk e → ToldE K H' e v → KeepX p H H' → WellAt H' p → Q v H'
def spLHeads : Sp := fun vs H Q _ => ∃ p : Addr, vs = [.ref p] ∧ WellAt H p ∧ ∀ hs l hv H', HeadsOk hs → H l = none → H' l = some (.lst hv) → All2 (HeadH (fun _ => True) H') hs hv → KeepX p H H' → WellAt H' p → Q (.ref l) H'
def spLSimple : Sp := fun vs H Q _ => ∃ (X : WA) (hs : List (Str × List Str)) (s : WS) (p : Addr) (way : Int), vs = [.ref X.w, .ref p, .int way] ∧ WH K X hs H s ∧ WellAt H p ∧ HeadsOk hs ∧ 0 ≤ way ∧ way ≤ 6 ∧
  ∀ rt v H', rt.Ok → (rt.simple = true ∨ (way = 6 ∧ ∃ b f es, rt = .call b f es ∧ (f, es.length) ∈ arsOf hs)) → RTold K H' rt v → KeepX p H H' → WellAt H' p → Q v H'
def spLLine : Sp := fun vs H Q _ => ∃ (rt : RT) (v : V), vs = [v] ∧ RTold K H rt v ∧ rt.Ok ∧ ∀ H', Same H H' → Q (.str rt.text) H'
def spLPut : Sp := fun vs H Q _ => ∃ (X : WA) (hs : List (Str × List Str)) (s : WS) (rt : RT) (v : V), vs = [.ref X.w, v] ∧ WH K X hs H s ∧ s.ls.length ≤ 1000 ∧ RTold K H rt v ∧ rt.Ok ∧
  ∀ H', WH K X hs H' ⟨s.ls ++ [rt.text], s.R ++ [some rt], s.left⟩ → KeepL [X.ll, X.lr] H H' → Q .non H'
def spLRow (n : Nat) : Sp := fun vs H Q _ => ∃ (X : WA) (hs : List (Str × List Str)) (s : WS) (p : Addr), vs = [.ref X.w, .ref p, .int (5 - (n : Int))] ∧ WH K X hs H s ∧ WellAt H p ∧ HeadsOk hs ∧ 0 < s.left ∧ (s.ls.length : Int) + s.left ≤ 100 ∧
  ∀ L R (m : Int) H', Body (arsOf hs) n L R → 0 ≤ m → m + (L.length : Int) = s.left → WH K X hs H' ⟨s.ls ++ L, s.R ++ R, m⟩ → WMv X p H H' → WellAt H' p → Q .non H'
def spLBlock (n : Nat) : Sp := fun vs H Q _ => ∃ (X : WA) (hs : List (Str × List Str)) (s : WS) (p : Addr), vs = [.ref X.w, .ref p, .int (6 - (n : Int))] ∧ WH K X hs H s ∧ WellAt H p ∧ HeadsOk hs ∧ 1 ≤ n ∧ 0 ≤ s.left ∧ (s.ls.length : Int) + s.left ≤ 100 ∧
  ∀ L R (m : Int) H', Body (arsOf hs) (n - 1) L R → 0 ≤ m → m + (L.length : Int) = s.left → WH K X hs H' ⟨s.ls ++ L, s.R ++ R, m⟩ → WMv X p H H' → WellAt H' p → Q .non H'
def spLWorld : Sp := fun vs H Q _ => ∃ (a : Addr) (ns : List Int) (k : Int), vs = [.ref a, .int k] ∧ SqL K H a (ns.map V.int) ∧ 0 ≤ k ∧ ∀ X hs s H', WH K X hs H' s → ProgOk s.ls s.R → Same H H' → Q (.ref X.w) H'
end

theorem cutV_take (xs : List V) (k : Nat) : cutV xs none (some (k : Int)) = xs.take k := by
  unfold cutV
  rw [HT.sIx_nat, HT.sIx_none, Nat.sub_zero, List.drop_zero]
  by_cases h : k ≤ xs.length
  · rw [Nat.min_eq_left h]
  · rw [Nat.min_eq_right (by omega), List.take_of_length_le (Nat.le_refl _), List.take_of_length_le (by omega)]
theorem cutV_drop (xs : List V) (k : Nat) : cutV xs (some (k : Int)) none = xs.drop k := by
  unfold cutV
  rw [HT.sIx_nat, HT.sIx_none]
  by_cases h : k ≤ xs.length
  · rw [Nat.min_eq_left h, List.take_of_length_le (by rw [List.length_drop]; exact Nat.le_refl _)]
  · rw [Nat.min_eq_right (by omega), List.drop_eq_nil_of_le (Nat.le_refl _), List.drop_eq_nil_of_le (by omega), List.take_nil]
/-- [e for x in xs if t], t never true -/
theorem lc_none {J : It} {n : Nat} {G : Hp → Prop} {Y : Nat → Hp → V → Hp → Prop} (w : Walk J n G Y) {j : Nat} {tt : TT} {te : TE} {σ : St} {H1 : Hp} {D : Addr} {Qd : Hp → Prop} (hD : H1 D = none)
    (hG : ∀ H, Same H1 H → G H) (hY : ∀ i H x H', Y i H x H' → H' = H)
    (step : ∀ i x H (Z : Bool → Hp → Prop), i < n → Same H1 H → Y i H x H → (∀ H', Same H H' → Z false H') → tt ((σ.set j none).set j (some x)) H Z)
    (hd : ∀ H, Same H1 H → H D = some (.lst []) → Qd H) :
    ∃ W : Nat → Nat → Hp → Prop, (∃ m, W 0 m (upd H1 D (.lst []))) ∧ ∀ i m H, W i m H →
      (J.stop i H ∧ Qd H) ∨ (J.go i H ∧ ∃ Nx : Hp → Prop, (∀ H', Nx H' → ∃ m', m' < m ∧ W (i + 1) m' H') ∧ ∀ x H', J.yld i H x H' → gName j x (wipe σ [j]) H' fun σ2 H2 => wipe σ2 [j] = wipe σ [j] ∧ tt σ2 H2 fun b H3 =>
        if b = true then te σ2 H3 fun y H4 => ∃ acc, H4 D = some (.lst acc) ∧ acc.length < sizeLine ∧ Nx (upd H4 D (.lst (acc ++ [y]))) else Nx H3) := by
  refine lc_it w (fun _ H => H D = some (.lst []) ∧ Same H1 H) ⟨upd_same, same_new hD⟩ (fun i H _ h => hG H h.2) ?_ fun H h => hd H h.2 h.1
  rintro i x H H2 hi ⟨h1, h2⟩ y
  have e := hY _ _ _ _ y
  subst e
  have hw : wipe ((wipe σ [j]).set j (some x)) [j] = wipe σ [j] := by
    show ((σ.set j none).set j (some x)).set j none = σ.set j none
    simp
  refine ⟨hw, ?_⟩
  refine step i x _ _ hi h2 y fun H3 s3 => ?_
  exact iteF ⟨s3 _ _ h1, h2.trans s3⟩

/-! ### the law's own reader -/
def WsOk (ws : List Str) : Prop := ws.length ≤ 140 ∧ ∀ w ∈ ws, WordOk w
theorem WsOk.drop {ws : List Str} (h : WsOk ws) (k : Nat) : WsOk (ws.drop k) := ⟨by rw [List.length_drop]; have := h.1; omega, fun w hw => h.2 w (List.mem_of_mem_drop hw)⟩
theorem WordOk.b {w : Str} (h : WordOk w) : w.length ≤ 1000 ∧ Ascii w := ⟨by rw [len_tl]; have := h.1; omega, h.2⟩
theorem exL_nil : exL [] = some [] := rfl
theorem exL_step {ws : List Str} (h : ws ≠ []) : exL ws = match parseE 6 ws with
    | none => none
    | some (e, r) => if e.parts ≤ 15 then (exL r).map (e :: ·) else none := by
  cases ws with
  | nil => exact absurd rfl h
  | cons x t =>
    unfold exL
    rw [parseAll_step]
    cases parseE 6 (x :: t) with
    | none => rfl
    | some p =>
      obtain ⟨e, r⟩ := p
      simp only
      split
      · cases parseAll r.length r <;> rfl
      · rfl
theorem big_none {n : Nat} {ws : List Str} (hn : 6 ≤ n) (h : parseE n ws = none) : parseE 6 ws = none := by
  cases q : parseE 6 ws with
  | none => rfl
  | some p =>
    obtain ⟨e, r⟩ := p
    obtain ⟨w1, w2, w3⟩ := parse_wf q
    have := parse_toks w1 (Nat.le_trans w2 hn) r
    rw [← w3, h] at this
    cases this
theorem big_some {n : Nat} {ws r : List Str} {e : Ex} (h : parseE n ws = some (e, r)) (hd : e.depth ≤ 6) : parseE 6 ws = some (e, r) := by
  obtain ⟨w1, w2, w3⟩ := parse_wf h
  have := parse_toks w1 hd r
  rw [← w3] at this
  exact this
theorem big_deep {n : Nat} {ws r : List Str} {e : Ex} (hn : 6 ≤ n) (h : parseE n ws = some (e, r)) (hd : 6 < e.depth) : parseE 6 ws = none := by
  cases q : parseE 6 ws with
  | none => rfl
  | some p =>
    obtain ⟨e', r'⟩ := p
    obtain ⟨w1, w2, w3⟩ := parse_wf q
    have := parse_toks w1 (Nat.le_trans w2 hn) r'
    rw [← w3, h] at this
    cases this
    omega
section
variable (K : PySem.W.Frag)
def spLMany : Sp := fun vs H Q _ => ∃ (a : Addr) (ws : List Str), vs = [.ref a] ∧ SqL K H a (ws.map V.str) ∧ WsOk ws ∧ (∀ es, exL ws = some es → ∀ H', Same H H' → Q (.int (es.length : Nat)) H') ∧ (exL ws = none → ∀ H', Same H H' → Q .non H')
end

def SIMPLEW : List Str := ["skip", "set", "put", "ask", "draw", "tell"]
def KV3 : List (Key × V) := [(.inr "set", .int 1), (.inr "ask", .int 2), (.inr "draw", .int 2)]
def KV2 : List (Key × V) := [(.inr "put", .int 2), (.inr "draw", .int 0)]
def namesN (w : Str) : Nat := if w = "set" then 1 else if w = "ask" then 2 else if w = "draw" then 2 else 0
def expN (w : Str) : Nat := if w = "put" then 2 else if w = "draw" then 0 else 1
theorem kv3_merge : mergeK [] KV3 = KV3 := by kernel_rfl
theorem kv2_merge : mergeK [] KV2 = KV2 := by kernel_rfl
theorem kv3_get (w : Str) : (valV KV3 (.inr w)).getD (.int 0) = .int (namesN w : Nat) := by
  unfold namesN KV3
  by_cases h1 : w = "set"
  · rw [if_pos h1, valV_pos (by rw [h1])]; rfl
  rw [if_neg h1, valV_neg (fun e => h1 (Sum.inr.inj e).symm)]
  by_cases h2 : w = "ask"
  · rw [if_pos h2, valV_pos (by rw [h2])]; rfl
  rw [if_neg h2, valV_neg (fun e => h2 (Sum.inr.inj e).symm)]
  by_cases h3 : w = "draw"
  · rw [if_pos h3, valV_pos (by rw [h3])]; rfl
  rw [if_neg h3, valV_neg (fun e => h3 (Sum.inr.inj e).symm)]; rfl
theorem kv2_get (w : Str) : (valV KV2 (.inr w)).getD (.int 1) = .int (expN w : Nat) := by
  unfold expN KV2
  by_cases h1 : w = "put"
  · rw [if_pos h1, valV_pos (by rw [h1])]; rfl
  rw [if_neg h1, valV_neg (fun e => h1 (Sum.inr.inj e).symm)]
  by_cases h3 : w = "draw"
  · rw [if_pos h3, valV_pos (by rw [h3])]; rfl
  rw [if_neg h3, valV_neg (fun e => h3 (Sum.inr.inj e).symm)]; rfl
/-- [x for x in xs if t], over texts -/
theorem lc_filter {xs : List Str} (p : Str → Bool) {J : It} {G : Hp → Prop} (w : Walk J (xs.map V.str).length G (YAt (xs.map V.str))) {j : Nat} {tt : TT} {te : TE} {σ : St} {H1 : Hp} {D : Addr} {Qd : Hp → Prop} (hD : H1 D = none) (hn : xs.length < 16777216)
    (hG : ∀ H, Same H1 H → G H)
    (step : ∀ s ∈ xs, ∀ H (Z : Bool → Hp → Prop), Same H1 H → (∀ H', Same H H' → Z (p s) H') → tt ((σ.set j none).set j (some (.str s))) H Z)
    (elt : ∀ s ∈ xs, ∀ H (Z : VK), Z (.str s) H → te ((σ.set j none).set j (some (.str s))) H Z)
    (hd : ∀ H, Same H1 H → H D = some (.lst ((xs.filter p).map V.str)) → Qd H) :
    ∃ W : Nat → Nat → Hp → Prop, (∃ m, W 0 m (upd H1 D (.lst []))) ∧ ∀ i m H, W i m H →
      (J.stop i H ∧ Qd H) ∨ (J.go i H ∧ ∃ Nx : Hp → Prop, (∀ H', Nx H' → ∃ m', m' < m ∧ W (i + 1) m' H') ∧ ∀ x H', J.yld i H x H' → gName j x (wipe σ [j]) H' fun σ2 H2 => wipe σ2 [j] = wipe σ [j] ∧ tt σ2 H2 fun b H3 =>
        if b = true then te σ2 H3 fun y H4 => ∃ acc, H4 D = some (.lst acc) ∧ acc.length < sizeLine ∧ Nx (upd H4 D (.lst (acc ++ [y]))) else Nx H3) := by
  refine lc_it w (fun i H => H D = some (.lst (((xs.take i).filter p).map V.str)) ∧ Same H1 H) ⟨by rw [List.take_zero]; exact upd_same, same_new hD⟩ (fun i H _ h => hG H h.2) ?_ fun H h => hd H h.2 (by have := h.1; rw [List.length_map, List.take_length] at this; exact this)
  rintro i x H H2 hi ⟨h1, h2⟩ ⟨e, hx⟩
  subst e
  have hw : wipe ((wipe σ [j]).set j (some x)) [j] = wipe σ [j] := by
    show ((σ.set j none).set j (some x)).set j none = σ.set j none
    simp
  refine ⟨hw, ?_⟩
  rw [List.getElem?_map] at hx
  obtain ⟨s, hs, rfl⟩ := Option.map_eq_some_iff.mp hx
  have hm := List.mem_of_getElem? hs
  have et : (xs.take (i + 1)).filter p = (xs.take i).filter p ++ (if p s = true then [s] else []) := by
    rw [List.take_add_one, hs, List.filter_append]
    show _ ++ ([s].filter p) = _
    rw [List.filter_cons, List.filter_nil]
  refine step s hm _ _ h2 fun H3 s3 => ?_
  cases hp : p s with
  | false =>
    rw [hp, if_neg Bool.false_ne_true, List.append_nil] at et
    exact iteF ⟨by rw [et]; exact s3 _ _ h1, h2.trans s3⟩
  | true =>
    rw [hp, if_pos rfl] at et
    refine iteT (elt s hm _ _ ⟨_, s3 _ _ h1, ?_, ?_, fun b o hb => ?_⟩)
    · rw [List.length_map]
      have q1 := List.length_filter_le p (xs.take i)
      have q2 := List.length_take_le i xs
      have q3 : (xs.take i).length ≤ xs.length := by rw [List.length_take]; omega
      exact Nat.lt_of_lt_of_le (show _ < 16777216 by omega) (by decide)
    · rw [upd_same, et, List.map_append]; rfl
    · rw [upd_ne (ne_of_none hb hD)]; exact s3 _ _ (h2 b o hb)
theorem filt_all {xs : List Str} {p : Str → Bool} : decide (xs.filter (fun s => !p s) = []) = xs.all p := by
  rw [Bool.eq_iff_iff, decide_eq_true_eq, List.filter_eq_nil_iff, List.all_eq_true]
  constructor
  · intro h c hc
    have := h c hc
    simp at this
    exact this
  · intro h c hc
    rw [h c hc]; simp
/-- what the law asks of a simple row's words -/
def simpB (ws : List Str) : Bool := ((ws.drop 1).take (namesN (hd0 ws))).all isNameW && (decide (1 + namesN (hd0 ws) ≤ ws.length) && (match exL (ws.drop (1 + namesN (hd0 ws))) with | some es => decide (es.length = expN (hd0 ws)) | none => false))
theorem only_some {o : Option (List Ex)} : (only1 o).isSome = (match o with | some es => decide (es.length = 1) | none => false) := by
  match o with
  | none => rfl
  | some [] => rfl
  | some [e] => rfl
  | some (e :: f :: r) => rfl
theorem namesOk_eq {ws : List Str} {k : Nat} (hl : 1 ≤ ws.length) : namesOk ((ws.drop 1).take k) k = (((ws.drop 1).take k).all isNameW && decide (1 + k ≤ ws.length)) := by
  unfold namesOk
  rw [Bool.and_comm]
  congr 1
  rw [List.length_take, List.length_drop]
  exact decide_eq_decide.mpr (by omega)
theorem map_some {α β : Type} {o : Option α} {f : α → β} : (o.map f).isSome = o.isSome := by cases o <;> rfl
theorem simpB_eq {ws : List Str} (hne : ws ≠ []) (h : hd0 ws ∈ SIMPLEW) (hs : hd0 ws ≠ "skip") : (simpleF ws).isSome = simpB ws := by
  have hl : 1 ≤ ws.length := List.length_pos_iff.mpr hne
  unfold simpB
  simp only [SIMPLEW, List.mem_cons, List.not_mem_nil, or_false] at h
  rcases h with h | h | h | h | h | h
  · exact absurd h hs
  · have e1 : namesN (hd0 ws) = 1 := by rw [h]; decide +kernel
    have e2 : expN (hd0 ws) = 1 := by rw [h]; decide +kernel
    rw [e1, e2]
    unfold simpleF
    rw [if_pos h, namesOk_eq hl]
    by_cases c : (((ws.drop 1).take 1).all isNameW && decide (1 + 1 ≤ ws.length)) = true
    · rw [if_pos c, map_some, only_some, ← Bool.and_assoc, c]; rfl
    · rw [if_neg c, ← Bool.and_assoc, Bool.eq_false_iff.mpr c]; rfl
  · have e1 : namesN (hd0 ws) = 0 := by rw [h]; decide +kernel
    have e2 : expN (hd0 ws) = 2 := by rw [h]; decide +kernel
    rw [e1, e2]
    unfold simpleF
    rw [h, if_neg (by decide +kernel), if_pos rfl, List.take_zero]
    show _ = (true && (decide (1 ≤ ws.length) && _))
    rw [decide_eq_true hl, Bool.true_and, Bool.true_and]
    match exL (ws.drop 1) with
    | none => rfl
    | some [] => rfl
    | some [_] => rfl
    | some [_, _] => rfl
    | some (_ :: _ :: _ :: _) => rfl
  · have e1 : namesN (hd0 ws) = 2 := by rw [h]; decide +kernel
    have e2 : expN (hd0 ws) = 1 := by rw [h]; decide +kernel
    rw [e1, e2]
    unfold simpleF
    rw [h, if_neg (by decide +kernel), if_neg (by decide +kernel), if_pos rfl, namesOk_eq hl]
    by_cases c : (((ws.drop 1).take 2).all isNameW && decide (1 + 2 ≤ ws.length)) = true
    · rw [if_pos c, map_some, only_some, ← Bool.and_assoc, c]; rfl
    · rw [if_neg c, ← Bool.and_assoc, Bool.eq_false_iff.mpr c]; rfl
  · have e1 : namesN (hd0 ws) = 2 := by rw [h]; decide +kernel
    have e2 : expN (hd0 ws) = 0 := by rw [h]; decide +kernel
    rw [e1, e2]
    unfold simpleF
    rw [h, if_neg (by decide +kernel), if_neg (by decide +kernel), if_neg (by decide +kernel), if_pos rfl]
    unfold namesOk
    by_cases c : (ws.drop 1).length = 2
    · rw [decide_eq_true c, Bool.true_and]
      have c' := c
      rw [List.length_drop] at c'
      have ed : ws.drop (1 + 2) = [] := List.drop_eq_nil_of_le (by omega)
      rw [ed, exL_nil, List.take_of_length_le (by omega), decide_eq_true (show 1 + 2 ≤ ws.length by omega)]
      show _ = ((ws.drop 1).all isNameW && (true && true))
      cases (ws.drop 1).all isNameW <;> rfl
    · rw [decide_eq_false c, Bool.false_and, if_neg Bool.false_ne_true]
      rw [List.length_drop] at c
      by_cases c2 : 1 + 2 ≤ ws.length
      · have hne2 : ws.drop (1 + 2) ≠ [] := fun e => by have := congrArg List.length e; rw [List.length_drop] at this; simp at this; omega
        have : (match exL (ws.drop (1 + 2)) with | some es => decide (es.length = 0) | none => false) = false := by
          cases q : exL (ws.drop (1 + 2)) with
          | none => rfl
          | some es =>
            cases es with
            | cons _ _ => rfl
            | nil =>
              rw [exL_step hne2] at q
              cases q2 : parseE 6 (ws.drop (1 + 2)) with
              | none => rw [q2] at q; cases q
              | some pr =>
                obtain ⟨e, r⟩ := pr
                rw [q2] at q
                simp only at q
                split at q
                · cases q3 : exL r with
                  | none => rw [q3] at q; cases q
                  | some es => rw [q3] at q; cases q
                · cases q
        rw [this, Bool.and_false, Bool.and_false]; rfl
      · rw [decide_eq_false c2, Bool.false_and, Bool.and_false]; rfl
  · have e1 : namesN (hd0 ws) = 0 := by rw [h]; decide +kernel
    have e2 : expN (hd0 ws) = 1 := by rw [h]; decide +kernel
    rw [e1, e2]
    unfold simpleF
    rw [h, if_neg (by decide +kernel), if_neg (by decide +kernel), if_neg (by decide +kernel), if_neg (by decide +kernel), if_pos rfl, List.take_zero, map_some, only_some]
    show _ = (true && (decide (1 ≤ ws.length) && _))
    rw [decide_eq_true hl, Bool.true_and, Bool.true_and]
theorem simp_skip {ws : List Str} (hs : hd0 ws = "skip") : (simpleF ws).isSome = decide (ws.length = 1) := by
  unfold simpleF
  rw [hs, if_neg (by decide +kernel), if_neg (by decide +kernel), if_neg (by decide +kernel), if_neg (by decide +kernel), if_neg (by decide +kernel)]
  match ws, hs with
  | [], h => rfl
  | [x], h =>
    have h : x = Str.ofString "skip" := h
    rw [if_pos (by rw [h])]; rfl
  | x :: y :: r, h => rw [if_neg (by intro e; simp at e)]; rfl
section
variable (K : PySem.W.Frag)
def spLSimp : Sp := fun vs H Q _ => ∃ (a : Addr) (ws : List Str), vs = [.ref a] ∧ SqL K H a (ws.map V.str) ∧ WsOk ws ∧ ws ≠ [] ∧ hd0 ws ∈ SIMPLEW ∧ ∀ H', Same H H' → Q (.bl (simpleF ws).isSome) H'
end
theorem WsOk.codes {ws : List Str} (h : WsOk ws) : Codes ws := fun s hs => strOk_ascii (h.2 s hs).2
theorem at_hd0 {ws : List Str} (h : ws ≠ []) : atI (ws.map V.str) 0 = some (V.str (hd0 ws)) := by
  cases ws with
  | nil => exact absurd rfl h
  | cons x r => exact atI_nat (j := 0) rfl

theorem strOk_word {w : Str} (h : WordOk w) : PyData.strOk w = true := strOk_ascii h.2
/-- the calls, as the law keeps them -/
def CallsV (H : Hp) (cs : List (Str × Nat)) (os : List V) : Prop := All2 (fun c v => ∃ t, v = V.ref t ∧ PyData.strOk c.1 = true ∧ H t = some (.tup [.str c.1, .int (c.2 : Nat)])) cs os
theorem CallsV.keep {H H' : Hp} {cl : Addr} {xs : List V} (k : KeepL [cl] H H') (e : H cl = some (.lst xs)) {cs : List (Str × Nat)} {os : List V} (h : CallsV H cs os) : CallsV H' cs os := h.mono fun c v ⟨t, h1, h0, h2⟩ => ⟨t, h1, h0, k _ _ (fun hm => by
  rw [List.mem_singleton.mp hm, e] at h2; cases h2) h2⟩
theorem CallsV.same {H H' : Hp} (k : Same H H') {cs : List (Str × Nat)} {os : List V} (h : CallsV H cs os) : CallsV H' cs os := h.mono fun c v ⟨t, h1, h0, h2⟩ => ⟨t, h1, h0, k _ _ h2⟩
theorem keepL_same {av : List Addr} {H H' : Hp} (s : Same H H') : KeepL av H H' := fun q o _ h => s q o h
theorem keepL_trans {av : List Addr} {H H1 H2 : Hp} (a : KeepL av H H1) (b : KeepL av H1 H2) : KeepL av H H2 := fun q o n h => b q o n (a q o n h)
theorem keepL_upd {H : Hp} {cl : Addr} {o : HO} : KeepL [cl] H (upd H cl o) := fun q u n h => by
  rw [upd_ne (fun e => n (by rw [e]; exact List.mem_cons_self))]; exact h
section
variable (K : PySem.W.Frag)
def spLCall : Sp := fun vs H Q _ => ∃ (a cl : Addr) (ws : List Str) (cs : List (Str × Nat)) (os : List V), vs = [.ref a, .ref cl] ∧ H a = some (.lst (ws.map V.str)) ∧ a ≠ cl ∧ WsOk ws ∧ ws ≠ [] ∧ H cl = some (.lst os) ∧ CallsV H cs os ∧ os.length ≤ 1000 ∧
  (∀ b f es, callF ws = some (b, f, es) → ∀ H' os', KeepL [cl] H H' → H' cl = some (.lst os') → CallsV H' (cs ++ [(f, es.length)]) os' → os'.length = os.length + 1 → Q (.bl true) H') ∧ (callF ws = none → ∀ H' os', KeepL [cl] H H' → H' cl = some (.lst os') → Q (.bl false) H')
end
theorem wd_at {ws : List Str} {i : Nat} (h : i < ws.length) : atI (ws.map V.str) (i : Int) = some (V.str (wd ws i)) := atI_nat (by
  rw [List.getElem?_map, List.getElem?_eq_getElem h]
  unfold wd
  rw [List.getD_eq_getElem?_getD, List.getElem?_eq_getElem h]; rfl)
theorem wd_mem {ws : List Str} {i : Nat} (h : i < ws.length) : wd ws i ∈ ws := by
  unfold wd
  rw [List.getD_eq_getElem?_getD, List.getElem?_eq_getElem h]
  exact List.getElem_mem h
theorem names2 {ws : List Str} (h : 3 ≤ ws.length) : namesOk ((ws.drop 1).take 2) 2 = (isNameW (wd ws 1) && isNameW (wd ws 2)) := by
  match ws, h with
  | x :: y :: z :: r, _ =>
    unfold namesOk
    show (decide (([y, z] : List Str).length = 2) && ([y, z] : List Str).all isNameW) = (isNameW y && isNameW z)
    simp
theorem atI_last {xs : List V} {x : V} : atI (xs ++ [x]) (-1) = some x := by
  unfold atI ixN
  rw [if_neg (by decide), if_pos (by rw [List.length_append, List.length_singleton]; omega)]
  have : (-1 + ((xs ++ [x]).length : Int)).toNat = xs.length := by rw [List.length_append, List.length_singleton]; omega
  show (some _).bind _ = _
  rw [this]
  show (xs ++ [x])[xs.length]? = _
  rw [List.getElem?_append_right (Nat.le_refl _), Nat.sub_self]; rfl

/-! ### blocks -/
def LnW (t : Str) : Prop := t.length ≤ 99999 ∧ Ascii t ∧ WsOk (Txt.split t (Str.ofString " "))
def TsOk (ts : List Str) : Prop := ts.length ≤ 100 ∧ ∀ t ∈ ts, LnW t
def endsF (ts : List Str) (blk : RS → Option RS) (rt : RT) : List Str → RS → Option (RT × RS)
  | [], st => some (rt, st)
  | x :: r, st => match blk st with
    | none => none
    | some st2 => match passF ts x st2 with
      | none => none
      | some st3 => endsF ts blk rt r st3
def endsOf (w : Str) : List Str := if w = "while" then [Str.ofString "end"] else [Str.ofString "else", Str.ofString "end"]
def rowOfW (w : Str) (e : Ex) : RT := if w = "while" then .loop e else .ifr e
theorem rowsF_ends {ts : List Str} {blk : RS → Option RS} {ws : List Str} {st : RS} : rowsF ts blk true ws st = match only1 (exL (ws.drop 1)) with
    | none => none
    | some e => endsF ts blk (rowOfW (hd0 ws) e) (endsOf (hd0 ws)) st := by
  unfold rowsF
  rw [if_pos rfl]
  cases only1 (exL (ws.drop 1)) with
  | none => rfl
  | some e =>
    simp only
    unfold endsOf rowOfW
    by_cases c : hd0 ws = "while"
    · rw [if_pos c, if_pos c]
      unfold endsF
      cases blk st with
      | none => rfl
      | some st2 =>
        simp only
        rw [if_pos c]
        cases passF ts "end" st2 <;> rfl
    · rw [if_neg c, if_neg c]
      unfold endsF
      cases blk st with
      | none => rfl
      | some st2 =>
        simp only
        rw [if_neg c]
        have e1 : passF ts "else" st2 = passF ts (Str.ofString "else") st2 := rfl
        cases q : passF ts "else" st2 with
        | none => rfl
        | some st3 =>
          simp only
          unfold endsF
          cases blk st3 with
          | none => rfl
          | some st4 =>
            simp only
            cases passF ts "end" st4 <;> rfl
theorem pass_slice {ts : List Str} {x : Str} {st : RS} : decide ((ts.drop st.at_).take 1 = [x]) = (passF ts x st).isSome := by
  unfold passF
  by_cases c : st.at_ < ts.length
  · rw [List.drop_eq_getElem_cons c]
    have e : ts.getD st.at_ (Str.ofString "") = ts[st.at_] := by rw [List.getD_eq_getElem?_getD, List.getElem?_eq_getElem c]; rfl
    show decide ([ts[st.at_]] = [x]) = _
    by_cases c2 : ts[st.at_] = x
    · rw [if_pos ⟨c, by rw [e]; exact c2⟩, decide_eq_true (by rw [c2])]; rfl
    · rw [if_neg (fun h => c2 (by rw [← e]; exact h.2)), decide_eq_false (fun h => c2 (List.cons.inj h).1)]; rfl
  · rw [if_neg (fun h => c h.1), List.drop_eq_nil_of_le (by omega), decide_eq_false (by simp)]; rfl
def IFW : List Str := ["if", "while"]
theorem simplew_all : ∀ w ∈ SIMPLEW, w ≠ "if" ∧ w ≠ "while" ∧ w ≠ "call" ∧ w ∈ ROWW := by decide +kernel
theorem roww_all : ∀ w ∈ ROWW, w ∈ SIMPLEW ∨ w = "call" ∨ w ∈ IFW := by decide +kernel
theorem ifw_all : ∀ w ∈ IFW, (w = "if" ∨ w = "while") ∧ w ∈ ROWW := by decide +kernel
theorem one_simple {ts ws : List Str} {rows : List Str → RS → Option (RT × RS)} {st : RS} (hw : wordsAt ts st.at_ = ws) (h : hd0 ws ∈ SIMPLEW) : oneF ts rows st = (simpleF ws).map fun rt => (rt, ⟨st.at_ + 1, st.num, st.calls⟩) := by
  obtain ⟨h1, h2, h3, _⟩ := simplew_all _ h
  unfold oneF
  rw [hw, if_neg (fun e => e.elim h1 h2), if_neg h3]
theorem one_call {ts ws : List Str} {rows : List Str → RS → Option (RT × RS)} {st : RS} (hw : wordsAt ts st.at_ = ws) (h : hd0 ws = "call") : oneF ts rows st = match callF ws with
    | none => none
    | some (b, f, es) => some (.call b f es, ⟨st.at_ + 1, st.num, st.calls ++ [(f, es.length)]⟩) := by
  unfold oneF
  rw [hw, h, if_neg (by decide +kernel), if_pos rfl]
  all_goals (rcases callF ws with _ | p <;> rfl)
theorem one_if {ts ws : List Str} {rows : List Str → RS → Option (RT × RS)} {st : RS} (hw : wordsAt ts st.at_ = ws) (h : hd0 ws ∈ IFW) : oneF ts rows st = rows ws ⟨st.at_ + 1, st.num, st.calls⟩ := by
  unfold oneF
  rw [hw, if_pos (ifw_all _ h).1]
theorem only_of_len {o : Option (List Ex)} {es : List Ex} (h : o = some es) (hl : es.length = 1) : ∃ e, only1 o = some e := by
  subst h
  match es, hl with
  | [e], _ => exact ⟨e, rfl⟩
theorem only_none {o : Option (List Ex)} {es : List Ex} (h : o = some es) (hl : es.length ≠ 1) : only1 o = none := by
  subst h
  match es, hl with
  | [], _ => rfl
  | [e], h => exact absurd rfl h
  | _ :: _ :: _, _ => rfl
section
variable (K : PySem.W.Frag)
def spLBehind (n : Nat) : Sp := fun vs H Q _ => ∃ (a cl : Addr) (ts : List Str) (st : RS) (os : List V), vs = [.ref a, .int (st.at_ : Nat), .int (6 - (n : Int)), .ref cl] ∧ H a = some (.lst (ts.map V.str)) ∧ a ≠ cl ∧ TsOk ts ∧ st.at_ ≤ ts.length ∧ H cl = some (.lst os) ∧ CallsV H st.calls os ∧ os.length ≤ st.at_ ∧ 1 ≤ n ∧
  (∀ st', blockF ts n st = some st' → ∀ H' os', KeepL [cl] H H' → H' cl = some (.lst os') → CallsV H' st'.calls os' → os'.length ≤ st'.at_ → st'.at_ ≤ ts.length → Q (.int (st'.at_ : Nat)) H') ∧ (blockF ts n st = none → ∀ H' os', KeepL [cl] H H' → H' cl = some (.lst os') → Q .non H')
end
theorem callsV_str {H : Hp} {cs : List (Str × Nat)} {x : Str} {r : List V} (h : CallsV H cs (V.str x :: r)) : False := by
  cases h with
  | cons h _ => obtain ⟨t, h, _⟩ := h; cases h
theorem lines_codes {ts : List Str} (h : TsOk ts) : Codes ts := fun t ht => strOk_ascii (h.2 t ht).2.1

/-! ### functions -/
def hv (f : Str × Nat) : Key × V := (.inr f.1, .int (f.2 : Nat))
theorem hv_get {fs : List (Str × Nat)} {w : Str} : (valV (fs.map hv) (.inr w)).isSome = fs.any fun g => decide (g.1 = w) := by
  induction fs with
  | nil => rfl
  | cons f r ih =>
    rw [List.map_cons, List.any_cons]
    by_cases h : f.1 = w
    · rw [decide_eq_true h, valV_pos (show (hv f).1 = .inr w by rw [← h]; rfl)]; rfl
    · rw [decide_eq_false h, valV_neg (show ¬ (hv f).1 = .inr w from fun e => h (Sum.inr.inj e)), ih]; rfl
theorem hv_put {fs : List (Str × Nat)} {f : Str × Nat} (h : ∀ g ∈ fs, g.1 ≠ f.1) : putK (fs.map hv) (.inr f.1) (.int (f.2 : Nat)) = (fs ++ [f]).map hv := by
  unfold putK
  rw [if_neg, List.map_append]
  · rfl
  · intro c
    obtain ⟨x, hx, hd⟩ := List.any_eq_true.mp c
    obtain ⟨g, hg, rfl⟩ := List.mem_map.mp hx
    exact h g hg (Sum.inr.inj (of_decide_eq_true hd))
section
variable (K : PySem.W.Frag)
def spLFun : Sp := fun vs H Q _ => ∃ (a hd cl : Addr) (ts : List Str) (st : RS) (os : List V) (fs : List (Str × Nat)), vs = [.ref a, .int (st.at_ : Nat), .ref hd, .ref cl] ∧ H a = some (.lst (ts.map V.str)) ∧ a ≠ cl ∧ TsOk ts ∧ st.at_ < ts.length ∧ H cl = some (.lst os) ∧ CallsV H st.calls os ∧ os.length ≤ st.at_ ∧ H hd = some (.dK (fs.map hv)) ∧ fs.length ≤ 100 ∧
  (∀ f st', functionF ts st = some (f, st') → (∀ g ∈ fs, g.1 ≠ f.1) → ∀ H' os', KeepL [cl, hd] H H' → H' cl = some (.lst os') → CallsV H' st'.calls os' → os'.length ≤ st'.at_ → st'.at_ ≤ ts.length → H' hd = some (.dK ((fs ++ [f]).map hv)) → Q (.int (st'.at_ : Nat)) H') ∧
  ((∀ f st', functionF ts st = some (f, st') → ∃ g ∈ fs, g.1 = f.1) → ∀ H', KeepL [cl, hd] H H' → Q .non H')
end
theorem keepL_two {c h : Addr} {H H' : Hp} (k : KeepL [c] H H') : KeepL [c, h] H H' := fun q o n e => k q o (fun hm => n (by rw [List.mem_singleton.mp hm]; exact List.mem_cons_self)) e

/-! ### whole programs -/
def callD (c : Str × Nat) : PyData := .tuple [.str c.1, .int (c.2 : Nat)]
theorem calls_dp {K : PySem.W.Frag} {H : Hp} : ∀ {cs : List (Str × Nat)} {os : List V}, CallsV H cs os → DpAll K H os (cs.map callD)
  | _, _, .nil => .nil
  | _, _, .cons h r => by
    obtain ⟨t, rfl, _, h2⟩ := h
    exact .cons (.tup (SqT.of h2) (.cons (.str _) (.cons (.int _) .nil))) (calls_dp r)
theorem calls_lay {H : Hp} : ∀ {cs : List (Str × Nat)} {os : List V}, CallsV H cs os → PyData.canLayAll0 (cs.map callD) = true
  | _, _, .nil => rfl
  | c :: cs, _, .cons h r => by
    obtain ⟨t, _, h0, _⟩ := h
    show ((PyData.strOk c.1 && (true && true)) && PyData.canLayAll0 (cs.map callD)) = true
    rw [h0, calls_lay r]; rfl
theorem calls_deep : ∀ cs : List (Str × Nat), PyData.depthAll (cs.map callD) ≤ 1
  | [] => Nat.zero_le _
  | c :: r => by
    have := calls_deep r
    show max (max 0 (max 0 0) + 1) (PyData.depthAll (r.map callD)) ≤ 1
    omega
theorem calls_shaped {H : Hp} {cs : List (Str × Nat)} {os : List V} (h : CallsV H cs os) : SeqAt.shaped (.list (cs.map callD)) = true := by
  have h1 := calls_lay h
  have h2 := calls_deep cs
  show (PyData.canLayAll0 _ && decide (PyData.depthAll _ + 1 ≤ 64)) = true
  rw [h1, decide_eq_true (by omega)]; rfl
theorem calls_eqv : ∀ cs : List (Str × Nat), PyData.eqv (.list (cs.map callD)) (.list []) = decide (cs = [])
  | [] => rfl
  | _ :: _ => rfl
theorem hv_getD {fs : List (Str × Nat)} {w : Str} : (valV (fs.map hv) (.inr w)).getD (.int (-1)) = .int (match fs.find? fun g => decide (g.1 = w) with | some g => ((g.2 : Nat) : Int) | none => -1) := by
  induction fs with
  | nil => rfl
  | cons f r ih =>
    rw [List.map_cons, List.find?_cons]
    by_cases h : f.1 = w
    · rw [decide_eq_true h, valV_pos (show (hv f).1 = .inr w by rw [← h]; rfl)]; rfl
    · rw [decide_eq_false h, valV_neg (show ¬ (hv f).1 = .inr w from fun e => h (Sum.inr.inj e)), ih]
theorem callOk_dec {fs : List (Str × Nat)} {c : Str × Nat} : decide (V.int (match fs.find? fun g => decide (g.1 = c.1) with | some g => ((g.2 : Nat) : Int) | none => -1) = V.int ((c.2 : Nat) : Int)) = callOk fs c := by
  unfold callOk
  cases fs.find? fun g => decide (g.1 = c.1) with
  | none => exact decide_eq_false (fun e => by have := V.int.inj e; simp only at this; omega)
  | some g => exact decide_eq_decide.mpr ⟨fun e => by have := V.int.inj e; simp only at this; omega, fun e => by simp only; rw [e]⟩
theorem lc_calls {cs : List (Str × Nat)} {os : List V} (p : Str × Nat → Bool) {J : It} {G : Hp → Prop} (w : Walk J os.length G (YAt os)) {j : Nat} {tt : TT} {te : TE} {σ : St} {H1 : Hp} {D : Addr} {Qd : Hp → Prop} (hcs : CallsV H1 cs os) (hD : H1 D = none) (hn : os.length < 16777216)
    (hG : ∀ H, Same H1 H → G H)
    (step : ∀ c ∈ cs, ∀ t H (Z : Bool → Hp → Prop), Same H1 H → H t = some (.tup [.str c.1, .int (c.2 : Nat)]) → (∀ H', Same H H' → Z (p c) H') → tt ((σ.set j none).set j (some (.ref t))) H Z)
    (elt : ∀ t H (Z : VK), Z (.ref t) H → te ((σ.set j none).set j (some (.ref t))) H Z)
    (hd : ∀ H os', Same H1 H → H D = some (.lst os') → CallsV H (cs.filter p) os' → Qd H) :
    ∃ W : Nat → Nat → Hp → Prop, (∃ m, W 0 m (upd H1 D (.lst []))) ∧ ∀ i m H, W i m H →
      (J.stop i H ∧ Qd H) ∨ (J.go i H ∧ ∃ Nx : Hp → Prop, (∀ H', Nx H' → ∃ m', m' < m ∧ W (i + 1) m' H') ∧ ∀ x H', J.yld i H x H' → gName j x (wipe σ [j]) H' fun σ2 H2 => wipe σ2 [j] = wipe σ [j] ∧ tt σ2 H2 fun b H3 =>
        if b = true then te σ2 H3 fun y H4 => ∃ acc, H4 D = some (.lst acc) ∧ acc.length < sizeLine ∧ Nx (upd H4 D (.lst (acc ++ [y]))) else Nx H3) := by
  have hl := hcs.length
  refine lc_it w (fun i H => ∃ acc, H D = some (.lst acc) ∧ Same H1 H ∧ CallsV H ((cs.take i).filter p) acc ∧ acc.length ≤ i) ⟨[], upd_same, same_new hD, by rw [List.take_zero]; exact .nil, Nat.zero_le _⟩ (fun i H _ h => hG H h.choose_spec.2.1) ?_ fun H ⟨acc, h1, h2, h3, _⟩ => hd H acc h2 h1 (by rw [← hl, List.take_length] at h3; exact h3)
  rintro i x H H2 hi ⟨acc, h1, h2, h3, h4⟩ ⟨e, hx⟩
  subst e
  have hw : wipe ((wipe σ [j]).set j (some x)) [j] = wipe σ [j] := by
    show ((σ.set j none).set j (some x)).set j none = σ.set j none
    simp
  refine ⟨hw, ?_⟩
  obtain ⟨c, hc, t, rfl, h0, ht⟩ := hcs.at hx
  have hm := List.mem_of_getElem? hc
  have et : (cs.take (i + 1)).filter p = (cs.take i).filter p ++ (if p c = true then [c] else []) := by
    rw [List.take_add_one, hc, List.filter_append]
    show _ ++ ([c].filter p) = _
    rw [List.filter_cons, List.filter_nil]
  have ht2 := h2 _ _ ht
  refine step c hm t _ _ h2 ht2 fun H3 s3 => ?_
  cases hp : p c with
  | false =>
    rw [hp, if_neg Bool.false_ne_true, List.append_nil] at et
    exact iteF ⟨acc, s3 _ _ h1, h2.trans s3, by rw [et]; exact h3.same s3, by omega⟩
  | true =>
    rw [hp, if_pos rfl] at et
    have tD : t ≠ D := ne_of_none ht hD
    refine iteT (elt t _ _ ⟨acc, s3 _ _ h1, Nat.lt_of_lt_of_le (show acc.length < 16777216 by omega) (by decide), acc ++ [.ref t], upd_same, fun b o hb => by rw [upd_ne (ne_of_none hb hD)]; exact s3 _ _ (h2 b o hb), ?_, by rw [List.length_append, List.length_singleton]; omega⟩)
    rw [et]
    have up : ∀ {c : Str × Nat} {v : V}, (∃ t, v = V.ref t ∧ PyData.strOk c.1 = true ∧ H3 t = some (.tup [.str c.1, .int (c.2 : Nat)])) → ∃ t, v = V.ref t ∧ PyData.strOk c.1 = true ∧ upd H3 D (.lst (acc ++ [.ref t])) t = some (.tup [.str c.1, .int (c.2 : Nat)]) := fun {c v} ⟨t, a, b, d⟩ => ⟨t, a, b, by
      rw [upd_ne (fun e => by rw [e, s3 _ _ h1] at d; cases d)]; exact d⟩
    refine All2.snoc ⟨t, rfl, h0, by rw [upd_ne tD]; exact s3 _ _ ht2⟩ ((h3.same s3).mono fun c v ⟨t', a, b, d⟩ => ⟨t', a, b, by
      rw [upd_ne (fun e => by rw [e, s3 _ _ h1] at d; cases d)]; exact d⟩)
theorem filt_allC {cs : List (Str × Nat)} {p : Str × Nat → Bool} : decide (cs.filter (fun s => !p s) = []) = cs.all p := by
  rw [Bool.eq_iff_iff, decide_eq_true_eq, List.filter_eq_nil_iff, List.all_eq_true]
  constructor
  · intro h c hc
    have := h c hc
    simp at this
    exact this
  · intro h c hc
    rw [h c hc]; simp
theorem joinL_bound {B : Nat} : ∀ {ps : List (List Nat)}, (∀ p ∈ ps, p.length ≤ B) → (joinL [10] ps).length ≤ (B + 1) * ps.length
  | [], _ => Nat.zero_le _
  | [p], h => by
    have := h p List.mem_cons_self
    show p.length ≤ (B + 1) * 1
    omega
  | p :: q :: r, h => by
    have h1 := h p List.mem_cons_self
    have h2 := joinL_bound (ps := q :: r) fun x hx => h x (List.mem_cons_of_mem _ hx)
    show (p ++ ([10] ++ joinL [10] (q :: r))).length ≤ _
    rw [List.length_append, List.length_append, List.length_cons (a := p), Nat.mul_succ]
    show p.length + (1 + _) ≤ _
    omega
theorem lines_join {ls : List Str} (h : TsOk ls) (hn : ls ≠ []) (h10 : ∀ t ∈ ls, 10 ∉ tl t) : Txt.split (Txt.join (Str.ofString "\n") ls) (Str.ofString "\n") = ls ∧ (Txt.join (Str.ofString "\n") ls).length ≤ 10000000 := by
  refine ⟨split_join (s := 10) (S := []) tl_end (by decide +kernel) hn fun p hp hm => h10 p hp hm, ?_⟩
  rw [len_tl, join_eq, tl_join, tl_end]
  have := joinL_bound (B := 99999) (ps := ls.map tl) fun p hp => by
    obtain ⟨t, ht, rfl⟩ := List.mem_map.mp hp
    rw [← len_tl]; exact (h.2 t ht).1
  rw [List.length_map] at this
  have := h.1
  omega
section
variable (K : PySem.W.Frag)
def spLProg : Sp := fun vs H Q _ => ∃ (ls : List Str), vs = [.str (Txt.join (Str.ofString "\n") ls)] ∧ ls ≠ [] ∧ TsOk ls ∧ (∀ t ∈ ls, 10 ∉ tl t) ∧ ∀ H', Same H H' → Q (.bl (readF ls).isSome) H'
end
/-- the lines of a program with these functions, its rows -/
structure ProgH (hs : List (Str × Nat)) (ts : List Str) (R : List (Option RT)) : Prop where
  ex : ∃ (bs : List FnB) (L : List Str) (M : List (Option RT)), (∀ b ∈ bs, b.Ok hs) ∧ bs.map FnB.ar = hs ∧ bs.length ≤ 4 ∧ (hs.map Prod.fst).Nodup ∧ Body hs 5 L M ∧ ts = bs.flatMap FnB.lines ++ Str.ofString "main" :: L ∧ R = bs.flatMap FnB.rows ++ none :: M
  len : ts.length ≤ 60
theorem ProgH.ok {hs : List (Str × Nat)} {ts : List Str} {R : List (Option RT)} (h : ProgH hs ts R) : ProgOk ts R := by
  obtain ⟨bs, L, M, h1, h2, h3, h4, h5, h6, h7⟩ := h.ex
  exact ⟨⟨bs, L, M, by rw [h2]; exact h1, h3, by rw [h2]; exact h4, by rw [h2]; exact h5, h6, h7⟩, h.len⟩
theorem some_at4 {way : Int} (h0 : 0 ≤ way) (h1 : way < 4) : ∃ d m : Int, atI [V.int 1, V.int 2, V.int 3, V.int 4] way = some (.int d) ∧ atI [V.int 1, V.int 3, V.int 5, V.int 7] way = some (.int m) ∧ 1 ≤ d ∧ d ≤ 6 ∧ 1 ≤ m ∧ m ≤ 15 := by
  have : way = 0 ∨ way = 1 ∨ way = 2 ∨ way = 3 := by omega
  rcases this with rfl | rfl | rfl | rfl
  · exact ⟨1, 1, rfl, rfl, by decide, by decide, by decide, by decide⟩
  · exact ⟨2, 3, rfl, rfl, by decide, by decide, by decide, by decide⟩
  · exact ⟨3, 5, rfl, rfl, by decide, by decide, by decide, by decide⟩
  · exact ⟨4, 7, rfl, rfl, by decide, by decide, by decide, by decide⟩
def spLWorldH (K : PySem.W.Frag) : Sp := fun vs H Q _ => ∃ (a : Addr) (ns : List Int) (k : Int), vs = [.ref a, .int k] ∧ SqL K H a (ns.map V.int) ∧ 0 ≤ k ∧ ∀ X hs s H', WH K X hs H' s → ProgH (arsOf hs) s.ls s.R → HeadsOk hs → s.ls.length ≤ 25 → Same H H' → Q (.ref X.w) H'


def LnG (k : Nat) (t : Str) : Prop := (∀ w ∈ Txt.split t (Str.ofString " "), WordOk w ∧ 10 ∉ tl w) ∧ (Txt.split t (Str.ofString " ")).length ≤ 100 + k
instance (w : Str) : Decidable (WordOk w) := by unfold WordOk; infer_instance
instance (k : Nat) (t : Str) : Decidable (LnG k t) := by unfold LnG; infer_instance
theorem LnG.mono {k j : Nat} {t : Str} (h : LnG k t) (e : k ≤ j) : LnG j t := ⟨h.1, by have := h.2; omega⟩
theorem blank_eq : (Str.ofString " ") = (⟨#[32]⟩ : Str) := by decide +kernel
theorem LnG.free {t : Str} : ∀ w ∈ Txt.split t (Str.ofString " "), 32 ∉ tl w := by
  rw [blank_eq]
  exact PySem.StrLaws.split_free t 32
theorem LnG.chars {k : Nat} {t : Str} (h : LnG k t) : ∀ c ∈ tl t, c < 128 ∧ c ≠ 10 := fun c hc => by
  have e := congrArg tl (PySem.StrLaws.join_split t (Str.ofString " "))
  rw [tl_join, tl_blank] at e
  rw [← e] at hc
  rcases joinL_mem2 hc with rfl | ⟨p, hp, hcp⟩
  · decide
  · obtain ⟨w, hw, rfl⟩ := List.mem_map.mp hp
    obtain ⟨h1, h2⟩ := h.1 w hw
    exact ⟨h1.2 c hcp, fun e => h2 (e ▸ hcp)⟩
theorem LnG.len {k : Nat} {t : Str} (h : LnG k t) (hk : k ≤ 40) : t.length ≤ 1200 := by
  have e := congrArg tl (PySem.StrLaws.join_split t (Str.ofString " "))
  rw [tl_join, tl_blank] at e
  rw [len_tl, ← e]
  have hb : ∀ {ps : List (List Nat)}, (∀ p ∈ ps, p.length ≤ 7) → (joinL [32] ps).length ≤ 8 * ps.length := by
    intro ps
    induction ps with
    | nil => intro _; exact Nat.zero_le _
    | cons p r ih =>
      intro hp
      have h1 := hp p List.mem_cons_self
      have h2 := ih fun q hq => hp q (List.mem_cons_of_mem _ hq)
      cases r with
      | nil => show p.length ≤ 8 * 1; omega
      | cons q r =>
        show (p ++ ([32] ++ joinL [32] (q :: r))).length ≤ 8 * ((q :: r).length + 1)
        rw [List.length_append, List.length_append]
        show p.length + (1 + _) ≤ _
        omega
  have := hb (ps := (Txt.split t (Str.ofString " ")).map tl) fun p hp => by
    obtain ⟨w, hw, rfl⟩ := List.mem_map.mp hp
    exact (h.1 w hw).1.1
  rw [List.length_map] at this
  have := h.2
  omega
theorem LnG.lnw {k : Nat} {t : Str} (h : LnG k t) (hk : k ≤ 40) : LnW t := ⟨by have := h.len hk; omega, fun c hc => (h.chars c hc).1, by have := h.2; omega, fun w hw => (h.1 w hw).1⟩
theorem LnG.of_words {k : Nat} {ws : List Str} (h : ∀ w ∈ ws, WordOk w ∧ 10 ∉ tl w ∧ 32 ∉ tl w) (hl : ws.length ≤ 100 + k) : LnG k (Txt.join (Str.ofString " ") ws) := by
  by_cases e : ws = []
  · subst e
    have : LnG 0 (Txt.join (Str.ofString " ") []) := by decide +kernel
    exact this.mono (Nat.zero_le _)
  · have hs : Txt.split (Txt.join (Str.ofString " ") ws) (Str.ofString " ") = ws := split_join (s := 32) (S := []) tl_blank (by decide +kernel) e fun p hp => (h p hp).2.2
    refine ⟨?_, ?_⟩
    · rw [hs]; exact fun w hw => ⟨(h w hw).1, (h w hw).2.1⟩
    · rw [hs]; exact hl
theorem LnG.ws {k : Nat} {t : Str} (h : LnG k t) : ∀ w ∈ Txt.split t (Str.ofString " "), WordOk w ∧ 10 ∉ tl w ∧ 32 ∉ tl w := fun w hw => ⟨(h.1 w hw).1, (h.1 w hw).2, LnG.free w hw⟩
theorem OTH_ok : ∀ w ∈ (["end", "else", "0", "if", "zz", "times", ""] : List Str), WordOk w ∧ 10 ∉ tl w ∧ 32 ∉ tl w := by decide +kernel
theorem fin_sum {ws us : List Str} (hl : ws.length ≤ 130) (h : ∀ w ∈ ws, WordOk w ∧ 10 ∉ tl w ∧ 32 ∉ tl w) (hu : us.length ≤ 200) (h2 : ∀ w ∈ us, w ∈ ws ∨ w ∈ (["end", "else", "0", "if", "zz", "times", ""] : List Str)) : (us.map (·.length)).sum + us.length * (Str.ofString " ").length ≤ 16777216 := by
  have b : ∀ w ∈ us, w.length ≤ 10 := fun w hw => by
    rw [len_tl]
    rcases h2 w hw with e | e
    · have := (h w e).1.1; omega
    · have := (OTH_ok w e).1.1; omega
  have hg : ∀ {ws : List Str}, (∀ w ∈ ws, w.length ≤ 10) → (ws.map (·.length)).sum ≤ 10 * ws.length := by
    intro ws
    induction ws with
    | nil => intro _; exact Nat.zero_le _
    | cons x r ih =>
      intro h
      have := ih fun w hw => h w (List.mem_cons_of_mem x hw)
      have := h x List.mem_cons_self
      rw [List.map_cons, List.sum_cons, List.length_cons]
      omega
  have := hg b
  rw [show (Str.ofString " ").length = 1 from by decide +kernel]
  omega
theorem words12 {ws us : List Str} (h : ∀ w ∈ ws, WordOk w ∧ 10 ∉ tl w ∧ 32 ∉ tl w) (h2 : ∀ w ∈ us, w ∈ ws ∨ w ∈ (["end", "else", "0", "if", "zz", "times", ""] : List Str)) : ∀ w ∈ us, WordOk w ∧ 10 ∉ tl w ∧ 32 ∉ tl w := fun w hw => (h2 w hw).elim (h w) (OTH_ok w)
def spMenu12 : Sp := fun vs H Q _ => ∃ (p : Addr), vs = [.ref p] ∧ WellAt H p ∧ ∀ (s : Str) H', LnG 0 s → KeepX p H H' → WellAt H' p → Q (.str s) H'
def spChanged : Sp := fun vs H Q _ => ∃ (p : Addr) (t : Str) (k : Nat), vs = [.ref p, .str t] ∧ WellAt H p ∧ LnG k t ∧ k ≤ 30 ∧ ∀ (s : Str) H', LnG (k + 1) s → KeepX p H H' → WellAt H' p → Q (.str s) H'
def spSpoiled12 : Sp := fun vs H Q _ => ∃ (p a : Addr) (ls : List Str) (k : Nat), vs = [.ref p, .ref a] ∧ WellAt H p ∧ H a = some (.lst (ls.map V.str)) ∧ a ≠ p ∧ ls ≠ [] ∧ ls.length ≤ 90 ∧ (∀ t ∈ ls, LnG k t) ∧ k ≤ 30 ∧
  ∀ (b : Addr) (us : List Str) H', H' b = some (.lst (us.map V.str)) → b ≠ p → us ≠ [] → us.length ≤ ls.length + 1 → (∀ t ∈ us, LnG (k + 1) t) → KeepX p H H' → WellAt H' p → Q (.ref b) H'

theorem tok_lng {s : Str} (h : TokOk s) : WordOk s ∧ 10 ∉ tl s := ⟨⟨by have := h.1; omega, fun c hc => by have := h.2 c hc; omega⟩, fun e => by have := h.2 10 e; omega⟩
theorem toks_lng {t : Str} {ws : List Str} (hs : Txt.split t (Str.ofString " ") = ws) (h : ∀ s ∈ ws, TokOk s) (hl : ws.length ≤ 100) : LnG 0 t := by
  unfold LnG
  rw [hs]
  exact ⟨fun w hw => tok_lng (h w hw), by omega⟩
theorem word_lng : ∀ s ∈ (["main", "else", "end", ""] : List Str), LnG 0 s := by decide +kernel
theorem RT.lng {rt : RT} (h : rt.Ok) : LnG 0 rt.text := toks_lng (RT.split h) (RT.tok h) (RT.toks_len h)
theorem Body.lng {hs : List (Str × Nat)} : ∀ {d : Nat} {L : List Str} {R : List (Option RT)}, Body hs d L R → ∀ t ∈ L, LnG 0 t := by
  intro d L R h
  induction h with
  | nil => intro t ht; cases ht
  | app _ _ h1 h2 =>
    intro t ht
    rcases List.mem_append.mp ht with h | h
    · exact h1 t h
    · exact h2 t h
  | row h _ => intro t ht; rw [List.mem_singleton.mp ht]; exact RT.lng h
  | call h _ => intro t ht; rw [List.mem_singleton.mp ht]; exact RT.lng h
  | loop he _ h =>
    intro t ht
    rcases List.mem_cons.mp ht with rfl | ht
    · exact RT.lng (rt := .loop _) he
    rcases List.mem_append.mp ht with ht | ht
    · exact h t ht
    · rw [List.mem_singleton.mp ht]; exact word_lng _ (by decide +kernel)
  | ifr he _ _ h1 h2 =>
    intro t ht
    rcases List.mem_cons.mp ht with rfl | ht
    · exact RT.lng (rt := .ifr _) he
    rcases List.mem_append.mp ht with ht | ht
    · exact h1 t ht
    rcases List.mem_cons.mp ht with rfl | ht
    · exact word_lng _ (by decide +kernel)
    rcases List.mem_append.mp ht with ht | ht
    · exact h2 t ht
    · rw [List.mem_singleton.mp ht]; exact word_lng _ (by decide +kernel)
theorem FnB.Ok.lng {hs : List (Str × Nat)} {b : FnB} (h : b.Ok hs) : ∀ t ∈ b.lines, LnG 0 t := fun t ht => by
  rcases List.mem_cons.mp ht with rfl | ht
  · exact toks_lng (head_split h.head) (head_tok h.head) (by have := h.head.2.2.1; simp; omega)
  rcases List.mem_append.mp ht with ht | ht
  · exact h.body.lng t ht
  · rw [List.mem_singleton.mp ht]; exact RT.lng (rt := .give b.e) h.ex
theorem ProgOk.lng {ts : List Str} {R : List (Option RT)} (h : ProgOk ts R) : ∀ t ∈ ts, LnG 0 t := by
  obtain ⟨bs, L, M, ok, h4, hn, hb, hts, hR⟩ := h.ex
  intro t ht
  rw [hts] at ht
  rcases List.mem_append.mp ht with ht | ht
  · obtain ⟨b, hb, ht⟩ := List.mem_flatMap.mp ht
    exact (ok b hb).lng t ht
  rcases List.mem_cons.mp ht with rfl | ht
  · exact word_lng _ (by decide +kernel)
  · exact hb.lng t ht
theorem readF_len {ts : List Str} {num : List (Nat × RT)} (h : readF ts = some num) : ts.length ≤ 60 := by
  unfold readF at h
  by_cases c : ts.length ≤ 60
  · exact c
  · rw [if_neg c] at h; cases h
theorem lng_split {ls : List Str} (hne : ls ≠ []) (h : ∀ t ∈ ls, LnG 40 t) : Txt.split (Txt.join (Str.ofString "\n") ls) (Str.ofString "\n") = ls :=
  split_join (s := 10) (S := []) tl_end (by decide +kernel) hne fun p hp hm => ((h p hp).chars 10 hm).2 rfl
theorem lng_jlen {ls : List Str} (hl : ls.length ≤ 95) (h : ∀ t ∈ ls, LnG 40 t) : (Txt.join (Str.ofString "\n") ls).length ≤ 200000 := by
  rw [len_tl, join_eq, tl_join, tl_end]
  have := joinL_bound (B := 1200) (ps := ls.map tl) fun p hp => by
    obtain ⟨t, ht, rfl⟩ := List.mem_map.mp hp
    rw [← len_tl]; exact (h t ht).len (Nat.le_refl _)
  rw [List.length_map] at this
  omega
theorem lng_text {ls : List Str} (hne : ls ≠ []) (hl : ls.length ≤ 95) (h : ∀ t ∈ ls, LnG 40 t) : TextOk (Txt.join (Str.ofString "\n") ls) := by
  refine ⟨?_, ?_, ?_⟩
  · have := lng_jlen hl h; omega
  · have e' : Txt.split (Txt.join (Str.ofString "\n") ls) "\n" = ls := lng_split hne h
    rw [e']
    exact fun t ht => Nat.le_trans ((h t ht).len (Nat.le_refl _)) (by decide)
  · refine strOk_ascii fun c hc => ?_
    rw [join_eq, tl_join, tl_end] at hc
    rcases joinL_mem2 hc with rfl | ⟨p, hp, hcp⟩
    · decide
    · obtain ⟨t, ht, rfl⟩ := List.mem_map.mp hp
      exact ((h t ht).chars c hcp).1
theorem lng_ts {ls : List Str} (hl : ls.length ≤ 95) (h : ∀ t ∈ ls, LnG 40 t) : TsOk ls := ⟨by omega, fun t ht => (h t ht).lnw (Nat.le_refl _)⟩
theorem lng_10 {ls : List Str} (h : ∀ t ∈ ls, LnG 40 t) : ∀ t ∈ ls, 10 ∉ tl t := fun t ht hm => ((h t ht).chars 10 hm).2 rfl
theorem sum12 {ls : List Str} (hl : ls.length ≤ 95) (h : ∀ t ∈ ls, LnG 40 t) : (ls.map (·.length)).sum + ls.length * (Str.ofString "\n").length ≤ 16777216 := by
  have hg : ∀ {ws : List Str}, (∀ w ∈ ws, w.length ≤ 1200) → (ws.map (·.length)).sum ≤ 1200 * ws.length := by
    intro ws
    induction ws with
    | nil => intro _; exact Nat.zero_le _
    | cons x r ih =>
      intro h
      have := ih fun w hw => h w (List.mem_cons_of_mem x hw)
      have := h x List.mem_cons_self
      rw [List.map_cons, List.sum_cons, List.length_cons]
      omega
  have := hg fun t ht => (h t ht).len (Nat.le_refl _)
  rw [show (Str.ofString "\n").length = 1 from by decide +kernel]
  omega
theorem join_snoc : ∀ {ps : List (List Nat)}, ps ≠ [] → joinL [10] (ps ++ [[]]) = joinL [10] ps ++ [10]
  | [], h => absurd rfl h
  | [p], _ => by show p ++ ([10] ++ []) = p ++ [10]; rfl
  | p :: q :: r, _ => by
    show p ++ ([10] ++ joinL [10] ((q :: r) ++ [[]])) = (p ++ ([10] ++ joinL [10] (q :: r))) ++ [10]
    rw [join_snoc (by simp)]
    simp [List.append_assoc]
theorem tl_empty : tl (Str.ofString "") = [] := by decide +kernel
theorem txt_snoc {ls : List Str} (hne : ls ≠ []) : Txt.join (Str.ofString "\n") ls ++ Str.ofString "\n" = Txt.join (Str.ofString "\n") (ls ++ [Str.ofString ""]) := by
  refine ext_tl ?_
  rw [tl_append, join_eq, tl_join, join_eq, tl_join, tl_end, List.map_append]
  show _ = joinL [10] (ls.map tl ++ [tl (Str.ofString "")])
  rw [tl_empty, join_snoc (by simpa using hne)]
theorem txt_cons {ls : List Str} (hne : ls ≠ []) : Str.ofString "\n" ++ Txt.join (Str.ofString "\n") ls = Txt.join (Str.ofString "\n") (Str.ofString "" :: ls) := by
  refine ext_tl ?_
  rw [tl_append, join_eq, tl_join, join_eq, tl_join, tl_end, List.map_cons, tl_empty]
  obtain ⟨x, r, rfl⟩ := List.exists_cons_of_ne_nil hne
  show _ = [] ++ ([10] ++ joinL [10] ((x :: r).map tl))
  rfl
theorem shaped12 : SeqAt.shaped (.str "refused") = true := by decide +kernel
section
variable (K : PySem.W.Frag)
def spFound12 : Sp := fun vs H Q _ => ∃ x : V, vs = [x] ∧ ((∃ ls : List Str, x = .str (Txt.join (Str.ofString "\n") ls) ∧ ls ≠ [] ∧ ls.length ≤ 95 ∧ (∀ t ∈ ls, LnG 40 t) ∧ ∀ H', Same H H' → Q (.str (if (readF ls).isSome = true then Txt.join (Str.ofString "\n") ls else Str.ofString "refused")) H') ∨ (∃ t, TyX K H x t ∧ PySem.W.kitOne K t (.type "str") = some false ∧ ∀ H', Same H H' → Q (.str (Str.ofString "refused")) H'))
end
def MN0 : List Str := ["", "skip", "skip ", "set a 1", "set a", "set plus 1", "put 1 2", "put 1", "ask a b 1", "ask a 1"]
def MN1 : List Str := ["draw a b", "draw a", "tell 1", "tell 1 2", "tell times 2 cell a", "if 1", "if", "if a", "else"]
def MN2 : List Str := ["end", "while 1", "while cell 2", "while", "call a f", "call a f 1", "call a f 1 2", "call a a"]
def MN3 : List Str := ["call a go", "call b go 1", "call a funs", "call a funs 1 2 3", "call a none", "give 1"]
def MN4 : List Str := ["give a", "give", "give 1 2", "main", "fun f", "fun f a", " skip", "set a 1000000", "tell 007"]
def MN5 : List Str := ["tell abcdefg", "set a over 1 0", "skip skip"]
def MENUN : List Str := (((((MN0 ++ MN1) ++ MN2) ++ MN3) ++ MN4) ++ MN5)
theorem menun_ok : ∀ s ∈ MENUN, LnG 0 s := by decide +kernel

/-! ### which lines are rows -/
def shW (w : Str) : Str := if w ∈ (["if", "while", "call", "give"] : List Str) then w else if w ∈ (["skip", "set", "put", "ask", "draw", "tell"] : List Str) then Str.ofString "simple" else Str.ofString "none"
def shL (t : Str) : Str := shW (hd0 (Txt.split t (Str.ofString " ")))
def FitN (ts : List Str) (num : List (Nat × RT)) (n : Nat) : Prop := match rowOf num (n : Int) with
  | some rt => rt.shapeT = shL (ts.getD n (Str.ofString ""))
  | none => shL (ts.getD n (Str.ofString "")) = Str.ofString "none"
theorem FitN.same {ts : List Str} {num num' : List (Nat × RT)} {n : Nat} (e : rowOf num' (n : Int) = rowOf num (n : Int)) (h : FitN ts num n) : FitN ts num' n := by
  unfold FitN at h ⊢
  rw [e]
  exact h
structure Reg (ts : List Str) (a b : Nat) (num num' : List (Nat × RT)) : Prop where
  le : a ≤ b
  out : ∀ n : Nat, n < a ∨ b ≤ n → rowOf num' (n : Int) = rowOf num (n : Int)
  fit : ∀ n : Nat, a ≤ n → n < b → rowOf num (n : Int) = none → FitN ts num' n
theorem Reg.rfl' {ts : List Str} {a : Nat} {num : List (Nat × RT)} : Reg ts a a num num := ⟨Nat.le_refl _, fun _ _ => rfl, fun n h1 h2 _ => by omega⟩
theorem Reg.trans {ts : List Str} {a b c : Nat} {x y z : List (Nat × RT)} (h : Reg ts a b x y) (k : Reg ts b c y z) : Reg ts a c x z := by
  have h1 := h.le
  have h2 := k.le
  refine ⟨by omega, fun n hn => ?_, fun n n1 n2 hx => ?_⟩
  · rw [k.out n (by omega), h.out n (by omega)]
  · by_cases c : n < b
    · exact (h.fit n n1 c hx).same (k.out n (.inl c))
    · exact k.fit n (by omega) n2 (by rw [h.out n (.inr (by omega))]; exact hx)
theorem Reg.pass {ts : List Str} {a : Nat} {num : List (Nat × RT)} (h : shL (ts.getD a (Str.ofString "")) = Str.ofString "none") : Reg ts a (a + 1) num num := ⟨Nat.le_succ _, fun _ _ => rfl, fun n h1 h2 hx => by
  obtain rfl : n = a := by omega
  unfold FitN
  rw [hx]
  exact h⟩
theorem Reg.put {ts : List Str} {p b : Nat} {x y : List (Nat × RT)} {rt : RT} (h : rt.shapeT = shL (ts.getD p (Str.ofString ""))) (r : Reg ts (p + 1) b x y) : Reg ts p b x (putN y p rt) := by
  have h1 := r.le
  refine ⟨by omega, fun n hn => ?_, fun n n1 n2 hx => ?_⟩
  · rw [rowOf_put, if_neg (by omega), r.out n (by omega)]
  · by_cases c : n = p
    · subst c
      unfold FitN
      rw [rowOf_put, if_pos rfl]
      exact h
    · exact (r.fit n (by omega) n2 hx).same (by rw [rowOf_put, if_neg c])
theorem sh_words : ∀ w ∈ (["else", "end", "main", "fun"] : List Str), shL w = Str.ofString "none" ∧ shW w = Str.ofString "none" := by decide +kernel
theorem sh_simple : ∀ w ∈ (["skip", "set", "put", "ask", "draw", "tell"] : List Str), shW w = Str.ofString "simple" := by decide +kernel
theorem sh_head : ∀ w ∈ (["if", "while", "call", "give"] : List Str), shW w = w := by decide +kernel
theorem passF_reg {ts : List Str} {t : Str} {st st' : RS} (ht : shL t = Str.ofString "none") (h : passF ts t st = some st') : Reg ts st.at_ st'.at_ st.num st'.num := by
  unfold passF at h
  by_cases c : st.at_ < ts.length ∧ ts.getD st.at_ (Str.ofString "") = t
  · rw [if_pos c] at h
    cases h
    exact Reg.pass (by rw [c.2]; exact ht)
  · rw [if_neg c] at h; cases h
theorem rowsF_reg {ts : List Str} {blk : RS → Option RS} (hb : ∀ st st', blk st = some st' → Reg ts st.at_ st'.at_ st.num st'.num) {ok : Bool} {ws : List Str} {st st' : RS} {rt : RT} (h : rowsF ts blk ok ws st = some (rt, st')) : Reg ts st.at_ st'.at_ st.num st'.num ∧ rt.shapeT = (if hd0 ws = "while" then Str.ofString "while" else Str.ofString "if") := by
  unfold rowsF at h
  cases ok with
  | false => cases h
  | true =>
    rw [if_pos rfl] at h
    cases q1 : only1 (exL (ws.drop 1)) with
    | none => rw [q1] at h; cases h
    | some e =>
      rw [q1] at h
      simp only at h
      cases q2 : blk st with
      | none => rw [q2] at h; cases h
      | some st2 =>
        rw [q2] at h
        simp only at h
        have b1 := hb st st2 q2
        by_cases c : hd0 ws = "while"
        · rw [if_pos c] at h
          cases q3 : passF ts "end" st2 with
          | none => rw [q3] at h; cases h
          | some st3 =>
            rw [q3] at h
            cases h
            exact ⟨b1.trans (passF_reg (sh_words _ (by decide +kernel)).1 q3), by rw [if_pos c]; rfl⟩
        · rw [if_neg c] at h
          cases q3 : passF ts "else" st2 with
          | none => rw [q3] at h; cases h
          | some st3 =>
            rw [q3] at h
            simp only at h
            cases q4 : blk st3 with
            | none => rw [q4] at h; cases h
            | some st4 =>
              rw [q4] at h
              simp only at h
              have b4 := hb st3 st4 q4
              cases q5 : passF ts "end" st4 with
              | none => rw [q5] at h; cases h
              | some st5 =>
                rw [q5] at h
                cases h
                exact ⟨((b1.trans (passF_reg (sh_words _ (by decide +kernel)).1 q3)).trans b4).trans (passF_reg (sh_words _ (by decide +kernel)).1 q5), by rw [if_neg c]; rfl⟩
theorem simpleF_sh {ws : List Str} {rt : RT} (h : simpleF ws = some rt) : rt.shapeT = Str.ofString "simple" ∧ hd0 ws ∈ (["skip", "set", "put", "ask", "draw", "tell"] : List Str) := by
  unfold simpleF at h
  split at h
  · rename_i c
    refine ⟨?_, by rw [c]; decide +kernel⟩
    split at h
    · cases q : only1 (exL (ws.drop 2)) with
      | none => rw [q] at h; cases h
      | some e => rw [q] at h; cases h; rfl
    · cases h
  split at h
  · rename_i c
    refine ⟨?_, by rw [c]; decide +kernel⟩
    split at h
    · cases h; rfl
    · cases h
  split at h
  · rename_i c
    refine ⟨?_, by rw [c]; decide +kernel⟩
    split at h
    · cases q : only1 (exL (ws.drop 3)) with
      | none => rw [q] at h; cases h
      | some e => rw [q] at h; cases h; rfl
    · cases h
  split at h
  · rename_i c
    refine ⟨?_, by rw [c]; decide +kernel⟩
    split at h
    · cases h; rfl
    · cases h
  split at h
  · rename_i c
    refine ⟨?_, by rw [c]; decide +kernel⟩
    cases q : only1 (exL (ws.drop 1)) with
    | none => rw [q] at h; cases h
    | some e => rw [q] at h; cases h; rfl
  split at h
  · rename_i c
    cases h
    exact ⟨rfl, by rw [c]; decide +kernel⟩
  · cases h
theorem oneF_reg {ts : List Str} {rows : List Str → RS → Option (RT × RS)} (hr : ∀ ws st rt st', rows ws st = some (rt, st') → Reg ts st.at_ st'.at_ st.num st'.num ∧ rt.shapeT = (if hd0 ws = "while" then Str.ofString "while" else Str.ofString "if")) {st st' : RS} {rt : RT} (h : oneF ts rows st = some (rt, st')) : Reg ts (st.at_ + 1) st'.at_ st.num st'.num ∧ rt.shapeT = shL (ts.getD st.at_ (Str.ofString "")) := by
  have esh : shL (ts.getD st.at_ (Str.ofString "")) = shW (hd0 (wordsAt ts st.at_)) := rfl
  rw [esh]
  unfold oneF at h
  by_cases c1 : hd0 (wordsAt ts st.at_) = "if" ∨ hd0 (wordsAt ts st.at_) = "while"
  · rw [if_pos c1] at h
    obtain ⟨r1, r2⟩ := hr _ _ _ _ h
    refine ⟨r1, ?_⟩
    rw [r2]
    rcases c1 with c | c
    · rw [c]; decide +kernel
    · rw [c]; decide +kernel
  rw [if_neg c1] at h
  by_cases c2 : hd0 (wordsAt ts st.at_) = "call"
  · rw [if_pos c2] at h
    cases q : callF (wordsAt ts st.at_) with
    | none => rw [q] at h; cases h
    | some r =>
      obtain ⟨b, f, es⟩ := r
      rw [q] at h
      cases h
      refine ⟨Reg.rfl', ?_⟩
      rw [c2, sh_head _ (by decide +kernel)]
      rfl
  · rw [if_neg c2] at h
    cases q : simpleF (wordsAt ts st.at_) with
    | none => rw [q] at h; cases h
    | some r =>
      rw [q] at h; cases h
      obtain ⟨s1, s2⟩ := simpleF_sh q
      refine ⟨Reg.rfl', ?_⟩
      rw [s1, sh_simple _ s2]
theorem blkF_reg {ts : List Str} {one : RS → Option (RT × RS)} (ho : ∀ st rt st', one st = some (rt, st') → Reg ts (st.at_ + 1) st'.at_ st.num st'.num ∧ rt.shapeT = shL (ts.getD st.at_ (Str.ofString ""))) : ∀ {m : Nat} {st st' : RS}, blkF ts one m st = some st' → Reg ts st.at_ st'.at_ st.num st'.num
  | 0, _, _, h => by cases h
  | m + 1, st, st', h => by
    unfold blkF at h
    cases q : headAt ts st.at_ with
    | none => rw [q] at h; cases h; exact Reg.rfl'
    | some w =>
      rw [q] at h
      simp only at h
      by_cases c : w ∈ ROWW
      · rw [if_pos c] at h
        cases q2 : one st with
        | none => rw [q2] at h; cases h
        | some r =>
          obtain ⟨rt, st2⟩ := r
          rw [q2] at h
          simp only at h
          obtain ⟨r1, r2⟩ := ho _ _ _ q2
          have b : Reg ts st2.at_ st'.at_ (putN st2.num st.at_ rt) st'.num := blkF_reg ho (st := ⟨st2.at_, putN st2.num st.at_ rt, st2.calls⟩) h
          exact (Reg.put r2 r1).trans b
      · rw [if_neg c] at h; cases h; exact Reg.rfl'
theorem blockF_reg {ts : List Str} : ∀ {n : Nat} {st st' : RS}, blockF ts n st = some st' → Reg ts st.at_ st'.at_ st.num st'.num
  | 0, _, _, h => by cases h
  | n + 1, st, st', h => blkF_reg (fun st rt st' h => oneF_reg (fun ws st rt st' h => rowsF_reg (fun st st' h => blockF_reg h) h) h) h
theorem functionF_reg {ts : List Str} {st st' : RS} {f : Str × Nat} (hh : headAt ts st.at_ = some "fun") (h : functionF ts st = some (f, st')) : Reg ts st.at_ st'.at_ st.num st'.num := by
  unfold functionF at h
  split at h
  rotate_left
  · cases h
  have e0 : shL (ts.getD st.at_ (Str.ofString "")) = Str.ofString "none" := by
    have := (headAt_lt hh).2
    show shW (hd0 (wordsAt ts st.at_)) = _
    rw [← this]
    exact (sh_words _ (by decide +kernel)).2
  cases q : blockF ts 6 { st with at_ := st.at_ + 1 } with
  | none => rw [q] at h; cases h
  | some st2 =>
    rw [q] at h
    simp only at h
    have b := blockF_reg q
    split at h
    rotate_left
    · cases h
    rename_i hg
    cases q2 : only1 (exL ((wordsAt ts st2.at_).drop 1)) with
    | none => rw [q2] at h; cases h
    | some e =>
      rw [q2] at h
      cases h
      refine ((Reg.pass e0).trans b).trans (Reg.put ?_ Reg.rfl')
      have := (headAt_lt hg).2
      show _ = shW (hd0 (wordsAt ts st2.at_))
      rw [← this]
      exact (sh_head "give" (by decide +kernel)).symm
theorem funsF_reg {ts : List Str} : ∀ {n : Nat} {fs fs' : List (Str × Nat)} {st st' : RS}, funsF ts n fs st = some (fs', st') → Reg ts st.at_ st'.at_ st.num st'.num
  | 0, _, _, _, _, h => by cases h
  | n + 1, fs, fs', st, st', h => by
    unfold funsF at h
    split at h
    · rename_i hh
      cases q : functionF ts st with
      | none => rw [q] at h; cases h
      | some r =>
        obtain ⟨f, st2⟩ := r
        rw [q] at h
        simp only at h
        split at h
        · cases h
        · exact (functionF_reg hh q).trans (funsF_reg h)
    · cases h; exact Reg.rfl'
theorem readF_fit {ts : List Str} {num : List (Nat × RT)} (h : readF ts = some num) : (∀ n : Nat, n < ts.length → FitN ts num n) ∧ ∀ n : Nat, ts.length ≤ n → rowOf num (n : Int) = none := by
  unfold readF at h
  split at h
  rotate_left
  · cases h
  cases q1 : funsF ts (ts.length + 1) [] ⟨0, [], []⟩ with
  | none => rw [q1] at h; cases h
  | some r =>
    obtain ⟨fs, st⟩ := r
    rw [q1] at h
    simp only at h
    cases q2 : passF ts "main" st with
    | none => rw [q2] at h; cases h
    | some st1 =>
      rw [q2] at h
      simp only at h
      cases q3 : blockF ts 6 st1 with
      | none => rw [q3] at h; cases h
      | some st2 =>
        rw [q3] at h
        simp only at h
        split at h
        rotate_left
        · cases h
        rename_i hc
        cases h
        have r1 : Reg ts 0 st.at_ [] st.num := funsF_reg q1
        have r := (r1.trans (passF_reg (sh_words _ (by decide +kernel)).1 q2)).trans (blockF_reg q3)
        rw [hc.1] at r
        exact ⟨fun n hn => r.fit n (Nat.zero_le _) hn rfl, fun n hn => r.out n (.inr hn)⟩
theorem shapeT_row (rt : RT) : rt.shapeT ≠ Str.ofString "none" := by
  cases rt with
  | ifr _ => show Str.ofString "if" ≠ _; decide +kernel
  | loop _ => show Str.ofString "while" ≠ _; decide +kernel
  | call _ _ _ => show Str.ofString "call" ≠ _; decide +kernel
  | give _ => show Str.ofString "give" ≠ _; decide +kernel
  | _ => show Str.ofString "simple" ≠ _; decide +kernel
theorem fit_some {ts : List Str} {num : List (Nat × RT)} {n : Nat} {rt : RT} (h : FitN ts num n) (e : rowOf num (n : Int) = some rt) : shL (ts.getD n (Str.ofString "")) = rt.shapeT := by
  unfold FitN at h
  rw [e] at h
  exact h.symm
theorem fit_none {ts : List Str} {num : List (Nat × RT)} {n : Nat} (h : FitN ts num n) (e : rowOf num (n : Int) = none) : shL (ts.getD n (Str.ofString "")) = Str.ofString "none" := by
  unfold FitN at h
  rw [e] at h
  exact h
/-- what may be put there -/
def okL (ts : List Str) (n : Int) (line : Str) : Bool := decide (0 ≤ n) && (decide (n < (ts.length : Int)) && (decide (shL (ts.getD n.toNat (Str.ofString "")) ≠ Str.ofString "none") && (decide (shL line = shL (ts.getD n.toNat (Str.ofString ""))) && (readF (ts.set n.toNat line)).isSome)))
theorem rowOf_neg {ts : List Str} {num : List (Nat × RT)} (h : readF ts = some num) {n : Int} {rt : RT} (e : rowOf num n = some rt) : ∃ m : Nat, n = (m : Int) ∧ m < ts.length := by
  have e' := e
  unfold rowOf at e'
  cases q : num.find? fun x => decide ((x.1 : Int) = n) with
  | none => rw [q] at e'; cases e'
  | some x =>
    have hx : (x.1 : Int) = n := of_decide_eq_true (by have := List.find?_some q; exact this)
    refine ⟨x.1, hx.symm, ?_⟩
    rcases Nat.lt_or_ge x.1 ts.length with c | c
    · exact c
    · rw [← hx, (readF_fit h).2 x.1 c] at e
      cases e
theorem okL_no {ts : List Str} {num : List (Nat × RT)} (h : readF ts = some num) {n : Int} {line : Str} (e : rowOf num n = none) : okL ts n line = false := by
  unfold okL
  by_cases c : 0 ≤ n ∧ n < (ts.length : Int)
  · obtain ⟨m, rfl⟩ : ∃ m : Nat, n = (m : Int) := ⟨n.toNat, by omega⟩
    have := fit_none ((readF_fit h).1 m (by omega)) e
    rw [Int.toNat_natCast, this]
    simp
  · by_cases c2 : 0 ≤ n
    · rw [decide_eq_false (p := n < (ts.length : Int)) (fun z => c ⟨c2, z⟩)]; simp
    · rw [decide_eq_false c2]; rfl
theorem getD_set_self {ts : List Str} {m : Nat} {line : Str} (h : m < ts.length) : (ts.set m line).getD m (Str.ofString "") = line := by
  rw [List.getD_eq_getElem?_getD, List.getElem?_set_self h]; rfl
theorem okL_some {ts : List Str} {num : List (Nat × RT)} (h : readF ts = some num) {m : Nat} {rt : RT} (e : rowOf num (m : Int) = some rt) {line : Str} :
    okL ts (m : Int) line = (decide (shL line = rt.shapeT) && (readF (ts.set m line)).isSome) := by
  obtain ⟨m', hm, hl⟩ := rowOf_neg h e
  obtain rfl : m = m' := by omega
  have f := fit_some ((readF_fit h).1 m hl) e
  unfold okL
  rw [Int.toNat_natCast, f, decide_eq_true (by omega : (0 : Int) ≤ (m : Int)), decide_eq_true (by omega : (m : Int) < (ts.length : Int)), decide_eq_true (shapeT_row rt)]
  rfl
/-- the new line's row, where the lines are a program -/
theorem put_row {ts : List Str} {m : Nat} {line : Str} {num' : List (Nat × RT)} (hl : m < ts.length) (h : readF (ts.set m line) = some num') : (∃ rt', rowOf num' (m : Int) = some rt' ∧ shL line = rt'.shapeT) ∨ (rowOf num' (m : Int) = none ∧ shL line = Str.ofString "none") := by
  have f := (readF_fit h).1 m (by rw [List.length_set]; exact hl)
  cases q : rowOf num' (m : Int) with
  | none => exact .inr ⟨rfl, by have := fit_none f q; rw [getD_set_self hl] at this; exact this⟩
  | some rt' => exact .inl ⟨rt', rfl, by have := fit_some f q; rw [getD_set_self hl] at this; exact this⟩

def SH4 : List Str := ["if", "while", "call", "give"]
def SH6 : List Str := ["skip", "set", "put", "ask", "draw", "tell"]
theorem ProgO.same {K : PySem.W.Frag} {c : RC} {ec : EC} {PC : Addr} {H H' : Hp} (k : Same H H') {ts : List Str} {num : List (Nat × RT)} {v : V} (h : ProgO K c ec PC H ts num v) : ProgO K c ec PC H' ts num v := by
  obtain ⟨p, dx, a, d, m, f, kvs, h1, h2, h3, h4, h5⟩ := h
  exact ⟨p, dx, a, d, m, f, kvs, h1, k _ _ h2, k.seq h3, k _ _ h4, h5.mono fun a b z => ⟨z.1, z.2.same k⟩⟩
theorem RowO.atS {c : RC} {ec : EC} {N : Addr → Prop} {H : Hp} {n : Int} : ∀ {rt : RT} {v : V}, RowO c ec N H n rt v → ∃ p dx fs, v = .ref p ∧ H p = some (.ins (c.of rt) dx fs) ∧ List.lookup ("shape" : Str) fs = none
  | .skip, v, ⟨p, dx, h1, h2⟩ => ⟨p, dx, _, h1, h2, rfl⟩
  | .set _ _, v, ⟨p, dx, _, h1, h2, _⟩ => ⟨p, dx, _, h1, h2, rfl⟩
  | .put _ _, v, ⟨p, dx, _, _, h1, h2, _⟩ => ⟨p, dx, _, h1, h2, rfl⟩
  | .ask _ _ _, v, ⟨p, dx, _, h1, h2, _⟩ => ⟨p, dx, _, h1, h2, rfl⟩
  | .draw _ _, v, ⟨p, dx, h1, h2⟩ => ⟨p, dx, _, h1, h2, rfl⟩
  | .tell _, v, ⟨p, dx, _, h1, h2, _⟩ => ⟨p, dx, _, h1, h2, rfl⟩
  | .ifr _, v, ⟨p, dx, _, _, _, h1, h2, _⟩ => ⟨p, dx, _, h1, h2, rfl⟩
  | .loop _, v, ⟨p, dx, _, _, h1, h2, _⟩ => ⟨p, dx, _, h1, h2, rfl⟩
  | .call _ _ _, v, ⟨p, dx, _, _, h1, h2, _⟩ => ⟨p, dx, _, h1, h2, rfl⟩
  | .give _, v, ⟨p, dx, _, h1, h2, _⟩ => ⟨p, dx, _, h1, h2, rfl⟩
/-- the row of a number, in the dict -/
theorem num_at {c : RC} {ec : EC} {N : Addr → Prop} {H : Hp} {num : List (Nat × RT)} {kvs : List (Key × V)} (h : All2 (NumO c ec N H) num kvs) {n : Int} {rt : RT} (e : rowOf num n = some rt) : ∃ v, valV kvs (.inl n) = some v ∧ RowO c ec N H n rt v := by
  have hp2 : ∀ (x : Nat × RT) (kv : Key × V), NumO c ec N H x kv → decide ((x.1 : Int) = n) = decide (kv.1 = (.inl n : Key)) := fun x kv h => by
    rw [h.1]
    by_cases q : (x.1 : Int) = n
    · rw [decide_eq_true q, decide_eq_true (congrArg Sum.inl q : (.inl (x.1 : Int) : Key) = .inl n)]
    · rw [decide_eq_false q, decide_eq_false (fun e : (.inl (x.1 : Int) : Key) = .inl n => q (Sum.inl.inj e))]
  rcases all2_find (p := fun x => decide ((x.1 : Int) = n)) (k := .inl n) hp2 h with ⟨e1, e2⟩ | ⟨x, v, hx, e1, e3, e2, hr⟩
  · unfold rowOf at e
    rw [e1] at e; cases e
  · unfold rowOf at e
    rw [e1] at e
    have e : x.2 = rt := Option.some.inj e
    subst e
    have hn : (x.1 : Int) = n := of_decide_eq_true e3
    subst hn
    exact ⟨v, e2, hr.2⟩

theorem num_none {c : RC} {ec : EC} {N : Addr → Prop} {H : Hp} {num : List (Nat × RT)} {kvs : List (Key × V)} (h : All2 (NumO c ec N H) num kvs) {n : Int} (e : rowOf num n = none) : valV kvs (.inl n) = none := by
  have hp2 : ∀ (x : Nat × RT) (kv : Key × V), NumO c ec N H x kv → decide ((x.1 : Int) = n) = decide (kv.1 = (.inl n : Key)) := fun x kv h => by
    rw [h.1]
    by_cases q : (x.1 : Int) = n
    · rw [decide_eq_true q, decide_eq_true (congrArg Sum.inl q : (.inl (x.1 : Int) : Key) = .inl n)]
    · rw [decide_eq_false q, decide_eq_false (fun e : (.inl (x.1 : Int) : Key) = .inl n => q (Sum.inl.inj e))]
  rcases all2_find (p := fun x => decide ((x.1 : Int) = n)) (k := .inl n) hp2 h with ⟨e1, e2⟩ | ⟨x, v, hx, e1, e3, e2, hr⟩
  · exact e2
  · unfold rowOf at e
    rw [e1] at e; cases e
/-- what a line to be put may be -/
def BadX (K : PySem.W.Frag) (H : Hp) (x : V) : Prop := (∃ s, x = .str s ∧ 10 ∈ tl s) ∨ (∃ t, TyX K H x t ∧ PySem.W.kitOne K t (.type "str") = some false)
section
variable (K : PySem.W.Frag) (c : RC) (ec : EC) (PC NC : Addr)
def spWith15 : Sp := fun vs H Q E => ∃ (v x : V) (n : Int) (ts : List Str) (num : List (Nat × RT)), vs = [v, .int n, x] ∧ ProgO K c ec PC H ts num v ∧ readF ts = some num ∧ ts ≠ [] ∧ ts.length ≤ 60 ∧ (∀ t ∈ ts, LnG 40 t) ∧
  ((∃ line, x = .str line ∧ LnG 40 line ∧ (okL ts n line = true → ∀ v' num' H', Same H H' → ProgO K c ec PC H' (ts.set n.toNat line) num' v' → readF (ts.set n.toNat line) = some num' → Q v' H') ∧ (okL ts n line = false → ∀ H', Same H H' → E (.ref NC) none H')) ∨
   (BadX K H x ∧ ∀ H', Same H H' → E (.ref NC) none H'))
end

def spSomeLine : Sp := fun vs H Q _ => ∃ (p a : Addr) (ls : List Str), vs = [.ref p, .ref a] ∧ WellAt H p ∧ H a = some (.lst (ls.map V.str)) ∧ a ≠ p ∧ ls ≠ [] ∧ ls.length ≤ 90 ∧ (∀ t ∈ ls, LnG 0 t) ∧ ∀ (s : Str) H', LnG 1 s → KeepX p H H' → WellAt H' p → Q (.str s) H'
def spLShape : Sp := fun vs H Q _ => ∃ (t : Str) (k : Nat), vs = [.str t] ∧ LnG k t ∧ k ≤ 40 ∧ ∀ H', Same H H' → Q (.str (shL t)) H'
def ansL (ts : List Str) (n : Int) (line : Str) : Str := if okL ts n line = true then Txt.join (Str.ofString "\n") (ts.set n.toNat line) else Str.ofString "refused"
def spDue15 : Sp := fun vs H Q _ => ∃ (a : Addr) (n : Int) (ls : List Str) (line : Str), vs = [.ref a, .int n, .str line] ∧ H a = some (.lst (ls.map V.str)) ∧ ls ≠ [] ∧ ls.length ≤ 60 ∧ (∀ t ∈ ls, LnG 40 t) ∧ LnG 40 line ∧ ∀ H', Same H H' → Q (.str (ansL ls n line)) H'
section
variable (K : PySem.W.Frag) (c : RC) (ec : EC) (PC : Addr)
def spFound15 : Sp := fun vs H Q _ => ∃ (v x : V) (n : Int) (ts : List Str) (num : List (Nat × RT)), vs = [v, .int n, x] ∧ ProgO K c ec PC H ts num v ∧ readF ts = some num ∧ ts ≠ [] ∧ ts.length ≤ 60 ∧ (∀ t ∈ ts, LnG 40 t) ∧
  ((∃ line, x = .str line ∧ LnG 40 line ∧ ∀ H', Same H H' → Q (.str (ansL ts n line)) H') ∨ (BadX K H x ∧ ∀ H', Same H H' → Q (.str (Str.ofString "refused")) H'))
end

/-! ### one line put otherwise -/
def ArOk (hs : List (Str × Nat)) : RT → Prop
  | .call _ f es => (f, es.length) ∈ hs
  | _ => True
theorem shape_simple {rt : RT} (h : rt.shapeT = Str.ofString "simple") : rt.simple = true := by
  cases rt with
  | call _ _ _ => exact absurd h (by show Str.ofString "call" ≠ Str.ofString "simple"; decide +kernel)
  | ifr _ => exact absurd h (by show Str.ofString "if" ≠ Str.ofString "simple"; decide +kernel)
  | loop _ => exact absurd h (by show Str.ofString "while" ≠ Str.ofString "simple"; decide +kernel)
  | give _ => exact absurd h (by show Str.ofString "give" ≠ Str.ofString "simple"; decide +kernel)
  | _ => rfl
theorem simple_shape {rt : RT} (h : rt.simple = true) : rt.shapeT = Str.ofString "simple" := by
  cases rt with
  | call _ _ _ => cases h
  | ifr _ => cases h
  | loop _ => cases h
  | give _ => cases h
  | _ => rfl
theorem shape_if {rt : RT} (h : rt.shapeT = Str.ofString "if") : ∃ e, rt = .ifr e := by
  cases rt with
  | ifr e => exact ⟨e, rfl⟩
  | call _ _ _ => exact absurd h (by show Str.ofString "call" ≠ Str.ofString "if"; decide +kernel)
  | loop _ => exact absurd h (by show Str.ofString "while" ≠ Str.ofString "if"; decide +kernel)
  | give _ => exact absurd h (by show Str.ofString "give" ≠ Str.ofString "if"; decide +kernel)
  | _ => exact absurd h (by show Str.ofString "simple" ≠ Str.ofString "if"; decide +kernel)
theorem shape_loop {rt : RT} (h : rt.shapeT = Str.ofString "while") : ∃ e, rt = .loop e := by
  cases rt with
  | loop e => exact ⟨e, rfl⟩
  | call _ _ _ => exact absurd h (by show Str.ofString "call" ≠ Str.ofString "while"; decide +kernel)
  | ifr _ => exact absurd h (by show Str.ofString "if" ≠ Str.ofString "while"; decide +kernel)
  | give _ => exact absurd h (by show Str.ofString "give" ≠ Str.ofString "while"; decide +kernel)
  | _ => exact absurd h (by show Str.ofString "simple" ≠ Str.ofString "while"; decide +kernel)
theorem shape_call {rt : RT} (h : rt.shapeT = Str.ofString "call") : ∃ b f es, rt = .call b f es := by
  cases rt with
  | call b f es => exact ⟨b, f, es, rfl⟩
  | loop _ => exact absurd h (by show Str.ofString "while" ≠ Str.ofString "call"; decide +kernel)
  | ifr _ => exact absurd h (by show Str.ofString "if" ≠ Str.ofString "call"; decide +kernel)
  | give _ => exact absurd h (by show Str.ofString "give" ≠ Str.ofString "call"; decide +kernel)
  | _ => exact absurd h (by show Str.ofString "simple" ≠ Str.ofString "call"; decide +kernel)
theorem shape_give {rt : RT} (h : rt.shapeT = Str.ofString "give") : ∃ e, rt = .give e := by
  cases rt with
  | give e => exact ⟨e, rfl⟩
  | loop _ => exact absurd h (by show Str.ofString "while" ≠ Str.ofString "give"; decide +kernel)
  | ifr _ => exact absurd h (by show Str.ofString "if" ≠ Str.ofString "give"; decide +kernel)
  | call _ _ _ => exact absurd h (by show Str.ofString "call" ≠ Str.ofString "give"; decide +kernel)
  | _ => exact absurd h (by show Str.ofString "simple" ≠ Str.ofString "give"; decide +kernel)
theorem set_app {α : Type} {A B : List α} {i : Nat} {x : α} : (A ++ B).set i x = if i < A.length then A.set i x ++ B else A ++ B.set (i - A.length) x := by
  rw [List.set_append]
theorem get_app {α : Type} {A B : List α} {i : Nat} : (A ++ B)[i]? = if i < A.length then A[i]? else B[i - A.length]? := by
  rw [List.getElem?_append]
theorem one_none {j : Nat} {rt : RT} (h : ([none] : List (Option RT))[j]? = some (some rt)) : False := by
  cases j with
  | zero => cases h
  | succ j => simp at h
theorem Body.put {hs : List (Str × Nat)} {rt rt' : RT} (ok : rt'.Ok) (sh : rt'.shapeT = rt.shapeT) (ar : ArOk hs rt') : ∀ {d : Nat} {L : List Str} {R : List (Option RT)}, Body hs d L R → ∀ {i : Nat}, R[i]? = some (some rt) → L[i]? = some rt.text ∧ Body hs d (L.set i rt'.text) (R.set i (some rt')) := by
  intro d L R h
  induction h with
  | nil => intro i e; simp at e
  | @app d L1 L2 R1 R2 b1 b2 h1 h2 =>
    intro i e
    have l1 := b1.len
    rw [get_app] at e
    rw [get_app, set_app, set_app, l1]
    split at e
    · rename_i c
      rw [if_pos c, if_pos c, if_pos c]
      exact ⟨(h1 e).1, .app (h1 e).2 b2⟩
    · rename_i c
      rw [if_neg c, if_neg c, if_neg c]
      exact ⟨(h2 e).1, .app b1 (h2 e).2⟩
  | @row d r hok hsm =>
    intro i e
    cases i with
    | succ i => simp at e
    | zero =>
      have e : r = rt := Option.some.inj (Option.some.inj e)
      subst e
      rw [simple_shape hsm] at sh
      exact ⟨rfl, .row ok (shape_simple sh)⟩
  | @call d b f es hok hm =>
    intro i e
    cases i with
    | succ i => simp at e
    | zero =>
      have e : RT.call b f es = rt := Option.some.inj (Option.some.inj e)
      subst e
      obtain ⟨b', f', es', rfl⟩ := shape_call sh
      exact ⟨rfl, .call ok ar⟩
  | @loop d ex L R he b h =>
    intro i e
    cases i with
    | zero =>
      have e : RT.loop ex = rt := Option.some.inj (Option.some.inj e)
      subst e
      obtain ⟨e', rfl⟩ := shape_loop sh
      exact ⟨rfl, .loop ok b⟩
    | succ i =>
      have e : (R ++ [none])[i]? = some (some rt) := e
      have l := b.len
      rw [get_app] at e
      split at e
      · rename_i c
        have q := h e
        have c' : i < L.length := by omega
        refine ⟨?_, ?_⟩
        · show (L ++ [Str.ofString "end"])[i]? = _
          rw [get_app, if_pos c']; exact q.1
        · show Body hs (d + 1) ((RT.loop ex).text :: (L ++ [Str.ofString "end"]).set i rt'.text) (some (.loop ex) :: (R ++ [none]).set i (some rt'))
          rw [set_app, set_app, if_pos c, if_pos c']
          exact .loop he q.2
      · exact (one_none e).elim
  | @ifr d ex L1 L2 R1 R2 he b1 b2 h1 h2 =>
    intro i e
    cases i with
    | zero =>
      have e : RT.ifr ex = rt := Option.some.inj (Option.some.inj e)
      subst e
      obtain ⟨e', rfl⟩ := shape_if sh
      exact ⟨rfl, .ifr ok b1 b2⟩
    | succ i =>
      have e : (R1 ++ (none :: (R2 ++ [none])))[i]? = some (some rt) := e
      have l1 := b1.len
      have l2 := b2.len
      rw [get_app] at e
      show (L1 ++ (Str.ofString "else" :: (L2 ++ [Str.ofString "end"])))[i]? = _ ∧ Body hs (d + 1) ((RT.ifr ex).text :: (L1 ++ (Str.ofString "else" :: (L2 ++ [Str.ofString "end"]))).set i rt'.text) (some (.ifr ex) :: (R1 ++ (none :: (R2 ++ [none]))).set i (some rt'))
      rw [get_app, set_app, set_app, l1]
      split at e
      · rename_i c
        rw [if_pos c, if_pos c, if_pos c]
        exact ⟨(h1 e).1, .ifr he (h1 e).2 b2⟩
      · rename_i c
        rw [if_neg c, if_neg c, if_neg c]
        cases hj : i - R1.length with
        | zero => rw [hj] at e; cases e
        | succ j =>
          rw [hj] at e
          have e : (R2 ++ [none])[j]? = some (some rt) := e
          rw [get_app] at e
          split at e
          · rename_i c2
            have q := h2 e
            have c2' : j < L2.length := by omega
            refine ⟨?_, ?_⟩
            · show (L2 ++ [Str.ofString "end"])[j]? = _
              rw [get_app, if_pos c2']; exact q.1
            · show Body hs (d + 1) ((RT.ifr ex).text :: (L1 ++ (Str.ofString "else" :: (L2 ++ [Str.ofString "end"]).set j rt'.text))) (some (.ifr ex) :: (R1 ++ (none :: (R2 ++ [none]).set j (some rt'))))
              rw [set_app, set_app, if_pos c2, if_pos c2']
              exact .ifr he b1 q.2
          · exact (one_none e).elim
theorem FnB.put {hs : List (Str × Nat)} {rt rt' : RT} (ok : rt'.Ok) (sh : rt'.shapeT = rt.shapeT) (ar : ArOk hs rt') {b : FnB} (hb : b.Ok hs) {i : Nat} (e : b.rows[i]? = some (some rt)) : b.lines[i]? = some rt.text ∧ ∃ b' : FnB, b'.Ok hs ∧ b'.ar = b.ar ∧ b'.lines = b.lines.set i rt'.text ∧ b'.rows = b.rows.set i (some rt') := by
  obtain ⟨nm, ps, L, R, ex⟩ := b
  have l := hb.body.len
  have l : L.length = R.length := l
  cases i with
  | zero => cases e
  | succ i =>
    have e : (R ++ [some (RT.give ex)])[i]? = some (some rt) := e
    show (L ++ [(RT.give ex).text])[i]? = _ ∧ ∃ b' : FnB, b'.Ok hs ∧ b'.ar = _ ∧ b'.lines = headText nm ps :: (L ++ [(RT.give ex).text]).set i rt'.text ∧ b'.rows = none :: (R ++ [some (RT.give ex)]).set i (some rt')
    rw [get_app] at e
    rw [get_app, set_app, set_app, l]
    split at e
    · rename_i c
      rw [if_pos c, if_pos c, if_pos c]
      have q := hb.body.put ok sh ar e
      exact ⟨q.1, ⟨nm, ps, L.set i rt'.text, R.set i (some rt'), ex⟩, ⟨hb.head, hb.ex, q.2⟩, rfl, rfl, rfl⟩
    · rename_i c
      rw [if_neg c, if_neg c, if_neg c]
      cases hj : i - R.length with
      | succ j => rw [hj] at e; simp at e
      | zero =>
        rw [hj] at e
        have e : RT.give ex = rt := Option.some.inj (Option.some.inj e)
        subst e
        obtain ⟨e', rfl⟩ := shape_give sh
        exact ⟨rfl, ⟨nm, ps, L, R, e'⟩, ⟨hb.head, ok, hb.body⟩, rfl, rfl, rfl⟩
theorem fns_put {hs : List (Str × Nat)} {rt rt' : RT} (ok : rt'.Ok) (sh : rt'.shapeT = rt.shapeT) (ar : ArOk hs rt') : ∀ {bs : List FnB} {i : Nat}, (∀ b ∈ bs, b.Ok hs) → (bs.flatMap FnB.rows)[i]? = some (some rt) → (bs.flatMap FnB.lines)[i]? = some rt.text ∧ ∃ bs' : List FnB, (∀ b ∈ bs', b.Ok hs) ∧ bs'.map FnB.ar = bs.map FnB.ar ∧ bs'.flatMap FnB.lines = (bs.flatMap FnB.lines).set i rt'.text ∧ bs'.flatMap FnB.rows = (bs.flatMap FnB.rows).set i (some rt')
  | [], _, _, e => by simp at e
  | b :: r, i, hb, e => by
    have l := (hb b List.mem_cons_self).len
    have hr := fun x hx => hb x (List.mem_cons_of_mem b hx)
    rw [List.flatMap_cons, get_app] at e
    rw [List.flatMap_cons, List.flatMap_cons, get_app, set_app, set_app, l]
    split at e
    · rename_i c
      rw [if_pos c, if_pos c, if_pos c]
      obtain ⟨q, b', b1, b2, b3, b4⟩ := FnB.put ok sh ar (hb b List.mem_cons_self) e
      refine ⟨q, b' :: r, fun x hx => ?_, by rw [List.map_cons, List.map_cons, b2], by rw [List.flatMap_cons, b3], by rw [List.flatMap_cons, b4]⟩
      rcases List.mem_cons.mp hx with rfl | hx
      · exact b1
      · exact hr x hx
    · rename_i c
      rw [if_neg c, if_neg c, if_neg c]
      obtain ⟨q, bs', b1, b2, b3, b4⟩ := fns_put ok sh ar hr e
      refine ⟨q, b :: bs', fun x hx => ?_, by rw [List.map_cons, List.map_cons, b2], by rw [List.flatMap_cons, b3], by rw [List.flatMap_cons, b4]⟩
      rcases List.mem_cons.mp hx with rfl | hx
      · exact hb _ List.mem_cons_self
      · exact b1 x hx
theorem ProgH.same_len {hs : List (Str × Nat)} {ts : List Str} {R : List (Option RT)} (h : ProgH hs ts R) : ts.length = R.length := by
  obtain ⟨bs, L, M, h1, h2, h3, h4, h5, h6, h7⟩ := h.ex
  rw [h6, h7, List.length_append, List.length_append, List.length_cons, List.length_cons, flat_same bs h1, h5.len]
theorem ProgH.put {hs : List (Str × Nat)} {ts : List Str} {R : List (Option RT)} (h : ProgH hs ts R) {rt rt' : RT} {i : Nat} (e : R[i]? = some (some rt)) (ok : rt'.Ok) (sh : rt'.shapeT = rt.shapeT) (ar : ArOk hs rt') : ts[i]? = some rt.text ∧ ProgH hs (ts.set i rt'.text) (R.set i (some rt')) := by
  obtain ⟨bs, L, M, h1, h2, h3, h4, h5, h6, h7⟩ := h.ex
  have l1 := flat_same bs h1
  have hl := h.len
  rw [h7, get_app] at e
  have key : ts[i]? = some rt.text ∧ ∃ (bs : List FnB) (L : List Str) (M : List (Option RT)), (∀ b ∈ bs, b.Ok hs) ∧ bs.map FnB.ar = hs ∧ bs.length ≤ 4 ∧ (hs.map Prod.fst).Nodup ∧ Body hs 5 L M ∧ ts.set i rt'.text = bs.flatMap FnB.lines ++ Str.ofString "main" :: L ∧ R.set i (some rt') = bs.flatMap FnB.rows ++ none :: M := by
    rw [h6, h7, get_app, set_app, set_app, l1]
    split at e
    · rename_i c
      rw [if_pos c, if_pos c, if_pos c]
      obtain ⟨q, bs', b1, b2, b3, b4⟩ := fns_put ok sh ar h1 e
      refine ⟨q, bs', L, M, b1, b2.trans h2, ?_, h4, h5, by rw [b3], by rw [b4]⟩
      have := congrArg List.length b2
      rw [List.length_map, List.length_map] at this
      omega
    · rename_i c
      rw [if_neg c, if_neg c, if_neg c]
      cases hj : i - (bs.flatMap FnB.rows).length with
      | zero => rw [hj] at e; cases e
      | succ j =>
        rw [hj] at e
        have e : M[j]? = some (some rt) := e
        have q := h5.put ok sh ar e
        exact ⟨q.1, bs, L.set j rt'.text, M.set j (some rt'), h1, h2, h3, h4, q.2, rfl, rfl⟩
  exact ⟨key.1, key.2, by rw [List.length_set]; exact hl⟩
theorem simple_ar {hs : List (Str × Nat)} {rt : RT} (h : rt.simple = true) : ArOk hs rt := by
  cases rt with
  | call _ _ _ => cases h
  | _ => trivial
theorem Body.ar {hs : List (Str × Nat)} : ∀ {d : Nat} {L : List Str} {R : List (Option RT)}, Body hs d L R → ∀ rt, some rt ∈ R → ArOk hs rt := by
  intro d L R h
  induction h with
  | nil => intro t ht; cases ht
  | app _ _ h1 h2 =>
    intro t ht
    rcases List.mem_append.mp ht with h | h
    · exact h1 t h
    · exact h2 t h
  | row _ h => intro t ht; rw [Option.some.inj (List.mem_singleton.mp ht)]; exact simple_ar h
  | call _ h => intro t ht; rw [Option.some.inj (List.mem_singleton.mp ht)]; exact h
  | loop he _ h =>
    intro t ht
    rcases List.mem_cons.mp ht with e | ht
    · rw [Option.some.inj e]; trivial
    rcases List.mem_append.mp ht with ht | ht
    · exact h t ht
    · cases List.mem_singleton.mp ht
  | ifr he _ _ h1 h2 =>
    intro t ht
    rcases List.mem_cons.mp ht with e | ht
    · rw [Option.some.inj e]; trivial
    rcases List.mem_append.mp ht with ht | ht
    · exact h1 t ht
    rcases List.mem_cons.mp ht with e | ht
    · cases e
    rcases List.mem_append.mp ht with ht | ht
    · exact h2 t ht
    · cases List.mem_singleton.mp ht
theorem getD_of {R : List (Option RT)} {i : Nat} {rt : RT} (e : R[i]? = some (some rt)) : R.getD i none = some rt := by rw [List.getD_eq_getElem?_getD, e]; rfl
theorem of_getD {R : List (Option RT)} {i : Nat} {rt : RT} (e : R.getD i none = some rt) : R[i]? = some (some rt) := by
  rw [List.getD_eq_getElem?_getD] at e
  cases c : R[i]? with
  | none => rw [c] at e; cases e
  | some y => rw [c] at e; rw [← (show y = some rt from e)]

/-! ### which calls the reader has met -/
def CallsIn (ts : List Str) (num : List (Nat × RT)) (cs : List (Str × Nat)) : Prop := ∀ (n : Nat) (b f : Str) (es : List Ex), rowOf num (n : Int) = some (.call b f es) → (f, es.length) ∈ cs ∧ callF (wordsAt ts n) = some (b, f, es)
def notCall : RT → Prop
  | .call _ _ _ => False
  | _ => True
theorem CallsIn.put {ts : List Str} {num : List (Nat × RT)} {cs : List (Str × Nat)} (h : CallsIn ts num cs) {p : Nat} {rt : RT} (hr : ∀ b f es, rt = .call b f es → (f, es.length) ∈ cs ∧ callF (wordsAt ts p) = some (b, f, es)) : CallsIn ts (putN num p rt) cs := fun n b f es e => by
  rw [rowOf_put] at e
  by_cases c : n = p
  · rw [if_pos c] at e
    rw [c]
    exact hr b f es (Option.some.inj e)
  · rw [if_neg c] at e
    exact h n b f es e
theorem CallsIn.more {ts : List Str} {num : List (Nat × RT)} {cs : List (Str × Nat)} (h : CallsIn ts num cs) (x : Str × Nat) : CallsIn ts num (cs ++ [x]) := fun n b f es e => ⟨List.mem_append_left _ (h n b f es e).1, (h n b f es e).2⟩
theorem passF_ci {ts : List Str} {t : Str} {st st' : RS} (h : passF ts t st = some st') (ci : CallsIn ts st.num st.calls) : CallsIn ts st'.num st'.calls := by
  obtain ⟨_, _, e1, e2⟩ := passF_at h
  rw [e1, e2]; exact ci
theorem rowsF_ci {ts : List Str} {blk : RS → Option RS} (hb : ∀ st st', blk st = some st' → CallsIn ts st.num st.calls → CallsIn ts st'.num st'.calls) {ok : Bool} {ws : List Str} {st st' : RS} {rt : RT} (h : rowsF ts blk ok ws st = some (rt, st')) (ci : CallsIn ts st.num st.calls) : CallsIn ts st'.num st'.calls ∧ notCall rt := by
  unfold rowsF at h
  cases ok with
  | false => cases h
  | true =>
    rw [if_pos rfl] at h
    cases q1 : only1 (exL (ws.drop 1)) with
    | none => rw [q1] at h; cases h
    | some e =>
      rw [q1] at h
      simp only at h
      cases q2 : blk st with
      | none => rw [q2] at h; cases h
      | some st2 =>
        rw [q2] at h
        simp only at h
        have b1 := hb st st2 q2 ci
        by_cases c : hd0 ws = "while"
        · rw [if_pos c] at h
          cases q3 : passF ts "end" st2 with
          | none => rw [q3] at h; cases h
          | some st3 =>
            rw [q3] at h
            cases h
            exact ⟨passF_ci q3 b1, trivial⟩
        · rw [if_neg c] at h
          cases q3 : passF ts "else" st2 with
          | none => rw [q3] at h; cases h
          | some st3 =>
            rw [q3] at h
            simp only at h
            cases q4 : blk st3 with
            | none => rw [q4] at h; cases h
            | some st4 =>
              rw [q4] at h
              simp only at h
              have b4 := hb st3 st4 q4 (passF_ci q3 b1)
              cases q5 : passF ts "end" st4 with
              | none => rw [q5] at h; cases h
              | some st5 =>
                rw [q5] at h
                cases h
                exact ⟨passF_ci q5 b4, trivial⟩
theorem simple_not {rt : RT} (h : rt.shapeT = Str.ofString "simple") : notCall rt := by
  cases rt with
  | call _ _ _ => exact absurd h (by show Str.ofString "call" ≠ Str.ofString "simple"; decide +kernel)
  | _ => trivial
theorem oneF_ci {ts : List Str} {rows : List Str → RS → Option (RT × RS)} (hr : ∀ ws st rt st', rows ws st = some (rt, st') → CallsIn ts st.num st.calls → CallsIn ts st'.num st'.calls ∧ notCall rt) {st st' : RS} {rt : RT} (h : oneF ts rows st = some (rt, st')) (ci : CallsIn ts st.num st.calls) :
    CallsIn ts st'.num st'.calls ∧ ∀ b f es, rt = .call b f es → (f, es.length) ∈ st'.calls ∧ callF (wordsAt ts st.at_) = some (b, f, es) := by
  unfold oneF at h
  have no : ∀ {r : RT}, notCall r → ∀ b f es, r = .call b f es → (f, es.length) ∈ st'.calls ∧ callF (wordsAt ts st.at_) = some (b, f, es) := fun {r} n b f es e => by rw [e] at n; exact n.elim
  by_cases c1 : hd0 (wordsAt ts st.at_) = "if" ∨ hd0 (wordsAt ts st.at_) = "while"
  · rw [if_pos c1] at h
    obtain ⟨r1, r2⟩ := hr _ _ _ _ h ci
    exact ⟨r1, no r2⟩
  rw [if_neg c1] at h
  by_cases c2 : hd0 (wordsAt ts st.at_) = "call"
  · rw [if_pos c2] at h
    cases q : callF (wordsAt ts st.at_) with
    | none => rw [q] at h; cases h
    | some r =>
      obtain ⟨b, f, es⟩ := r
      rw [q] at h
      cases h
      refine ⟨ci.more _, fun b' f' es' e => ?_⟩
      cases e
      exact ⟨List.mem_append_right _ List.mem_cons_self, rfl⟩
  · rw [if_neg c2] at h
    cases q : simpleF (wordsAt ts st.at_) with
    | none => rw [q] at h; cases h
    | some r =>
      rw [q] at h; cases h
      exact ⟨ci, no (simple_not (simpleF_sh q).1)⟩
theorem blkF_ci {ts : List Str} {one : RS → Option (RT × RS)} (ho : ∀ st rt st', one st = some (rt, st') → CallsIn ts st.num st.calls → CallsIn ts st'.num st'.calls ∧ ∀ b f es, rt = .call b f es → (f, es.length) ∈ st'.calls ∧ callF (wordsAt ts st.at_) = some (b, f, es)) : ∀ {m : Nat} {st st' : RS}, blkF ts one m st = some st' → CallsIn ts st.num st.calls → CallsIn ts st'.num st'.calls
  | 0, _, _, h, _ => by cases h
  | m + 1, st, st', h, ci => by
    unfold blkF at h
    cases q : headAt ts st.at_ with
    | none => rw [q] at h; cases h; exact ci
    | some w =>
      rw [q] at h
      simp only at h
      by_cases c : w ∈ ROWW
      · rw [if_pos c] at h
        cases q2 : one st with
        | none => rw [q2] at h; cases h
        | some r =>
          obtain ⟨rt, st2⟩ := r
          rw [q2] at h
          simp only at h
          obtain ⟨r1, r2⟩ := ho _ _ _ q2 ci
          exact blkF_ci ho (st := ⟨st2.at_, putN st2.num st.at_ rt, st2.calls⟩) h (r1.put r2)
      · rw [if_neg c] at h; cases h; exact ci
theorem blockF_ci {ts : List Str} : ∀ {n : Nat} {st st' : RS}, blockF ts n st = some st' → CallsIn ts st.num st.calls → CallsIn ts st'.num st'.calls
  | 0, _, _, h, _ => by cases h
  | n + 1, st, st', h, ci => blkF_ci (fun st rt st' h ci => oneF_ci (fun ws st rt st' h ci => rowsF_ci (fun st st' h ci => blockF_ci h ci) h ci) h ci) h ci
/-- what a heading stands for -/
def HeadAt (ts : List Str) (g : Str × Nat) : Prop := ∃ i : Nat, i < ts.length ∧ hd0 (wordsAt ts i) = Str.ofString "fun" ∧ g = (wd (wordsAt ts i) 1, ((wordsAt ts i).drop 2).length)
theorem functionF_ci {ts : List Str} {st st' : RS} {f : Str × Nat} (hh : headAt ts st.at_ = some "fun") (h : functionF ts st = some (f, st')) (ci : CallsIn ts st.num st.calls) : CallsIn ts st'.num st'.calls ∧ HeadAt ts f := by
  unfold functionF at h
  split at h
  rotate_left
  · cases h
  cases q : blockF ts 6 { st with at_ := st.at_ + 1 } with
  | none => rw [q] at h; cases h
  | some st2 =>
    rw [q] at h
    simp only at h
    have b := blockF_ci (st := { st with at_ := st.at_ + 1 }) q ci
    split at h
    rotate_left
    · cases h
    cases q2 : only1 (exL ((wordsAt ts st2.at_).drop 1)) with
    | none => rw [q2] at h; cases h
    | some e =>
      rw [q2] at h
      cases h
      obtain ⟨h1, h2⟩ := headAt_lt hh
      exact ⟨b.put fun b f es e => (by cases e), st.at_, h1, h2.symm, rfl⟩
theorem funsF_ci {ts : List Str} : ∀ {n : Nat} {fs fs' : List (Str × Nat)} {st st' : RS}, funsF ts n fs st = some (fs', st') → CallsIn ts st.num st.calls → (∀ g ∈ fs, HeadAt ts g) → CallsIn ts st'.num st'.calls ∧ ∀ g ∈ fs', HeadAt ts g
  | 0, _, _, _, _, h, _, _ => by cases h
  | n + 1, fs, fs', st, st', h, ci, hf => by
    unfold funsF at h
    split at h
    · rename_i hh
      cases q : functionF ts st with
      | none => rw [q] at h; cases h
      | some r =>
        obtain ⟨f, st2⟩ := r
        rw [q] at h
        simp only at h
        split at h
        · cases h
        · obtain ⟨c1, c2⟩ := functionF_ci hh q ci
          exact funsF_ci h c1 fun g hg => (List.mem_append.mp hg).elim (hf g) fun hg => by rw [List.mem_singleton.mp hg]; exact c2
    · cases h; exact ⟨ci, hf⟩
/-- a program's calls: each one's function stands there, with as many parameters -/
theorem readF_calls {ts : List Str} {num : List (Nat × RT)} (h : readF ts = some num) : ∀ (n : Nat) (b f : Str) (es : List Ex), rowOf num (n : Int) = some (.call b f es) → HeadAt ts (f, es.length) ∧ callF (wordsAt ts n) = some (b, f, es) := by
  unfold readF at h
  split at h
  rotate_left
  · cases h
  cases q1 : funsF ts (ts.length + 1) [] ⟨0, [], []⟩ with
  | none => rw [q1] at h; cases h
  | some r =>
    obtain ⟨fs, st⟩ := r
    rw [q1] at h
    simp only at h
    cases q2 : passF ts "main" st with
    | none => rw [q2] at h; cases h
    | some st1 =>
      rw [q2] at h
      simp only at h
      cases q3 : blockF ts 6 st1 with
      | none => rw [q3] at h; cases h
      | some st2 =>
        rw [q3] at h
        simp only at h
        split at h
        rotate_left
        · cases h
        rename_i hc
        cases h
        obtain ⟨c1, c2⟩ := funsF_ci q1 (fun n b f es e => by cases e) (fun g hg => by cases hg)
        have c3 := blockF_ci q3 (passF_ci q2 c1)
        intro n b f es e
        obtain ⟨m, k⟩ := c3 n b f es e
        refine ⟨?_, k⟩
        have ok := List.all_eq_true.mp hc.2 _ m
        unfold callOk at ok
        cases z : fs.find? fun g => decide (g.1 = (f, es.length).1) with
        | none => rw [z] at ok; cases ok
        | some g =>
          rw [z] at ok
          have e1 : g.1 = f := of_decide_eq_true (by have := List.find?_some z; exact this)
          have e2 : g.2 = es.length := of_decide_eq_true ok
          have e3 : g = (f, es.length) := by rw [← e1, ← e2]
          rw [← e3]
          exact c2 g (List.mem_of_find?_eq_some z)

def spSimple34 : Sp := fun vs H Q _ => ∃ (p a : Addr) (l : Int) (ns : List Str), vs = [.ref p, .ref a] ∧ TapeAt H p l ∧ NamesAt H a ns ∧ NamesOk ns ∧ ∀ (rt : RT) H', rt.Ok → rt.simple = true → KeepX p H H' → TapeAt H' p l → Q (.str rt.text) H'
def spCallRow34 : Sp := fun vs H Q _ => ∃ (p a g : Addr) (l : Int) (ns : List Str) (hs : List (Str × Nat)), vs = [.ref p, .ref a, .ref g] ∧ TapeAt H p l ∧ NamesAt H a ns ∧ NamesOk ns ∧ FunsAt H g hs ∧ FunsOk hs ∧ hs ≠ [] ∧
  ∀ (b f : Str) (es : List Ex) H', (RT.call b f es).Ok → (f, es.length) ∈ hs → KeepX p H H' → TapeAt H' p l → Q (.str (RT.call b f es).text) H'
def spRow34 (n : Nat) : Sp := fun vs H Q _ => ∃ (p a g : Addr) (l : Int) (ns : List Str) (hs : List (Str × Nat)) (d : Nat), vs = [.ref p, .int (d : Int), .ref a, .ref g] ∧ d ≤ n ∧ TapeAt H p l ∧ 0 < l ∧ l ≤ 100 ∧ NamesAt H a ns ∧ NamesOk ns ∧ FunsAt H g hs ∧ FunsOk hs ∧
  ∀ (b : Addr) (L : List Str) (R : List (Option RT)) (lf : Int) H', Body hs d L R → 0 ≤ lf → lf + (L.length : Int) = l → KeepX p H H' → TapeAt H' p lf → H' b = some (.lst (L.map V.str)) → Q (.ref b) H'
def spRows34 (n : Nat) : Sp := fun vs H Q _ => ∃ (p a g : Addr) (l : Int) (ns : List Str) (hs : List (Str × Nat)) (d : Nat) (m : Int), vs = [.ref p, .int (d : Int), .ref a, .ref g, .int m] ∧ d < n ∧ 0 ≤ m ∧ m ≤ 9 ∧ TapeAt H p l ∧ 0 ≤ l ∧ l ≤ 100 ∧ NamesAt H a ns ∧ NamesOk ns ∧ FunsAt H g hs ∧ FunsOk hs ∧
  ∀ (b : Addr) (L : List Str) (R : List (Option RT)) (lf : Int) H', Body hs d L R → 0 ≤ lf → lf + (L.length : Int) = l → KeepX p H H' → TapeAt H' p lf → H' b = some (.lst (L.map V.str)) → Q (.ref b) H'
def KitAt (H : Hp) (t a g : Addr) (ns : List Str) (hs : List (Str × Nat)) : Prop := ∃ ll, H t = some (.tup [.ref ll, .ref a, .ref g]) ∧ NamesAt H a ns ∧ NamesOk ns ∧ FunsAt H g hs ∧ FunsOk hs
def spKit : Sp := fun vs H Q _ => ∃ (c : Int), vs = [.int c] ∧ ∀ (t ll a g : Addr) (ls ns : List Str) (hs : List (Str × Nat)) (R : List (Option RT)) H', Same H H' → H' t = some (.tup [.ref ll, .ref a, .ref g]) → H' ll = some (.lst (ls.map V.str)) → NamesAt H' a ns → NamesOk ns → FunsAt H' g hs → FunsOk hs → ProgH hs ls R → Q (.ref t) H'
def RT.Ok4 : RT → Prop
  | .call b f es => isNameW b = true ∧ isNameW f = true ∧ (∀ e ∈ es, ExOk e) ∧ es.length ≤ 4
  | rt => rt.Ok
def spDrawn : Sp := fun vs H Q _ => ∃ (p t a g : Addr) (l : Int) (ns : List Str) (hs : List (Str × Nat)), vs = [.ref p, .ref t] ∧ TapeAt H p l ∧ KitAt H t a g ns hs ∧
  ∀ (rt : RT) (fits : Bool) (t2 : Addr) H', rt.Ok4 → (fits = true → rt.Ok ∧ ArOk hs rt) → (fits = false → ∃ b f es, rt = .call b f es ∧ (f, es.length) ∉ hs) → KeepX p H H' → H' t2 = some (.tup [.str rt.text, .bl fits]) → Q (.ref t2) H'
def shF (t : Str) : Str := if hd0 (Txt.split t (Str.ofString " ")) ∈ (["if", "while", "call", "give"] : List Str) then hd0 (Txt.split t (Str.ofString " ")) else if hd0 (Txt.split t (Str.ofString " ")) ∈ (["fun", "main", "else", "end"] : List Str) then Str.ofString "" else Str.ofString "simple"
def spShape34 : Sp := fun vs H Q _ => ∃ (t : Str) (k : Nat), vs = [.str t] ∧ LnG k t ∧ k ≤ 40 ∧ ∀ H', Same H H' → Q (.str (shF t)) H'
section
variable (K : PySem.W.Frag) (c : RC) (ec : EC) (PC NC SC : Addr)
def spChange34 : Sp := fun vs H Q E => ∃ (v pv : V) (t : Addr) (n : Int) (line : Str) (ts : List Str) (num : List (Nat × RT)), vs = [v, .ref t] ∧ SetO SC H v pv ∧ H t = some (.tup [.str "row", .int n, .str line]) ∧ ProgO K c ec PC H ts num pv ∧ readF ts = some num ∧ ts ≠ [] ∧ ts.length ≤ 60 ∧ (∀ t ∈ ts, LnG 40 t) ∧ LnG 40 line ∧
  (okL ts n line = true → ∀ v' pv' num' H', Same H H' → SetO SC H' v' pv' → ProgO K c ec PC H' (ts.set n.toNat line) num' pv' → readF (ts.set n.toNat line) = some num' → Q v' H') ∧ (okL ts n line = false → ∀ H', Same H H' → E (.ref NC) none H')
end

/-! ### which line may be put -/
theorem call_tok4 {b f : Str} {es : List Ex} (h : isNameW b = true ∧ isNameW f = true ∧ (∀ e ∈ es, ExOk e) ∧ es.length ≤ 4) : ∀ s ∈ (RT.call b f es).toks, TokOk s := by
  intro s hs
  rcases List.mem_cons.mp hs with rfl | hs
  · exact tok_word _ (by decide +kernel)
  rcases List.mem_cons.mp hs with rfl | hs
  · exact tok_name h.1
  rcases List.mem_cons.mp hs with rfl | hs
  · exact tok_name h.2.1
  · obtain ⟨e, he, hs⟩ := List.mem_flatMap.mp hs
    exact tok_ex (h.2.2.1 e he).1 s hs
theorem RT.tok4 {rt : RT} (h : rt.Ok4) : ∀ s ∈ rt.toks, TokOk s := by
  cases rt with
  | call b f es => exact call_tok4 h
  | _ => exact RT.tok h
theorem RT.len4 {rt : RT} (h : rt.Ok4) : rt.toks.length ≤ 100 := by
  cases rt with
  | call b f es =>
    have h : isNameW b = true ∧ isNameW f = true ∧ (∀ e ∈ es, ExOk e) ∧ es.length ≤ 4 := h
    have := flat_len h.2.2.1
    have := h.2.2.2
    show (es.flatMap Ex.toks).length + 1 + 1 + 1 ≤ 100
    omega
  | _ => exact RT.toks_len h
theorem RT.split4 {rt : RT} (h : rt.Ok4) : Txt.split rt.text (Str.ofString " ") = rt.toks := split_of rt.tl_text (RT.tok4 h) rt.toks_ne
theorem RT.lng4 {rt : RT} (h : rt.Ok4) : LnG 0 rt.text := toks_lng (RT.split4 h) (RT.tok4 h) (RT.len4 h)
theorem RT.ok4 {rt : RT} (h : rt.Ok) : rt.Ok4 := by
  cases rt with
  | call b f es => exact ⟨h.1, h.2.1, h.2.2.1, Nat.le_succ_of_le h.2.2.2⟩
  | _ => exact h
theorem callF_toks4 {b f : Str} {es : List Ex} (h : (RT.call b f es).Ok4) : callF (RT.call b f es).toks = some (b, f, es) := by
  have h : isNameW b = true ∧ isNameW f = true ∧ (∀ e ∈ es, ExOk e) ∧ es.length ≤ 4 := h
  have e2 : (((RT.call b f es).toks.drop 1).take 2) = [b, f] := rfl
  have e3 : (RT.call b f es).toks.drop 3 = es.flatMap Ex.toks := rfl
  unfold callF
  rw [e2, if_pos (namesOk2 h.1 h.2.1), e3, exL_flat h.2.2.1]; rfl
def KWB : List Str := ["skip", "set", "put", "ask", "draw", "tell", "if", "while", "call", "give", "else", "end"]
def shFw (w : Str) : Str := if w ∈ (["if", "while", "call", "give"] : List Str) then w else if w ∈ (["fun", "main", "else", "end"] : List Str) then Str.ofString "" else Str.ofString "simple"
theorem shF_eq (t : Str) : shF t = shFw (hd0 (Txt.split t (Str.ofString " "))) := rfl
theorem rt_hd (rt : RT) : hd0 rt.toks ∈ KWB ∧ shW (hd0 rt.toks) = rt.shapeT ∧ shFw (hd0 rt.toks) = rt.shapeT := by
  cases rt with
  | skip => exact (by decide +kernel : Str.ofString "skip" ∈ KWB ∧ shW (Str.ofString "skip") = Str.ofString "simple" ∧ shFw (Str.ofString "skip") = Str.ofString "simple")
  | set b e => exact (by decide +kernel : Str.ofString "set" ∈ KWB ∧ shW (Str.ofString "set") = Str.ofString "simple" ∧ shFw (Str.ofString "set") = Str.ofString "simple")
  | put a b => exact (by decide +kernel : Str.ofString "put" ∈ KWB ∧ shW (Str.ofString "put") = Str.ofString "simple" ∧ shFw (Str.ofString "put") = Str.ofString "simple")
  | ask b w e => exact (by decide +kernel : Str.ofString "ask" ∈ KWB ∧ shW (Str.ofString "ask") = Str.ofString "simple" ∧ shFw (Str.ofString "ask") = Str.ofString "simple")
  | draw b w => exact (by decide +kernel : Str.ofString "draw" ∈ KWB ∧ shW (Str.ofString "draw") = Str.ofString "simple" ∧ shFw (Str.ofString "draw") = Str.ofString "simple")
  | tell e => exact (by decide +kernel : Str.ofString "tell" ∈ KWB ∧ shW (Str.ofString "tell") = Str.ofString "simple" ∧ shFw (Str.ofString "tell") = Str.ofString "simple")
  | ifr e => exact (by decide +kernel : Str.ofString "if" ∈ KWB ∧ shW (Str.ofString "if") = Str.ofString "if" ∧ shFw (Str.ofString "if") = Str.ofString "if")
  | loop e => exact (by decide +kernel : Str.ofString "while" ∈ KWB ∧ shW (Str.ofString "while") = Str.ofString "while" ∧ shFw (Str.ofString "while") = Str.ofString "while")
  | call b f es => exact (by decide +kernel : Str.ofString "call" ∈ KWB ∧ shW (Str.ofString "call") = Str.ofString "call" ∧ shFw (Str.ofString "call") = Str.ofString "call")
  | give e => exact (by decide +kernel : Str.ofString "give" ∈ KWB ∧ shW (Str.ofString "give") = Str.ofString "give" ∧ shFw (Str.ofString "give") = Str.ofString "give")
theorem rt_sh {rt : RT} (h : rt.Ok4) : shL rt.text = rt.shapeT ∧ shF rt.text = rt.shapeT := by
  have e := RT.split4 h
  refine ⟨?_, ?_⟩
  · unfold shL; rw [e]; exact (rt_hd rt).2.1
  · rw [shF_eq, e]; exact (rt_hd rt).2.2
theorem kw_word : ∀ s ∈ (["else", "end"] : List Str), hd0 (Txt.split s (Str.ofString " ")) ∈ KWB := by decide +kernel
theorem Body.kw {hs : List (Str × Nat)} : ∀ {d : Nat} {L : List Str} {R : List (Option RT)}, Body hs d L R → ∀ t ∈ L, hd0 (Txt.split t (Str.ofString " ")) ∈ KWB := by
  intro d L R h
  have key : ∀ {rt : RT}, rt.Ok → hd0 (Txt.split rt.text (Str.ofString " ")) ∈ KWB := fun {rt} h => by rw [RT.split h]; exact (rt_hd rt).1
  induction h with
  | nil => intro t ht; cases ht
  | app _ _ h1 h2 =>
    intro t ht
    rcases List.mem_append.mp ht with h | h
    · exact h1 t h
    · exact h2 t h
  | row h _ => intro t ht; rw [List.mem_singleton.mp ht]; exact key h
  | call h _ => intro t ht; rw [List.mem_singleton.mp ht]; exact key h
  | loop he _ h =>
    intro t ht
    rcases List.mem_cons.mp ht with rfl | ht
    · exact key (rt := .loop _) he
    rcases List.mem_append.mp ht with ht | ht
    · exact h t ht
    · rw [List.mem_singleton.mp ht]; exact kw_word _ (by decide +kernel)
  | ifr he _ _ h1 h2 =>
    intro t ht
    rcases List.mem_cons.mp ht with rfl | ht
    · exact key (rt := .ifr _) he
    rcases List.mem_append.mp ht with ht | ht
    · exact h1 t ht
    rcases List.mem_cons.mp ht with rfl | ht
    · exact kw_word _ (by decide +kernel)
    rcases List.mem_append.mp ht with ht | ht
    · exact h2 t ht
    · rw [List.mem_singleton.mp ht]; exact kw_word _ (by decide +kernel)
/-- a program's lines, by their first words -/
theorem ProgH.kw {hs : List (Str × Nat)} {ts : List Str} {R : List (Option RT)} (h : ProgH hs ts R) : ∀ t ∈ ts, hd0 (Txt.split t (Str.ofString " ")) ∈ KWB ∨ hd0 (Txt.split t (Str.ofString " ")) = Str.ofString "main" ∨
    (hd0 (Txt.split t (Str.ofString " ")) = Str.ofString "fun" ∧ (wd (Txt.split t (Str.ofString " ")) 1, ((Txt.split t (Str.ofString " ")).drop 2).length) ∈ hs) := by
  obtain ⟨bs, L, M, h1, h2, h3, h4, h5, h6, h7⟩ := h.ex
  intro t ht
  rw [h6] at ht
  rcases List.mem_append.mp ht with ht | ht
  · obtain ⟨b, hb, ht⟩ := List.mem_flatMap.mp ht
    rcases List.mem_cons.mp ht with rfl | ht
    · refine .inr (.inr ?_)
      rw [head_split (h1 b hb).head]
      exact ⟨rfl, by rw [← h2]; exact List.mem_map.mpr ⟨b, hb, rfl⟩⟩
    rcases List.mem_append.mp ht with ht | ht
    · exact .inl ((h1 b hb).body.kw t ht)
    · rw [List.mem_singleton.mp ht, RT.split (rt := .give b.e) (h1 b hb).ex]
      exact .inl (rt_hd _).1
  rcases List.mem_cons.mp ht with rfl | ht
  · exact .inr (.inl (by decide +kernel))
  · exact .inl (h5.kw t ht)
theorem kw_sh : ∀ w ∈ KWB, (shW w = Str.ofString "none" → shFw w = Str.ofString "") ∧ (shW w ≠ Str.ofString "none" → shFw w = shW w) := by decide +kernel
theorem sh_empty (rt : RT) : rt.shapeT ≠ Str.ofString "" := by
  cases rt with
  | ifr _ => show Str.ofString "if" ≠ _; decide +kernel
  | loop _ => show Str.ofString "while" ≠ _; decide +kernel
  | call _ _ _ => show Str.ofString "call" ≠ _; decide +kernel
  | give _ => show Str.ofString "give" ≠ _; decide +kernel
  | _ => show Str.ofString "simple" ≠ _; decide +kernel
/-- the law's shape of a program's line, and the row that stands there -/
theorem ProgH.shF {hs : List (Str × Nat)} {ts : List Str} {R : List (Option RT)} (h : ProgH hs ts R) {num : List (Nat × RT)} (hr : readF ts = some num) {m : Nat} (hm : m < ts.length) :
    shF (ts.getD m (Str.ofString "")) = (match rowOf num (m : Int) with | some rt => rt.shapeT | none => Str.ofString "") := by
  have hmem : ts.getD m (Str.ofString "") ∈ ts := by
    rw [List.getD_eq_getElem?_getD, List.getElem?_eq_getElem hm]
    exact List.getElem_mem hm
  have fit := (readF_fit hr).1 m hm
  cases q : rowOf num (m : Int) with
  | none =>
    have e := fit_none fit q
    rcases h.kw _ hmem with k | k | ⟨k, _⟩
    · rw [shF_eq]; exact (kw_sh _ k).1 e
    · rw [shF_eq, k]; decide +kernel
    · rw [shF_eq, k]; decide +kernel
  | some rt =>
    have e := fit_some fit q
    have e' : shW (hd0 (Txt.split (ts.getD m (Str.ofString "")) (Str.ofString " "))) = rt.shapeT := e
    rcases h.kw _ hmem with k | k | ⟨k, _⟩
    · rw [shF_eq, (kw_sh _ k).2 (by rw [e']; exact shapeT_row rt), e']
    · rw [k] at e'; exact absurd e'.symm (by rw [show shW (Str.ofString "main") = Str.ofString "none" by decide +kernel]; exact shapeT_row rt)
    · rw [k] at e'; exact absurd e'.symm (by rw [show shW (Str.ofString "fun") = Str.ofString "none" by decide +kernel]; exact shapeT_row rt)
/-- a call that does not fit makes no program -/
theorem no_fit {hs : List (Str × Nat)} {ts : List Str} {R : List (Option RT)} (h : ProgH hs ts R) {m : Nat} (hm : m < ts.length) {b f : Str} {es : List Ex} (ok : (RT.call b f es).Ok4) (nf : (f, es.length) ∉ hs) : readF (ts.set m (RT.call b f es).text) = none := by
  cases q : readF (ts.set m (RT.call b f es).text) with
  | none => rfl
  | some num' =>
    exfalso
    have sp := RT.split4 ok
    have wm : wordsAt (ts.set m (RT.call b f es).text) m = (RT.call b f es).toks := by
      unfold wordsAt
      rw [getD_set_self hm]; exact sp
    rcases put_row hm q with ⟨rt', hro, hs2⟩ | ⟨_, hs2⟩
    rotate_left
    · rw [(rt_sh ok).1] at hs2
      exact shapeT_row _ hs2
    rw [(rt_sh ok).1] at hs2
    obtain ⟨b', f', es', rfl⟩ := shape_call (rt := rt') hs2.symm
    obtain ⟨⟨i, hi, hh, he⟩, hc⟩ := readF_calls q m b' f' es' hro
    rw [wm, callF_toks4 ok] at hc
    cases hc
    have im : i ≠ m := fun e => by
      rw [e, wm] at hh
      exact absurd hh (by show Str.ofString "call" ≠ Str.ofString "fun"; decide +kernel)
    have wi : wordsAt (ts.set m (RT.call b f es).text) i = wordsAt ts i := by
      unfold wordsAt
      rw [List.getD_eq_getElem?_getD, List.getElem?_set_ne (Ne.symm im), ← List.getD_eq_getElem?_getD]
    rw [List.length_set] at hi
    rw [wi] at hh he
    have hmem : ts.getD i (Str.ofString "") ∈ ts := by
      rw [List.getD_eq_getElem?_getD, List.getElem?_eq_getElem hi]
      exact List.getElem_mem hi
    have hh' : hd0 (Txt.split (ts.getD i (Str.ofString "")) (Str.ofString " ")) = Str.ofString "fun" := hh
    rcases h.kw _ hmem with k | k | ⟨_, k⟩
    · rw [hh'] at k; exact absurd k (by decide +kernel)
    · rw [hh'] at k; exact absurd k (by decide +kernel)
    · exact nf (by rw [he]; exact k)
/-- what the law holds due -/
def dueL (ts : List Str) (n : Int) (line : Str) (fits : Bool) : Bool := fits && (decide (n < (ts.length : Int)) && decide (shF (ts.getD (min n.toNat (ts.length - 1)) (Str.ofString "")) = shF line))
theorem due_ok {hs : List (Str × Nat)} {ts : List Str} {R : List (Option RT)} (h : ProgH hs ts R) {num : List (Nat × RT)} (hr : readF ts = some num) (hN : NumIs num R) {n : Int} (h0 : 0 ≤ n) {rt : RT} {fits : Bool} (o4 : rt.Ok4) (f1 : fits = true → rt.Ok ∧ ArOk hs rt) (f2 : fits = false → ∃ b f es, rt = .call b f es ∧ (f, es.length) ∉ hs) :
    okL ts n rt.text = dueL ts n rt.text fits ∧ (okL ts n rt.text = true → ∃ rt0, R[n.toNat]? = some (some rt0) ∧ ProgH hs (ts.set n.toNat rt.text) (R.set n.toNat (some rt))) := by
  obtain ⟨m, rfl⟩ : ∃ m : Nat, n = (m : Int) := ⟨n.toNat, by omega⟩
  rw [Int.toNat_natCast]
  unfold dueL
  rw [Int.toNat_natCast]
  by_cases hm : m < ts.length
  · have emin : min m (ts.length - 1) = m := by omega
    rw [emin, decide_eq_true (by omega : (m : Int) < (ts.length : Int)), h.shF hr hm, (rt_sh o4).2]
    cases q : rowOf num (m : Int) with
    | none =>
      have no := okL_no hr (n := (m : Int)) (line := rt.text) q
      simp only
      refine ⟨?_, fun e => by rw [no] at e; cases e⟩
      rw [no, decide_eq_false (fun e => sh_empty rt e.symm)]
      simp
    | some rt0 =>
      have eR : R[m]? = some (some rt0) := of_getD (by rw [← hN m]; exact q)
      rw [okL_some hr q, (rt_sh o4).1]
      simp only
      by_cases hsh : rt.shapeT = rt0.shapeT
      · rw [decide_eq_true hsh, decide_eq_true hsh.symm]
        cases fits with
        | true =>
          obtain ⟨a1, a2⟩ := f1 rfl
          obtain ⟨e1, e2⟩ := h.put eR a1 hsh a2
          obtain ⟨num2, e3, _⟩ := e2.ok.read
          refine ⟨by rw [e3]; rfl, fun _ => ⟨rt0, eR, e2⟩⟩
        | false =>
          obtain ⟨b, f, es, rfl, nf⟩ := f2 rfl
          rw [no_fit h hm o4 nf]
          exact ⟨rfl, fun e => by cases e⟩
      · rw [decide_eq_false hsh, decide_eq_false (fun e => hsh e.symm)]
        refine ⟨by simp, fun e => by cases e⟩
  · have no : okL ts (m : Int) rt.text = false := by
      unfold okL
      rw [decide_eq_false (p := (m : Int) < (ts.length : Int)) (by omega)]
      simp
    rw [no, decide_eq_false (p := (m : Int) < (ts.length : Int)) (by omega)]
    exact ⟨by simp, fun e => by cases e⟩

/-! ### texts put together -/
theorem app_len (a b : Str) : (a ++ b).length = a.length + b.length := by
  rw [len_tl, len_tl, len_tl, tl_append, List.length_append]
theorem app_assoc (a b c : Str) : (a ++ b) ++ c = a ++ (b ++ c) := by
  refine ext_tl ?_
  simp only [tl_append, List.append_assoc]
theorem jn_one (a : Str) : Txt.join (Str.ofString " ") [a] = a := by
  refine ext_tl ?_
  rw [join_eq, tl_join]; rfl
theorem jn_cons (a b : Str) (r : List Str) : Txt.join (Str.ofString " ") (a :: b :: r) = a ++ (Str.ofString " " ++ Txt.join (Str.ofString " ") (b :: r)) := by
  refine ext_tl ?_
  rw [tl_append, tl_append, join_eq, join_eq, tl_join, tl_join]; rfl
theorem ln0 : (Str.ofString "put ").length = 4 := by decide +kernel
theorem ln1 : (Str.ofString " ").length = 1 := by decide +kernel
theorem ln2 : (Str.ofString "ask ").length = 4 := by decide +kernel
theorem ln3 : (Str.ofString "draw ").length = 5 := by decide +kernel
theorem ln4 : (Str.ofString "tell ").length = 5 := by decide +kernel
theorem ln5 : (Str.ofString "set ").length = 4 := by decide +kernel
theorem ln6 : (Str.ofString "cell ").length = 5 := by decide +kernel
theorem ln7 : (Str.ofString "if ").length = 3 := by decide +kernel
theorem ln8 : (Str.ofString "while ").length = 6 := by decide +kernel
theorem ln9 : (Str.ofString "while less ").length = 11 := by decide +kernel
theorem ln10 : (Str.ofString " plus ").length = 6 := by decide +kernel
theorem ln11 : (Str.ofString " 1").length = 2 := by decide +kernel
theorem ln12 : (Str.ofString "give ").length = 5 := by decide +kernel
theorem ln13 : (Str.ofString "w").length = 1 := by decide +kernel
theorem ln14 : (Str.ofString "asks").length = 4 := by decide +kernel
theorem ln15 : (Str.ofString "skip").length = 4 := by decide +kernel
theorem ln16 : (Str.ofString "call").length = 4 := by decide +kernel
theorem ln17 : (Str.ofString "nofun").length = 5 := by decide +kernel
theorem ln18 : (Str.ofString "else").length = 4 := by decide +kernel
theorem ln19 : (Str.ofString "end").length = 3 := by decide +kernel
theorem bl_put : Str.ofString "put " = Str.ofString "put" ++ Str.ofString " " := by decide +kernel
theorem bl_ask : Str.ofString "ask " = Str.ofString "ask" ++ Str.ofString " " := by decide +kernel
theorem bl_draw : Str.ofString "draw " = Str.ofString "draw" ++ Str.ofString " " := by decide +kernel
theorem bl_tell : Str.ofString "tell " = Str.ofString "tell" ++ Str.ofString " " := by decide +kernel
theorem bl_set : Str.ofString "set " = Str.ofString "set" ++ Str.ofString " " := by decide +kernel
theorem bl_cell : Str.ofString "cell " = Str.ofString "cell" ++ Str.ofString " " := by decide +kernel
theorem bl_if : Str.ofString "if " = Str.ofString "if" ++ Str.ofString " " := by decide +kernel
theorem bl_while : Str.ofString "while " = Str.ofString "while" ++ Str.ofString " " := by decide +kernel
theorem bl_give : Str.ofString "give " = Str.ofString "give" ++ Str.ofString " " := by decide +kernel
theorem bl_wl : Str.ofString "while less " = Str.ofString "while" ++ (Str.ofString " " ++ (Str.ofString "less" ++ Str.ofString " ")) := by decide +kernel
theorem bl_pl : Str.ofString " plus " = Str.ofString " " ++ (Str.ofString "plus" ++ Str.ofString " ") := by decide +kernel
theorem bl_1 : Str.ofString " 1" = Str.ofString " " ++ numT 1 := by decide +kernel
theorem txt_cell (e : Ex) : Str.ofString "cell " ++ e.text = (Ex.cell e).text := by
  rw [← text_cell, jn_cons, jn_one, bl_cell, app_assoc]
theorem txt_two (w : Str) (l r : Ex) : (((w ++ Str.ofString " ") ++ l.text) ++ Str.ofString " ") ++ r.text = (Ex.two w l r).text := by
  show _ = Txt.join (Str.ofString " ") [w, l.text, r.text]
  rw [jn_cons, jn_cons, jn_one]
  simp only [app_assoc]
theorem txt_put (a b : Ex) : ((Str.ofString "put " ++ a.text) ++ Str.ofString " ") ++ b.text = (RT.put a b).text := by
  show _ = Txt.join (Str.ofString " ") [Str.ofString "put", a.text, b.text]
  rw [jn_cons, jn_cons, jn_one, bl_put]
  simp only [app_assoc]
theorem txt_ask (b w : Str) (e : Ex) : ((((Str.ofString "ask " ++ b) ++ Str.ofString " ") ++ w) ++ Str.ofString " ") ++ e.text = (RT.ask b w e).text := by
  show _ = Txt.join (Str.ofString " ") [Str.ofString "ask", b, w, e.text]
  rw [jn_cons, jn_cons, jn_cons, jn_one, bl_ask]
  simp only [app_assoc]
theorem txt_draw (b w : Str) : ((Str.ofString "draw " ++ b) ++ Str.ofString " ") ++ w = (RT.draw b w).text := by
  show _ = Txt.join (Str.ofString " ") [Str.ofString "draw", b, w]
  rw [jn_cons, jn_cons, jn_one, bl_draw]
  simp only [app_assoc]
theorem txt_tell (e : Ex) : Str.ofString "tell " ++ e.text = (RT.tell e).text := by
  show _ = Txt.join (Str.ofString " ") [Str.ofString "tell", e.text]
  rw [jn_cons, jn_one, bl_tell, app_assoc]
theorem txt_set (b : Str) (e : Ex) : ((Str.ofString "set " ++ b) ++ Str.ofString " ") ++ e.text = (RT.set b e).text := by
  show _ = Txt.join (Str.ofString " ") [Str.ofString "set", b, e.text]
  rw [jn_cons, jn_cons, jn_one, bl_set]
  simp only [app_assoc]
theorem txt_if (e : Ex) : Str.ofString "if " ++ e.text = (RT.ifr e).text := by
  show _ = Txt.join (Str.ofString " ") [Str.ofString "if", e.text]
  rw [jn_cons, jn_one, bl_if, app_assoc]
theorem txt_while (e : Ex) : Str.ofString "while " ++ e.text = (RT.loop e).text := by
  show _ = Txt.join (Str.ofString " ") [Str.ofString "while", e.text]
  rw [jn_cons, jn_one, bl_while, app_assoc]
theorem txt_give (e : Ex) : Str.ofString "give " ++ e.text = (RT.give e).text := by
  show _ = Txt.join (Str.ofString " ") [Str.ofString "give", e.text]
  rw [jn_cons, jn_one, bl_give, app_assoc]
theorem txt_loop (b : Str) (k : Int) : ((Str.ofString "while less " ++ b) ++ Str.ofString " ") ++ numT k = (RT.loop (.two "less" (.box b) (.num k))).text := by
  rw [← txt_while, ← txt_two, bl_wl, bl_while]
  show _ = _ ++ ((((Str.ofString "less" ++ Str.ofString " ") ++ b) ++ Str.ofString " ") ++ numT k)
  simp only [app_assoc]
theorem txt_inc (b : Str) : (((Str.ofString "set " ++ b) ++ Str.ofString " plus ") ++ b) ++ Str.ofString " 1" = (RT.set b (.two "plus" (.box b) (.num 1))).text := by
  rw [← txt_set, ← txt_two, bl_pl, bl_1]
  show _ = _ ++ ((((Str.ofString "plus" ++ Str.ofString " ") ++ b) ++ Str.ofString " ") ++ numT 1)
  simp only [app_assoc]
/-- [e for k in ..], each e taken off the tape p: what each gives is P -/
theorem lc_taken {J : It} {n : Nat} {G : Hp → Prop} {Y : Nat → Hp → V → Hp → Prop} (w : Walk J n G Y) (P : V → Prop) {p : Addr} {l : Int} {j : Nat} {te : TE} {σ : St} {H1 : Hp} {D : Addr} {Qd : Hp → Prop} (W : TapeAt H1 p l) (hD : H1 D = none) (hn : n < 16777216) (hj : j < σ.length)
    (hG : ∀ H, KeepX p H1 H → TapeAt H p l → G H) (hY : ∀ i H x H', Y i H x H' → H' = H)
    (step : ∀ i x H (Z : VK), i < n → KeepX p H1 H → TapeAt H p l → Y i H x H → (∀ H' y, KeepX p H H' → TapeAt H' p l → P y → Z y H') → te ((σ.set j none).set j (some x)) H Z)
    (hd : ∀ H ys, KeepX p H1 H → TapeAt H p l → ys.length = n → (∀ y ∈ ys, P y) → H D = some (.lst ys) → Qd H) : LcGoal J D te j σ H1 Qd := by
  have npD : D ≠ p := W.fresh hD
  refine lc_it w (fun i H => ∃ ys, H D = some (.lst ys) ∧ KeepX p H1 H ∧ TapeAt H p l ∧ ys.length = i ∧ ∀ y ∈ ys, P y) ⟨[], upd_same, keepX_of (same_new hD), W.same (same_new hD), rfl, fun _ h => by cases h⟩ (fun i H _ h => by obtain ⟨_, _, a, b, _⟩ := h; exact hG H a b) ?_ fun H ⟨ys, h1, h2, h3, h4, h5⟩ => hd H ys h2 h3 h4 h5 h1
  rintro i v H H2 hi ⟨ys, h1, h2, h3, h4, h5⟩ y
  have e := hY _ _ _ _ y
  subst e
  have hw2 : wipe ((wipe σ [j]).set j (some v)) [j] = wipe σ [j] := by
    show ((σ.set j none).set j (some v)).set j none = σ.set j none
    simp
  refine ⟨hw2, ?_⟩
  refine step i v _ _ hi h2 h3 y fun H3 z k3 W3 pz => ⟨ys, k3 _ _ npD h1, ?_, ?_⟩
  · exact Nat.lt_of_lt_of_le (show ys.length < 16777216 by omega) (by decide)
  · refine ⟨ys ++ [z], upd_same, fun b o nb hb => ?_, ?_, by rw [List.length_append, h4]; rfl, fun y hy => ?_⟩
    · rw [upd_ne (ne_of_none hb hD)]
      exact k3 _ _ nb (h2 b o nb hb)
    · obtain ⟨a, b, c, w⟩ := W3
      exact ⟨a, b, c, by rw [upd_ne npD.symm]; exact w⟩
    · rcases List.mem_append.mp hy with h | h
      · exact h5 y h
      · rw [List.mem_singleton.mp h]; exact pz
/-- texts of expressions -/
theorem exprs_of_ys : ∀ {ys : List V}, (∀ y ∈ ys, ∃ e : Ex, y = .str e.text ∧ ExOk e) → ∃ es : List Ex, ys = (es.map Ex.text).map V.str ∧ ∀ e ∈ es, ExOk e
  | [], _ => ⟨[], rfl, fun _ h => by cases h⟩
  | y :: r, h => by
    obtain ⟨e, rfl, h1⟩ := h y List.mem_cons_self
    obtain ⟨es, rfl, h2⟩ := exprs_of_ys fun z hz => h z (List.mem_cons_of_mem _ hz)
    exact ⟨e :: es, rfl, fun x hx => (List.mem_cons.mp hx).elim (fun q => by rw [q]; exact h1) (h2 x)⟩
theorem call_text (b f : Str) (es : List Ex) : Txt.join (Str.ofString " ") (Str.ofString "call" :: b :: f :: es.map Ex.text) = (RT.call b f es).text := by
  unfold RT.text RT.words RT.pairs
  simp only [List.map_cons, List.map_map]
  rfl
theorem call_sum {b f : Str} {es : List Ex} (hb : b.length ≤ 6) (hf : f.length ≤ 6) (he : ∀ e ∈ es, ExOk e) (hl : es.length ≤ 4) : ((Str.ofString "call" :: b :: f :: es.map Ex.text).map (·.length)).sum + (Str.ofString "call" :: b :: f :: es.map Ex.text).length * (Str.ofString " ").length ≤ 16777216 := by
  have hs : ∀ {es : List Ex}, (∀ e ∈ es, ExOk e) → ((es.map Ex.text).map (·.length)).sum ≤ 110 * es.length := by
    intro es
    induction es with
    | nil => intro _; exact Nat.zero_le _
    | cons e r ih =>
      intro h
      have h1 := h e List.mem_cons_self
      have h2 := ih fun x hx => h x (List.mem_cons_of_mem _ hx)
      have h3 := Ex.text_len h1.1
      have h4 := h1.2.2
      simp only [List.map_cons, List.sum_cons, List.length_cons]
      omega
  have := hs he
  simp only [List.map_cons, List.sum_cons, List.length_cons, List.length_map, ln1, ln16]
  omega
theorem name_len {s : Str} (h : isNameW s = true) : s.length ≤ 6 := by
  have := (nameW_parts h).1.2
  rwa [← len_tl] at this
def IWG34 : List Str := ["if ", "while ", "give "]
def WAS : List Str := ["w", "asks"]
theorem head_sum34 {f : Str} {ps : List Str} (hf : isNameW f = true) (hp : ∀ x ∈ ps, isNameW x = true) (hl : ps.length ≤ 3) : ((Str.ofString "fun" :: f :: ps).map (·.length)).sum + (Str.ofString "fun" :: f :: ps).length * (Str.ofString " ").length ≤ 16777216 := by
  have hs : ∀ {ps : List Str}, (∀ x ∈ ps, isNameW x = true) → (ps.map (·.length)).sum ≤ 6 * ps.length := by
    intro ps
    induction ps with
    | nil => intro _; exact Nat.zero_le _
    | cons e r ih =>
      intro h
      have h1 := name_len (h e List.mem_cons_self)
      have h2 := ih fun x hx => h x (List.mem_cons_of_mem _ hx)
      simp only [List.map_cons, List.sum_cons, List.length_cons]
      omega
  have := hs hp
  have := name_len hf
  have h3 : (Str.ofString "fun").length = 3 := by decide +kernel
  simp only [List.map_cons, List.sum_cons, List.length_cons, ln1, h3]
  omega
theorem all2_pick {α : Type} {R : α → V → Prop} {as : List α} {vs : List V} (h : All2 R as vs) {z : Int} (z0 : 0 ≤ z) (z1 : z < (vs.length : Int)) : ∃ a v, a ∈ as ∧ atI vs z = some v ∧ R a v := by
  obtain ⟨k, rfl⟩ : ∃ k : Nat, z = (k : Int) := ⟨z.toNat, by omega⟩
  have hk : k < vs.length := by omega
  obtain ⟨a, ha, hr⟩ := h.at (List.getElem?_eq_getElem hk)
  exact ⟨a, vs[k], List.mem_of_getElem? ha, atI_nat (List.getElem?_eq_getElem hk), hr⟩
theorem exok34 {e : Ex} {d : Nat} (hw : e.Wf) (hd : e.depth ≤ d + 1) (hp : e.parts + 1 ≤ 2 ^ (d + 1)) (h3 : d ≤ 3) : ExOk e ∧ e.text.length ≤ 110 := by
  have h : 2 ^ (d + 1) ≤ 2 ^ 4 := Nat.pow_le_pow_right (by decide) (by omega)
  have h2 := Ex.text_len hw
  have h4 : (2 : Nat) ^ 4 = 16 := by decide
  exact ⟨⟨hw, by omega, by omega⟩, by omega⟩
theorem dec1 (p a : V) (d : Nat) : [p, V.int (((d + 1 : Nat) : Int) - 1), a] = [p, V.int (d : Int), a] := by rw [show ((d + 1 : Nat) : Int) - 1 = (d : Int) by omega]
theorem dec2 (p a g : V) (d : Nat) (m : Int) : [p, V.int (((d + 1 : Nat) : Int) - 1), a, g, .int m] = [p, V.int (d : Int), a, g, .int m] := by rw [show ((d + 1 : Nat) : Int) - 1 = (d : Int) by omega]
def hsD (hs : List (Str × Nat)) : List PyData := hs.map fun h => .tuple [.str h.1, .int (h.2 : Int)]
theorem funs_dp {K : PySem.W.Frag} {H : Hp} {g : Addr} {hs : List (Str × Nat)} (h : FunsAt H g hs) : Dp K H (.ref g) (.list (hsD hs)) := by
  obtain ⟨fvs, h1, h2⟩ := h
  refine .lst (SqL.of h1) ?_
  clear h1
  induction h2 with
  | nil => exact .nil
  | cons a _ ih =>
    obtain ⟨t, rfl, ht⟩ := a
    exact .cons (.tup (SqT.of ht) (.cons (.str _) (.cons (.int _) .nil))) ih
theorem hsD_lay : ∀ {hs : List (Str × Nat)}, (∀ h ∈ hs, isNameW h.1 = true) → PyData.canLayAll0 (hsD hs) = true
  | [], _ => rfl
  | h :: r, ok => by
    show ((PyData.strOk h.1 && (true && true)) && PyData.canLayAll0 (hsD r)) = true
    rw [hsD_lay fun x hx => ok x (List.mem_cons_of_mem _ hx), strOk_of fun c hc => ((nameW_parts (ok h List.mem_cons_self)).2.2.2.2 c hc).2]
    rfl
theorem hsD_deep (hs : List (Str × Nat)) : PyData.depthAll (hsD hs) ≤ 1 := by
  induction hs with
  | nil => exact Nat.zero_le _
  | cons h r ih =>
    show max (max 0 (max 0 0) + 1) (PyData.depthAll (hsD r)) ≤ 1
    omega
theorem hsD_shaped {hs : List (Str × Nat)} (ok : FunsOk hs) : SeqAt.shaped (.list (hsD hs)) = true := by
  have hd := hsD_deep hs
  show (PyData.canLayAll0 _ && decide (PyData.depthAll (hsD hs) + 1 ≤ 64)) = true
  rw [hsD_lay fun h hh => (ok.2.2 h hh).1, decide_eq_true (by omega)]; rfl
theorem pow2 (d : Nat) : 2 ≤ 2 ^ (d + 1) := by
  rw [Nat.pow_succ]
  have := Nat.one_le_two_pow (n := d)
  omega
theorem was_ok : ∀ w ∈ WAS, isNameW w = true ∧ w.length ≤ 6 := by decide +kernel
theorem pairw_len : ∀ w ∈ PAIRW, w.length ≤ 5 := by decide +kernel
/-- [e for x in ..]: what holds of all that is made so far -/
theorem lc_inv {J : It} {n : Nat} {G : Hp → Prop} {Y : Nat → Hp → V → Hp → Prop} (w : Walk J n G Y) (Pv : Nat → Hp → List V → Prop) {j : Nat} {te : TE} {σ : St} {H1 : Hp} {D : Addr} {Qd : Hp → Prop} (hn : n < 16777216) (hG : ∀ H, G H) (hY : ∀ i H x H', Y i H x H' → H' = H)
    (h0 : Pv 0 (upd H1 D (.lst [])) []) (hl : ∀ i H ys, Pv i H ys → ys.length ≤ i) (hp : ∀ i H ys zs, Pv i H ys → H D = some (.lst zs) → ∀ z2, Pv i (upd H D (.lst z2)) ys)
    (step : ∀ i x H ys (Z : VK), i < n → Pv i H ys → H D = some (.lst ys) → Y i H x H → (∀ H' y, H' D = some (.lst ys) → Pv (i + 1) H' (ys ++ [y]) → Z y H') → te ((σ.set j none).set j (some x)) H Z)
    (hd : ∀ H ys, Pv n H ys → H D = some (.lst ys) → Qd H) : LcGoal J D te j σ H1 Qd := by
  refine lc_it w (fun i H => ∃ ys, H D = some (.lst ys) ∧ Pv i H ys) ⟨[], upd_same, h0⟩ (fun i H _ h => hG H) ?_ fun H ⟨ys, h1, h2⟩ => hd H ys h2 h1
  rintro i v H H2 hi ⟨ys, h1, h2⟩ y
  have e := hY _ _ _ _ y
  subst e
  have hw2 : wipe ((wipe σ [j]).set j (some v)) [j] = wipe σ [j] := by
    show ((σ.set j none).set j (some v)).set j none = σ.set j none
    simp
  refine ⟨hw2, ?_⟩
  have hy := hl _ _ _ h2
  refine step i v _ ys _ hi h2 h1 y fun H3 z e3 p3 => ⟨ys, e3, ?_, ys ++ [z], upd_same, hp _ _ _ _ p3 e3 _⟩
  exact Nat.lt_of_lt_of_le (show ys.length < 16777216 by omega) (by decide)
theorem Body.up {hs : List (Str × Nat)} : ∀ {d : Nat} {L : List Str} {R : List (Option RT)}, Body hs d L R → ∀ {d' : Nat}, d ≤ d' → Body hs d' L R := by
  intro d L R h
  induction h with
  | nil => intro d' _; exact .nil
  | app _ _ h1 h2 => intro d' hd; exact .app (h1 hd) (h2 hd)
  | row a b => intro d' _; exact .row a b
  | call a b => intro d' _; exact .call a b
  | loop he _ h =>
    intro d' hd
    obtain ⟨k, rfl⟩ : ∃ k, d' = k + 1 := ⟨d' - 1, by omega⟩
    exact .loop he (h (by omega))
  | ifr he _ _ h1 h2 =>
    intro d' hd
    obtain ⟨k, rfl⟩ : ∃ k, d' = k + 1 := ⟨d' - 1, by omega⟩
    exact .ifr he (h1 (by omega)) (h2 (by omega))
def NMS1 : List Str := ["a", "b", "c", "i"]
def NMS2 : List Str := ["x", "cells", "ifs", "n"]
def NMS3 : List Str := ["sets", "q", "endx", "w"]
theorem nms_ok : NamesOk NMS1 ∧ NamesOk NMS2 ∧ NamesOk NMS3 := by decide +kernel
def CLD1 : List Str := ["f", "g", "h"]
def CLD2 : List Str := ["mains", "a", "funs"]
def CalledOk (cs : List Str) : Prop := cs.length = 3 ∧ cs.Nodup ∧ ∀ c ∈ cs, isNameW c = true ∧ c ≠ Str.ofString "nofun"
instance (cs : List Str) : Decidable (CalledOk cs) := by unfold CalledOk; infer_instance
theorem cld_ok : CalledOk CLD1 ∧ CalledOk CLD2 := by decide +kernel
theorem pick5n {y : Int} (y0 : 0 ≤ y) (y1 : y < 5) : ∃ v : Nat, atI [V.int 0, .int 1, .int 2, .int 2, .int 3] y = some (.int (v : Int)) ∧ v ≤ 3 := by
  have h : y = 0 ∨ y = 1 ∨ y = 2 ∨ y = 3 ∨ y = 4 := by omega
  rcases h with rfl | rfl | rfl | rfl | rfl
  · exact ⟨0, rfl, by decide⟩
  · exact ⟨1, rfl, by decide⟩
  · exact ⟨2, rfl, by decide⟩
  · exact ⟨2, rfl, by decide⟩
  · exact ⟨3, rfl, by decide⟩
theorem pick5 {y : Int} (y0 : 0 ≤ y) (y1 : y < 5) : ∃ v : Int, atI [V.int 0, .int 0, .int 0, .int 1, .int (-1)] y = some (.int v) ∧ -1 ≤ v ∧ v ≤ 1 := by
  have h : y = 0 ∨ y = 1 ∨ y = 2 ∨ y = 3 ∨ y = 4 := by omega
  rcases h with rfl | rfl | rfl | rfl | rfl
  · exact ⟨0, rfl, by decide, by decide⟩
  · exact ⟨0, rfl, by decide, by decide⟩
  · exact ⟨0, rfl, by decide, by decide⟩
  · exact ⟨1, rfl, by decide, by decide⟩
  · exact ⟨-1, rfl, by decide, by decide⟩
theorem pick6 {x y z : Int} (hx : 0 ≤ x ∧ x < 1000000) (hy : 0 ≤ y ∧ y < 1000000) (z0 : 0 ≤ z) (z1 : z < 6) : ∃ v : Int, atI [V.int 0, .int 1, .int 2, .int 3, .int x, .int y] z = some (.int v) ∧ 0 ≤ v ∧ v < 1000000 := by
  have h : z = 0 ∨ z = 1 ∨ z = 2 ∨ z = 3 ∨ z = 4 ∨ z = 5 := by omega
  rcases h with rfl | rfl | rfl | rfl | rfl | rfl
  · exact ⟨0, rfl, by decide, by decide⟩
  · exact ⟨1, rfl, by decide, by decide⟩
  · exact ⟨2, rfl, by decide, by decide⟩
  · exact ⟨3, rfl, by decide, by decide⟩
  · exact ⟨x, rfl, hx.1, hx.2⟩
  · exact ⟨y, rfl, hy.1, hy.2⟩

/-! ### the list of lines, changed -/
theorem objE_str {c : EC} {H : Hp} {e : Ex} {s : Str} (h : ObjE c H e (.str s)) : False := by
  cases e with
  | num n => obtain ⟨p, dx, h, _⟩ := h; cases h
  | box n => obtain ⟨p, dx, h, _⟩ := h; cases h
  | cell e => obtain ⟨p, dx, i, h, _⟩ := h; cases h
  | two w l r => obtain ⟨p, dx, a, b, h, _⟩ := h; cases h
theorem RowO.notL {c : RC} {ec : EC} {N : Addr → Prop} {H : Hp} {n : Int} {lb : Addr} {ts : List Str} (hl : H lb = some (.lst (ts.map V.str))) (ne : ts ≠ []) : ∀ {rt : RT} {v : V}, RowO c ec N H n rt v → RowO c ec (fun l => l ≠ lb) H n rt v
  | .skip, v, h => h
  | .set _ _, v, h => h
  | .put _ _, v, h => h
  | .ask _ _ _, v, h => h
  | .draw _ _, v, h => h
  | .tell _, v, h => h
  | .ifr _, v, h => h
  | .loop _, v, h => h
  | .call b g es, v, ⟨p, dx, l, os, h1, h2, h3, h4, h5⟩ => ⟨p, dx, l, os, h1, h2, fun e => by
      rw [e, hl] at h4
      cases h4
      cases ts with
      | nil => exact ne rfl
      | cons t r =>
        cases h5 with
        | cons a _ => exact objE_str a, h4, h5⟩
  | .give _, v, h => h
theorem RowO.anyN {c : RC} {ec : EC} {N : Addr → Prop} {H : Hp} {n : Int} {rt : RT} {v : V} (h : RowO c ec N H n rt v) : RowO c ec (fun _ => True) H n rt v := h.weak fun _ _ _ => trivial
theorem ProgO.put {K : PySem.W.Frag} {c : RC} {ec : EC} {PC : Addr} {H : Hp} {ts ts2 : List Str} {num : List (Nat × RT)} {v : V} {lb : Addr} (h : ProgO K c ec PC H ts2 num v) (hl : H lb = some (.lst (ts.map V.str))) (ne : ts ≠ []) : ProgO K c ec PC (upd H lb (.lst (ts2.map V.str))) ts2 num v := by
  obtain ⟨p, dx, a, d, m, f, kvs, h1, h2, h3, h4, h5⟩ := h
  refine ⟨p, dx, a, d, m, f, kvs, h1, by rw [upd_ne (ne_of h2 hl (by intro z; cases z))]; exact h2, ?_, by rw [upd_ne (ne_of h4 hl (by intro z; cases z))]; exact h4, h5.mono fun x kv z => ⟨z.1, ?_⟩⟩
  · rcases h3 with (h | ⟨o, h⟩) | h
    · by_cases e : a = lb
      · rw [e]; exact SqL.of upd_same
      · exact .inl (.inl (by rw [upd_ne e]; exact h))
    · exact .inl (.inr ⟨o, by rw [upd_ne (ne_of h hl (by intro z; cases z))]; exact h⟩)
    · exact .inr h
  · exact ((z.2.notL hl ne).keepI (cs := fun _ => True) ⟨fun q C dx fs _ e => by rw [upd_ne (ne_of e hl (by intro z; cases z))]; exact e, fun l o nl e => by rw [upd_ne nl]; exact e⟩ (fun _ _ => trivial) fun _ _ => trivial).anyN
theorem SetO.put {C : Addr} {H : Hp} {v pv : V} {lb : Addr} {xs ys : List V} (h : SetO C H v pv) (hl : H lb = some (.lst xs)) : SetO C (upd H lb (.lst ys)) v pv := by
  obtain ⟨p, dx, g, o, e, h1, h2, h3⟩ := h
  exact ⟨p, dx, g, o, e, by rw [upd_ne (ne_of h1 hl (by intro z; cases z))]; exact h1, by rw [upd_ne (ne_of h2 hl (by intro z; cases z))]; exact h2, by rw [upd_ne (ne_of h3 hl (by intro z; cases z))]; exact h3⟩
theorem KeepX.seq_none {K : PySem.W.Frag} {H H' : Hp} {p a : Addr} {xs : List V} (k : KeepX p H H') (n : H p = none) (h : SqL K H a xs) : SqL K H' a xs := by
  rcases h with (h | ⟨o, h⟩) | h
  · exact .inl (.inl (k _ _ (ne_of_none h n) h))
  · exact .inl (.inr ⟨o, k _ _ (ne_of_none h n) h⟩)
  · exact .inr h
theorem disp_same {H : Hp} {d t : Addr} {o1 o2 o3 : HO} (hd : H d = none) (ht : upd H d o1 t = none) : Same H (upd (upd (upd H d o1) t o2) d o3) := fun b u e => by
  have n1 : b ≠ d := ne_of_none e hd
  have n2 : b ≠ t := fun q => by rw [q] at e; rw [← q, upd_ne n1, q] at ht; rw [e] at ht; cases ht
  rw [upd_ne n1, upd_ne n2, upd_ne n1]; exact e
theorem mem_cutV {xs : List V} {lo hi : Option Int} {x : V} (h : x ∈ cutV xs lo hi) : x ∈ xs := by
  unfold cutV at h
  exact List.mem_of_mem_drop (List.mem_of_mem_take h)

end
end K34
namespace K34
open PySem L2 TL
section
variable {P : Program} {w : World} {K : PySem.W.Frag} {mg : Str → Option Value} {base : Heap} {A : Ads}
theorem ok_read_program (T : Txt K mg A) : FnOk P w K mg base (L2N.CX P w) 32 A.read_program A.read_program_d ["text"] (spRead K A.rc A.ec A.NoProgram A.Program) := by
  have G_Reader_init := ok_Reader_init (P := P) (w := w) (base := base) T
  have G_Reader_head := ok_Reader_head (P := P) (w := w) (base := base) T
  have G_Reader_function := ok_Reader_function (P := P) (w := w) (base := base) T
  have G_Reader_pass_line := ok_Reader_pass_line (P := P) (w := w) (base := base) T
  have G_Reader_block := ok_Reader_block (P := P) (w := w) (base := base) T 6
  have G_check_calls := ok_check_calls (P := P) (w := w) (base := base) T
  have G_Program_init := ok_Program_init (P := P) (w := w) (base := base) T
  refine okN T.F_read_program sc_read_program (fun vs H Q E h => ?_) (fun cdv A0 outer s H vs Q E hr h => ?_)
  · obtain ⟨x0, rfl, h⟩ := h
    rfl
  obtain ⟨x0, rfl, h⟩ := h
  refine ⟨_, (pss_cons (ps_if (pt_not (pt_val (pe_callB call_isi (by rfl) T.z_isinstance (by decide +kernel) (pa_cons (pv 0) (pa_cons (pe_bltn (v := .ty "str") (by rfl) T.z_str (by decide +kernel) rfl) pa_nil)))))
    (pss_one (L2N.ps_raise rfl (L2N.takes_of rfl rfl rfl rfl) (L2N.pmk_own PySem.F.excBase_ValueError T.x_NoProgram T.m_NoProgram T.kk_NoProgram (raises_own T.bb_NoProgram T.tt_NoProgram) (by exact rfl))))
    pss_nil)
   (pss_cons (ps_set (i := 1) sc_read_program.nd rfl (Or.inl rfl) (pe_split (pv 0) pe_str))
   (pss_cons (ps_if (pt_cmpR op_gt (pe_callB call_lenK (by rfl) T.z_len (by decide +kernel) (pa_cons (pv 1) pa_nil)) (pe_glob (v := .int 60) (by rfl) T.c_MOST_LINES.choose_spec ⟨_, rfl⟩) (nomark _))
    (pss_one (L2N.ps_raise rfl (L2N.takes_of rfl rfl rfl rfl) (L2N.pmk_own PySem.F.excBase_ValueError T.x_NoProgram T.m_NoProgram T.kk_NoProgram (raises_own T.bb_NoProgram T.tt_NoProgram) (by exact rfl))))
    pss_nil)
   (pss_cons (ps_set (i := 2) sc_read_program.nd rfl (Or.inl rfl) (pe_make T.k_Reader G_Reader_init (hr.mono (by decide)) rfl T.m_Reader T.b_Reader_init .nil pass0 (pa_cons (pv 1) pa_nil)))
   (pss_cons (ps_set (i := 3) sc_read_program.nd rfl (Or.inl rfl) pe_dnewK)
   (pss_cons (ps_while (passes_of rfl) (pt_cmpR op_eq (pe_meth0 (pv 2) T.cl_Reader T.me_Reader_head G_Reader_head (hr.mono (by decide)) T.b_Reader_head .nil pass0) pe_str (nomark _))
    (pss_cons (ps_set (i := 4) sc_read_program.nd rfl (Or.inl rfl) (pe_meth0 (pv 2) T.cl_Reader T.me_Reader_function G_Reader_function (hr.mono (by decide)) T.b_Reader_function .nil (L2N.passes_call (L2N.takes_of rfl rfl rfl rfl) (fun _ _ _ _ h => h))))
   (pss_cons (ps_ifC (PW.pt (pw_or (pt_cmp (pc_din (hu_of hr) (pe_fld (pv 4) rfl) (pv 3))) (pw_or1 (pt_cmpR op_eq (pe_callB call_lenD (by rfl) T.z_len (by decide +kernel) (pa_cons (pv 3) pa_nil)) (pe_glob (v := .int 4) (by rfl) T.c_MOST_FUNCTIONS.choose_spec ⟨_, rfl⟩) (nomark _)))))
    (pss_one (L2N.ps_raise rfl (L2N.takes_of rfl rfl rfl rfl) (L2N.pmk_own PySem.F.excBase_ValueError T.x_NoProgram T.m_NoProgram T.kk_NoProgram (raises_own T.bb_NoProgram T.tt_NoProgram) (by exact rfl))))
    pss_nil)
   (pss_one (ps_dput (hu_of hr) (pv 3) (pe_fld (pv 4) rfl) (pv 4) rfl)))))
   (pss_cons (ps_expr (pe_meth (pv 2) T.cl_Reader T.me_Reader_pass_line G_Reader_pass_line (hr.mono (by decide)) T.b_Reader_pass_line .nil (L2N.passes_call (L2N.takes_of rfl rfl rfl rfl) (fun _ _ _ _ h => h)) (pa_cons pe_str pa_nil)))
   (pss_cons (ps_set (i := 5) sc_read_program.nd rfl (Or.inl rfl) (pe_meth (pv 2) T.cl_Reader T.me_Reader_block G_Reader_block (hr.mono (by decide)) T.b_Reader_block .nil (L2N.passes_call (L2N.takes_of rfl rfl rfl rfl) (fun _ _ _ _ h => h)) (pa_cons pe_int pa_nil)))
   (pss_cons (ps_if (pt_cmpR op_notN (pe_meth0 (pv 2) T.cl_Reader T.me_Reader_head G_Reader_head (hr.mono (by decide)) T.b_Reader_head .nil pass0) pe_non (nomark _))
    (pss_one (L2N.ps_raise rfl (L2N.takes_of rfl rfl rfl rfl) (L2N.pmk_own PySem.F.excBase_ValueError T.x_NoProgram T.m_NoProgram T.kk_NoProgram (raises_own T.bb_NoProgram T.tt_NoProgram) (by exact rfl))))
    pss_nil)
   (pss_cons (ps_expr (pe_call G_check_calls (hr.mono (by decide)) rfl T.m_check_calls T.F_check_calls.kp T.b_check_calls .nil (L2N.passes_call (L2N.takes_of rfl rfl rfl rfl) (fun _ _ _ _ h => h)) (pa_cons (pe_fld (pv 2) rfl) (pa_cons (pv 3) pa_nil))))
   (pss_one (ps_ret (pe_make T.k_Program G_Program_init (hr.mono (by decide)) rfl T.m_Program T.b_Program_init .nil pass0 (pa_cons (pv 1) (pa_cons (pv 5) (pa_cons (pv 3) (pa_cons (pe_fld (pv 2) rfl) pa_nil))))))))))))))))), ?_⟩
  rcases h with ⟨s, rfl, ⟨hls, hlt, hco⟩, q1, q2⟩ | ⟨t, ht, hk, q⟩
  rotate_left
  · exact ⟨_, rfl, _, _, _, _, false, rfl, .ty _, ht, hk, _, rfl, iteT q⟩
  refine ⟨_, rfl, _, _, _, _, true, rfl, .ty _, .base (.str _), kit_ty (by decide +kernel), _, rfl, iteF ?_⟩
  refine ⟨_, rfl, ⟨_, rfl⟩, s, _, rfl, rfl, (by decide +kernel), sizeL2 (by omega), fun la hla => ?_⟩
  have s1 := same_new (o := .lst ((Txt.split s "\n").map V.str)) hla
  have ga : upd H la (.lst ((Txt.split s "\n").map V.str)) la = some (.lst ((Txt.split s "\n").map V.str)) := upd_same
  have hcod := split_cod hco "\n"
  have htl := hlt
  generalize hT : Txt.split s "\n" = ts at *
  generalize hG1 : upd H la (.lst (ts.map V.str)) = H1 at s1 ga ⊢
  unfold readF at q1 q2
  refine ⟨_, rfl, la, _, rfl, .inl (SqL.of ga), _, _, rfl, rfl, _, rfl, ?_⟩
  rw [List.length_map]
  refine iteD2 (fun c1 => ?_) (fun c1 => ?_)
  · exact q2 (if_neg (by omega)) H1 s1
  have c1' : ts.length ≤ 60 := by omega
  rw [if_pos c1'] at q2
  simp only [if_pos c1'] at q1
  refine ⟨_, rfl, fun x dx hx hdx ndx => ?_⟩
  have gHM : ∀ q o, H1 q = some o → upd (upd H1 dx (.own x)) x (.ins A.Reader dx []) q = some o := fun q o h => by
    rw [upd_ne (ne_of_none h hx), upd_ne (ne_of_none h hdx)]; exact h
  refine ⟨x, dx, la, ts, rfl, upd_same, gHM _ _ ga, c1', htl, hcod, fun d cl H2 nd ncl k2 hR2 => ⟨rfl, ?_⟩⟩
  have s2 : Same H1 H2 := fun q o h => k2 q o (fun hm => ne_of_none h hx (List.mem_singleton.mp hm)) (gHM q o h)
  have s12 := s1.trans s2
  have nHM : ∀ q, upd (upd H1 dx (.own x)) x (.ins A.Reader dx []) q = none → H q = none := fun q h => by
    cases e : H q with
    | none => rfl
    | some o => have := gHM q o (s1 _ _ e); rw [h] at this; cases this
  have hxn : H x = none := none_before s1 hx
  have hdn := nHM d nd
  have hcn := nHM cl ncl
  have toS : ∀ {Ha Hb : Hp}, Same H Ha → Mv ⟨x, d, cl, la, ts, []⟩ Ha Hb → Same H Hb := fun sa mv q o h => mv q o (fun hm => by
    simp only [List.mem_cons, List.not_mem_nil, or_false] at hm
    rcases hm with rfl | rfl | rfl
    · rw [hxn] at h; cases h
    · rw [hdn] at h; cases h
    · rw [hcn] at h; cases h) (sa q o h)
  show ∀ df, _ → _
  intro df hdf
  have s3 := same_new (o := .dK []) hdf
  have gd : upd H2 df (.dK []) df = some (.dK []) := upd_same
  have hR3 := hR2.same s3
  have ndf : df ≠ d := fun e => by
    obtain ⟨kvs, z, _⟩ := hR2.dict
    have z' : H2 d = some (.dK kvs) := z
    rw [← e, hdf] at z'; cases z'
  have s13 := s12.trans s3
  generalize hG3 : upd H2 df (.dK []) = H3 at s3 gd hR3 s13 ⊢
  have keepD : ∀ {Ha Hb : Hp} {st : RS} {kvs : List (Key × V)}, RdH K A.rc A.ec A.Reader ⟨x, d, cl, la, ts, []⟩ Ha st → Mv ⟨x, d, cl, la, ts, []⟩ Ha Hb → Ha df = some (.dK kvs) → Hb df = some (.dK kvs) := fun hR mv e => mv _ _ (fun hm => by
    obtain ⟨dx', z1⟩ := hR.obj
    obtain ⟨os', z2, _⟩ := hR.calls
    have z1' : _ = _ := z1
    have z2' : _ = _ := z2
    simp only [List.mem_cons, List.not_mem_nil, or_false] at hm
    rcases hm with rfl | rfl | rfl
    · rw [e] at z1'; cases z1'
    · exact ndf rfl
    · rw [e] at z2'; cases z2') e
  generalize hX : (⟨x, d, cl, la, ts, []⟩ : Rd) = X at *
  have ep : X.p = x := by rw [← hX]
  have ed : X.d = d := by rw [← hX]
  have ec : X.cl = cl := by rw [← hX]
  have et : X.ts = ts := by rw [← hX]
  have ea : X.a = la := by rw [← hX]
  generalize hF0 : funsF ts (ts.length + 1) [] ⟨0, [], []⟩ = F0 at q1 q2
  refine while_m (fun m σ H' => ∃ (st' : RS) (f : Nat) (fs : List (Str × Nat)) (kvs : List (Key × V)) (z : Option V), σ = [some (.str s), some (.ref la), some (.ref x), some (.ref df), z, none] ∧ m = ts.length - st'.at_ ∧ Same H H' ∧ RdH K A.rc A.ec A.Reader X H' st' ∧ H' df = some (.dK kvs) ∧ All2 (FunK A.Function X.N H') fs kvs ∧ fs.length ≤ 4 ∧ ts.length + 1 ≤ f + st'.at_ ∧ funsF ts f fs st' = F0) (ts.length - 0)
    ⟨⟨0, [], []⟩, ts.length + 1, [], [], none, rfl, rfl, s13, hR3, gd, .nil, by decide, Nat.le_add_right _ _, hF0⟩ ?_
  rintro m σ H4 ⟨st1, f, fs, kvs, z, rfl, rfl, s4, hR4, gd4, hfs, hf4, hf, hb⟩
  have hat4 : st1.at_ ≤ ts.length := et ▸ hR4.at_
  obtain ⟨f, rfl⟩ : ∃ f', f = f' + 1 := ⟨f - 1, by omega⟩
  obtain ⟨dx4, o4⟩ := hR4.obj
  rw [ep] at o4
  refine ⟨_, rfl, x, dx4, _, rfl, o4, rfl, X, st1, by rw [ep] <;> rfl, hR4, fun H5 s5 => ?_⟩
  have hR5 := hR4.same s5
  have s45 := s4.trans s5
  have gd5 := s5 _ _ gd4
  have hfs5 := hfs.mono fun a b h => h.same s5
  have hb' := hb
  unfold funsF at hb'
  rw [et]
  refine ⟨by unfold headV; cases headAt ts st1.at_ <;> rfl, _, rfl, iteD2 (fun c2 => ?_) (fun c2 => ?_)⟩
  · -- one function more
    have hh : headAt ts st1.at_ = some "fun" := by
      unfold headV at c2
      cases e : headAt ts st1.at_ with
      | none => rw [e] at c2; cases c2
      | some w => rw [e] at c2; rw [V.str.inj c2]; rfl
    rw [if_pos hh] at hb'
    obtain ⟨hlt, _⟩ := headAt_lt hh
    refine ⟨fun σ' H' => ∃ (st' : RS) (f : Nat) (fs : List (Str × Nat)) (kvs : List (Key × V)) (z : Option V), st1.at_ < st'.at_ ∧ st'.at_ ≤ ts.length ∧ σ' = [some (.str s), some (.ref la), some (.ref x), some (.ref df), z, none] ∧ Same H H' ∧ RdH K A.rc A.ec A.Reader X H' st' ∧ H' df = some (.dK kvs) ∧ All2 (FunK A.Function X.N H') fs kvs ∧ fs.length ≤ 4 ∧ ts.length + 1 ≤ f + st'.at_ ∧ funsF ts f fs st' = F0,
      fun σ' H' ⟨st', f, fs, kvs, z, g1, g2, hσ, k⟩ => ⟨ts.length - st'.at_, by omega, st', f, fs, kvs, z, hσ, rfl, k⟩, ?_⟩
    obtain ⟨dx5, o5⟩ := hR5.obj
    rw [ep] at o5
    refine ⟨_, rfl, x, dx5, _, rfl, o5, rfl, X, st1, by rw [ep] <;> rfl, hR5, by rw [et]; exact hh, fun fn st2 v H6 e6 mv6 hR6 hfn => ?_, fun e6 H6 mv6 => ?_⟩
    rotate_left
    · rw [et] at e6
      rw [e6] at hb'
      rw [← hb'] at q2
      exact q2 rfl H6 (toS s45 mv6)
    rw [et] at e6
    rw [e6] at hb'
    simp only at hb'
    have hat6 : st2.at_ ≤ ts.length := et ▸ hR6.at_
    have hlt6 : st1.at_ < st2.at_ := functionF_at hlt e6
    have s6 := toS s45 mv6
    have gd6 := keepD hR5 mv6 gd5
    have hfs6 := hfs5.mono fun a b h => h.keepI (hR5.keepI mv6) T.nr_Function
    obtain ⟨pf, dxf, lf, ps, bd, gv, rfl, f1, f2, f3, f4⟩ := id hfn
    have hp : ∀ (g : Str × Nat) (kv : Key × V), FunK A.Function X.N H6 g kv → decide (g.1 = fn.1) = decide (kv.1 = (.inr fn.1 : Key)) := fun g kv h => by
      rw [h.1]
      by_cases q : g.1 = fn.1
      · rw [decide_eq_true q, decide_eq_true (congrArg Sum.inr q : (.inr g.1 : Key) = .inr fn.1)]
      · rw [decide_eq_false q, decide_eq_false (fun e : (.inr g.1 : Key) = .inr fn.1 => q (Sum.inr.inj e))]
    have hany : (valV kvs (.inr fn.1)).isSome = fs.any fun g => decide (g.1 = fn.1) := all2_any hp hfs6
    refine ⟨decide ((fs.any fun g => decide (g.1 = fn.1)) = true ∨ fs.length = 4), H6, fun Z hZ => ?_, ?_⟩
    · refine ⟨_, rfl, pf, A.Function, dxf, _, _, rfl, f1, T.cl_Function, T.n_Function_name, rfl, _, rfl, df, _, rfl, DGet.k (k := .inr fn.1) gd6, _, rfl, ?_⟩
      rw [hany]
      cases hq : fs.any fun g => decide (g.1 = fn.1) with
      | true => exact iteT (zTrue hZ (.inl hq))
      | false =>
        refine iteF ⟨_, rfl, df, kvs, rfl, gd6, rfl, _, rfl, ?_⟩
        rw [← hfs6.length]
        by_cases c4 : fs.length = 4
        · rw [decide_eq_true (by rw [c4]; rfl)]
          exact zTrue hZ (.inr c4)
        · rw [decide_eq_false (fun e => c4 (by have := V.int.inj e; omega))]
          exact zFalse hZ fun h => h.elim (fun e => by rw [hq] at e; cases e) c4
    refine iteD2 (fun c3 => ?_) (fun c3 => ?_)
    · rw [if_pos c3] at hb'
      rw [← hb'] at q2
      exact q2 rfl H6 s6
    rw [if_neg c3] at hb'
    refine ⟨_, rfl, _, rfl, _, rfl, pf, A.Function, dxf, _, _, rfl, f1, T.cl_Function, T.n_Function_name, rfl, df, _, rfl, DPut.k (k := .inr fn.1) (v := .ref pf) gd6 (by rw [← hfs6.length]; exact Nat.lt_of_le_of_lt hf4 (by decide)), ?_⟩
    have hnk : ¬ (kvs.any fun kv => decide (kv.1 = (.inr fn.1 : Key))) = true := fun e => c3 (.inl (by rw [← hany, valV_some_of_any e]))
    unfold putK
    rw [if_neg hnk]
    have ki : KeepI (fun _ => True) X.N H6 (upd H6 df (.dK (kvs ++ [(.inr fn.1, .ref pf)]))) := keepI_dict gd6
    have hfs7 := (hfs6.mono fun a b h => h.keepI ki trivial).snoc (a := fn) (b := ((.inr fn.1 : Key), V.ref pf)) ⟨rfl, (show FunO A.Function X.N H6 fn (.ref pf) from hfn).keepI ki trivial⟩
    refine ⟨st2, f, fs ++ [fn], kvs ++ [(.inr fn.1, .ref pf)], _, hlt6, hat6, rfl, fun q o h => ?_, hR6.dictU gd6 (by rw [ed]; exact ndf), upd_same, hfs7, ?_, by omega, hb'⟩
    · have := s6 q o h
      by_cases c : q = df
      · rw [c] at h
        have := s13 _ _ h
        rw [gd] at this
        cases this
        have h0 := none_before s12 hdf
        rw [h0] at h; cases h
      · rw [upd_ne c]; exact this
    · rw [List.length_append, List.length_singleton]
      have : ¬ fs.length = 4 := fun e => c3 (.inr e)
      omega
  have hh : ¬ headAt ts st1.at_ = some "fun" := fun h => c2 (by unfold headV; rw [h]; rfl)
  rw [if_neg hh] at hb'
  rw [← hb'] at q1 q2
  simp only at q1 q2
  obtain ⟨dx5, o5⟩ := hR5.obj
  rw [ep] at o5
  refine ⟨_, rfl, x, dx5, _, rfl, o5, rfl, X, st1, _, by rw [ep] <;> rfl, hR5, fun st2 H6 p1 mv6 hR6 => ?_, fun p1 H6 mv6 => ?_⟩
  rotate_left
  · rw [et] at p1
    rw [p1] at q2
    exact q2 rfl H6 (toS s45 mv6)
  rw [et] at p1
  rw [p1] at q1 q2
  simp only at q1 q2
  have s6 := toS s45 mv6
  have gd6 := keepD hR5 mv6 gd5
  have hfs6 := hfs5.mono fun a b h => h.keepI (hR5.keepI mv6) T.nr_Function
  obtain ⟨dx6, o6⟩ := hR6.obj
  rw [ep] at o6
  refine ⟨_, rfl, x, dx6, _, rfl, o6, rfl, X, st2, by rw [ep] <;> rfl, hR6, by decide, fun st3 body H7 b1 mv7 hR7 => ?_, fun b1 H7 mv7 => ?_⟩
  rotate_left
  · rw [et] at b1
    rw [b1] at q2
    exact q2 rfl H7 (toS s6 mv7)
  rw [et] at b1
  rw [b1] at q1 q2
  simp only at q1 q2
  have s7 := toS s6 mv7
  have gd7 := keepD hR6 mv7 gd6
  have hfs7 := hfs6.mono fun a b h => h.keepI (hR6.keepI mv7) T.nr_Function
  obtain ⟨dx7, o7⟩ := hR7.obj
  rw [ep] at o7
  refine ⟨_, rfl, x, dx7, _, rfl, o7, rfl, X, st3, by rw [ep] <;> rfl, hR7, fun H8 s8 => ?_⟩
  have hR8 := hR7.same s8
  have s78 := s7.trans s8
  have gd8 := s8 _ _ gd7
  have hfs8 := hfs7.mono fun a b h => h.same s8
  have hat8 : st3.at_ ≤ ts.length := et ▸ hR8.at_
  rw [et]
  refine ⟨rfl, _, rfl, iteN2 (fun c3 => ?_) (fun c3 => ?_)⟩
  · refine q2 (if_neg fun h => c3 ?_) H8 s78
    unfold headV headAt
    rw [if_neg (by omega)]
  have hend : st3.at_ = ts.length := by
    unfold headV headAt at c3
    by_cases c : st3.at_ < ts.length
    · rw [if_pos c] at c3; cases c3
    · omega
  obtain ⟨dx8, o8⟩ := hR8.obj
  obtain ⟨os, y1, y2⟩ := hR8.calls
  obtain ⟨nk, z1, z2⟩ := hR8.dict
  rw [ep] at o8
  have hEC := ec
  rw [ec] at y1
  refine ⟨_, rfl, x, A.Reader, dx8, _, _, rfl, o8, T.cl_Reader, T.n_Reader_calls, rfl, _, rfl, X.cl, df, os, kvs, X.N, st3.calls, fs, rfl, by rw [hEC]; exact y1, gd8, y2, hfs8, fun ok => ?_, fun no => ?_⟩
  rotate_left
  · exact q2 (if_neg fun h => by rw [no] at h; cases h.2) H8 s78
  refine ⟨_, rfl, _, rfl, _, rfl, _, rfl, x, A.Reader, dx8, _, _, rfl, o8, T.cl_Reader, T.n_Reader_by_number, rfl, fun y dy hy hdy _ => mk_row (xs := [_, _, _, _]) hy hdy rfl fun H9 s9 g9 => ?_⟩
  refine q1 st3.num _ H9 (if_pos ⟨hend, ok⟩) (s78.trans s9) ⟨y, dy, la, X.d, _, _, nk, rfl, g9, SqL.of ?_, s9 _ _ z1, z2.mono fun a kv h => ⟨h.1, (h.2.weak fun _ _ _ => trivial).same s9⟩⟩
  have := hR8.txts
  rw [ea, et] at this
  exact s9 _ _ this

end
end K34
namespace K34
open PySem L2 TL
section
variable {P : Program} {w : World} {K : PySem.W.Frag} {mg : Str → Option Value} {base : Heap} {A : Ads}
theorem ok_Program_lines (T : Txt K mg A) : FnOk P w K mg base CX0 1 A.Program_lines A.Program_lines_d ["self"] (spPLines K A.rc A.ec A.Program) := by
  refine T.F_Program_lines.ok sc_Program_lines (fun vs H Q E h => ?_) (fun cdv A0 outer s H vs Q E hr h => ?_)
  · obtain ⟨v, ts, num, rfl, hP, q⟩ := h
    rfl
  obtain ⟨v, ts, num, rfl, hP, q⟩ := h
  refine ⟨_, (pss_one (ps_ret (pe_callTy call_list_ofK (by rfl) T.z_list (by decide +kernel) (pa_cons (pe_fld (pv 0) rfl) pa_nil)))), ?_⟩
  obtain ⟨p, dx, a, d, m, f, kvs, rfl, hp, ha, hd, hn⟩ := hP
  exact ⟨_, rfl, p, A.Program, dx, _, _, rfl, hp, T.cl_Program, T.n_Program_texts, rfl, a, _, rfl, .inl ha, q⟩

end
end K34
namespace K34
open PySem L2 TL
section
variable {P : Program} {w : World} {K : PySem.W.Frag} {mg : Str → Option Value} {base : Heap} {A : Ads}
theorem ok_Program_with_line (T : Txt K mg A) : FnOk P w K mg base (L2.CX P w) 33 A.Program_with_line A.Program_with_line_d ["self", "number", "line"] (spWith15 K A.rc A.ec A.Program A.NoChange) := by
  have G_read_program := ok_read_program (P := P) (w := w) (base := base) T
  have D_shape := disp_shape (P := P) (w := w) (base := base) T
  refine T.F_Program_with_line.okX sc_Program_with_line (fun vs H Q E h => ?_) (fun cdv A0 outer s H vs Q E hr h => ?_)
  · obtain ⟨v, x, n, ts, num, rfl, hP, hrd, hne, hl60, hlg, hx⟩ := h
    rfl
  obtain ⟨v, x, n, ts, num, rfl, hP, hrd, hne, hl60, hlg, hx⟩ := h
  refine ⟨_, (pss_cons (ps_if (PW.pt (pw_or (pt_not (pt_val (pe_callB call_isi (by rfl) T.z_isinstance (by decide +kernel) (pa_cons (pv 1) (pa_cons (pe_bltn (v := .ty "int") (by rfl) T.z_int (by decide +kernel) rfl) pa_nil))))) (pw_or (pt_val (pe_callB call_isi (by rfl) T.z_isinstance (by decide +kernel) (pa_cons (pv 1) (pa_cons (pe_bltn (v := .ty "bool") (by rfl) T.z_bool (by decide +kernel) rfl) pa_nil)))) (pw_or1 (pt_cmp (pc_dnotin (hu_of hr) (pv 1) (pe_fld (pv 0) rfl)))))))
    (pss_one (ps_raise rfl (takes_of rfl rfl rfl rfl) (pmk_own PySem.F.excBase_ValueError T.x_NoChange T.m_NoChange T.kk_NoChange (raises_own T.bb_NoChange T.tt_NoChange) (by exact rfl))))
    pss_nil)
   (pss_cons (ps_if (PW.pt (pw_or (pt_not (pt_val (pe_callB call_isi (by rfl) T.z_isinstance (by decide +kernel) (pa_cons (pv 2) (pa_cons (pe_bltn (v := .ty "str") (by rfl) T.z_str (by decide +kernel) rfl) pa_nil))))) (pw_or1 (pt_cmpR op_in_sign pe_str (pv 2) (by rfl)))))
    (pss_one (ps_raise rfl (takes_of rfl rfl rfl rfl) (pmk_own PySem.F.excBase_ValueError T.x_NoChange T.m_NoChange T.kk_NoChange (raises_own T.bb_NoChange T.tt_NoChange) (by exact rfl))))
    pss_nil)
   (pss_cons (ps_set (i := 3) sc_Program_with_line.nd rfl (Or.inl rfl) (pe_callTy call_list_ofK (by rfl) T.z_list (by decide +kernel) (pa_cons (pe_fld (pv 0) rfl) pa_nil)))
   (pss_cons (ps_asg (pv 2) (pg_sub (pv 3) (pv 1) set_list))
   (pss_cons (L2H.ps_try_onlyX rfl rfl ⟨rfl, by decide, Or.inl T.m_NoProgram⟩ (fun hd => L2H.passesAt_of rfl hd) (takes_of rfl rfl rfl rfl)
    (fun W pn xe tk tkP _ => (pss_one (ps_set (i := 4) sc_Program_with_line.nd rfl (Or.inl rfl) (pe_callS G_read_program (hr.mono (by omega)) rfl T.m_read_program T.F_read_program.kp T.b_read_program (fun σ => L2N.passAt tk σ) (pa_cons (pe_joinTr pe_str (pv 3)) pa_nil)))))
    (fun a oe cls d pn _ _ tkS hot => (pss_one (L2H.ps_raiseH hot tkS (L2N.pmk_own PySem.F.excBase_ValueError T.x_NoChange T.m_NoChange T.kk_NoChange (raises_own T.bb_NoChange T.tt_NoChange) (by exact rfl))))))
   (pss_cons (ps_if (pt_cmp (pc_dnotin (hu_of hr) (pv 1) (pe_fld (pv 4) rfl)))
    (pss_one (ps_raise rfl (takes_of rfl rfl rfl rfl) (pmk_own PySem.F.excBase_ValueError T.x_NoChange T.m_NoChange T.kk_NoChange (raises_own T.bb_NoChange T.tt_NoChange) (by exact rfl))))
    pss_nil)
   (pss_cons (ps_if (pt_cmpR op_ne (pe_methP0 (pe_dget (hu_of hr) (pe_fld (pv 4) rfl) (pv 1) (fun _ _ => rfl)) D_shape (hr.mono (by omega)) pass0) (pe_methP0 (pe_dget (hu_of hr) (pe_fld (pv 0) rfl) (pv 1) (fun _ _ => rfl)) D_shape (hr.mono (by omega)) pass0) (nomark _))
    (pss_one (ps_raise rfl (takes_of rfl rfl rfl rfl) (pmk_own PySem.F.excBase_ValueError T.x_NoChange T.m_NoChange T.kk_NoChange (raises_own T.bb_NoChange T.tt_NoChange) (by exact rfl))))
    pss_nil)
   (pss_one (ps_ret (pv 4)))))))))), ?_⟩
  have qbad : (∀ line, x = .str line → LnG 40 line → okL ts n line = false) → ∀ H', Same H H' → E (.ref A.NoChange) none H' := fun no => by
    rcases hx with ⟨line, rfl, hl, _, q⟩ | ⟨_, q⟩
    · exact q (no line rfl hl)
    · exact q
  obtain ⟨p, dx, a, d, m, f, kvs, rfl, hp, ha, hd, hnm⟩ := id hP
  refine ⟨_, rfl, _, _, _, _, true, rfl, .ty _, .base (.int _), kit_ty (by decide +kernel), true, rfl, iteF ?_⟩
  refine ⟨_, rfl, _, _, _, _, false, rfl, .ty _, .base (.int _), kit_ty (by decide +kernel), false, rfl, iteF ?_⟩
  refine ⟨_, rfl, _, rfl, p, A.Program, dx, _, _, rfl, hp, T.cl_Program, T.n_Program_by_number, rfl, d, _, rfl, DGet.k (k := .inl (n : Int)) hd, _, rfl, ?_⟩
  cases hro : rowOf num n with
  | none =>
    rw [num_none hnm hro]
    exact iteT (qbad (fun line _ _ => okL_no hrd hro) H (Same.refl H))
  | some rt =>
  obtain ⟨w1, e1, hr1⟩ := num_at hnm hro
  obtain ⟨k, rfl, hk⟩ := rowOf_neg hrd hro
  rw [e1]
  refine iteF ?_
  rcases hx with ⟨line, rfl, hln, q1, q2⟩ | ⟨hb, q⟩
  rotate_left
  · rcases hb with ⟨s, rfl, h10⟩ | ⟨t, ht, hk⟩
    · refine ⟨_, rfl, _, _, _, _, true, rfl, .ty _, .base (.str _), kit_ty (by decide +kernel), true, rfl, iteF ?_⟩
      exact ⟨_, rfl, 10, s, congrArg V.str (by decide +kernel), rfl, _, rfl, iteDT h10 (q H (Same.refl H))⟩
    · exact ⟨_, rfl, _, _, _, _, false, rfl, .ty _, ht, hk, _, rfl, iteT (q H (Same.refl H))⟩
  refine ⟨_, rfl, _, _, _, _, true, rfl, .ty _, .base (.str _), kit_ty (by decide +kernel), true, rfl, iteF ?_⟩
  have hn10 : 10 ∉ tl line := fun h => (hln.chars 10 h).2 rfl
  refine ⟨_, rfl, 10, line, congrArg V.str (by decide +kernel), rfl, _, rfl, iteDF hn10 ?_⟩
  refine ⟨_, rfl, p, A.Program, dx, _, _, rfl, hp, T.cl_Program, T.n_Program_texts, rfl, a, _, rfl, .inl ha, fun tx htx => ?_⟩
  have s1 := same_new (o := .lst (ts.map V.str)) htx
  refine ⟨_, rfl, _, rfl, _, rfl, tx, _, _, k, rfl, rfl, upd_same, ?_, ?_⟩
  · unfold ixN
    rw [if_pos (by omega), if_pos (by rw [List.length_map]; omega)]
    exact congrArg some (Int.toNat_natCast k)
  rw [upd_upd]
  have s2 : Same H (upd H tx (.lst ((ts.map V.str).set k (.str line)))) := same_new htx
  have g2 : upd H tx (.lst ((ts.map V.str).set k (.str line))) tx = some (.lst ((ts.set k line).map V.str)) := by rw [upd_same, List.map_set]
  generalize hG2 : upd H tx _ = H2 at s2 g2 ⊢
  have hlen2 : (ts.set k line).length ≤ 60 := by rw [List.length_set]; exact hl60
  have hne2 : ts.set k line ≠ [] := fun e => hne (by have := congrArg List.length e; rw [List.length_set] at this; exact List.eq_nil_of_length_eq_zero this)
  have hlo3 : ∀ t ∈ ts.set k line, LnG 40 t := fun t ht => by
    rcases List.mem_or_eq_of_mem_set ht with h | h
    · exact hlg t h
    · rw [h]; exact hln
  have htx2 := lng_text hne2 (by omega) hlo3
  have hsp : Txt.split (Txt.join (Str.ofString "\n") (ts.set k line)) "\n" = ts.set k line := lng_split hne2 hlo3
  have ek := okL_some hrd hro (line := line)
  rw [Int.toNat_natCast] at q1
  have toNo : okL ts (k : Int) line = false → ∀ H', Same H2 H' → E (.ref A.NoChange) none H' := fun e H' s' => q2 e H' (s2.trans s')
  refine ⟨⟨_, rfl⟩, _, rfl, _, tx, ts.set k line, rfl, rfl, .inl (SqL.of g2), sum12 (by omega) hlo3, ?_⟩
  refine ⟨_, rfl, .inl ⟨_, rfl, htx2, fun num3 v3 H3 e s3 hF => ?_, fun e H3 s3 => ?_⟩⟩
  rotate_left
  · rw [hsp] at e
    refine ⟨true, T.yp, fun _ a ha => toNo (by rw [ek, e]; simp) H3 s3, fun h => nomatch h⟩
  rw [hsp] at e hF
  obtain ⟨p2, dx2, a2, d2, m2, f2, kvs2, rfl, hp2, ha2, hd2, hnm2⟩ := id hF
  have s23 := s2.trans s3
  have eok : okL ts (k : Int) line = decide (shL line = rt.shapeT) := by rw [ek, e]; simp
  refine ⟨_, rfl, _, rfl, p2, A.Program, dx2, _, _, rfl, hp2, T.cl_Program, T.n_Program_by_number, rfl, d2, _, rfl, DGet.k (k := .inl (k : Int)) hd2, _, rfl, ?_⟩
  rcases put_row hk e with ⟨rt2, hro2, hs2⟩ | ⟨hro2, hs2⟩
  rotate_left
  · rw [num_none hnm2 hro2]
    exact iteT (toNo (by rw [eok, hs2]; exact decide_eq_false fun h => shapeT_row rt h.symm) H3 s3)
  obtain ⟨w2, e2, hr2⟩ := num_at hnm2 hro2
  rw [e2]
  refine iteF ?_
  obtain ⟨pa, da, fa, ea, ga1, ga2⟩ := hr2.atS
  obtain ⟨pb, db, fb, eb, gb1, gb2⟩ := hr1.atS
  refine ⟨_, rfl, p2, A.Program, dx2, _, _, rfl, hp2, T.cl_Program, T.n_Program_by_number, rfl, _, rfl, d2, _, rfl, (by rw [← e2]; exact DGet.k (k := .inl (k : Int)) hd2), pa, _, da, _, ea, ga1, ga2, ⟨rt2, rfl⟩, _, rt2, w2, _, rfl, hr2, rfl, ?_⟩
  refine ⟨_, rfl, p, A.Program, dx, _, _, rfl, s23 _ _ hp, T.cl_Program, T.n_Program_by_number, rfl, _, rfl, d, _, rfl, (by rw [← e1]; exact DGet.k (k := .inl (k : Int)) (s23 _ _ hd)), pb, _, db, _, eb, s23 _ _ gb1, gb2, ⟨rt, rfl⟩, _, rt, w1, _, rfl, hr1.same s23, rfl, ?_⟩
  refine ⟨rfl, _, rfl, iteN2 (fun c => ?_) (fun c => ?_)⟩
  · exact toNo (by rw [eok]; exact decide_eq_false fun h => c (congrArg V.str (hs2.symm.trans h))) H3 s3
  · exact ⟨_, rfl, q1 (by rw [eok]; exact decide_eq_true (hs2.trans (V.str.inj c))) _ _ H3 s23 hF e⟩

end
end K34
namespace K34
open PySem L2 TL
section
variable {P : Program} {w : World} {K : PySem.W.Frag} {mg : Str → Option Value} {base : Heap} {A : Ads}
theorem ok_is_value (T : Txt K mg A) : FnOk P w K mg base CX0 1 A.is_value A.is_value_d ["thing"] spIsV := by
  refine T.F_is_value.ok sc_is_value (fun vs H Q E h => ?_) (fun cdv A0 outer s H vs Q E hr h => ?_)
  · obtain ⟨n, rfl, h0, h1, q⟩ := h
    rfl
  obtain ⟨n, rfl, h0, h1, q⟩ := h
  refine ⟨_, (pss_one (ps_ret (pe_and (pe_callB call_isi (by rfl) T.z_isinstance (by decide +kernel) (pa_cons (pv 0) (pa_cons (pe_bltn (v := .ty "int") (by rfl) T.z_int (by decide +kernel) rfl) pa_nil))) (pe_and (pe_not (pe_callB call_isi (by rfl) T.z_isinstance (by decide +kernel) (pa_cons (pv 0) (pa_cons (pe_bltn (v := .ty "bool") (by rfl) T.z_bool (by decide +kernel) rfl) pa_nil)))) (pe_one (pe_chain op_le op_lt pe_int (pv 0) (pe_glob (v := .int 1000000) (by rfl) T.c_LIMIT.choose_spec ⟨_, rfl⟩))))))), ?_⟩
  refine ⟨_, rfl, _, _, _, _, true, rfl, .ty _, .base (.int n), kit_ty (by decide +kernel), _, rfl, iteT ?_⟩
  refine ⟨_, rfl, _, _, _, _, false, rfl, .ty _, .base (.int n), kit_ty (by decide +kernel), _, rfl, _, rfl, iteT ?_⟩
  refine ⟨_, rfl, _, _, rfl, rfl, _, rfl, iteDT h0 ?_⟩
  refine ⟨_, _, rfl, rfl, ?_⟩
  show Q (.bl (decide (n < 1000000))) H
  rw [decide_eq_true h1]
  exact q

end
end K34
namespace K34
open PySem L2 TL
section
variable {P : Program} {w : World} {K : PySem.W.Frag} {mg : Str → Option Value} {base : Heap} {A : Ads}
theorem ok_is_given (T : Txt K mg A) : FnOk P w K mg base CX0 2 A.is_given A.is_given_d ["thing"] spGiven := by
  have G_is_value := ok_is_value (P := P) (w := w) (base := base) T
  have G_is_name := ok_is_name (P := P) (w := w) (base := base) T
  refine T.F_is_given.ok sc_is_given (fun vs H Q E h => ?_) (fun cdv A0 outer s H vs Q E hr h => ?_)
  · obtain ⟨t, rfl, h1, q⟩ := h
    rfl
  obtain ⟨t, rfl, h1, q⟩ := h
  refine ⟨_, (pss_cons (ps_if (PW.pt (pw_or (pt_not (pt_val (pe_callB call_isi (by rfl) T.z_isinstance (by decide +kernel) (pa_cons (pv 0) (pa_cons (pe_bltn (v := .ty "tuple") (by rfl) T.z_tuple (by decide +kernel) rfl) pa_nil))))) (pw_or1 (pt_cmpR op_lt (pe_callB call_lenK (by rfl) T.z_len (by decide +kernel) (pa_cons (pv 0) pa_nil)) pe_int (nomark _)))))
    (pss_one (ps_ret pe_bl))
    pss_nil)
   (pss_cons (ps_if (pt_cmpR op_eq (pe_ix ix_tup (pv 0) pe_int (fun _ _ => rfl)) pe_str (nomark _))
    (pss_one (ps_ret (pe_and (pe_cmpR op_eq (pe_callB call_lenK (by rfl) T.z_len (by decide +kernel) (pa_cons (pv 0) pa_nil)) pe_int (nomark _)) (pe_one (pe_call G_is_value (hr.mono (by decide)) rfl T.m_is_value T.F_is_value.kp T.b_is_value .nil pass0 (pa_cons (pe_ix ix_tup (pv 0) pe_int (fun _ _ => rfl)) pa_nil))))))
    pss_nil)
   (pss_cons (ps_if (pt_cmpR op_ne (pe_callB call_lenK (by rfl) T.z_len (by decide +kernel) (pa_cons (pv 0) pa_nil)) pe_int (nomark _))
    (pss_one (ps_ret pe_bl))
    pss_nil)
   (pss_cons (ps_if (pt_cmpR op_eq (pe_ix ix_tup (pv 0) pe_int (fun _ _ => rfl)) pe_str (nomark _))
    (pss_one (ps_ret (pe_and (pe_cmpR (op_eqD hr.units) (pe_ix ix_tup (pv 0) pe_int (fun _ _ => rfl)) (pe_tup pa_nil) (nomark _)) (pe_one (pe_call G_is_name (hr.mono (by decide)) rfl T.m_is_name T.F_is_name.kp T.b_is_name .nil pass0 (pa_cons (pe_ix ix_tup (pv 0) pe_int (fun _ _ => rfl)) pa_nil))))))
    pss_nil)
   (pss_one (ps_ret (pe_and (pe_cmpR op_eq (pe_ix ix_tup (pv 0) pe_int (fun _ _ => rfl)) pe_str (nomark _)) (pe_and (pe_call G_is_name (hr.mono (by decide)) rfl T.m_is_name T.F_is_name.kp T.b_is_name .nil pass0 (pa_cons (pe_ix ix_tup (pv 0) pe_int (fun _ _ => rfl)) pa_nil)) (pe_one (pe_call G_is_value (hr.mono (by decide)) rfl T.m_is_value T.F_is_value.kp T.b_is_value .nil pass0 (pa_cons (pe_ix ix_tup (pv 0) pe_int (fun _ _ => rfl)) pa_nil))))))))))), ?_⟩
  refine ⟨_, rfl, _, _, _, _, true, rfl, .ty _, .base (.tup h1), kit_ty (by decide +kernel), _, rfl, iteF ?_⟩
  refine ⟨_, rfl, t, _, rfl, .inr (SqT.of h1), _, _, rfl, rfl, _, rfl, iteDF (by show ¬ ((2 : Nat) : Int) < 2; decide) ?_⟩
  refine ⟨_, rfl, t, _, _, _, rfl, rfl, SqT.of h1, rfl, rfl, _, rfl, iteDT rfl ?_⟩
  refine ⟨_, rfl, t, _, rfl, .inr (SqT.of h1), rfl, _, rfl, iteDT (by show V.int ((2 : Nat) : Int) = .int 2; decide) ?_⟩
  exact ⟨_, rfl, t, _, _, _, rfl, rfl, SqT.of h1, rfl, 1, rfl, by decide, by decide, q⟩

end
end K34
namespace K34
open PySem L2 TL
section
variable {P : Program} {w : World} {K : PySem.W.Frag} {mg : Str → Option Value} {base : Heap} {A : Ads}
theorem ok_key_of (T : Txt K mg A) : FnOk P w K mg base CX0 1 A.key_of A.key_of_d ["change"] spKeyOf := by
  refine T.F_key_of.ok sc_key_of (fun vs H Q E h => ?_) (fun cdv A0 outer s H vs Q E hr h => ?_)
  · obtain ⟨t, x, y, rfl, h1, q⟩ := h
    rfl
  obtain ⟨t, x, y, rfl, h1, q⟩ := h
  refine ⟨_, (pss_cons (ps_if (PW.pt (pw_or (pt_not (pt_val (pe_callB call_isi (by rfl) T.z_isinstance (by decide +kernel) (pa_cons (pv 0) (pa_cons (pe_bltn (v := .ty "tuple") (by rfl) T.z_tuple (by decide +kernel) rfl) pa_nil))))) (pw_or (pt_cmpR op_ne (pe_callB call_lenK (by rfl) T.z_len (by decide +kernel) (pa_cons (pv 0) pa_nil)) pe_int (nomark _)) (pw_or1 (pt_cmpR op_notIn_seq (pe_ix ix_tup (pv 0) pe_int (fun _ _ => rfl)) (pe_glob (v := .ref A.CHANGES) (by rfl) T.m_CHANGES rfl) (by rfl))))))
    (pss_one ps_never)
    pss_nil)
   (pss_one (ps_ret (pe_tup (pa_cons (pe_ix ix_tup (pv 0) pe_int (fun _ _ => rfl)) (pa_cons (pe_ix ix_tup (pv 0) pe_int (fun _ _ => rfl)) pa_nil)))))), ?_⟩
  refine ⟨_, rfl, _, _, _, _, true, rfl, .ty _, .base (.tup h1), kit_ty (by decide +kernel), _, rfl, iteF ?_⟩
  refine ⟨_, rfl, t, _, rfl, .inr (SqT.of h1), rfl, _, rfl, iteNF (by show V.int ((3 : Nat) : Int) = .int 3; decide) ?_⟩
  refine ⟨_, rfl, t, _, _, _, rfl, rfl, SqT.of h1, rfl, ?_⟩
  refine ⟨A.CHANGES, _, rfl, .inr (T.q_CHANGES _), rfl, rfl, _, rfl, ?_⟩
  rw [show (inV (V.str "row") [V.str "start", V.str "row", V.str "goes"]) = true by decide +kernel]
  refine iteF ?_
  refine ⟨_, rfl, t, _, _, _, rfl, rfl, SqT.of h1, rfl, _, rfl, t, _, _, _, rfl, rfl, SqT.of h1, rfl, by show 2 ≤ sizeLine; decide, fun r hr => ?_⟩
  exact q r _ (same_new hr) upd_same

end
end K34
namespace K34
open PySem L2 TL
section
variable {P : Program} {w : World} {K : PySem.W.Frag} {mg : Str → Option Value} {base : Heap} {A : Ads}
theorem ok_Setting_init (T : Txt K mg A) : FnOk P w K mg base CX0 3 A.Setting_init A.Setting_init_d ["self", "program", "start", "bound", "forced"] (spSetI A.Setting) := by
  have G_is_given := ok_is_given (P := P) (w := w) (base := base) T
  have G_is_value := ok_is_value (P := P) (w := w) (base := base) T
  refine okD T.F_Setting_init sc_Setting_init (fun vs H Q E h => ?_) (fun cdv A0 outer s H vs Q E hr h => ?_)
  · obtain ⟨p, g, o, dx, pq, rfl, hp, hg, ho, q⟩ := h
    rfl
  obtain ⟨p, g, o, dx, pq, rfl, hp, hg, ho, q⟩ := h
  refine ⟨_, (pss_cons (ps_lock (ps_for PassesOwn.never rfl (pi_keys (pv 2)) (pg_name (i := 5) sc_Setting_init.nd rfl (Or.inl rfl))
    (pss_one (ps_if (pt_not (pt_val (pe_call G_is_given (hr.mono (by decide)) rfl T.m_is_given T.F_is_given.kp T.b_is_given .nil pass0 (pa_cons (pv 5) pa_nil))))
    (pss_one ps_never)
    pss_nil))))
   (pss_cons (ps_lock (ps_for PassesOwn.never rfl (KD.pi_valuesT (pv 2)) (pg_name (i := 6) sc_Setting_init.nd rfl (Or.inl rfl))
    (pss_one (ps_if (pt_not (pt_val (pe_call G_is_value (hr.mono (by decide)) rfl T.m_is_value T.F_is_value.kp T.b_is_value .nil pass0 (pa_cons (pv 6) pa_nil))))
    (pss_one ps_never)
    pss_nil))))
   (pss_cons (ps_fld (pv 0) (pv 1) rfl)
   (pss_cons (ps_fld (pv 0) (pv 3) rfl)
   (pss_cons (ps_fld (pv 0) (pe_callTy (KD.call_dictT hr.units) (by rfl) T.z_dict (by decide +kernel) (pa_cons (pv 2) pa_nil)) rfl)
   (pss_one (ps_fld (pv 0) (pe_ifExp (pt_cmpR op_isN (pv 4) pe_non (nomark _)) pe_dnewK (pe_callTy (KD.call_dictT hr.units) (by rfl) T.z_dict (by decide +kernel) (pa_cons (pv 4) pa_nil))) rfl))))))), ?_⟩
  refine ⟨g, .dT G1, hg, trivial, fun od => ⟨_, rfl, g, od, rfl, .inr ⟨G1, upd_same, for_it (walk_keysT (kvs := G1)) (fun i σ H' => ∃ z, σ = [some (.ref p), some pq, some (.ref g), some (.int 7), some (.ref o), z, none] ∧ H' = upd H g (.frz od (.dT G1))) ⟨none, rfl, rfl⟩ (fun i σ H' _ h => by obtain ⟨_, _, e⟩ := h; rw [e]; exact upd_same) ?_ ?_⟩⟩⟩
  · rintro i x σ H1 H2 hi ⟨z, rfl, rfl⟩ ⟨rfl, k, v, q1, hk, rfl, hq⟩
    obtain rfl : i = 0 := by have : i < 1 := hi; omega
    cases hk
    refine ⟨_, rfl, q1, rfl, hq, _, rfl, iteF ?_⟩
    exact ⟨_, rfl, rfl⟩
  rintro σ H1 ⟨z, rfl, rfl⟩
  refine ⟨upd_same, ?_⟩
  rw [upd_upd, upd_self hg]
  refine ⟨g, .dT G1, hg, trivial, fun od => ⟨_, rfl, g, od, G1, rfl, upd_same, for_it (KD.walk_valuesT (kvs := G1)) (fun i σ H' => ∃ z2, σ = [some (.ref p), some pq, some (.ref g), some (.int 7), some (.ref o), z, z2] ∧ H' = upd H g (.frz od (.dT G1))) ⟨none, rfl, rfl⟩ (fun i σ H' _ h => by obtain ⟨_, _, e⟩ := h; rw [e]; exact upd_same) ?_ ?_⟩⟩
  · rintro i x σ H1 H2 hi ⟨z2, rfl, rfl⟩ ⟨rfl, k, hk⟩
    obtain rfl : i = 0 := by have : i < 1 := hi; omega
    cases hk
    refine ⟨_, rfl, 5, rfl, by decide, by decide, _, rfl, iteF ?_⟩
    exact ⟨_, rfl, rfl⟩
  rintro σ H1 ⟨z2, rfl, rfl⟩
  refine ⟨upd_same, ?_⟩
  rw [upd_upd, upd_self hg]
  have npg : g ≠ p := ne_of hg hp (by intro z; cases z)
  have npo : o ≠ p := ne_of ho hp (by intro z; cases z)
  refine ⟨_, rfl, _, rfl, p, A.Setting, dx, [], rfl, hp, T.cl_Setting, T.n_Setting_program, (by show 0 < 1000; decide), ?_⟩
  refine ⟨_, rfl, _, rfl, p, A.Setting, dx, _, rfl, upd_same, T.cl_Setting, T.n_Setting_bound, (by show 1 < 1000; decide), ?_⟩
  rw [upd_upd]
  generalize hHa : upd H p _ = Ha
  have kA : KeepX p H Ha := by rw [← hHa]; exact keepX_upd
  have pA : Ha p = some (.ins A.Setting dx [("program", pq), ("bound", .int 7)]) := by rw [← hHa]; exact upd_same
  clear hHa
  refine ⟨_, rfl, g, G1, rfl, .inl (kA _ _ npg hg), by decide, fun g2 hg2 => ?_⟩
  have sB := same_new (o := .dT G1) hg2
  have ng2 : g2 ≠ p := fun e => by rw [e, pA] at hg2; cases hg2
  have gB := upd_same (H := Ha) (a := g2) (o := .dT G1)
  generalize upd Ha g2 (.dT G1) = Hb at sB gB ⊢
  refine ⟨_, rfl, p, A.Setting, dx, _, rfl, sB _ _ pA, T.cl_Setting, T.n_Setting_given, (by show 2 < 1000; decide), ?_⟩
  have kC : KeepX p Hb (upd Hb p (.ins A.Setting dx [("program", pq), ("bound", .int 7), ("given", .ref g2)])) := keepX_upd
  have pC := upd_same (H := Hb) (a := p) (o := .ins A.Setting dx [("program", pq), ("bound", .int 7), ("given", .ref g2)])
  have kAC := (kA.trans (keepX_of sB)).trans kC
  have gC := kC _ _ ng2 gB
  generalize hHc : upd Hb p (.ins A.Setting dx [("program", pq), ("bound", .int 7), ("given", .ref g2)]) = Hc at kC pC kAC gC
  have goal2 : ∀ o2, Hc o2 = none → Q .non (upd (upd Hc o2 (.dT O1)) p (.ins A.Setting dx [("program", pq), ("bound", .int 7), ("given", .ref g2), ("goings", .ref o2)])) := fun o2 ho2 => by
    have sD := same_new (o := .dT O1) ho2
    have no2 : o2 ≠ p := fun e => by rw [e, pC] at ho2; cases ho2
    refine q _ ⟨p, dx, g2, o2, rfl, upd_same, ?_, ?_⟩ ((kAC.trans (keepX_of sD)).trans keepX_upd)
    · rw [upd_ne ng2]; exact sD _ _ gC
    · rw [upd_ne no2]; exact upd_same
  rw [← hHc] at goal2 pC kAC
  refine ⟨_, rfl, rfl, _, rfl, iteDF (fun h => by cases h) ?_⟩
  refine ⟨_, rfl, o, O1, rfl, .inl (kAC _ _ npo ho), by decide, fun o2 ho2 => ?_⟩
  refine ⟨_, rfl, p, A.Setting, dx, _, rfl, (same_new (o := .dT O1) ho2) _ _ pC, T.cl_Setting, T.n_Setting_goings, (by show 3 < 1000; decide), ?_⟩
  exact goal2 o2 ho2

end
end K34
namespace K34
open PySem L2 TL
section
variable {P : Program} {w : World} {K : PySem.W.Frag} {mg : Str → Option Value} {base : Heap} {A : Ads}
theorem ok_Setting_start (T : Txt K mg A) : FnOk P w K mg base CX0 1 A.Setting_start A.Setting_start_d ["self"] (spSetS A.Setting) := by
  refine T.F_Setting_start.ok sc_Setting_start (fun vs H Q E h => ?_) (fun cdv A0 outer s H vs Q E hr h => ?_)
  · obtain ⟨v, pq, rfl, hs, q⟩ := h
    rfl
  obtain ⟨v, pq, rfl, hs, q⟩ := h
  refine ⟨_, (pss_one (ps_ret (pe_callTy (KD.call_dictT hr.units) (by rfl) T.z_dict (by decide +kernel) (pa_cons (pe_fld (pv 0) rfl) pa_nil)))), ?_⟩
  obtain ⟨p, dx, g, o, rfl, hp, hg, ho⟩ := hs
  exact ⟨_, rfl, p, A.Setting, dx, _, _, rfl, hp, T.cl_Setting, T.n_Setting_given, rfl, g, G1, rfl, .inl hg, by decide, q⟩

end
end K34
namespace K34
open PySem L2 TL
section
variable {P : Program} {w : World} {K : PySem.W.Frag} {mg : Str → Option Value} {base : Heap} {A : Ads}
theorem ok_Setting_forced (T : Txt K mg A) : FnOk P w K mg base CX0 1 A.Setting_forced A.Setting_forced_d ["self"] (spSetF A.Setting) := by
  refine T.F_Setting_forced.ok sc_Setting_forced (fun vs H Q E h => ?_) (fun cdv A0 outer s H vs Q E hr h => ?_)
  · obtain ⟨v, pq, rfl, hs, q⟩ := h
    rfl
  obtain ⟨v, pq, rfl, hs, q⟩ := h
  refine ⟨_, (pss_one (ps_ret (pe_callTy (KD.call_dictT hr.units) (by rfl) T.z_dict (by decide +kernel) (pa_cons (pe_fld (pv 0) rfl) pa_nil)))), ?_⟩
  obtain ⟨p, dx, g, o, rfl, hp, hg, ho⟩ := hs
  exact ⟨_, rfl, p, A.Setting, dx, _, _, rfl, hp, T.cl_Setting, T.n_Setting_goings, rfl, o, O1, rfl, .inl ho, by decide, q⟩

end
end K34
namespace K34
open PySem L2 TL
section
variable {P : Program} {w : World} {K : PySem.W.Frag} {mg : Str → Option Value} {base : Heap} {A : Ads}
theorem ok_Setting_given_otherwise (T : Txt K mg A) : FnOk P w K mg base CX0 1 A.Setting_given_otherwise A.Setting_given_otherwise_d ["self", "place", "value"] (fun _ _ _ _ => False) := fn_none fun _ _ _ _ h => h

end
end K34
namespace K34
open PySem L2 TL
section
variable {P : Program} {w : World} {K : PySem.W.Frag} {mg : Str → Option Value} {base : Heap} {A : Ads}
theorem ok_Setting_going_otherwise (T : Txt K mg A) : FnOk P w K mg base CX0 1 A.Setting_going_otherwise A.Setting_going_otherwise_d ["self", "address", "truth"] (fun _ _ _ _ => False) := fn_none fun _ _ _ _ h => h

end
end K34
namespace K34
open PySem L2 TL
section
variable {P : Program} {w : World} {K : PySem.W.Frag} {mg : Str → Option Value} {base : Heap} {A : Ads}
theorem ok_Setting_changed (T : Txt K mg A) : FnOk P w K mg base (L2.CX P w) 34 A.Setting_changed A.Setting_changed_d ["self", "change"] (spChange34 K A.rc A.ec A.Program A.NoChange A.Setting) := by
  have G_key_of := ok_key_of (P := P) (w := w) (base := base) T
  have G_Setting_given_otherwise := ok_Setting_given_otherwise (P := P) (w := w) (base := base) T
  have G_Setting_init := ok_Setting_init (P := P) (w := w) (base := base) T
  have G_Program_with_line := ok_Program_with_line (P := P) (w := w) (base := base) T
  have G_Setting_going_otherwise := ok_Setting_going_otherwise (P := P) (w := w) (base := base) T
  refine T.F_Setting_changed.okX sc_Setting_changed (fun vs H Q E h => ?_) (fun cdv A0 outer s H vs Q E hr h => ?_)
  · obtain ⟨v, pq, t, n, line, ts, num, rfl, hs, ht, hP, hrd, hne, hl, hg, hln, q1, q2⟩ := h
    rfl
  obtain ⟨v, pq, t, n, line, ts, num, rfl, hs, ht, hP, hrd, hne, hl, hg, hln, q1, q2⟩ := h
  refine ⟨_, (pss_cons (ps_asg (pe_call G_key_of (hr.mono (by decide)) rfl T.m_key_of T.F_key_of.kp T.b_key_of .nil pass0 (pa_cons (pv 1) pa_nil)) (pg_tup (by rfl) (pgs_cons (pg_name (i := 2) sc_Setting_changed.nd rfl (Or.inl rfl)) (pgs_cons (pg_name (i := 3) sc_Setting_changed.nd rfl (Or.inl rfl)) pgs_nil))))
   (pss_cons (ps_if (pt_cmpR op_eq (pv 2) pe_str (nomark _))
    (pss_one (ps_ret (pe_meth (pv 0) T.cl_Setting T.me_Setting_given_otherwise G_Setting_given_otherwise (hr.mono (by decide)) T.b_Setting_given_otherwise .nil pass0 (pa_cons (pv 3) (pa_cons (pe_ix ix_tup (pv 1) pe_int (fun _ _ => rfl)) pa_nil)))))
    pss_nil)
   (pss_cons (ps_if (pt_cmpR op_eq (pv 2) pe_str (nomark _))
    (pss_one (ps_ret (pe_make T.k_Setting G_Setting_init (hr.mono (by decide)) rfl T.m_Setting T.b_Setting_init .nil pass0 (pa_cons (pe_meth (pe_fld (pv 0) rfl) T.cl_Program T.me_Program_with_line G_Program_with_line (hr.mono (by decide)) T.b_Program_with_line .nil (passes_call (takes_of rfl rfl rfl rfl) (fun _ _ _ _ h => h)) (pa_cons (pv 3) (pa_cons (pe_ix ix_tup (pv 1) pe_int (fun _ _ => rfl)) pa_nil))) (pa_cons (pe_fld (pv 0) rfl) (pa_cons (pe_fld (pv 0) rfl) (pa_cons (pe_fld (pv 0) rfl) pa_nil)))))))
    pss_nil)
   (pss_one (ps_ret (pe_meth (pv 0) T.cl_Setting T.me_Setting_going_otherwise G_Setting_going_otherwise (hr.mono (by decide)) T.b_Setting_going_otherwise .nil pass0 (pa_cons (pv 3) (pa_cons (pe_ix ix_tup (pv 1) pe_int (fun _ _ => rfl)) pa_nil)))))))), ?_⟩
  obtain ⟨p, dx, g, o, rfl, hp, hgg, ho⟩ := id hs
  obtain ⟨pp, dx2, la, ld, m, f, kvs, rfl, hpp, hS2, hd2, hnum⟩ := id hP
  refine ⟨_, rfl, t, .int n, .str line, rfl, ht, fun kq H1 s1 hk => ?_⟩
  refine ⟨kq, _, rfl, SqT.of hk, rfl, _, _, rfl, _, _, rfl, rfl, ?_⟩
  refine ⟨_, rfl, rfl, _, rfl, iteDF (fun h => by cases h) ?_⟩
  refine ⟨_, rfl, rfl, _, rfl, iteDT rfl ?_⟩
  refine ⟨_, rfl, p, A.Setting, dx, _, _, rfl, s1 _ _ hp, T.cl_Setting, T.n_Setting_program, rfl, pp, dx2, _, rfl, s1 _ _ hpp, rfl, _, rfl, _, rfl, t, _, _, _, rfl, rfl, SqT.of (s1 _ _ ht), rfl, ?_⟩
  refine ⟨_, .str line, n, ts, num, rfl, hP.same s1, hrd, hne, hl, hg, .inl ⟨line, rfl, hln, fun e v2 num2 H2 s2 hP2 hr2 => ?_, fun e H2 s2 => q2 e H2 (s1.trans s2)⟩⟩
  have s12 := s1.trans s2
  refine ⟨_, rfl, p, A.Setting, dx, _, _, rfl, s12 _ _ hp, T.cl_Setting, T.n_Setting_given, rfl, _, rfl, p, A.Setting, dx, _, _, rfl, s12 _ _ hp, T.cl_Setting, T.n_Setting_bound, rfl, _, rfl, p, A.Setting, dx, _, _, rfl, s12 _ _ hp, T.cl_Setting, T.n_Setting_goings, rfl, fun x dx3 hx hd3 nx => ?_⟩
  have mk : ∀ b u, H2 b = some u → upd (upd H2 dx3 (.own x)) x (.ins A.Setting dx3 []) b = some u := fun b u e => by
    rw [upd_ne (ne_of_none e hx), upd_ne (ne_of_none e hd3)]; exact e
  refine ⟨x, g, o, dx3, v2, rfl, upd_same, mk _ _ (s12 _ _ hgg), mk _ _ (s12 _ _ ho), fun H3 hs3 k3 => ⟨rfl, ?_⟩⟩
  have s3 : Same H2 H3 := fun b u e => k3 _ _ (ne_of_none e hx) (mk b u e)
  exact q1 e _ _ _ H3 (s12.trans s3) hs3 (hP2.same s3) hr2

end
end K34
namespace K34
open PySem L2 TL
section
variable {P : Program} {w : World} {K : PySem.W.Frag} {mg : Str → Option Value} {base : Heap} {A : Ads}
theorem ok_l_cell_at (T : Txt K mg A) : FnOk P w K mg base CX0 1 A.l_cell_at A.l_cell_at_d ["_law_script", "_law_k"] (spCell K) := by
  refine T.F_l_cell_at.ok sc_l_cell_at (fun vs H Q E h => ?_) (fun cdv A0 outer s H vs Q E hr h => ?_)
  · obtain ⟨a, ns, k, rfl, hS, hk, q⟩ := h
    rfl
  obtain ⟨a, ns, k, rfl, hS, hk, q⟩ := h
  refine ⟨_, (pss_cons (ps_if (pt_cmpR op_lt (pv 1) (pe_callB call_lenK (by rfl) T.z_len (by decide +kernel) (pa_cons (pv 0) pa_nil)) (nomark _))
    (pss_one (ps_ret (pe_ix ix_list (pv 0) (pv 1) (fun _ _ => rfl))))
    pss_nil)
   (pss_one (ps_ret pe_int))), ?_⟩
  refine ⟨_, rfl, _, rfl, a, _, rfl, .inl hS, _, _, rfl, rfl, _, rfl, ?_⟩
  refine iteD2 (fun c => ?_) (fun c => ?_)
  · obtain ⟨v, hv⟩ := at_int (ns := ns) hk (by rw [List.length_map] at c; exact c)
    exact ⟨_, rfl, _, rfl, a, _, _, _, rfl, rfl, hS, hv, q v⟩
  · exact q 0

end
end K34
namespace K34
open PySem L2 TL
section
variable {P : Program} {w : World} {K : PySem.W.Frag} {mg : Str → Option Value} {base : Heap} {A : Ads}
theorem ok_l_draw (T : Txt K mg A) : FnOk P w K mg base CX0 1 A.l_draw A.l_draw_d ["_law_cell", "_law_k"] spDraw34 := by
  refine T.F_l_draw.ok sc_l_draw (fun vs H Q E h => ?_) (fun cdv A0 outer s H vs Q E hr h => ?_)
  · obtain ⟨c, k, rfl, hk, q⟩ := h
    rfl
  obtain ⟨c, k, rfl, hk, q⟩ := h
  refine ⟨_, (pss_cons (ps_ifC (PW.pt (pw_and (pt_cmpR op_ge (pv 0) (pe_op op_pow pe_int pe_int) (nomark _)) (pw_and1 (pt_cmpR op_gt (pe_op op_shr (pv 0) (pe_op op_add pe_int (pe_op op_mul pe_int (pv 1)))) pe_int (nomark _)))))
    (pss_one (ps_ret (pe_op op_mod (pe_op op_shr (pv 0) (pe_op op_add pe_int (pe_op op_mul pe_int (pv 1)))) pe_int)))
    pss_nil)
   (pss_cons (ps_set (i := 2) sc_l_draw.nd rfl (Or.inl rfl) (pe_op op_mod (pe_op op_mul (pe_op op_mod (pe_op op_add (pe_op op_add (pv 0) (pe_op op_mul pe_int (pv 1))) pe_int) pe_int) pe_int) pe_int))
   (pss_cons (ps_set (i := 2) sc_l_draw.nd rfl (Or.inl rfl) (pe_op op_mod (pe_op op_mul (pv 2) (pe_op op_add (pe_op op_fdiv (pv 2) pe_int) pe_int)) pe_int))
   (pss_one (ps_ret (pe_op op_mod (pe_op op_mul (pv 2) (pe_op op_add (pe_op op_fdiv (pv 2) pe_int) pe_int)) pe_int)))))), ?_⟩
  refine ⟨decide (1000000000000000000 ≤ c ∧ 0 < c / 2 ^ (60 + 20 * k).toNat), H, fun Z hZ => ?_, ?_⟩
  · refine ⟨_, rfl, _, _, rfl, rfl, ⟨by decide, by decide, by decide⟩, _, _, rfl, rfl, _, rfl, iteD2 (fun c1 => ?_) (fun c1 => zFalse hZ fun h => c1 h.1)⟩
    refine ⟨_, rfl, _, rfl, _, _, rfl, rfl, .inl ⟨by decide, by decide⟩, _, _, rfl, rfl, _, _, rfl, rfl, by omega, _, _, rfl, rfl, _, rfl, ?_⟩
    by_cases c2 : 0 < c / 2 ^ (60 + 20 * k).toNat
    · rw [decide_eq_true c2]; exact zTrue hZ ⟨c1, c2⟩
    · rw [decide_eq_false c2]; exact zFalse hZ fun h => c2 h.2
  refine iteD2 (fun _ => ?_) (fun _ => ?_)
  · refine ⟨_, rfl, _, rfl, _, _, rfl, rfl, .inl ⟨by decide, by decide⟩, _, _, rfl, rfl, _, _, rfl, rfl, by omega, _, _, rfl, rfl, by show (0 : Int) < 1048576; decide, ?_⟩
    exact q _ (Int.emod_nonneg _ (by decide))
  · walk_at "rd"
    exact q _ (Int.emod_nonneg _ (by decide))

end
end K34
namespace K34
open PySem L2 TL
section
variable {P : Program} {w : World} {K : PySem.W.Frag} {mg : Str → Option Value} {base : Heap} {A : Ads}
theorem ok_l_take (T : Txt K mg A) : FnOk P w K mg base CX0 2 A.l_take A.l_take_d ["_law_tape", "_law_many"] spTake := by
  have G_l_draw := ok_l_draw (P := P) (w := w) (base := base) T
  refine T.F_l_take.ok sc_l_take (fun vs H Q E h => ?_) (fun cdv A0 outer s H vs Q E hr h => ?_)
  · obtain ⟨p, l, m, rfl, W, hm, q⟩ := h
    rfl
  obtain ⟨p, l, m, rfl, W, hm, q⟩ := h
  refine ⟨_, (pss_cons (ps_asg (pe_op op_add (pe_ix ix_list (pv 0) pe_int (fun _ _ => rfl)) pe_int) (pg_sub (pv 0) pe_int set_list))
   (pss_one (ps_ret (pe_op op_modN (pe_call G_l_draw (hr.mono (by decide)) rfl T.m_l_draw T.F_l_draw.kp T.b_l_draw .nil pass0 (pa_cons (pe_ix ix_list (pv 0) pe_int (fun _ _ => rfl)) (pa_cons (pe_op op_sub (pe_ix ix_list (pv 0) pe_int (fun _ _ => rfl)) pe_int) pa_nil))) (pv 1))))), ?_⟩
  obtain ⟨c, k, hk, h⟩ := W
  have hm0 : m ≠ 0 := by omega
  refine ⟨_, rfl, p, _, _, _, rfl, rfl, SqL.of h, rfl, _, _, rfl, rfl, _, rfl, p, _, _, 1, rfl, rfl, h, rfl, ?_⟩
  refine ⟨_, rfl, p, _, _, _, rfl, rfl, SqL.of upd_same, rfl, _, rfl, p, _, _, _, rfl, rfl, SqL.of upd_same, rfl, _, _, rfl, rfl, ?_⟩
  refine ⟨c, k + 1 - 1, rfl, by omega, fun n hn => ?_⟩
  refine ⟨_, rfl, _, _, rfl, rfl, hm0, ?_⟩
  exact q _ _ (Int.fmod_nonneg_of_pos _ hm) (Int.fmod_lt_of_pos _ hm) keepX_upd ⟨c, k + 1, by omega, upd_same⟩

end
end K34
namespace K34
open PySem L2 TL
section
variable {P : Program} {w : World} {K : PySem.W.Frag} {mg : Str → Option Value} {base : Heap} {A : Ads}
theorem ok_l_expr (T : Txt K mg A) : ∀ n : Nat, FnOk P w K mg base CX0 (n + 9) A.l_expr A.l_expr_d ["_law_tape", "_law_deep", "_law_names"] (spExpr34 n)
| 0 => fn_none fun vs H Q E h => by
    obtain ⟨_, _, _, _, d, _, h1, _⟩ := h; omega
| n + 1 => by
  have G_l_expr := ok_l_expr T n
  have G_l_take := ok_l_take (P := P) (w := w) (base := base) T
  refine T.F_l_expr.ok sc_l_expr (fun vs H Q E h => ?_) (fun cdv A0 outer s H vs Q E hr h => ?_)
  · obtain ⟨p, a, l, ns, d, rfl, hd, hd3, W, hN, hO, q⟩ := h
    rfl
  obtain ⟨p, a, l, ns, d, rfl, hd, hd3, W, hN, hO, q⟩ := h
  refine ⟨_, (pss_cons (ps_set (i := 3) sc_l_expr.nd rfl (Or.inl rfl) (pe_call G_l_take (hr.mono (by omega)) rfl T.m_l_take T.F_l_take.kp T.b_l_take .nil pass0 (pa_cons (pv 0) (pa_cons pe_int pa_nil))))
   (pss_cons (ps_ifC (PW.pt (pw_and (pt_cmpR op_gt (pv 1) pe_int (nomark _)) (pw_and1 (pt_cmpR op_eq (pv 3) pe_int (nomark _)))))
    (pss_one (ps_ret (pe_op op_add_str pe_str (pe_call G_l_expr (hr.mono (by omega)) rfl T.m_l_expr T.F_l_expr.kp T.b_l_expr .nil pass0 (pa_cons (pv 0) (pa_cons (pe_op op_sub (pv 1) pe_int) (pa_cons (pv 2) pa_nil)))))))
    pss_nil)
   (pss_cons (ps_ifC (PW.pt (pw_and (pt_cmpR op_gt (pv 1) pe_int (nomark _)) (pw_and1 (pt_cmpR op_lt (pv 3) pe_int (nomark _)))))
    (pss_cons (ps_set (i := 4) sc_l_expr.nd rfl (Or.inl rfl) (pe_ix ix_list (pe_lst (pa_cons pe_str (pa_cons pe_str (pa_cons pe_str (pa_cons pe_str (pa_cons pe_str (pa_cons pe_str (pa_cons pe_str pa_nil)))))))) (pe_call G_l_take (hr.mono (by omega)) rfl T.m_l_take T.F_l_take.kp T.b_l_take .nil pass0 (pa_cons (pv 0) (pa_cons pe_int pa_nil))) (fun _ _ => rfl)))
   (pss_cons (ps_set (i := 5) sc_l_expr.nd rfl (Or.inl rfl) (pe_call G_l_expr (hr.mono (by omega)) rfl T.m_l_expr T.F_l_expr.kp T.b_l_expr .nil pass0 (pa_cons (pv 0) (pa_cons (pe_op op_sub (pv 1) pe_int) (pa_cons (pv 2) pa_nil)))))
   (pss_one (ps_ret (pe_op op_add_str (pe_op op_add_str (pe_op op_add_str (pe_op op_add_str (pv 4) pe_str) (pv 5)) pe_str) (pe_call G_l_expr (hr.mono (by omega)) rfl T.m_l_expr T.F_l_expr.kp T.b_l_expr .nil pass0 (pa_cons (pv 0) (pa_cons (pe_op op_sub (pv 1) pe_int) (pa_cons (pv 2) pa_nil)))))))))
    pss_nil)
   (pss_cons (ps_if (pt_cmpR op_lt (pv 3) pe_int (nomark _))
    (pss_one (ps_ret (pe_ix ix_list (pv 2) (pe_call G_l_take (hr.mono (by omega)) rfl T.m_l_take T.F_l_take.kp T.b_l_take .nil pass0 (pa_cons (pv 0) (pa_cons (pe_callB call_lenK (by rfl) T.z_len (by decide +kernel) (pa_cons (pv 2) pa_nil)) pa_nil))) (fun _ _ => rfl))))
    pss_nil)
   (pss_one (ps_ret (pe_callTy call_str_int (by rfl) T.z_str (by decide +kernel) (pa_cons (pe_ix ix_list (pe_lst (pa_cons pe_int (pa_cons pe_int (pa_cons pe_int (pa_cons pe_int (pa_cons (pe_call G_l_take (hr.mono (by omega)) rfl T.m_l_take T.F_l_take.kp T.b_l_take .nil pass0 (pa_cons (pv 0) (pa_cons pe_int pa_nil))) (pa_cons (pe_call G_l_take (hr.mono (by omega)) rfl T.m_l_take T.F_l_take.kp T.b_l_take .nil pass0 (pa_cons (pv 0) (pa_cons pe_int pa_nil))) pa_nil))))))) (pe_call G_l_take (hr.mono (by omega)) rfl T.m_l_take T.F_l_take.kp T.b_l_take .nil pass0 (pa_cons (pv 0) (pa_cons pe_int pa_nil))) (fun _ _ => rfl)) pa_nil)))))))), ?_⟩
  refine ⟨_, rfl, p, l, 8, rfl, W, by decide, fun way H1 w0 w1 k1 W1 => ?_⟩
  have hN1 := hN.keep k1 W
  refine ⟨decide (0 < d ∧ way = 0), H1, fun Z hZ => ?_, ?_⟩
  · refine ⟨_, rfl, _, _, rfl, rfl, _, rfl, iteD2 (fun c1 => ?_) (fun c1 => zFalse hZ fun h => c1 (by omega))⟩
    refine ⟨_, rfl, rfl, _, rfl, ?_⟩
    by_cases c2 : V.int way = V.int 0
    · rw [decide_eq_true c2]; exact zTrue hZ ⟨by omega, V.int.inj c2⟩
    · rw [decide_eq_false c2]; exact zFalse hZ fun h => c2 (congrArg V.int h.2)
  refine iteD2 (fun c => ?_) (fun _ => ?_)
  · obtain ⟨d, rfl⟩ : ∃ d', d = d' + 1 := ⟨d - 1, by omega⟩
    refine ⟨_, rfl, _, rfl, _, _, rfl, rfl, _, rfl, p, a, l, ns, d, dec1 _ _ d, by omega, by omega, W1, hN1, hO, fun e H2 hw1 hd1 hp1 k2 W2 => ?_⟩
    have hx := (exok34 hw1 hd1 hp1 (by omega)).2
    refine ⟨_, _, rfl, rfl, (by show _ ≤ 16777216; simp only [app_len, ln0, ln1, ln2, ln3, ln4, ln5, ln6, ln7, ln8, ln9, ln10, ln11, ln12, ln13, ln14, ln15, ln16, ln17, ln18, ln19]; omega), ?_⟩
    rw [txt_cell]
    exact q (.cell e) H2 hw1 (by show e.depth + 1 ≤ _; omega) (by show 1 + e.parts + 1 ≤ _; rw [Nat.pow_succ]; omega) (k1.trans k2) W2
  refine ⟨decide (0 < d ∧ way < 4), H1, fun Z hZ => ?_, ?_⟩
  · refine ⟨_, rfl, _, _, rfl, rfl, _, rfl, iteD2 (fun c1 => ?_) (fun c1 => zFalse hZ fun h => c1 (by omega))⟩
    refine ⟨_, rfl, _, _, rfl, rfl, _, rfl, ?_⟩
    by_cases c2 : way < 4
    · rw [decide_eq_true c2]; exact zTrue hZ ⟨by omega, c2⟩
    · rw [decide_eq_false c2]; exact zFalse hZ fun h => c2 h.2
  refine iteD2 (fun c => ?_) (fun _ => ?_)
  · obtain ⟨d, rfl⟩ : ∃ d', d = d' + 1 := ⟨d - 1, by omega⟩
    refine ⟨by show 7 ≤ sizeLine; decide, fun lw hlw => ?_⟩
    have s0 := same_new (o := .lst (PAIRW.map V.str)) hlw
    refine ⟨_, rfl, p, l, 7, rfl, W1.same s0, by decide, fun z H2 z0 z1 k2 W2 => ?_⟩
    have npl := W1.fresh hlw
    have hl2 := k2 _ _ npl (upd_same (H := H1) (o := .lst (PAIRW.map V.str)))
    obtain ⟨wd, hs, es⟩ := at_strs (ss := PAIRW) z0 z1
    refine ⟨lw, PAIRW.map V.str, _, _, rfl, rfl, SqL.of hl2, es, ?_⟩
    have k12 := (k1.trans (keepX_of s0)).trans k2
    have hN2 := hN.keep k12 W
    have hwl := pairw_len wd hs
    refine ⟨_, rfl, _, rfl, _, _, rfl, rfl, _, rfl, p, a, l, ns, d, dec1 _ _ d, by omega, by omega, W2, hN2, hO, fun e H3 hw1 hd1 hp1 k3 W3 => ?_⟩
    have hx := (exok34 hw1 hd1 hp1 (by omega)).2
    have k13 := k12.trans k3
    have hN3 := hN.keep k13 W
    refine ⟨_, rfl, _, _, rfl, rfl, (by show _ ≤ 16777216; simp only [app_len, ln0, ln1, ln2, ln3, ln4, ln5, ln6, ln7, ln8, ln9, ln10, ln11, ln12, ln13, ln14, ln15, ln16, ln17, ln18, ln19]; omega), _, rfl, _, _, rfl, rfl, (by show _ ≤ 16777216; simp only [app_len, ln0, ln1, ln2, ln3, ln4, ln5, ln6, ln7, ln8, ln9, ln10, ln11, ln12, ln13, ln14, ln15, ln16, ln17, ln18, ln19]; omega), _, _, rfl, rfl, (by show _ ≤ 16777216; simp only [app_len, ln0, ln1, ln2, ln3, ln4, ln5, ln6, ln7, ln8, ln9, ln10, ln11, ln12, ln13, ln14, ln15, ln16, ln17, ln18, ln19]; omega), _, rfl, _, rfl, _, _, rfl, rfl, _, rfl, p, a, l, ns, d, dec1 _ _ d, by omega, by omega, W3, hN3, hO, fun e2 H4 hw2 hd2 hp2 k4 W4 => ?_⟩
    have hy := (exok34 hw2 hd2 hp2 (by omega)).2
    refine ⟨_, _, rfl, rfl, (by show _ ≤ 16777216; simp only [app_len, ln0, ln1, ln2, ln3, ln4, ln5, ln6, ln7, ln8, ln9, ln10, ln11, ln12, ln13, ln14, ln15, ln16, ln17, ln18, ln19]; omega), ?_⟩
    rw [txt_two]
    exact q (.two wd e e2) H4 ⟨hs, hw1, hw2⟩ (by show max e.depth e2.depth + 1 ≤ _; omega) (by show 1 + e.parts + e2.parts + 1 ≤ _; rw [Nat.pow_succ]; omega) (k13.trans k4) W4
  refine ⟨_, rfl, _, _, rfl, rfl, _, rfl, iteD2 (fun _ => ?_) (fun _ => ?_)⟩
  · have h4 : (ns.map V.str).length = 4 := by rw [List.length_map]; exact hO.1
    refine ⟨_, rfl, _, rfl, _, rfl, a, _, rfl, .inl (SqL.of hN1), p, l, _, rfl, W1, by rw [h4]; decide, fun z H2 z0 z1 k2 W2 => ?_⟩
    rw [List.length_map] at z1
    obtain ⟨t, htm, es⟩ := at_strs (ss := ns) z0 z1
    refine ⟨a, _, _, _, rfl, rfl, SqL.of (hN1.keep k2 W1), es, ?_⟩
    exact q (.box t) H2 (hO.2.1 t htm) (by show 1 ≤ _; omega) (pow2 d) (k1.trans k2) W2
  · refine ⟨_, rfl, p, l, 20, rfl, W1, by decide, fun x H2 x0 x1 k2 W2 => ?_⟩
    refine ⟨_, rfl, p, l, 1000000, rfl, W2, by decide, fun y H3 y0 y1 k3 W3 => ?_⟩
    refine ⟨by show 6 ≤ sizeLine; decide, fun lv hlv => ?_⟩
    have s0 := same_new (o := .lst [V.int 0, .int 1, .int 2, .int 3, .int x, .int y]) hlv
    have npl := W3.fresh hlv
    refine ⟨_, rfl, p, l, 6, rfl, W3.same s0, by decide, fun z H4 z0 z1 k4 W4 => ?_⟩
    obtain ⟨v, hv, v0, v1⟩ := pick6 (x := x) (y := y) ⟨x0, by omega⟩ ⟨y0, y1⟩ z0 z1
    refine ⟨lv, _, _, _, rfl, rfl, SqL.of (k4 _ _ npl upd_same), hv, v, rfl, log_small (by omega), ?_⟩
    exact q (.num v) H4 ⟨v0, v1⟩ (by show 1 ≤ _; omega) (pow2 d) (k1.trans (k2.trans (k3.trans ((keepX_of s0).trans k4)))) W4

end
end K34
namespace K34
open PySem L2 TL
section
variable {P : Program} {w : World} {K : PySem.W.Frag} {mg : Str → Option Value} {base : Heap} {A : Ads}
theorem ok_l_simple (T : Txt K mg A) : FnOk P w K mg base CX0 14 A.l_simple A.l_simple_d ["_law_tape", "_law_names"] spSimple34 := by
  have G_l_take := ok_l_take (P := P) (w := w) (base := base) T
  have G_l_expr := ok_l_expr (P := P) (w := w) (base := base) T 4
  refine T.F_l_simple.ok sc_l_simple (fun vs H Q E h => ?_) (fun cdv A0 outer s H vs Q E hr h => ?_)
  · obtain ⟨p, a, l, ns, rfl, W, hN, hO, q⟩ := h
    rfl
  obtain ⟨p, a, l, ns, rfl, W, hN, hO, q⟩ := h
  refine ⟨_, (pss_cons (ps_set (i := 2) sc_l_simple.nd rfl (Or.inl rfl) (pe_call G_l_take (hr.mono (by decide)) rfl T.m_l_take T.F_l_take.kp T.b_l_take .nil pass0 (pa_cons (pv 0) (pa_cons pe_int pa_nil))))
   (pss_cons (ps_set (i := 3) sc_l_simple.nd rfl (Or.inl rfl) (pe_ix ix_list (pv 1) (pe_call G_l_take (hr.mono (by decide)) rfl T.m_l_take T.F_l_take.kp T.b_l_take .nil pass0 (pa_cons (pv 0) (pa_cons (pe_callB call_lenK (by rfl) T.z_len (by decide +kernel) (pa_cons (pv 1) pa_nil)) pa_nil))) (fun _ _ => rfl)))
   (pss_cons (ps_if (pt_cmpR op_eq (pv 2) pe_int (nomark _))
    (pss_one (ps_ret pe_str))
    pss_nil)
   (pss_cons (ps_if (pt_cmpR op_lt (pv 2) pe_int (nomark _))
    (pss_one (ps_ret (pe_op op_add_str (pe_op op_add_str (pe_op op_add_str pe_str (pe_call G_l_expr (hr.mono (by decide)) rfl T.m_l_expr T.F_l_expr.kp T.b_l_expr .nil pass0 (pa_cons (pv 0) (pa_cons pe_int (pa_cons (pv 1) pa_nil))))) pe_str) (pe_call G_l_expr (hr.mono (by decide)) rfl T.m_l_expr T.F_l_expr.kp T.b_l_expr .nil pass0 (pa_cons (pv 0) (pa_cons pe_int (pa_cons (pv 1) pa_nil)))))))
    pss_nil)
   (pss_cons (ps_if (pt_cmpR op_eq (pv 2) pe_int (nomark _))
    (pss_one (ps_ret (pe_op op_add_str (pe_op op_add_str (pe_op op_add_str (pe_op op_add_str (pe_op op_add_str pe_str (pv 3)) pe_str) (pe_ix ix_list (pe_lst (pa_cons pe_str (pa_cons pe_str pa_nil))) (pe_call G_l_take (hr.mono (by decide)) rfl T.m_l_take T.F_l_take.kp T.b_l_take .nil pass0 (pa_cons (pv 0) (pa_cons pe_int pa_nil))) (fun _ _ => rfl))) pe_str) (pe_call G_l_expr (hr.mono (by decide)) rfl T.m_l_expr T.F_l_expr.kp T.b_l_expr .nil pass0 (pa_cons (pv 0) (pa_cons pe_int (pa_cons (pv 1) pa_nil)))))))
    pss_nil)
   (pss_cons (ps_if (pt_cmpR op_eq (pv 2) pe_int (nomark _))
    (pss_one (ps_ret (pe_op op_add_str (pe_op op_add_str (pe_op op_add_str pe_str (pv 3)) pe_str) (pe_ix ix_list (pe_lst (pa_cons pe_str (pa_cons pe_str pa_nil))) (pe_call G_l_take (hr.mono (by decide)) rfl T.m_l_take T.F_l_take.kp T.b_l_take .nil pass0 (pa_cons (pv 0) (pa_cons pe_int pa_nil))) (fun _ _ => rfl)))))
    pss_nil)
   (pss_cons (ps_if (pt_cmpR op_eq (pv 2) pe_int (nomark _))
    (pss_one (ps_ret (pe_op op_add_str pe_str (pe_call G_l_expr (hr.mono (by decide)) rfl T.m_l_expr T.F_l_expr.kp T.b_l_expr .nil pass0 (pa_cons (pv 0) (pa_cons pe_int (pa_cons (pv 1) pa_nil)))))))
    pss_nil)
   (pss_one (ps_ret (pe_op op_add_str (pe_op op_add_str (pe_op op_add_str pe_str (pv 3)) pe_str) (pe_call G_l_expr (hr.mono (by decide)) rfl T.m_l_expr T.F_l_expr.kp T.b_l_expr .nil pass0 (pa_cons (pv 0) (pa_cons pe_int (pa_cons (pv 1) pa_nil)))))))))))))), ?_⟩
  refine ⟨_, rfl, p, l, 9, rfl, W, by decide, fun way H1 w0 w1 k1 W1 => ?_⟩
  have hN1 := hN.keep k1 W

  have h4 : (ns.map V.str).length = 4 := by rw [List.length_map]; exact hO.1
  refine ⟨_, rfl, _, rfl, _, rfl, a, _, rfl, .inl (SqL.of hN1), p, _, _, rfl, W1, by rw [h4]; decide, fun zb H2 zb0 zb1 k2 W2 => ?_⟩
  rw [List.length_map] at zb1
  obtain ⟨b, hb, es⟩ := at_strs (ss := ns) zb0 zb1
  have hbn := hO.2.1 b hb
  have hbl := name_len hbn
  refine ⟨a, _, _, _, rfl, rfl, SqL.of ((hN1).keep k2 W1), es, ?_⟩
  have k12 := k1.trans k2
  have hN2 := hN.keep k12 W
  refine ⟨_, rfl, rfl, _, rfl, iteD2 (fun _ => ?_) (fun _ => ?_)⟩
  · exact q .skip H2 trivial rfl k12 W2
  refine ⟨_, rfl, _, _, rfl, rfl, _, rfl, iteD2 (fun _ => ?_) (fun _ => ?_)⟩
  · refine ⟨_, rfl, _, rfl, p, a, _, ns, 1, rfl, by decide, by decide, W2, hN2, hO, fun e H3 hw1 hd1 hp1 k3 W3 => ?_⟩
    obtain ⟨hx1, hx2⟩ := exok34 hw1 hd1 hp1 (by decide)
    refine ⟨_, _, rfl, rfl, (by show _ ≤ 16777216; simp only [app_len, ln0, ln1, ln2, ln3, ln4, ln5, ln6, ln7, ln8, ln9, ln10, ln11, ln12, ln13, ln14, ln15, ln16, ln17, ln18, ln19]; omega), _, _, rfl, rfl, (by show _ ≤ 16777216; simp only [app_len, ln0, ln1, ln2, ln3, ln4, ln5, ln6, ln7, ln8, ln9, ln10, ln11, ln12, ln13, ln14, ln15, ln16, ln17, ln18, ln19]; omega), _, rfl, _, rfl, p, a, _, ns, 2, rfl, by decide, by decide, W3, (hN2.keep k3 W2), hO, fun e2 H4 hw2 hd2 hp2 k4 W4 => ?_⟩
    obtain ⟨hy1, hy2⟩ := exok34 hw2 hd2 hp2 (by decide)
    refine ⟨_, _, rfl, rfl, (by show _ ≤ 16777216; simp only [app_len, ln0, ln1, ln2, ln3, ln4, ln5, ln6, ln7, ln8, ln9, ln10, ln11, ln12, ln13, ln14, ln15, ln16, ln17, ln18, ln19]; omega), ?_⟩
    rw [txt_put]
    exact q (.put e e2) _ ⟨hx1, hy1⟩ rfl (k12.trans (k3.trans k4)) W4
  refine ⟨_, rfl, rfl, _, rfl, iteD2 (fun _ => ?_) (fun _ => ?_)⟩
  · refine ⟨_, rfl, _, _, rfl, rfl, (by show _ ≤ 16777216; simp only [app_len, ln0, ln1, ln2, ln3, ln4, ln5, ln6, ln7, ln8, ln9, ln10, ln11, ln12, ln13, ln14, ln15, ln16, ln17, ln18, ln19]; omega), _, _, rfl, rfl, (by show _ ≤ 16777216; simp only [app_len, ln0, ln1, ln2, ln3, ln4, ln5, ln6, ln7, ln8, ln9, ln10, ln11, ln12, ln13, ln14, ln15, ln16, ln17, ln18, ln19]; omega), ?_⟩

    refine ⟨by show 2 ≤ sizeLine; decide, fun lw hlw => ?_⟩
    have s0 := same_new (o := .lst (WAS.map V.str)) hlw
    refine ⟨_, rfl, p, l, 2, rfl, W2.same s0, by decide, fun z H3 z0 z1 k3 W3 => ?_⟩
    have hl3 := k3 _ _ (W2.fresh hlw) (upd_same (H := H2) (o := .lst (WAS.map V.str)))
    obtain ⟨wd, hs, es2⟩ := at_strs (ss := WAS) z0 z1
    obtain ⟨hwn, hwl⟩ := was_ok wd hs
    refine ⟨lw, WAS.map V.str, _, _, rfl, rfl, SqL.of hl3, es2, ?_⟩
    have k13 := (k12.trans (keepX_of s0)).trans k3
    have hN3 := hN.keep k13 W
    refine ⟨_, _, rfl, rfl, (by show _ ≤ 16777216; simp only [app_len, ln0, ln1, ln2, ln3, ln4, ln5, ln6, ln7, ln8, ln9, ln10, ln11, ln12, ln13, ln14, ln15, ln16, ln17, ln18, ln19]; omega), _, _, rfl, rfl, (by show _ ≤ 16777216; simp only [app_len, ln0, ln1, ln2, ln3, ln4, ln5, ln6, ln7, ln8, ln9, ln10, ln11, ln12, ln13, ln14, ln15, ln16, ln17, ln18, ln19]; omega), _, rfl, _, rfl, p, a, _, ns, 1, rfl, by decide, by decide, W3, hN3, hO, fun e H4 hw1 hd1 hp1 k4 W4 => ?_⟩
    obtain ⟨hx1, hx2⟩ := exok34 hw1 hd1 hp1 (by decide)
    refine ⟨_, _, rfl, rfl, (by show _ ≤ 16777216; simp only [app_len, ln0, ln1, ln2, ln3, ln4, ln5, ln6, ln7, ln8, ln9, ln10, ln11, ln12, ln13, ln14, ln15, ln16, ln17, ln18, ln19]; omega), ?_⟩
    rw [txt_ask]
    exact q (.ask b wd e) _ ⟨hbn, hwn, hx1⟩ rfl (k13.trans k4) W4
  refine ⟨_, rfl, rfl, _, rfl, iteD2 (fun _ => ?_) (fun _ => ?_)⟩
  · refine ⟨_, rfl, _, _, rfl, rfl, (by show _ ≤ 16777216; simp only [app_len, ln0, ln1, ln2, ln3, ln4, ln5, ln6, ln7, ln8, ln9, ln10, ln11, ln12, ln13, ln14, ln15, ln16, ln17, ln18, ln19]; omega), _, _, rfl, rfl, (by show _ ≤ 16777216; simp only [app_len, ln0, ln1, ln2, ln3, ln4, ln5, ln6, ln7, ln8, ln9, ln10, ln11, ln12, ln13, ln14, ln15, ln16, ln17, ln18, ln19]; omega), ?_⟩

    refine ⟨by show 2 ≤ sizeLine; decide, fun lw hlw => ?_⟩
    have s0 := same_new (o := .lst (WAS.map V.str)) hlw
    refine ⟨_, rfl, p, l, 2, rfl, W2.same s0, by decide, fun z H3 z0 z1 k3 W3 => ?_⟩
    have hl3 := k3 _ _ (W2.fresh hlw) (upd_same (H := H2) (o := .lst (WAS.map V.str)))
    obtain ⟨wd, hs, es2⟩ := at_strs (ss := WAS) z0 z1
    obtain ⟨hwn, hwl⟩ := was_ok wd hs
    refine ⟨lw, WAS.map V.str, _, _, rfl, rfl, SqL.of hl3, es2, ?_⟩
    have k13 := (k12.trans (keepX_of s0)).trans k3
    have hN3 := hN.keep k13 W
    refine ⟨_, _, rfl, rfl, (by show _ ≤ 16777216; simp only [app_len, ln0, ln1, ln2, ln3, ln4, ln5, ln6, ln7, ln8, ln9, ln10, ln11, ln12, ln13, ln14, ln15, ln16, ln17, ln18, ln19]; omega), ?_⟩
    rw [txt_draw]
    exact q (.draw b wd) _ ⟨hbn, hwn⟩ rfl k13 W3
  refine ⟨_, rfl, rfl, _, rfl, iteD2 (fun _ => ?_) (fun _ => ?_)⟩
  · refine ⟨_, rfl, _, rfl, p, a, _, ns, 3, rfl, by decide, by decide, W2, hN2, hO, fun e H3 hw1 hd1 hp1 k3 W3 => ?_⟩
    obtain ⟨hx1, hx2⟩ := exok34 hw1 hd1 hp1 (by decide)
    refine ⟨_, _, rfl, rfl, (by show _ ≤ 16777216; simp only [app_len, ln0, ln1, ln2, ln3, ln4, ln5, ln6, ln7, ln8, ln9, ln10, ln11, ln12, ln13, ln14, ln15, ln16, ln17, ln18, ln19]; omega), ?_⟩
    rw [txt_tell]
    exact q (.tell e) _ hx1 rfl (k12.trans k3) W3
  · refine ⟨_, rfl, _, _, rfl, rfl, (by show _ ≤ 16777216; simp only [app_len, ln0, ln1, ln2, ln3, ln4, ln5, ln6, ln7, ln8, ln9, ln10, ln11, ln12, ln13, ln14, ln15, ln16, ln17, ln18, ln19]; omega), _, _, rfl, rfl, (by show _ ≤ 16777216; simp only [app_len, ln0, ln1, ln2, ln3, ln4, ln5, ln6, ln7, ln8, ln9, ln10, ln11, ln12, ln13, ln14, ln15, ln16, ln17, ln18, ln19]; omega), _, rfl, _, rfl, p, a, _, ns, 3, rfl, by decide, by decide, W2, hN2, hO, fun e H3 hw1 hd1 hp1 k3 W3 => ?_⟩
    obtain ⟨hx1, hx2⟩ := exok34 hw1 hd1 hp1 (by decide)
    refine ⟨_, _, rfl, rfl, (by show _ ≤ 16777216; simp only [app_len, ln0, ln1, ln2, ln3, ln4, ln5, ln6, ln7, ln8, ln9, ln10, ln11, ln12, ln13, ln14, ln15, ln16, ln17, ln18, ln19]; omega), ?_⟩
    rw [txt_set]
    exact q (.set b e) _ ⟨hbn, hx1⟩ rfl (k12.trans k3) W3

end
end K34
namespace K34
open PySem L2 TL
section
variable {P : Program} {w : World} {K : PySem.W.Frag} {mg : Str → Option Value} {base : Heap} {A : Ads}
theorem ok_l_call_row (T : Txt K mg A) : FnOk P w K mg base CX0 14 A.l_call_row A.l_call_row_d ["_law_tape", "_law_names", "_law_funs"] spCallRow34 := by
  have G_l_take := ok_l_take (P := P) (w := w) (base := base) T
  have G_l_expr := ok_l_expr (P := P) (w := w) (base := base) T 4
  refine T.F_l_call_row.ok sc_l_call_row (fun vs H Q E h => ?_) (fun cdv A0 outer s H vs Q E hr h => ?_)
  · obtain ⟨p, a, g, l, ns, hs, rfl, W, hN, hO, hF, hFO, hne, q⟩ := h
    rfl
  obtain ⟨p, a, g, l, ns, hs, rfl, W, hN, hO, hF, hFO, hne, q⟩ := h
  refine ⟨_, (pss_cons (ps_set (i := 3) sc_l_call_row.nd rfl (Or.inl rfl) (pe_ix ix_list (pv 1) (pe_call G_l_take (hr.mono (by decide)) rfl T.m_l_take T.F_l_take.kp T.b_l_take .nil pass0 (pa_cons (pv 0) (pa_cons (pe_callB call_lenK (by rfl) T.z_len (by decide +kernel) (pa_cons (pv 1) pa_nil)) pa_nil))) (fun _ _ => rfl)))
   (pss_cons (ps_asg (pe_ix ix_list (pv 2) (pe_call G_l_take (hr.mono (by decide)) rfl T.m_l_take T.F_l_take.kp T.b_l_take .nil pass0 (pa_cons (pv 0) (pa_cons (pe_callB call_lenK (by rfl) T.z_len (by decide +kernel) (pa_cons (pv 2) pa_nil)) pa_nil))) (fun _ _ => rfl)) (pg_tup (by rfl) (pgs_cons (pg_name (i := 4) sc_l_call_row.nd rfl (Or.inl rfl)) (pgs_cons (pg_name (i := 5) sc_l_call_row.nd rfl (Or.inl rfl)) pgs_nil))))
   (pss_one (ps_ret (pe_join pe_str (pe_op op_cat (pe_lst (pa_cons pe_str (pa_cons (pv 3) (pa_cons (pv 4) pa_nil)))) (pe_lc (own := [("_law_k", 6)]) (g := gName 6) (tt := tYes) rfl sc_l_call_row.nd (pi_range1 (by rfl) T.z_range (pa_cons (pv 5) pa_nil)) (blkOk_by (own := [("_law_k", 6)]) (N := N_l_call_row) (sc := defScope s_l_call_row) (by decide +kernel)) (fun _ _ _ _ _ => pg_name (i := 6) sc_l_call_row.nd rfl (Or.inl rfl)) (fun _ _ _ _ _ => pts_nil) (fun _ _ _ _ _ => (pe_call G_l_expr (hr.mono (by decide)) rfl T.m_l_expr T.F_l_expr.kp T.b_l_expr .nil pass0 (pa_cons (pv 0) (pa_cons pe_int (pa_cons (pv 1) pa_nil)))))))))))), ?_⟩
  have h4 : (ns.map V.str).length = 4 := by rw [List.length_map]; exact hO.1
  refine ⟨_, rfl, _, rfl, _, rfl, a, _, rfl, .inl (SqL.of hN), p, _, _, rfl, W, by rw [h4]; decide, fun zb H2 zb0 zb1 k2 W2 => ?_⟩
  rw [List.length_map] at zb1
  obtain ⟨b, hb, es⟩ := at_strs (ss := ns) zb0 zb1
  have hbn := hO.2.1 b hb
  have hbl := name_len hbn
  refine ⟨a, _, _, _, rfl, rfl, SqL.of ((hN).keep k2 W), es, ?_⟩
  have hF2 := hF.keep k2 W
  have hN2 := hN.keep k2 W
  have hF2' := hF2
  obtain ⟨fvs, hg, hal⟩ := hF2'
  have hfl := hal.length
  have hlp : 0 < hs.length := List.length_pos_iff.mpr hne
  refine ⟨_, rfl, _, rfl, _, rfl, g, fvs, rfl, .inl (SqL.of hg), p, l, _, rfl, W2, by omega, fun zf H3 zf0 zf1 k3 W3 => ?_⟩
  obtain ⟨⟨f, m⟩, fv, hmem, hat, t, rfl, ht⟩ := all2_pick hal zf0 zf1
  have ht3 := k3 _ _ (W2.neO ht fun _ _ _ z => by cases z) ht
  have k13 := k2.trans k3
  have hN3 := hN.keep k13 W
  obtain ⟨hfn, hm3, _⟩ := hFO.2.2 _ hmem
  refine ⟨g, fvs, _, _, rfl, rfl, SqL.of (k3 _ _ (FunsAt.ne W2 hF2) hg), hat, ?_⟩
  refine ⟨t, _, rfl, SqT.of ht3, rfl, _, _, rfl, _, _, rfl, rfl, ?_⟩
  refine ⟨⟨_, rfl⟩, _, rfl, _, rfl, by show 3 ≤ sizeLine; decide, fun l1 hl1 => ?_⟩
  have s1 := same_new (o := .lst [V.str "call", .str b, .str f]) hl1
  have g1 := upd_same (H := H3) (a := l1) (o := .lst [V.str "call", .str b, .str f])
  have nl1 := W3.fresh hl1
  generalize upd H3 l1 (.lst [V.str "call", .str b, .str f]) = H3' at s1 g1 ⊢
  have W3' := W3.same s1
  refine ⟨_, rfl, (m : Int), rfl, by omega, by omega, fun D hD => lc_taken (walk_range (lo := 0) (n := ((m : Int)).toNat)) (fun y => ∃ e : Ex, y = .str e.text ∧ ExOk e) W3' hD (by omega) (by show 6 < 7; decide) (fun _ _ _ => trivial) (fun _ _ _ _ y => y.1) ?_ ?_⟩
  · rintro i x H4 Z hi k4 W4 _ z
    have k14 := (k13.trans (keepX_of s1)).trans k4
    refine ⟨_, rfl, _, rfl, p, a, _, ns, 1, rfl, by decide, by decide, W4, (hN.keep k14 W), hO, fun e H5 hw1 hd1 hp1 k5 W5 => ?_⟩
    obtain ⟨hx1, hx2⟩ := exok34 hw1 hd1 hp1 (by decide)
    exact z H5 _ k5 W5 ⟨e, rfl, hx1⟩
  · intro H4 ys k4 W4 hyl hy hD4
    obtain ⟨es, rfl, hes⟩ := exprs_of_ys hy
    rw [List.length_map, List.length_map] at hyl
    have hml : es.length = m := by omega
    refine ⟨l1, D, _, _, rfl, rfl, k4 _ _ nl1 g1, hD4, by show 3 + _ ≤ 16777216; rw [List.length_map, List.length_map]; omega, fun l2 hl2 => ?_⟩
    have s2 := same_new (o := .lst ([V.str "call", .str b, .str f] ++ (es.map Ex.text).map V.str)) hl2
    refine ⟨_, l2, Str.ofString "call" :: b :: f :: es.map Ex.text, rfl, rfl, .inl (SqL.of upd_same), call_sum hbl (name_len hfn) hes (by omega), ?_⟩
    rw [call_text]
    exact q b f es _ ⟨hbn, hfn, hes, by omega⟩ (by rw [hml]; exact hmem) (((k13.trans (keepX_of s1)).trans k4).trans (keepX_of s2)) (W4.same s2)

end
end K34
namespace K34
open PySem L2 TL
section
variable {P : Program} {w : World} {K : PySem.W.Frag} {mg : Str → Option Value} {base : Heap} {A : Ads}
theorem ok_l_row (T : Txt K mg A) {n : Nat} (G_l_rows : FnOk P w K mg base CX0 (2 * n + 20) A.l_rows A.l_rows_d ["_law_tape", "_law_deep", "_law_names", "_law_funs", "_law_most"] (spRows34 n)) : FnOk P w K mg base CX0 (2 * n + 21) A.l_row A.l_row_d ["_law_tape", "_law_deep", "_law_names", "_law_funs"] (spRow34 n) := by
  have G_l_take := ok_l_take (P := P) (w := w) (base := base) T
  have G_l_expr := ok_l_expr (P := P) (w := w) (base := base) T 4
  have G_l_call_row := ok_l_call_row (P := P) (w := w) (base := base) T
  have G_l_simple := ok_l_simple (P := P) (w := w) (base := base) T
  refine T.F_l_row.ok sc_l_row (fun vs H Q E h => ?_) (fun cdv A0 outer s H vs Q E hr h => ?_)
  · obtain ⟨p, a, g, l, ns, hs, d, rfl, hd, W, hl0, hl1, hN, hO, hF, hFO, q⟩ := h
    rfl
  obtain ⟨p, a, g, l, ns, hs, d, rfl, hd, W, hl0, hl1, hN, hO, hF, hFO, q⟩ := h
  refine ⟨_, (pss_cons (ps_set (i := 4) sc_l_row.nd rfl (Or.inl rfl) (pe_call G_l_take (hr.mono (by omega)) rfl T.m_l_take T.F_l_take.kp T.b_l_take .nil pass0 (pa_cons (pv 0) (pa_cons pe_int pa_nil))))
   (pss_cons (ps_ifC (PW.pt (pw_and (pt_cmpR op_gt (pv 1) pe_int (nomark _)) (pw_and (pt_cmpR op_lt (pv 4) pe_int (nomark _)) (pw_and1 (pt_cmpR op_gt (pe_ix ix_list (pv 0) pe_int (fun _ _ => rfl)) pe_int (nomark _))))))
    (pss_cons (ps_asg (pe_op op_sub (pe_ix ix_list (pv 0) pe_int (fun _ _ => rfl)) pe_int) (pg_sub (pv 0) pe_int set_list))
   (pss_cons (ps_set (i := 5) sc_l_row.nd rfl (Or.inl rfl) (pe_lst (pa_cons (pe_op op_add_str pe_str (pe_call G_l_expr (hr.mono (by omega)) rfl T.m_l_expr T.F_l_expr.kp T.b_l_expr .nil pass0 (pa_cons (pv 0) (pa_cons pe_int (pa_cons (pv 2) pa_nil))))) pa_nil)))
   (pss_cons (ps_set (i := 6) sc_l_row.nd rfl (Or.inl rfl) (pe_call G_l_rows (hr.mono (by omega)) rfl T.m_l_rows T.F_l_rows.kp T.b_l_rows .nil pass0 (pa_cons (pv 0) (pa_cons (pe_op op_sub (pv 1) pe_int) (pa_cons (pv 2) (pa_cons (pv 3) (pa_cons pe_int pa_nil)))))))
   (pss_one (ps_ret (pe_op op_cat (pe_op op_cat (pe_op op_cat (pe_op op_cat (pv 5) (pv 6)) (pe_lst (pa_cons pe_str pa_nil))) (pe_call G_l_rows (hr.mono (by omega)) rfl T.m_l_rows T.F_l_rows.kp T.b_l_rows .nil pass0 (pa_cons (pv 0) (pa_cons (pe_op op_sub (pv 1) pe_int) (pa_cons (pv 2) (pa_cons (pv 3) (pa_cons pe_int pa_nil))))))) (pe_lst (pa_cons pe_str pa_nil))))))))
    pss_nil)
   (pss_cons (ps_ifC (PW.pt (pw_and (pt_cmpR op_gt (pv 1) pe_int (nomark _)) (pw_and (pt_cmpR op_lt (pv 4) pe_int (nomark _)) (pw_and1 (pt_cmpR op_gt (pe_ix ix_list (pv 0) pe_int (fun _ _ => rfl)) pe_int (nomark _))))))
    (pss_cons (ps_asg (pe_op op_sub (pe_ix ix_list (pv 0) pe_int (fun _ _ => rfl)) pe_int) (pg_sub (pv 0) pe_int set_list))
   (pss_cons (ps_set (i := 7) sc_l_row.nd rfl (Or.inl rfl) (pe_ix ix_list (pv 2) (pe_call G_l_take (hr.mono (by omega)) rfl T.m_l_take T.F_l_take.kp T.b_l_take .nil pass0 (pa_cons (pv 0) (pa_cons (pe_callB call_lenK (by rfl) T.z_len (by decide +kernel) (pa_cons (pv 2) pa_nil)) pa_nil))) (fun _ _ => rfl)))
   (pss_cons (ps_set (i := 5) sc_l_row.nd rfl (Or.inl rfl) (pe_lst (pa_cons (pe_op op_add_str (pe_op op_add_str (pe_op op_add_str pe_str (pv 7)) pe_str) (pe_callTy call_str_int (by rfl) T.z_str (by decide +kernel) (pa_cons (pe_op op_add pe_int (pe_call G_l_take (hr.mono (by omega)) rfl T.m_l_take T.F_l_take.kp T.b_l_take .nil pass0 (pa_cons (pv 0) (pa_cons pe_int pa_nil)))) pa_nil))) pa_nil)))
   (pss_cons (ps_set (i := 8) sc_l_row.nd rfl (Or.inl rfl) (pe_call G_l_rows (hr.mono (by omega)) rfl T.m_l_rows T.F_l_rows.kp T.b_l_rows .nil pass0 (pa_cons (pv 0) (pa_cons (pe_op op_sub (pv 1) pe_int) (pa_cons (pv 2) (pa_cons (pv 3) (pa_cons pe_int pa_nil)))))))
   (pss_one (ps_ret (pe_op op_cat (pe_op op_cat (pv 5) (pv 8)) (pe_lst (pa_cons (pe_op op_add_str (pe_op op_add_str (pe_op op_add_str (pe_op op_add_str pe_str (pv 7)) pe_str) (pv 7)) pe_str) (pa_cons pe_str pa_nil))))))))))
    pss_nil)
   (pss_cons (ps_asg (pe_op op_sub (pe_ix ix_list (pv 0) pe_int (fun _ _ => rfl)) pe_int) (pg_sub (pv 0) pe_int set_list))
   (pss_cons (ps_if (PW.pt (pw_and (pt_cmpR op_lt (pv 4) pe_int (nomark _)) (pw_and1 (pt_cmpR (op_neD hr.units) (pv 3) (pe_lst pa_nil) (nomark _)))))
    (pss_one (ps_ret (pe_lst (pa_cons (pe_call G_l_call_row (hr.mono (by omega)) rfl T.m_l_call_row T.F_l_call_row.kp T.b_l_call_row .nil pass0 (pa_cons (pv 0) (pa_cons (pv 2) (pa_cons (pv 3) pa_nil)))) pa_nil))))
    pss_nil)
   (pss_one (ps_ret (pe_lst (pa_cons (pe_call G_l_simple (hr.mono (by omega)) rfl T.m_l_simple T.F_l_simple.kp T.b_l_simple .nil pass0 (pa_cons (pv 0) (pa_cons (pv 2) pa_nil))) pa_nil))))))))), ?_⟩
  refine ⟨_, rfl, p, l, 12, rfl, W, by decide, fun way H1 w0 w1 k1 W1 => ?_⟩
  obtain ⟨c, k, hk, w⟩ := id W1

  refine ⟨decide (0 < d ∧ way < 2 ∧ 3 < l), H1, fun Z hZ => ?_, ?_⟩
  · refine ⟨_, rfl, _, _, rfl, rfl, _, rfl, iteD2 (fun c1 => ?_) (fun c1 => zFalse hZ fun h => c1 (by omega))⟩
    refine ⟨_, rfl, _, _, rfl, rfl, _, rfl, iteD2 (fun c2 => ?_) (fun c2 => zFalse hZ fun h => c2 h.2.1)⟩
    refine ⟨_, rfl, p, _, _, _, rfl, rfl, SqL.of w, rfl, _, _, rfl, rfl, _, rfl, ?_⟩
    by_cases c3 : 3 < l
    · rw [decide_eq_true c3]; exact zTrue hZ ⟨by omega, c2, c3⟩
    · rw [decide_eq_false c3]; exact zFalse hZ fun h => c3 h.2.2
  refine iteD2 (fun cc => ?_) (fun _ => ?_)
  · obtain ⟨d, rfl⟩ : ∃ d', d = d' + 1 := ⟨d - 1, by omega⟩

    refine ⟨_, rfl, p, _, _, _, rfl, rfl, SqL.of w, rfl, _, _, rfl, rfl, _, rfl, p, _, _, 2, rfl, rfl, w, rfl, ?_⟩
    have WA : TapeAt (upd H1 p (.lst [.int c, .int k, .int (l - 3)])) p (l - 3) := ⟨c, k, hk, upd_same⟩
    have kA : KeepX p H (upd H1 p (.lst [.int c, .int k, .int (l - 3)])) := k1.trans keepX_upd
    have hNA := hN.keep kA W
    have hFA := hF.keep kA W
    refine ⟨_, rfl, _, rfl, p, a, _, ns, 2, rfl, by decide, by decide, WA, hNA, hO, fun e H3 hw1 hd1 hp1 k3 W3 => ?_⟩
    obtain ⟨hx1, hx2⟩ := exok34 hw1 hd1 hp1 (by decide)
    refine ⟨_, _, rfl, rfl, (by show _ ≤ 16777216; simp only [app_len, ln0, ln1, ln2, ln3, ln4, ln5, ln6, ln7, ln8, ln9, ln10, ln11, ln12, ln13, ln14, ln15, ln16, ln17, ln18, ln19]; omega), by show 1 ≤ sizeLine; decide, fun lh hlh => ?_⟩
    rw [txt_if]
    have s3 := same_new (o := .lst [V.str (RT.ifr e).text]) hlh
    have g3 := upd_same (H := H3) (a := lh) (o := .lst [V.str (RT.ifr e).text])
    have nlh := W3.fresh hlh
    have k3' := (kA.trans k3).trans (keepX_of s3)
    generalize upd H3 lh (.lst [V.str (RT.ifr e).text]) = H3' at s3 g3 k3' ⊢
    have W3' := W3.same s3
    refine ⟨_, rfl, _, rfl, _, _, rfl, rfl, _, rfl, _, rfl, p, a, g, _, ns, hs, d, 3, dec2 _ _ _ d 3, by omega, by decide, by decide, W3', by omega, by omega, (hN.keep k3' W), hO, (hF.keep k3' W), hFO, fun b1 L1 R1 f1 H4 hB1 a0 a1 k4 W4 hb1 => ?_⟩
    have k4' := k3'.trans k4
    have g4 := k4 _ _ nlh g3
    refine ⟨_, rfl, _, rfl, lh, b1, _, _, rfl, rfl, g4, hb1, by show 1 + (L1.map V.str).length ≤ 16777216; rw [List.length_map]; omega, fun m1 hm1 => ?_⟩
    have s5 := same_new (o := .lst ([V.str (RT.ifr e).text] ++ L1.map V.str)) hm1
    have gm1 := upd_same (H := H4) (a := m1) (o := .lst ([V.str (RT.ifr e).text] ++ L1.map V.str))
    generalize upd H4 m1 (.lst ([V.str (RT.ifr e).text] ++ L1.map V.str)) = H5 at s5 gm1 ⊢
    refine ⟨by show 1 ≤ sizeLine; decide, fun m2 hm2 => ?_⟩
    have s6 := same_new (o := .lst [V.str "else"]) hm2
    have gm2 := upd_same (H := H5) (a := m2) (o := .lst [V.str "else"])
    have gm1' := s6 _ _ gm1
    generalize upd H5 m2 (.lst [V.str "else"]) = H6 at s6 gm2 gm1' ⊢
    refine ⟨m1, m2, _, _, rfl, rfl, gm1', gm2, by show _ ≤ 16777216; simp only [List.length_append, List.length_cons, List.length_nil, List.length_map]; omega, fun m3 hm3 => ?_⟩
    have s7 := same_new (o := .lst (([V.str (RT.ifr e).text] ++ L1.map V.str) ++ [V.str "else"])) hm3
    have gm3 := upd_same (H := H6) (a := m3) (o := .lst (([V.str (RT.ifr e).text] ++ L1.map V.str) ++ [V.str "else"]))
    have s47 := (s5.trans s6).trans s7
    have nm3 := ((W4.same s5).same s6).fresh hm3
    generalize upd H6 m3 (.lst (([V.str (RT.ifr e).text] ++ L1.map V.str) ++ [V.str "else"])) = H7 at s7 gm3 s47 ⊢
    have W7 := W4.same s47
    have k7 := k4'.trans (keepX_of s47)
    refine ⟨_, rfl, _, rfl, _, _, rfl, rfl, _, rfl, _, rfl, p, a, g, _, ns, hs, d, 3, dec2 _ _ _ d 3, by omega, by decide, by decide, W7, by omega, by omega, (hN.keep k7 W), hO, (hF.keep k7 W), hFO, fun b2 L2 R2 f2 H8 hB2 b0 b1x k8 W8 hb2 => ?_⟩
    have gm3' := k8 _ _ nm3 gm3
    refine ⟨m3, b2, _, _, rfl, rfl, gm3', hb2, by show _ ≤ 16777216; simp only [List.length_append, List.length_cons, List.length_nil, List.length_map]; omega, fun m4 hm4 => ?_⟩
    have s9 := same_new (o := .lst ((([V.str (RT.ifr e).text] ++ L1.map V.str) ++ [V.str "else"]) ++ L2.map V.str)) hm4
    have gm4 := upd_same (H := H8) (a := m4) (o := .lst ((([V.str (RT.ifr e).text] ++ L1.map V.str) ++ [V.str "else"]) ++ L2.map V.str))
    generalize upd H8 m4 (.lst ((([V.str (RT.ifr e).text] ++ L1.map V.str) ++ [V.str "else"]) ++ L2.map V.str)) = H9 at s9 gm4 ⊢
    refine ⟨by show 1 ≤ sizeLine; decide, fun m5 hm5 => ?_⟩
    have sA := same_new (o := .lst [V.str "end"]) hm5
    refine ⟨m4, m5, _, _, rfl, rfl, sA _ _ gm4, upd_same, by show _ ≤ 16777216; simp only [List.length_append, List.length_cons, List.length_nil, List.length_map]; omega, fun m6 hm6 => ?_⟩
    have sB := same_new (o := .lst (((([V.str (RT.ifr e).text] ++ L1.map V.str) ++ [V.str "else"]) ++ L2.map V.str) ++ [V.str "end"])) hm6
    have sE := (s9.trans sA).trans sB
    refine q m6 _ _ f2 _ (.ifr hx1 hB1 hB2) b0 ?_ ((k7.trans k8).trans (keepX_of sE)) (W8.same sE) ?_
    · simp only [List.length_append, List.length_cons, List.length_nil]
      omega
    · rw [upd_same]
      simp

  refine ⟨decide (0 < d ∧ way < 4 ∧ 3 < l), H1, fun Z hZ => ?_, ?_⟩
  · refine ⟨_, rfl, _, _, rfl, rfl, _, rfl, iteD2 (fun c1 => ?_) (fun c1 => zFalse hZ fun h => c1 (by omega))⟩
    refine ⟨_, rfl, _, _, rfl, rfl, _, rfl, iteD2 (fun c2 => ?_) (fun c2 => zFalse hZ fun h => c2 h.2.1)⟩
    refine ⟨_, rfl, p, _, _, _, rfl, rfl, SqL.of w, rfl, _, _, rfl, rfl, _, rfl, ?_⟩
    by_cases c3 : 3 < l
    · rw [decide_eq_true c3]; exact zTrue hZ ⟨by omega, c2, c3⟩
    · rw [decide_eq_false c3]; exact zFalse hZ fun h => c3 h.2.2
  refine iteD2 (fun cc => ?_) (fun _ => ?_)
  · obtain ⟨d, rfl⟩ : ∃ d', d = d' + 1 := ⟨d - 1, by omega⟩

    refine ⟨_, rfl, p, _, _, _, rfl, rfl, SqL.of w, rfl, _, _, rfl, rfl, _, rfl, p, _, _, 2, rfl, rfl, w, rfl, ?_⟩
    have WA : TapeAt (upd H1 p (.lst [.int c, .int k, .int (l - 3)])) p (l - 3) := ⟨c, k, hk, upd_same⟩
    have kA : KeepX p H (upd H1 p (.lst [.int c, .int k, .int (l - 3)])) := k1.trans keepX_upd
    have hNA := hN.keep kA W
    have hFA := hF.keep kA W
    have h4 : (ns.map V.str).length = 4 := by rw [List.length_map]; exact hO.1
    refine ⟨_, rfl, _, rfl, _, rfl, a, _, rfl, .inl (SqL.of hNA), p, _, _, rfl, WA, by rw [h4]; decide, fun zb H3 zb0 zb1 k3 W3 => ?_⟩
    rw [List.length_map] at zb1
    obtain ⟨b, hb, es⟩ := at_strs (ss := ns) zb0 zb1
    have hbn := hO.2.1 b hb
    have hbl := name_len hbn
    refine ⟨a, _, _, _, rfl, rfl, SqL.of ((hNA).keep k3 WA), es, ?_⟩
    have k13 := kA.trans k3
    have hN3 := hN.keep k13 W
    refine ⟨_, rfl, _, _, rfl, rfl, (by show _ ≤ 16777216; simp only [app_len, ln0, ln1, ln2, ln3, ln4, ln5, ln6, ln7, ln8, ln9, ln10, ln11, ln12, ln13, ln14, ln15, ln16, ln17, ln18, ln19]; omega), _, _, rfl, rfl, (by show _ ≤ 16777216; simp only [app_len, ln0, ln1, ln2, ln3, ln4, ln5, ln6, ln7, ln8, ln9, ln10, ln11, ln12, ln13, ln14, ln15, ln16, ln17, ln18, ln19]; omega), ?_⟩
    refine ⟨_, rfl, p, _, 4, rfl, W3, by decide, fun z H4 z0 z1 k4 W4 => ?_⟩
    have hzl : (Str.ofString (toString (1 + z))).length ≤ 6 := by
      show (numT (1 + z)).length ≤ 6
      have := (valW_parts (numT_valW (n := 1 + z) (by omega) (by omega)).1).1.2
      rwa [← len_tl] at this
    have et : ((Str.ofString "while less " ++ b) ++ Str.ofString " ") ++ Str.ofString (toString (1 + z)) = (RT.loop (.two "less" (.box b) (.num (1 + z)))).text := txt_loop b (1 + z)
    have hx1 : ExOk (.two "less" (.box b) (.num (1 + z))) := ⟨⟨by decide +kernel, hbn, by omega, by omega⟩, by show max 1 1 + 1 ≤ 6; decide, by show 1 + 1 + 1 ≤ 15; decide⟩
    have hi1 : (RT.set b (.two "plus" (.box b) (.num 1))).Ok := ⟨hbn, ⟨by decide +kernel, hbn, by decide, by decide⟩, by show max 1 1 + 1 ≤ 6; decide, by show 1 + 1 + 1 ≤ 15; decide⟩
    refine ⟨_, _, rfl, rfl, _, rfl, log_small (by omega), _, _, rfl, rfl, (by show _ ≤ 16777216; simp only [app_len, ln0, ln1, ln2, ln3, ln4, ln5, ln6, ln7, ln8, ln9, ln10, ln11, ln12, ln13, ln14, ln15, ln16, ln17, ln18, ln19]; omega), by show 1 ≤ sizeLine; decide, fun lh hlh => ?_⟩
    rw [et]
    have s5 := same_new (o := .lst [V.str (RT.loop (.two "less" (.box b) (.num (1 + z)))).text]) hlh
    have g5 := upd_same (H := H4) (a := lh) (o := .lst [V.str (RT.loop (.two "less" (.box b) (.num (1 + z)))).text])
    have nlh := W4.fresh hlh
    have k5' := (k13.trans k4).trans (keepX_of s5)
    have W5' := W4.same s5
    generalize hH5 : upd H4 lh (.lst [V.str (RT.loop (.two "less" (.box b) (.num (1 + z)))).text]) = H5' at s5 g5 k5' W5'
    refine ⟨_, rfl, _, rfl, _, _, rfl, rfl, _, rfl, _, rfl, p, a, g, _, ns, hs, d, 3, dec2 _ _ _ d 3, by omega, by decide, by decide, W5', by omega, by omega, (hN.keep k5' W), hO, (hF.keep k5' W), hFO, fun b1 L1 R1 f1 H6 hB1 a0 a1 k6 W6 hb1 => ?_⟩
    have g6 := k6 _ _ nlh g5
    refine ⟨_, rfl, _, rfl, lh, b1, _, _, rfl, rfl, g6, hb1, by show 1 + (L1.map V.str).length ≤ 16777216; rw [List.length_map]; omega, fun m1 hm1 => ?_⟩
    have s7 := same_new (o := .lst ([V.str (RT.loop (.two "less" (.box b) (.num (1 + z)))).text] ++ L1.map V.str)) hm1
    have gm1 := upd_same (H := H6) (a := m1) (o := .lst ([V.str (RT.loop (.two "less" (.box b) (.num (1 + z)))).text] ++ L1.map V.str))
    generalize upd H6 m1 (.lst ([V.str (RT.loop (.two "less" (.box b) (.num (1 + z)))).text] ++ L1.map V.str)) = H7 at s7 gm1 ⊢
    refine ⟨_, rfl, _, _, rfl, rfl, (by show _ ≤ 16777216; simp only [app_len, ln0, ln1, ln2, ln3, ln4, ln5, ln6, ln7, ln8, ln9, ln10, ln11, ln12, ln13, ln14, ln15, ln16, ln17, ln18, ln19]; omega), _, _, rfl, rfl, (by show _ ≤ 16777216; simp only [app_len, ln0, ln1, ln2, ln3, ln4, ln5, ln6, ln7, ln8, ln9, ln10, ln11, ln12, ln13, ln14, ln15, ln16, ln17, ln18, ln19]; omega), _, rfl, _, _, rfl, rfl, (by show _ ≤ 16777216; simp only [app_len, ln0, ln1, ln2, ln3, ln4, ln5, ln6, ln7, ln8, ln9, ln10, ln11, ln12, ln13, ln14, ln15, ln16, ln17, ln18, ln19]; omega), _, _, rfl, rfl, (by show _ ≤ 16777216; simp only [app_len, ln0, ln1, ln2, ln3, ln4, ln5, ln6, ln7, ln8, ln9, ln10, ln11, ln12, ln13, ln14, ln15, ln16, ln17, ln18, ln19]; omega), by show 2 ≤ sizeLine; decide, fun m2 hm2 => ?_⟩
    rw [txt_inc]
    have s8 := same_new (o := .lst [V.str (RT.set b (.two "plus" (.box b) (.num 1))).text, .str "end"]) hm2
    refine ⟨m1, m2, _, _, rfl, rfl, s8 _ _ gm1, upd_same, by show _ ≤ 16777216; simp only [List.length_append, List.length_cons, List.length_nil, List.length_map]; omega, fun m3 hm3 => ?_⟩
    have s9 := same_new (o := .lst (([V.str (RT.loop (.two "less" (.box b) (.num (1 + z)))).text] ++ L1.map V.str) ++ [V.str (RT.set b (.two "plus" (.box b) (.num 1))).text, .str "end"])) hm3
    have sE := (s7.trans s8).trans s9
    refine q m3 _ _ f1 _ (.loop hx1 (.app hB1 (.row hi1 rfl))) a0 ?_ ((k5'.trans k6).trans (keepX_of sE)) (W6.same sE) ?_
    · simp only [List.length_append, List.length_cons, List.length_nil]
      omega
    · rw [upd_same]
      simp
  refine ⟨_, rfl, p, _, _, _, rfl, rfl, SqL.of w, rfl, _, _, rfl, rfl, _, rfl, p, _, _, 2, rfl, rfl, w, rfl, ?_⟩
  have WA : TapeAt (upd H1 p (.lst [.int c, .int k, .int (l - 1)])) p (l - 1) := ⟨c, k, hk, upd_same⟩
  have kA : KeepX p H (upd H1 p (.lst [.int c, .int k, .int (l - 1)])) := k1.trans keepX_upd
  have hNA := hN.keep kA W
  have hFA := hF.keep kA W
  refine ⟨_, rfl, _, _, rfl, rfl, _, rfl, iteD2 (fun cw => ?_) (fun _ => ?_)⟩
  rotate_left

  · refine ⟨_, rfl, _, rfl, p, a, l - 1, ns, rfl, WA, hNA, hO, fun rt H3 ok sm k3 W3 => ?_⟩
    refine ⟨by show 1 ≤ sizeLine; decide, fun b hb => ?_⟩
    exact q b [rt.text] [some rt] (l - 1) _ (.row ok sm) (by omega) (by show l - 1 + ((1 : Nat) : Int) = l; omega) ((kA.trans k3).trans (keepX_of (same_new hb))) (W3.same (same_new hb)) upd_same

  refine ⟨_, rfl, by show 0 ≤ sizeLine; decide, fun le hle => ?_⟩
  have hle' : upd H1 p (.lst [.int c, .int k, .int (l - 1)]) le = none := hle
  have s2 := same_new (o := .lst []) hle'
  have ge := upd_same (H := upd H1 p (.lst [.int c, .int k, .int (l - 1)])) (a := le) (o := .lst [])
  have WB := WA.same s2
  have kB := kA.trans (keepX_of s2)
  have hNB := hN.keep kB W
  have hFB := hF.keep kB W
  refine ⟨_, _, funs_dp hFB, .lst (SqL.of ge) .nil, hsD_shaped hFO, by decide +kernel, _, rfl, ?_⟩
  by_cases hne : hs = []
  · subst hne
    refine iteF ?_

    refine ⟨_, rfl, _, rfl, p, a, l - 1, ns, rfl, WB, hNB, hO, fun rt H3 ok sm k3 W3 => ?_⟩
    refine ⟨by show 1 ≤ sizeLine; decide, fun b hb => ?_⟩
    exact q b [rt.text] [some rt] (l - 1) _ (.row ok sm) (by omega) (by show l - 1 + ((1 : Nat) : Int) = l; omega) ((kB.trans k3).trans (keepX_of (same_new hb))) (W3.same (same_new hb)) upd_same

  · have e0 : PyData.eqv (.list (hsD hs)) (.list []) = false := by
      cases hs with
      | nil => exact absurd rfl hne
      | cons _ _ => rfl
    rw [e0]
    refine iteT ?_
    refine ⟨_, rfl, _, rfl, _, rfl, p, a, g, l - 1, ns, hs, rfl, WB, hNB, hO, hFB, hFO, hne, fun b f es H3 ok hmem k3 W3 => ?_⟩
    refine ⟨by show 1 ≤ sizeLine; decide, fun r hr => ?_⟩
    exact q r [(RT.call b f es).text] [some (.call b f es)] (l - 1) _ (.call ok hmem) (by omega) (by show l - 1 + ((1 : Nat) : Int) = l; omega) ((kB.trans k3).trans (keepX_of (same_new hr))) (W3.same (same_new hr)) upd_same

end
end K34
namespace K34
open PySem L2 TL
section
variable {P : Program} {w : World} {K : PySem.W.Frag} {mg : Str → Option Value} {base : Heap} {A : Ads}
theorem ok_l_rows (T : Txt K mg A) : ∀ n : Nat, FnOk P w K mg base CX0 (2 * n + 20) A.l_rows A.l_rows_d ["_law_tape", "_law_deep", "_law_names", "_law_funs", "_law_most"] (spRows34 n)
| 0 => fn_none fun vs H Q E h => by
    obtain ⟨_, _, _, _, _, _, _, _, _, h1, _⟩ := h; omega
| n + 1 => by
  have G_l_rows := ok_l_rows T n
  have G_l_take := ok_l_take (P := P) (w := w) (base := base) T
  have G_l_row := ok_l_row (P := P) (w := w) (base := base) T G_l_rows
  refine T.F_l_rows.ok sc_l_rows (fun vs H Q E h => ?_) (fun cdv A0 outer s H vs Q E hr h => ?_)
  · obtain ⟨p, a, g, l, ns, hs, d, m, rfl, hd, hm0, hm1, W, hl0, hl1, hN, hO, hF, hFO, q⟩ := h
    rfl
  obtain ⟨p, a, g, l, ns, hs, d, m, rfl, hd, hm0, hm1, W, hl0, hl1, hN, hO, hF, hFO, q⟩ := h
  refine ⟨_, (pss_cons (ps_set (i := 5) sc_l_rows.nd rfl (Or.inl rfl) (pe_lst pa_nil))
   (pss_cons (ps_for PassesOwn.never rfl (pi_range1 (by rfl) T.z_range (pa_cons (pe_call G_l_take (hr.mono (by omega)) rfl T.m_l_take T.F_l_take.kp T.b_l_take .nil pass0 (pa_cons (pv 0) (pa_cons (pe_op op_add (pv 4) pe_int) pa_nil))) pa_nil)) (pg_name (i := 6) sc_l_rows.nd rfl (Or.inl rfl))
    (pss_one (ps_if (pt_cmpR op_gt (pe_ix ix_list (pv 0) pe_int (fun _ _ => rfl)) pe_int (nomark _))
    (pss_one (ps_set (i := 5) sc_l_rows.nd rfl (Or.inl rfl) (pe_op op_cat (pv 5) (pe_call G_l_row (hr.mono (by omega)) rfl T.m_l_row T.F_l_row.kp T.b_l_row .nil pass0 (pa_cons (pv 0) (pa_cons (pv 1) (pa_cons (pv 2) (pa_cons (pv 3) pa_nil))))))))
    pss_nil)))
   (pss_one (ps_ret (pv 5))))), ?_⟩
  refine ⟨by show 0 ≤ sizeLine; decide, fun l0 hl0' => ?_⟩
  have s0 := same_new (o := .lst []) hl0'
  have g0 := upd_same (H := H) (a := l0) (o := .lst [])
  have nl0 := W.fresh hl0'
  generalize upd H l0 (.lst []) = H0 at s0 g0 ⊢
  refine ⟨_, rfl, _, rfl, _, _, rfl, rfl, p, l, m + 1, rfl, W.same s0, by omega, fun many H1 n0 n1 k1 W1 => ?_⟩
  refine ⟨many, rfl, by omega, by omega, for_range (lo := 0) (n := many.toNat) (fun i σ H' => ∃ (b : Addr) (L : List Str) (R : List (Option RT)) (lf : Int) (z : Option V), σ = [some (.ref p), some (.int (d : Int)), some (.ref a), some (.ref g), some (.int m), some (.ref b), z] ∧ Body hs d L R ∧ 0 ≤ lf ∧ lf + (L.length : Int) = l ∧ KeepX p H H' ∧ TapeAt H' p lf ∧ H' b = some (.lst (L.map V.str)))
    ⟨l0, [], [], l, none, rfl, .nil, hl0, by simp, (keepX_of s0).trans k1, W1, k1 _ _ nl0 g0⟩ ?_ ?_⟩
  · rintro i σ H2 hi ⟨b, L, R, lf, z, rfl, hB, f0, f1, k2, W2, hb⟩
    obtain ⟨c2, q2, hq2, w2⟩ := id W2
    refine ⟨_, rfl, p, _, _, _, rfl, rfl, SqL.of w2, rfl, _, _, rfl, rfl, _, rfl, iteD2 (fun c => ?_) (fun c => ?_)⟩
    · refine ⟨_, rfl, _, rfl, _, rfl, _, rfl, _, rfl, p, a, g, lf, ns, hs, d, rfl, by omega, W2, by omega, by omega, hN.keep k2 W, hO, hF.keep k2 W, hFO, fun b3 L3 R3 lf3 H3 hB3 a0 a1 k3 W3 hb3 => ?_⟩
      refine ⟨b, b3, _, _, rfl, rfl, k3 _ _ (W2.ne hb) hb, hb3, by rw [List.length_map, List.length_map]; show _ ≤ 16777216; omega, fun l4 hl4 => ?_⟩
      refine ⟨l4, L ++ L3, R ++ R3, lf3, _, rfl, .app hB hB3, a0, by rw [List.length_append]; omega, (k2.trans k3).trans (keepX_of (same_new hl4)), W3.same (same_new hl4), ?_⟩
      rw [List.map_append]; exact upd_same
    · exact ⟨b, L, R, lf, _, rfl, hB, f0, f1, k2, W2, hb⟩
  · rintro σ H2 ⟨b, L, R, lf, z, rfl, hB, f0, f1, k2, W2, hb⟩
    exact ⟨_, rfl, q b L R lf H2 hB f0 f1 k2 W2 hb⟩

end
end K34
namespace K34
open PySem L2 TL
section
variable {P : Program} {w : World} {K : PySem.W.Frag} {mg : Str → Option Value} {base : Heap} {A : Ads}
theorem ok_l_kit (T : Txt K mg A) : FnOk P w K mg base CX0 29 A.l_kit A.l_kit_d ["_law_cell"] spKit := by
  have G_l_take := ok_l_take (P := P) (w := w) (base := base) T
  have G_l_rows := ok_l_rows (P := P) (w := w) (base := base) T 4
  have G_l_expr := ok_l_expr (P := P) (w := w) (base := base) T 4
  refine T.F_l_kit.ok sc_l_kit (fun vs H Q E h => ?_) (fun cdv A0 outer s H vs Q E hr h => ?_)
  · obtain ⟨c, rfl, q⟩ := h
    rfl
  obtain ⟨c, rfl, q⟩ := h
  refine ⟨_, (pss_cons (ps_set (i := 1) sc_l_kit.nd rfl (Or.inr rfl) (pe_lst (pa_cons (pv 0) (pa_cons pe_int (pa_cons pe_int pa_nil)))))
   (pss_cons (ps_set (i := 2) sc_l_kit.nd rfl (Or.inl rfl) (pe_ix ix_list (pe_lst (pa_cons (pe_lst (pa_cons pe_str (pa_cons pe_str (pa_cons pe_str (pa_cons pe_str pa_nil))))) (pa_cons (pe_lst (pa_cons pe_str (pa_cons pe_str (pa_cons pe_str (pa_cons pe_str pa_nil))))) (pa_cons (pe_lst (pa_cons pe_str (pa_cons pe_str (pa_cons pe_str (pa_cons pe_str pa_nil))))) pa_nil)))) (pe_call G_l_take (hr.mono (by decide)) rfl T.m_l_take T.F_l_take.kp T.b_l_take .nil pass0 (pa_cons (pv 1) (pa_cons pe_int pa_nil))) (fun _ _ => rfl)))
   (pss_cons (ps_set (i := 3) sc_l_kit.nd rfl (Or.inr rfl) (pe_ix ix_list (pe_lst (pa_cons (pe_lst (pa_cons pe_str (pa_cons pe_str (pa_cons pe_str pa_nil)))) (pa_cons (pe_lst (pa_cons pe_str (pa_cons pe_str (pa_cons pe_str pa_nil)))) pa_nil))) (pe_call G_l_take (hr.mono (by decide)) rfl T.m_l_take T.F_l_take.kp T.b_l_take .nil pass0 (pa_cons (pv 1) (pa_cons pe_int pa_nil))) (fun _ _ => rfl)))
   (pss_cons (ps_setLc (i := 4) (own := [("_law_k", 8)]) (g := gName 8) (tt := tYes) rfl sc_l_kit.nd rfl rfl (sw_true rfl rfl rfl (by decide +kernel)) (pi_range1 (by rfl) T.z_range (pa_cons (pe_ix ix_list (pe_lst (pa_cons pe_int (pa_cons pe_int (pa_cons pe_int (pa_cons pe_int (pa_cons pe_int pa_nil)))))) (pe_call G_l_take (hr.mono (by decide)) rfl T.m_l_take T.F_l_take.kp T.b_l_take .nil pass0 (pa_cons (pv 1) (pa_cons pe_int pa_nil))) (fun _ _ => rfl)) pa_nil)) (blkOk_by (own := [("_law_k", 8)]) (N := N_l_kit) (sc := defScope s_l_kit) (by decide +kernel)) (fun _ _ _ _ _ => pg_name (i := 8) sc_l_kit.nd rfl (Or.inl rfl)) (fun _ _ _ _ _ => pts_nil) (fun _ _ _ _ _ => (pe_tup (pa_cons (pe_ix (r := rIxL K) ix_list (pv 3) (pv 8) (fun _ _ => rfl)) (pa_cons (pe_call G_l_take (hr.mono (by decide)) rfl T.m_l_take T.F_l_take.kp T.b_l_take .nil pass0 (pa_cons (pv 1) (pa_cons pe_int pa_nil))) pa_nil)))))
   (pss_cons (ps_set (i := 5) sc_l_kit.nd rfl (Or.inl rfl) (pe_lst pa_nil))
   (pss_cons (ps_for PassesOwn.never rfl (pi_list (pv 4)) (pg_tup (by rfl) (pgs_cons (pg_name (i := 6) sc_l_kit.nd rfl (Or.inl rfl)) (pgs_cons (pg_name (i := 7) sc_l_kit.nd rfl (Or.inl rfl)) pgs_nil)))
    (pss_cons (ps_asg pe_int (pg_sub (pv 1) pe_int set_list))
   (pss_cons (ps_expr (pe_bm PySem.F.plainAttrs_list PySem.F.slot_list_append PySem.F.type_list_append mt_append (pv 5) (pa_cons (pe_join pe_str (pe_op op_cat (pe_lst (pa_cons pe_str (pa_cons (pv 6) pa_nil))) (pe_slice sl_list (pv 2) po_none (po_some (pv 7))))) pa_nil)))
   (pss_cons (ps_set (i := 5) sc_l_kit.nd rfl (Or.inl rfl) (pe_op op_cat (pv 5) (pe_call G_l_rows (hr.mono (by decide)) rfl T.m_l_rows T.F_l_rows.kp T.b_l_rows .nil pass0 (pa_cons (pv 1) (pa_cons pe_int (pa_cons (pv 2) (pa_cons (pv 4) (pa_cons pe_int pa_nil))))))))
   (pss_one (ps_expr (pe_bm PySem.F.plainAttrs_list PySem.F.slot_list_append PySem.F.type_list_append mt_append (pv 5) (pa_cons (pe_op op_add_str pe_str (pe_call G_l_expr (hr.mono (by decide)) rfl T.m_l_expr T.F_l_expr.kp T.b_l_expr .nil pass0 (pa_cons (pv 1) (pa_cons pe_int (pa_cons (pv 2) pa_nil))))) pa_nil))))))))
   (pss_cons (ps_asg pe_int (pg_sub (pv 1) pe_int set_list))
   (pss_one (ps_ret (pe_tup (pa_cons (pe_op op_cat (pe_op op_cat (pv 5) (pe_lst (pa_cons pe_str pa_nil))) (pe_call G_l_rows (hr.mono (by decide)) rfl T.m_l_rows T.F_l_rows.kp T.b_l_rows .nil pass0 (pa_cons (pv 1) (pa_cons pe_int (pa_cons (pv 2) (pa_cons (pv 4) (pa_cons pe_int pa_nil))))))) (pa_cons (pv 2) (pa_cons (pv 4) pa_nil))))))))))))), ?_⟩
  refine ⟨_, rfl, by show 3 ≤ sizeLine; decide, fun p hp => ?_⟩
  have s0 := same_new (o := .lst [V.int c, .int 0, .int 0]) hp
  have W0 : TapeAt (upd H p (.lst [V.int c, .int 0, .int 0])) p 0 := ⟨c, 0, by decide, upd_same⟩
  have kH0 : KeepX p H (upd H p (.lst [V.int c, .int 0, .int 0])) := keepX_of s0
  generalize upd H p (.lst [V.int c, .int 0, .int 0]) = H0 at W0 kH0 ⊢
  refine ⟨by show 4 ≤ sizeLine; decide, fun a1 ha1 => ?_⟩
  have t1 := same_new (o := .lst (NMS1.map V.str)) ha1
  have g1 := upd_same (H := H0) (a := a1) (o := .lst (NMS1.map V.str))
  refine ⟨by show 4 ≤ sizeLine; decide, fun a2 ha2 => ?_⟩
  have t2 := same_new (H := upd H0 a1 (.lst (NMS1.map V.str))) (o := .lst (NMS2.map V.str)) ha2
  have g2 := upd_same (H := upd H0 a1 (.lst (NMS1.map V.str))) (a := a2) (o := .lst (NMS2.map V.str))
  refine ⟨by show 4 ≤ sizeLine; decide, fun a3 ha3 => ?_⟩
  have t3 := same_new (H := upd (upd H0 a1 (.lst (NMS1.map V.str))) a2 (.lst (NMS2.map V.str))) (o := .lst (NMS3.map V.str)) ha3
  have g3 := upd_same (H := upd (upd H0 a1 (.lst (NMS1.map V.str))) a2 (.lst (NMS2.map V.str))) (a := a3) (o := .lst (NMS3.map V.str))
  refine ⟨by show 3 ≤ sizeLine; decide, fun al hal => ?_⟩
  have t4 := same_new (H := upd (upd (upd H0 a1 (.lst (NMS1.map V.str))) a2 (.lst (NMS2.map V.str))) a3 (.lst (NMS3.map V.str))) (o := .lst [V.ref a1, .ref a2, .ref a3]) hal
  have g4 := upd_same (H := upd (upd (upd H0 a1 (.lst (NMS1.map V.str))) a2 (.lst (NMS2.map V.str))) a3 (.lst (NMS3.map V.str))) (a := al) (o := .lst [V.ref a1, .ref a2, .ref a3])
  have g1' := t4 _ _ (t3 _ _ (t2 _ _ g1))
  have g2' := t4 _ _ (t3 _ _ g2)
  have g3' := t4 _ _ g3
  have t14 := t1.trans (t2.trans (t3.trans t4))
  have W1 := W0.same t14
  have nal := (W0.same (t1.trans (t2.trans t3))).fresh hal
  have k01 := kH0.trans (keepX_of t14)
  obtain ⟨HX, eHX⟩ : ∃ HX, HX = upd (upd (upd (upd H0 a1 (.lst (NMS1.map V.str))) a2 (.lst (NMS2.map V.str))) a3 (.lst (NMS3.map V.str))) al (.lst [V.ref a1, .ref a2, .ref a3]) := ⟨_, rfl⟩
  rw [← eHX] at g1' g2' g3' g4 W1 k01
  refine ⟨_, rfl, p, 0, 3, rfl, (by rw [eHX] at W1; exact W1), by decide, fun z H1 z0 z1 k1 W1a => ?_⟩
  have k1 : KeepX p HX H1 := by rw [eHX]; exact k1
  have kk1 := k01.trans k1
  have hnm : ∃ a ns, atI [V.ref a1, .ref a2, .ref a3] z = some (.ref a) ∧ NamesAt H1 a ns ∧ NamesOk ns := by
    have h : z = 0 ∨ z = 1 ∨ z = 2 := by omega
    rcases h with rfl | rfl | rfl
    · exact ⟨a1, NMS1, rfl, k1 _ _ (W1.ne g1') g1', nms_ok.1⟩
    · exact ⟨a2, NMS2, rfl, k1 _ _ (W1.ne g2') g2', nms_ok.2.1⟩
    · exact ⟨a3, NMS3, rfl, k1 _ _ (W1.ne g3') g3', nms_ok.2.2⟩
  obtain ⟨a, ns, hat, hN1, hO⟩ := hnm
  refine ⟨al, _, _, _, rfl, rfl, SqL.of (k1 _ _ nal g4), hat, ?_⟩
  clear t1 t2 t3 t4 g1 g2 g3 g1' g2' g3' g4 t14 W0 W1 k01 kH0 s0 eHX k1 hat ha1 ha2 ha3 hal nal
  refine ⟨by show 3 ≤ sizeLine; decide, fun b1 hb1 => ?_⟩
  have t1 := same_new (o := .lst (CLD1.map V.str)) hb1
  have g1 := upd_same (H := H1) (a := b1) (o := .lst (CLD1.map V.str))
  refine ⟨by show 3 ≤ sizeLine; decide, fun b2 hb2 => ?_⟩
  have t2 := same_new (H := upd H1 b1 (.lst (CLD1.map V.str))) (o := .lst (CLD2.map V.str)) hb2
  have g2 := upd_same (H := upd H1 b1 (.lst (CLD1.map V.str))) (a := b2) (o := .lst (CLD2.map V.str))
  refine ⟨by show 2 ≤ sizeLine; decide, fun bl hbl => ?_⟩
  have t3 := same_new (H := upd (upd H1 b1 (.lst (CLD1.map V.str))) b2 (.lst (CLD2.map V.str))) (o := .lst [V.ref b1, .ref b2]) hbl
  have g3 := upd_same (H := upd (upd H1 b1 (.lst (CLD1.map V.str))) b2 (.lst (CLD2.map V.str))) (a := bl) (o := .lst [V.ref b1, .ref b2])
  have g1' := t3 _ _ (t2 _ _ g1)
  have g2' := t3 _ _ g2
  have t13 := t1.trans (t2.trans t3)
  have W2 := W1a.same t13
  have nbl := (W1a.same (t1.trans t2)).fresh hbl
  refine ⟨_, rfl, p, 0, 2, rfl, W2, by decide, fun z2 H2 z20 z21 k2 W2a => ?_⟩
  have hcl : ∃ cl cs, atI [V.ref b1, .ref b2] z2 = some (.ref cl) ∧ H2 cl = some (.lst (cs.map V.str)) ∧ CalledOk cs := by
    have h : z2 = 0 ∨ z2 = 1 := by omega
    rcases h with rfl | rfl
    · exact ⟨b1, CLD1, rfl, k2 _ _ (W2.ne g1') g1', cld_ok.1⟩
    · exact ⟨b2, CLD2, rfl, k2 _ _ (W2.ne g2') g2', cld_ok.2⟩
  obtain ⟨cl, cs, hat2, hC2, hCO⟩ := hcl
  refine ⟨bl, _, _, _, rfl, rfl, SqL.of (k2 _ _ nbl g3), hat2, ?_⟩
  have kk2 := (kk1.trans (keepX_of t13)).trans k2
  have hN2 := hN1.keep ((keepX_of t13).trans k2) W1a
  clear t1 t2 t3 g1 g2 g3 g1' g2' t13 W2 k2 hat2 hb1 hb2 hbl nbl kk1 hN1 W1a
  refine ⟨by show 5 ≤ sizeLine; decide, fun lq hlq => ?_⟩
  have s3 := same_new (o := .lst [V.int 0, .int 1, .int 2, .int 2, .int 3]) hlq
  refine ⟨_, rfl, p, 0, 5, rfl, W2a.same s3, by decide, fun z3 H3 z30 z31 k3 W3 => ?_⟩
  obtain ⟨v, hv, hv3⟩ := pick5n z30 z31
  have kk3 := (kk2.trans (keepX_of s3)).trans k3
  have hN3 := hN2.keep ((keepX_of s3).trans k3) W2a
  have hC3 := k3 _ _ ((W2a.same s3).ne (s3 _ _ hC2)) (s3 _ _ hC2)
  refine ⟨lq, _, _, _, rfl, rfl, SqL.of (k3 _ _ (W2a.fresh hlq) upd_same), hv, (v : Int), rfl, by omega, by omega, fun D hD => lc_inv (walk_range (lo := 0) (n := ((v : Int)).toNat)) (fun i H ys => KeepX p H3 H ∧ TapeAt H p 0 ∧ ∃ hs : List (Str × Nat), All2 (fun (h : Str × Nat) v => ∃ t, v = V.ref t ∧ H t = some (.tup [.str h.1, .int (h.2 : Int)])) hs ys ∧ hs.map Prod.fst = cs.take i ∧ (∀ h ∈ hs, h.2 ≤ 3) ∧ ys.length ≤ i) (by omega) (fun _ => trivial) (fun _ _ _ _ y => y.1) ⟨keepX_of (same_new hD), W3.same (same_new hD), [], .nil, rfl, (fun _ h => by cases h), Nat.le_refl _⟩ (fun i H ys h => by obtain ⟨_, _, _, _, _, _, h⟩ := h; exact h) ?_ ?_ ?_⟩
  · rintro i H4 ys zs ⟨k, W, hs, ha, h1, h2, h3⟩ hz z2
    refine ⟨fun b u nb hb => by rw [upd_ne (ne_of_none hb hD)]; exact k b u nb hb, ?_, hs, ha.mono fun h v ⟨t, e1, e2⟩ => ⟨t, e1, by rw [upd_ne (ne_of e2 hz (by intro z; cases z))]; exact e2⟩, h1, h2, h3⟩
    obtain ⟨c4, q4, hq4, w4⟩ := W
    exact ⟨c4, q4, hq4, by rw [upd_ne (W3.fresh hD).symm]; exact w4⟩
  · rintro i x H4 ys Z hi ⟨k, W, hs, ha, h1, h2, h3⟩ hDys ⟨_, hx⟩ zz
    subst hx
    have hi' : i < cs.length := by rw [hCO.1]; omega
    have hat4 : atI (cs.map V.str) (0 + (i : Int)) = some (.str cs[i]) := by
      rw [Int.zero_add]
      exact atI_nat (by rw [List.getElem?_map, List.getElem?_eq_getElem hi']; rfl)
    refine ⟨_, rfl, _, rfl, cl, _, _, _, rfl, rfl, SqL.of (k _ _ (W3.ne hC3) hC3), hat4, ?_⟩
    refine ⟨_, rfl, p, 0, 4, rfl, W, by decide, fun m H5 m0 m1 k5 W5 => ?_⟩
    obtain ⟨m, rfl⟩ : ∃ k : Nat, m = (k : Int) := ⟨m.toNat, by omega⟩
    refine ⟨by show 2 ≤ sizeLine; decide, fun t ht => ?_⟩
    have s6 := same_new (o := .tup [V.str cs[i], .int (m : Int)]) ht
    have kt : ∀ t2 xs, H4 t2 = some (.tup xs) → upd H5 t (.tup [V.str cs[i], .int (m : Int)]) t2 = some (.tup xs) := fun t2 xs e => s6 _ _ (k5 _ _ (W.neO e fun _ _ _ z => by cases z) e)
    refine zz _ _ (s6 _ _ (k5 _ _ (W3.fresh hD) hDys)) ⟨(k.trans k5).trans (keepX_of s6), W5.same s6, hs ++ [(cs[i], m)], (ha.mono fun h v ⟨t2, e1, e2⟩ => ⟨t2, e1, kt _ _ e2⟩).snoc ⟨t, rfl, upd_same⟩, ?_, fun h hh => ?_, by rw [List.length_append]; show ys.length + 1 ≤ i + 1; omega⟩
    · rw [List.map_append, h1, List.take_add_one, List.getElem?_eq_getElem hi']; rfl
    · rcases List.mem_append.mp hh with hh | hh
      · exact h2 h hh
      · rw [List.mem_singleton.mp hh]; show m ≤ 3; omega
  rintro H5 fvs ⟨k4, W5, hs, ha5, h1, h2, h3⟩ hD5
  have hvv : ((v : Int)).toNat = v := Int.toNat_natCast v
  rw [hvv] at h1
  have kk5 := kk3.trans k4
  have hN5 := hN3.keep k4 W3
  have hF5 : FunsAt H5 D hs := ⟨fvs, hD5, ha5⟩
  have hmem : ∀ h ∈ hs, h.1 ∈ cs := fun h hh => List.mem_of_mem_take (by rw [← h1]; exact List.mem_map.mpr ⟨h, hh, rfl⟩)
  have hFO : FunsOk hs := by
    refine ⟨?_, ?_, fun h hh => ⟨(hCO.2.2 _ (hmem h hh)).1, h2 h hh, (hCO.2.2 _ (hmem h hh)).2⟩⟩
    · have := congrArg List.length h1
      rw [List.length_map, List.length_take] at this
      omega
    · rw [h1]; exact hCO.2.1.sublist (List.take_sublist _ _)
  have hsl := hFO.1
  have nD := W3.fresh hD
  have hfl := ha5.length
  clear h3 h2 k4 hN3 hC3 W3 kk3 k3 hv hC2 hN2 W2a kk2 hD s3
  refine ⟨by show 0 ≤ sizeLine; decide, fun l0 hl0 => ?_⟩
  have s5 := same_new (o := .lst []) hl0
  have g5 := upd_same (H := H5) (a := l0) (o := .lst [])
  generalize upd H5 l0 (.lst []) = H5x at s5 g5 ⊢
  refine ⟨_, rfl, D, rfl, ⟨_, SqL.of (s5 _ _ hD5)⟩, for_it (walk_list (xs := fvs)) (fun i σ H' => ∃ (b : Addr) (bs : List FnB) (lf : Int) (z6 z7 : Option V), σ = [some (.int c), some (.ref p), some (.ref a), some (.ref cl), some (.ref D), some (.ref b), z6, z7, none] ∧ (∀ x ∈ bs, x.Ok hs) ∧ bs.map FnB.ar = hs.take i ∧ (bs.flatMap FnB.lines).length ≤ 10 * i ∧ KeepX p H5 H' ∧ TapeAt H' p lf ∧ H5 b = none ∧ H' b = some (.lst ((bs.flatMap FnB.lines).map V.str)))
    ⟨l0, [], 0, none, none, rfl, (fun _ h => by cases h), rfl, Nat.le_refl _, keepX_of s5, W5.same s5, hl0, g5⟩ (fun i σ H' _ h => by obtain ⟨_, _, _, _, _, _, _, _, _, k, _⟩ := h; exact SqL.of (k _ _ nD hD5)) ?_ ?_⟩
  · rintro i x σ H6 H7 hi ⟨b, bs, lf, z6, z7, rfl, hok, har, hlen, k6, W6, hbn, hb⟩ ⟨rfl, hx⟩
    obtain ⟨⟨f, m⟩, hhs, t, rfl, ht⟩ := ha5.at hx
    have hm := List.mem_of_getElem? hhs
    obtain ⟨hfn, hm3, _⟩ := hFO.2.2 _ hm
    have ht6 := k6 _ _ (W5.neO ht fun _ _ _ z => by cases z) ht
    refine ⟨t, _, rfl, SqT.of ht6, rfl, _, _, rfl, _, _, rfl, rfl, ?_⟩
    obtain ⟨c6, q6, hq6, w6⟩ := id W6
    refine ⟨_, rfl, p, _, _, 2, rfl, rfl, w6, rfl, ?_⟩
    have W7 : TapeAt (upd H7 p (.lst [.int c6, .int q6, .int 8])) p 8 := ⟨c6, q6, hq6, upd_same⟩
    have k7 : KeepX p H5 (upd H7 p (.lst [.int c6, .int q6, .int 8])) := k6.trans keepX_upd
    have hb7 : upd H7 p (.lst [.int c6, .int q6, .int 8]) b = some (.lst ((bs.flatMap FnB.lines).map V.str)) := by rw [upd_ne (W6.ne hb)]; exact hb
    have hN7 := hN5.keep k7 W5
    refine ⟨_, rfl, .inl ⟨rfl, _, SqL.of hb7⟩, ⟨_, rfl⟩, _, rfl, by show 2 ≤ sizeLine; decide, fun m1 hm1 => ?_⟩
    have u1 := same_new (H := upd H7 p (.lst [.int c6, .int q6, .int 8])) (o := .lst [V.str "fun", .str f]) hm1
    have gm1 := upd_same (H := upd H7 p (.lst [.int c6, .int q6, .int 8])) (a := m1) (o := .lst [V.str "fun", .str f])
    refine ⟨_, rfl, _, rfl, (m : Int), rfl, a, ns.map V.str, rfl, SqL.of (u1 _ _ hN7), fun m2 hm2 => ?_⟩
    have u2 := same_new (H := upd (upd H7 p (.lst [.int c6, .int q6, .int 8])) m1 (.lst [V.str "fun", .str f])) (o := .lst (cutV (ns.map V.str) none (some (m : Int)))) hm2
    have gm2 := upd_same (H := upd (upd H7 p (.lst [.int c6, .int q6, .int 8])) m1 (.lst [V.str "fun", .str f])) (a := m2) (o := .lst (cutV (ns.map V.str) none (some (m : Int))))
    have ecut : cutV (ns.map V.str) none (some (m : Int)) = (ns.take m).map V.str := by rw [cutV_take, List.map_take]
    have htl : (ns.take m).length ≤ 3 := by rw [List.length_take]; omega
    refine ⟨m1, m2, _, _, rfl, rfl, u2 _ _ gm1, gm2, by show 2 + _ ≤ 16777216; rw [ecut, List.length_map]; omega, fun m3 hm3 => ?_⟩
    have u3 := same_new (H := upd (upd (upd H7 p (.lst [.int c6, .int q6, .int 8])) m1 (.lst [V.str "fun", .str f])) m2 (.lst (cutV (ns.map V.str) none (some (m : Int))))) (o := .lst ([V.str "fun", .str f] ++ cutV (ns.map V.str) none (some (m : Int)))) hm3
    have gm3 : upd (upd (upd (upd H7 p (.lst [.int c6, .int q6, .int 8])) m1 (.lst [V.str "fun", .str f])) m2 (.lst (cutV (ns.map V.str) none (some (m : Int))))) m3 (.lst ([V.str "fun", .str f] ++ cutV (ns.map V.str) none (some (m : Int)))) m3 = some (.lst ((Str.ofString "fun" :: f :: ns.take m).map V.str)) := by rw [upd_same, ecut]; rfl
    have u13 := u1.trans (u2.trans u3)
    have hpsn : ∀ x ∈ ns.take m, isNameW x = true := fun x hx => hO.2.1 x (List.mem_of_mem_take hx)
    have hmem4 : m ∈ [0, 1, 2, 3] := by
      have : m = 0 ∨ m = 1 ∨ m = 2 ∨ m = 3 := by omega
      rcases this with rfl | rfl | rfl | rfl <;> decide
    have hhd : HeadOk f (ns.take m) := ⟨hfn, hpsn, htl, hO.2.2 m hmem4⟩
    refine ⟨_, m3, Str.ofString "fun" :: f :: ns.take m, rfl, rfl, .inl (SqL.of gm3), head_sum34 hfn hpsn htl, ?_⟩
    refine ⟨b, _, _, rfl, rfl, u13 _ _ hb7, by rw [List.length_map]; exact Nat.lt_of_le_of_lt (show (bs.flatMap FnB.lines).length ≤ 100 by have := congrArg List.length har; have := (List.getElem?_eq_some_iff.mp hhs).1; omega) (by decide), ?_⟩
    have WZ := W7.same u13
    have kZ := k7.trans (keepX_of u13)
    have hbZ := u13 _ _ hb7
    have nbp : b ≠ p := W6.ne hb
    obtain ⟨cz, qz, hqz, wz⟩ := id WZ
    have hw : ∀ o, TapeAt (upd (upd (upd (upd (upd H7 p (.lst [.int c6, .int q6, .int 8])) m1 (.lst [V.str "fun", .str f])) m2 (.lst (cutV (ns.map V.str) none (some (m : Int))))) m3 (.lst ([V.str "fun", .str f] ++ cutV (ns.map V.str) none (some (m : Int))))) b o) p 8 := fun o => ⟨cz, qz, hqz, by rw [upd_ne nbp.symm]; exact wz⟩
    have hk : ∀ o, KeepX p H5 (upd (upd (upd (upd (upd H7 p (.lst [.int c6, .int q6, .int 8])) m1 (.lst [V.str "fun", .str f])) m2 (.lst (cutV (ns.map V.str) none (some (m : Int))))) m3 (.lst ([V.str "fun", .str f] ++ cutV (ns.map V.str) none (some (m : Int))))) b o) := fun o x u nx hx => by
      rw [upd_ne (ne_of_none hx hbn)]; exact kZ _ _ nx hx
    have WB := hw (.lst ((bs.flatMap FnB.lines).map V.str ++ [V.str (headText f (ns.take m))]))
    have kB := hk (.lst ((bs.flatMap FnB.lines).map V.str ++ [V.str (headText f (ns.take m))]))
    have gB := upd_same (H := upd (upd (upd (upd H7 p (.lst [.int c6, .int q6, .int 8])) m1 (.lst [V.str "fun", .str f])) m2 (.lst (cutV (ns.map V.str) none (some (m : Int))))) m3 (.lst ([V.str "fun", .str f] ++ cutV (ns.map V.str) none (some (m : Int))))) (a := b) (o := .lst ((bs.flatMap FnB.lines).map V.str ++ [V.str (headText f (ns.take m))]))
    refine ⟨_, rfl, _, rfl, _, rfl, _, rfl, p, a, D, 8, ns, hs, 2, 3, rfl, by decide, by decide, by decide, WB, by decide, by decide, hN5.keep kB W5, hO, hF5.keep kB W5, hFO, fun b3 L R lf3 H9 hBd f0 f1 k9 W9 hb3 => ?_⟩
    have hbl : (bs.flatMap FnB.lines).length ≤ 100 := by have := (List.getElem?_eq_some_iff.mp hhs).1; omega
    refine ⟨b, b3, _, _, rfl, rfl, k9 _ _ nbp gB, hb3, by show _ ≤ 16777216; simp only [List.length_append, List.length_map, List.length_cons, List.length_nil]; omega, fun b4 hb4 => ?_⟩
    have u4 := same_new (o := .lst (((bs.flatMap FnB.lines).map V.str ++ [V.str (headText f (ns.take m))]) ++ L.map V.str)) hb4
    have gm4 := upd_same (H := H9) (a := b4) (o := .lst (((bs.flatMap FnB.lines).map V.str ++ [V.str (headText f (ns.take m))]) ++ L.map V.str))
    have k10 := kB.trans k9
    have nb4 := W9.fresh hb4
    have hb4n := none_keepX k10 nb4 hb4
    have W10 := W9.same u4
    have k11 := k10.trans (keepX_of u4)
    have hN11 := hN5.keep k11 W5
    refine ⟨_, rfl, .inl ⟨rfl, _, SqL.of gm4⟩, _, rfl, _, rfl, p, a, _, ns, 2, rfl, by decide, by decide, W10, hN11, hO, fun e H12 hw1 hd1 hp1 k12 W11 => ?_⟩
    obtain ⟨hx1, hx2⟩ := exok34 hw1 hd1 hp1 (by decide)
    refine ⟨_, _, rfl, rfl, (by show _ ≤ 16777216; simp only [app_len, ln0, ln1, ln2, ln3, ln4, ln5, ln6, ln7, ln8, ln9, ln10, ln11, ln12, ln13, ln14, ln15, ln16, ln17, ln18, ln19]; omega), b4, _, _, rfl, rfl, k12 _ _ nb4 gm4, by simp only [List.length_append, List.length_map, List.length_cons, List.length_nil]; exact Nat.lt_of_le_of_lt (show _ ≤ 200 by omega) (by decide), ?_⟩
    rw [txt_give]
    have hFB : FnB.Ok hs ⟨f, ns.take m, L, R, e⟩ := ⟨hhd, hx1, hBd.up (by decide)⟩
    have h4n : ns.length = 4 := hO.1
    refine ⟨b4, bs ++ [⟨f, ns.take m, L, R, e⟩], lf3, _, _, rfl, fun x hx => ?_, ?_, ?_, fun x u nx hx => ?_, ?_, hb4n, ?_⟩
    · rcases List.mem_append.mp hx with h | h
      · exact hok x h
      · rw [List.mem_singleton.mp h]; exact hFB
    · rw [List.map_append, har, List.take_add_one, hhs]
      show hs.take i ++ [(f, (ns.take m).length)] = hs.take i ++ [(f, m)]
      rw [List.length_take, h4n, Nat.min_eq_left (by omega)]
    · rw [List.flatMap_append, List.length_append]
      show _ + (([⟨f, ns.take m, L, R, e⟩] : List FnB).flatMap FnB.lines).length ≤ _
      rw [List.flatMap_cons, List.flatMap_nil, List.append_nil]
      show _ + (L ++ [(RT.give e).text]).length + 1 ≤ _
      rw [List.length_append]
      show _ + (L.length + 1) + 1 ≤ _
      omega
    · rw [upd_ne (ne_of_none hx hb4n)]
      exact (k11.trans k12) _ _ nx hx
    · obtain ⟨c9, q9, hq9, w9⟩ := W11
      exact ⟨c9, q9, hq9, by rw [upd_ne nb4.symm]; exact w9⟩
    · rw [upd_same, List.flatMap_append]
      simp [FnB.lines]
  · rintro σ H6 ⟨b, bs, lf, z6, z7, rfl, hok, har, hlen, k6, W6, hbn, hb⟩
    have hil : fvs.length ≤ 3 := by omega
    have har2 : bs.map FnB.ar = hs := by rw [har, ← hfl, List.take_length]
    obtain ⟨c6, q6, hq6, w6⟩ := id W6
    refine ⟨_, rfl, p, _, _, 2, rfl, rfl, w6, rfl, ?_⟩
    have W7 : TapeAt (upd H6 p (.lst [.int c6, .int q6, .int 24])) p 24 := ⟨c6, q6, hq6, upd_same⟩
    have k7 : KeepX p H5 (upd H6 p (.lst [.int c6, .int q6, .int 24])) := k6.trans keepX_upd
    have hb7 : upd H6 p (.lst [.int c6, .int q6, .int 24]) b = some (.lst ((bs.flatMap FnB.lines).map V.str)) := by rw [upd_ne (W6.ne hb)]; exact hb
    refine ⟨_, rfl, by show 1 ≤ sizeLine; decide, fun m1 hm1 => ?_⟩
    have u1 := same_new (H := upd H6 p (.lst [.int c6, .int q6, .int 24])) (o := .lst [V.str "main"]) hm1
    have gm1 := upd_same (H := upd H6 p (.lst [.int c6, .int q6, .int 24])) (a := m1) (o := .lst [V.str "main"])
    refine ⟨b, m1, _, _, rfl, rfl, u1 _ _ hb7, gm1, by show _ + 1 ≤ 16777216; rw [List.length_map]; omega, fun m2 hm2 => ?_⟩
    have u2 := same_new (H := upd (upd H6 p (.lst [.int c6, .int q6, .int 24])) m1 (.lst [V.str "main"])) (o := .lst ((bs.flatMap FnB.lines).map V.str ++ [V.str "main"])) hm2
    have gm2 := upd_same (H := upd (upd H6 p (.lst [.int c6, .int q6, .int 24])) m1 (.lst [V.str "main"])) (a := m2) (o := .lst ((bs.flatMap FnB.lines).map V.str ++ [V.str "main"]))
    have u12 := u1.trans u2
    have W8 := W7.same u12
    have k8 := k7.trans (keepX_of u12)
    have nm2 := (W7.same u1).fresh hm2
    refine ⟨_, rfl, _, rfl, _, rfl, p, a, D, 24, ns, hs, 3, 9, rfl, by decide, by decide, by decide, W8, by decide, by decide, hN5.keep k8 W5, hO, hF5.keep k8 W5, hFO, fun b3 L R lf3 H9 hB f0 f1 k9 W9 hb3 => ?_⟩
    refine ⟨m2, b3, _, _, rfl, rfl, k9 _ _ nm2 gm2, hb3, by show _ ≤ 16777216; simp only [List.length_append, List.length_map, List.length_cons, List.length_nil]; omega, fun m4 hm4 => ?_⟩
    have u4 := same_new (o := .lst (((bs.flatMap FnB.lines).map V.str ++ [V.str "main"]) ++ L.map V.str)) hm4
    have gm4 := upd_same (H := H9) (a := m4) (o := .lst (((bs.flatMap FnB.lines).map V.str ++ [V.str "main"]) ++ L.map V.str))
    generalize upd H9 m4 (.lst (((bs.flatMap FnB.lines).map V.str ++ [V.str "main"]) ++ L.map V.str)) = HA at u4 gm4 ⊢
    refine ⟨_, rfl, _, rfl, by show 3 ≤ sizeLine; decide, fun t ht => ?_⟩
    have u5 := same_new (o := .tup [V.ref m4, .ref a, .ref D]) ht
    have kE := ((k8.trans k9).trans (keepX_of u4)).trans (keepX_of u5)
    have sE : Same H _ := KeepX.same hp (kk5.trans kE)
    refine q t m4 a D (bs.flatMap FnB.lines ++ Str.ofString "main" :: L) ns hs (bs.flatMap FnB.rows ++ none :: R) _ sE upd_same ?_ (hN5.keep kE W5) hO (hF5.keep kE W5) hFO ⟨⟨bs, L, R, hok, har2, by have := congrArg List.length har2; rw [List.length_map] at this; omega, hFO.2.1, hB.up (by decide), rfl, rfl⟩, ?_⟩
    · rw [u5 _ _ gm4]
      simp
    · rw [List.length_append, List.length_cons]
      omega

end
end K34
namespace K34
open PySem L2 TL
section
variable {P : Program} {w : World} {K : PySem.W.Frag} {mg : Str → Option Value} {base : Heap} {A : Ads}
theorem ok_l_drawn (T : Txt K mg A) : FnOk P w K mg base CX0 15 A.l_drawn A.l_drawn_d ["_law_tape", "_law_kit_here"] spDrawn := by
  have G_l_take := ok_l_take (P := P) (w := w) (base := base) T
  have G_l_simple := ok_l_simple (P := P) (w := w) (base := base) T
  have G_l_expr := ok_l_expr (P := P) (w := w) (base := base) T 4
  refine T.F_l_drawn.ok sc_l_drawn (fun vs H Q E h => ?_) (fun cdv A0 outer s H vs Q E hr h => ?_)
  · obtain ⟨p, t, a, g, l, ns, hs, rfl, W, hK, q⟩ := h
    rfl
  obtain ⟨p, t, a, g, l, ns, hs, rfl, W, hK, q⟩ := h
  refine ⟨_, (pss_cons (ps_asg (pv 1) (pg_tup (by rfl) (pgs_cons (pg_name (i := 2) sc_l_drawn.nd rfl (Or.inl rfl)) (pgs_cons (pg_name (i := 3) sc_l_drawn.nd rfl (Or.inr rfl)) (pgs_cons (pg_name (i := 4) sc_l_drawn.nd rfl (Or.inl rfl)) pgs_nil)))))
   (pss_cons (ps_set (i := 5) sc_l_drawn.nd rfl (Or.inl rfl) (pe_call G_l_take (hr.mono (by decide)) rfl T.m_l_take T.F_l_take.kp T.b_l_take .nil pass0 (pa_cons (pv 0) (pa_cons pe_int pa_nil))))
   (pss_cons (ps_if (pt_cmpR op_lt (pv 5) pe_int (nomark _))
    (pss_one (ps_ret (pe_tup (pa_cons (pe_call G_l_simple (hr.mono (by decide)) rfl T.m_l_simple T.F_l_simple.kp T.b_l_simple .nil pass0 (pa_cons (pv 0) (pa_cons (pv 3) pa_nil))) (pa_cons pe_bl pa_nil)))))
    pss_nil)
   (pss_cons (ps_if (pt_cmpR op_lt (pv 5) pe_int (nomark _))
    (pss_one (ps_ret (pe_tup (pa_cons (pe_op op_add_str (pe_ix ix_list (pe_lst (pa_cons pe_str (pa_cons pe_str (pa_cons pe_str pa_nil)))) (pe_op op_sub (pv 5) pe_int) (fun _ _ => rfl)) (pe_call G_l_expr (hr.mono (by decide)) rfl T.m_l_expr T.F_l_expr.kp T.b_l_expr .nil pass0 (pa_cons (pv 0) (pa_cons pe_int (pa_cons (pv 3) pa_nil))))) (pa_cons pe_bl pa_nil)))))
    pss_nil)
   (pss_cons (ps_asg (pe_ix ix_list (pe_op op_cat (pv 4) (pe_lst (pa_cons (pe_tup (pa_cons pe_str (pa_cons pe_int pa_nil))) pa_nil))) (pe_call G_l_take (hr.mono (by decide)) rfl T.m_l_take T.F_l_take.kp T.b_l_take .nil pass0 (pa_cons (pv 0) (pa_cons (pe_op op_add (pe_callB call_lenK (by rfl) T.z_len (by decide +kernel) (pa_cons (pv 4) pa_nil)) pe_int) pa_nil))) (fun _ _ => rfl)) (pg_tup (by rfl) (pgs_cons (pg_name (i := 6) sc_l_drawn.nd rfl (Or.inl rfl)) (pgs_cons (pg_name (i := 7) sc_l_drawn.nd rfl (Or.inl rfl)) pgs_nil))))
   (pss_cons (ps_set (i := 8) sc_l_drawn.nd rfl (Or.inl rfl) (pe_callB (call_max2 rfl) (by rfl) T.z_max (by decide +kernel) (pa_cons pe_int (pa_cons (pe_op op_add (pv 7) (pe_ix ix_list (pe_lst (pa_cons pe_int (pa_cons pe_int (pa_cons pe_int (pa_cons pe_int (pa_cons (pe_un un_neg pe_int) pa_nil)))))) (pe_call G_l_take (hr.mono (by decide)) rfl T.m_l_take T.F_l_take.kp T.b_l_take .nil pass0 (pa_cons (pv 0) (pa_cons pe_int pa_nil))) (fun _ _ => rfl))) pa_nil))))
   (pss_cons (ps_set (i := 9) sc_l_drawn.nd rfl (Or.inl rfl) (pe_op op_cat (pe_lst (pa_cons pe_str (pa_cons (pe_ix ix_list (pv 3) (pe_call G_l_take (hr.mono (by decide)) rfl T.m_l_take T.F_l_take.kp T.b_l_take .nil pass0 (pa_cons (pv 0) (pa_cons pe_int pa_nil))) (fun _ _ => rfl)) (pa_cons (pv 6) pa_nil)))) (pe_lc (own := [("_law_k", 10)]) (g := gName 10) (tt := tYes) rfl sc_l_drawn.nd (pi_range1 (by rfl) T.z_range (pa_cons (pv 8) pa_nil)) (blkOk_by (own := [("_law_k", 10)]) (N := N_l_drawn) (sc := defScope s_l_drawn) (by decide +kernel)) (fun _ _ _ _ _ => pg_name (i := 10) sc_l_drawn.nd rfl (Or.inl rfl)) (fun _ _ _ _ _ => pts_nil) (fun _ _ _ _ _ => (pe_call G_l_expr (hr.mono (by decide)) rfl T.m_l_expr T.F_l_expr.kp T.b_l_expr .nil pass0 (pa_cons (pv 0) (pa_cons pe_int (pa_cons (pv 3) pa_nil))))))))
   (pss_one (ps_ret (pe_tup (pa_cons (pe_join pe_str (pv 9)) (pa_cons (pe_and (pe_cmpR op_ne (pv 6) pe_str (nomark _)) (pe_one (pe_cmpR op_eq (pv 8) (pv 7) (nomark _)))) pa_nil)))))))))))), ?_⟩
  obtain ⟨ll, ht, hN, hO, hF, hFO⟩ := hK
  refine ⟨_, rfl, t, _, rfl, SqT.of ht, rfl, _, _, rfl, _, _, rfl, _, _, rfl, rfl, ?_⟩
  refine ⟨_, rfl, p, l, 7, rfl, W, by decide, fun way H1 w0 w1 k1 W1 => ?_⟩
  have hN1 := hN.keep k1 W
  have hF1 := hF.keep k1 W
  refine ⟨_, rfl, _, _, rfl, rfl, _, rfl, iteD2 (fun c1 => ?_) (fun c1 => ?_)⟩
  · refine ⟨_, rfl, _, rfl, p, a, l, ns, rfl, W1, hN1, hO, fun rt H2 ok sm k2 W2 => ?_⟩
    refine ⟨by show 2 ≤ sizeLine; decide, fun r hr => ?_⟩
    exact q rt true r _ (RT.ok4 ok) (fun _ => ⟨ok, simple_ar sm⟩) (fun h => by cases h) ((k1.trans k2).trans (keepX_of (same_new hr))) upd_same
  refine ⟨_, rfl, _, _, rfl, rfl, _, rfl, iteD2 (fun c2 => ?_) (fun c2 => ?_)⟩
  · refine ⟨by show 3 ≤ sizeLine; decide, fun lw hlw => ?_⟩
    have s0 := same_new (o := .lst (IWG34.map V.str)) hlw
    have hz : way = 3 ∨ way = 4 ∨ way = 5 := by omega
    have g0 := upd_same (H := H1) (a := lw) (o := .lst (IWG34.map V.str))
    have WA := W1.same s0
    have kA := k1.trans (keepX_of s0)
    have hNA := hN.keep kA W
    have ex : ∃ (hdt : Str) (mk : Ex → RT), atI (IWG34.map V.str) (way - 3) = some (.str hdt) ∧ hdt.length ≤ 6 ∧ (∀ e, hdt ++ e.text = (mk e).text) ∧ (∀ e, ExOk e → (mk e).Ok) ∧ ∀ e, ArOk hs (mk e) := by
      rcases hz with rfl | rfl | rfl
      · exact ⟨"if ", .ifr, rfl, by decide +kernel, txt_if, fun _ h => h, fun _ => trivial⟩
      · exact ⟨"while ", .loop, rfl, by decide +kernel, txt_while, fun _ h => h, fun _ => trivial⟩
      · exact ⟨"give ", .give, rfl, by decide +kernel, txt_give, fun _ h => h, fun _ => trivial⟩
    obtain ⟨hdt, mk, hat, hdl, htx, hok, har⟩ := ex
    refine ⟨_, rfl, _, _, rfl, rfl, lw, _, _, _, rfl, rfl, SqL.of g0, hat, ?_⟩
    refine ⟨_, rfl, _, rfl, p, a, _, ns, 2, rfl, by decide, by decide, WA, hNA, hO, fun e H3 hw1 hd1 hp1 k3 W3 => ?_⟩
    obtain ⟨hx1, hx2⟩ := exok34 hw1 hd1 hp1 (by decide)
    refine ⟨_, _, rfl, rfl, by show _ ≤ 16777216; omega, ?_⟩
    rw [htx]
    refine ⟨by show 2 ≤ sizeLine; decide, fun r hr => ?_⟩
    exact q (mk e) true r _ (RT.ok4 (hok e hx1)) (fun _ => ⟨hok e hx1, har e⟩) (fun h => by cases h) ((kA.trans k3).trans (keepX_of (same_new hr))) upd_same
  obtain ⟨fvs, hg, hal⟩ := id hF1
  have hfl := hal.length
  have hl3 := hFO.1
  refine ⟨_, rfl, by show 2 ≤ sizeLine; decide, fun tn htn => ?_⟩
  have s2 := same_new (o := .tup [V.str "nofun", .int 1]) htn
  have gtn := upd_same (H := H1) (a := tn) (o := .tup [V.str "nofun", .int 1])
  generalize upd H1 tn (.tup [V.str "nofun", .int 1]) = H2 at s2 gtn ⊢
  refine ⟨by show 1 ≤ sizeLine; decide, fun ln hln => ?_⟩
  have s3 := same_new (o := .lst [V.ref tn]) hln
  refine ⟨g, ln, fvs, [.ref tn], rfl, rfl, s3 _ _ (s2 _ _ hg), upd_same, by show fvs.length + 1 ≤ 16777216; omega, fun l2 hl2 => ?_⟩
  have s4 := same_new (o := .lst (fvs ++ [V.ref tn])) hl2
  have s14 := s2.trans (s3.trans s4)
  have W4 := W1.same s14
  have nl2 := (W1.same (s2.trans s3)).fresh hl2
  have gl2 : upd (upd H2 ln (.lst [V.ref tn])) l2 (.lst (fvs ++ [V.ref tn])) l2 = some (.lst (fvs ++ [V.ref tn])) := upd_same
  have hal4 : All2 (fun (h : Str × Nat) v => ∃ t, v = V.ref t ∧ upd (upd H2 ln (.lst [V.ref tn])) l2 (.lst (fvs ++ [V.ref tn])) t = some (.tup [.str h.1, .int (h.2 : Int)])) (hs ++ [(Str.ofString "nofun", 1)]) (fvs ++ [V.ref tn]) :=
    (hal.mono fun a v ⟨t, e1, e2⟩ => ⟨t, e1, s14 _ _ e2⟩).snoc ⟨tn, rfl, s4 _ _ (s3 _ _ gtn)⟩
  generalize upd (upd H2 ln (.lst [V.ref tn])) l2 (.lst (fvs ++ [V.ref tn])) = H4 at s14 W4 gl2 hal4 ⊢
  refine ⟨_, rfl, _, rfl, g, fvs, rfl, .inl (SqL.of (s14 _ _ hg)), _, _, rfl, rfl, p, l, _, rfl, W4, by omega, fun z H5 z0 z1 k5 W5 => ?_⟩
  obtain ⟨⟨f, m⟩, fv, hmem, hat, t5, rfl, ht5⟩ := all2_pick hal4 z0 (by rw [List.length_append]; exact z1)
  have ht5' := k5 _ _ (W4.neO ht5 fun _ _ _ z => by cases z) ht5
  have kk5 := (k1.trans (keepX_of s14)).trans k5
  have hN5 := hN.keep kk5 W
  refine ⟨l2, _, _, _, rfl, rfl, SqL.of (k5 _ _ nl2 gl2), hat, ?_⟩
  refine ⟨t5, _, rfl, SqT.of ht5', rfl, _, _, rfl, _, _, rfl, rfl, ?_⟩
  have hfm : isNameW f = true ∧ m ≤ 3 := by
    rcases List.mem_append.mp hmem with h | h
    · exact ⟨(hFO.2.2 _ h).1, (hFO.2.2 _ h).2.1⟩
    · cases List.mem_singleton.mp h
      exact ⟨by decide +kernel, by decide⟩
  obtain ⟨hfn, hm3⟩ := hfm
  refine ⟨_, rfl, _, rfl, by show 5 ≤ sizeLine; decide, fun lz hlz => ?_⟩
  have s6 := same_new (o := .lst [V.int 0, .int 0, .int 0, .int 1, .int (-1)]) hlz
  have W6 := W5.same s6
  refine ⟨_, rfl, p, l, 5, rfl, W6, by decide, fun y H7 y0 y1 k7 W7 => ?_⟩
  obtain ⟨dz, hdz, dz0, dz1⟩ := pick5 y0 y1
  obtain ⟨h, eh⟩ : ∃ h : Int, h = (if ((m : Int) + dz) > 0 then (m : Int) + dz else 0) := ⟨_, rfl⟩
  have hb : 0 ≤ h ∧ h ≤ 4 := by
    rw [eh]; split <;> omega
  refine ⟨lz, _, _, _, rfl, rfl, SqL.of (k7 _ _ (W5.fresh hlz) upd_same), hdz, _, _, rfl, rfl, 0, _, rfl, ?_⟩
  have kk7 := (kk5.trans (keepX_of s6)).trans k7
  refine ⟨_, rfl, _, rfl, p, l, 4, rfl, W7, by decide, fun zb H8 b0 b1 k8 W8 => ?_⟩
  obtain ⟨b, hb1, es⟩ := at_strs (ss := ns) b0 (by rw [hO.1]; exact b1)
  have hbn := hO.2.1 b hb1
  have kk8 := kk7.trans k8
  have hN8 := hN.keep kk8 W
  refine ⟨a, _, _, _, rfl, rfl, SqL.of hN8, es, _, rfl, by show 3 ≤ sizeLine; decide, fun lw hlw => ?_⟩
  have s9 := same_new (o := .lst [V.str "call", .str b, .str f]) hlw
  have g9 : upd H8 lw (.lst [V.str "call", .str b, .str f]) lw = some (.lst [V.str "call", .str b, .str f]) := upd_same
  have W9 := W8.same s9
  have nlw := W8.fresh hlw
  have kk9 := kk8.trans (keepX_of s9)
  refine ⟨_, rfl, h, (by subst eh; rfl), by omega, by omega, fun D hD => lc_taken (walk_range (lo := 0) (n := h.toNat)) (fun y => ∃ e : Ex, y = .str e.text ∧ ExOk e) W9 hD (by omega) (by show 10 < 11; decide) (fun _ _ _ => trivial) (fun _ _ _ _ y => y.1) ?_ ?_⟩
  · rintro i x HA Z hi kA WA _ zz
    have kkA := kk9.trans kA
    refine ⟨_, rfl, _, rfl, p, a, _, ns, 1, rfl, by decide, by decide, WA, (hN.keep kkA W), hO, fun e HB hw1 hd1 hp1 kB WB => ?_⟩
    obtain ⟨hx1, hx2⟩ := exok34 hw1 hd1 hp1 (by decide)
    exact zz HB _ kB WB ⟨e, rfl, hx1⟩
  · intro HA ys kA WA hyl hy hDA
    obtain ⟨exs, rfl, hes⟩ := exprs_of_ys hy
    rw [List.length_map, List.length_map] at hyl
    refine ⟨lw, D, _, _, rfl, rfl, kA _ _ nlw g9, hDA, by show 3 + _ ≤ 16777216; rw [List.length_map, List.length_map]; omega, fun l9 hl9 => ?_⟩
    have sB := same_new (o := .lst ([V.str "call", .str b, .str f] ++ (exs.map Ex.text).map V.str)) hl9
    refine ⟨⟨_, rfl⟩, _, rfl, _, l9, Str.ofString "call" :: b :: f :: exs.map Ex.text, rfl, rfl, .inl (SqL.of upd_same), call_sum (name_len hbn) (name_len hfn) hes (by omega), ?_⟩
    rw [call_text]
    have kkE := (kk9.trans kA).trans (keepX_of sB)
    have fin : ∀ fits : Bool, fits = (decide (f ≠ Str.ofString "nofun") && decide (h = (m : Int))) → ∀ r, upd HA l9 (.lst ([V.str "call", .str b, .str f] ++ (exs.map Ex.text).map V.str)) r = none → Q (.ref r) (upd (upd HA l9 (.lst ([V.str "call", .str b, .str f] ++ (exs.map Ex.text).map V.str))) r (.tup [.str (RT.call b f exs).text, .bl fits])) := fun fits ef r hr => by
      refine q (.call b f exs) fits r _ ⟨hbn, hfn, hes, by omega⟩ (fun e => ?_) (fun e => ?_) (kkE.trans (keepX_of (same_new hr))) upd_same
      · rw [e] at ef
        have ef := ef.symm
        rw [Bool.and_eq_true, decide_eq_true_eq, decide_eq_true_eq] at ef
        have hm2 : (f, m) ∈ hs := by
          rcases List.mem_append.mp hmem with h | h
          · exact h
          · cases List.mem_singleton.mp h
            exact absurd rfl ef.1
        have hle : exs.length = m := by omega
        exact ⟨⟨hbn, hfn, hes, by omega⟩, by show (f, exs.length) ∈ hs; rw [hle]; exact hm2⟩
      · refine ⟨b, f, exs, rfl, fun hin => ?_⟩
        have hne := (hFO.2.2 _ hin).2.2
        rw [e, decide_eq_true hne, Bool.true_and] at ef
        have ef2 := of_decide_eq_false ef.symm
        rcases List.mem_append.mp hmem with hm2 | hm2
        · have := nodup_fst hFO.2.1 hm2 hin rfl
          have e2 : m = exs.length := congrArg Prod.snd this
          omega
        · cases List.mem_singleton.mp hm2
          exact hne rfl
    refine ⟨_, rfl, rfl, _, rfl, iteN2 (fun cn => ?_) (fun cn => ?_)⟩
    · refine ⟨_, rfl, _, rfl, rfl, by show 2 ≤ sizeLine; decide, fun r hr => ?_⟩
      have cn' : f ≠ Str.ofString "nofun" := fun e => cn (congrArg V.str e)
      have ef : decide (V.int (if ((m : Int) + dz) > 0 then (m : Int) + dz else 0) = V.int (m : Int)) = (decide (f ≠ Str.ofString "nofun") && decide (h = (m : Int))) := by
        rw [decide_eq_true cn', ← eh, Bool.true_and]
        by_cases e : h = (m : Int)
        · rw [decide_eq_true e, decide_eq_true (congrArg V.int e)]
        · rw [decide_eq_false e, decide_eq_false fun z => e (V.int.inj z)]
      exact fin _ ef r hr
    · refine ⟨by show 2 ≤ sizeLine; decide, fun r hr => ?_⟩
      have cn' : ¬ f ≠ Str.ofString "nofun" := fun e => e (V.str.inj cn)
      exact fin false (by rw [decide_eq_false cn']; rfl) r hr

end
end K34
namespace K34
open PySem L2 TL
section
variable {P : Program} {w : World} {K : PySem.W.Frag} {mg : Str → Option Value} {base : Heap} {A : Ads}
theorem ok_l_shape (T : Txt K mg A) : FnOk P w K mg base CX0 1 A.l_shape A.l_shape_d ["_law_line"] spShape34 := by
  refine T.F_l_shape.ok sc_l_shape (fun vs H Q E h => ?_) (fun cdv A0 outer s H vs Q E hr h => ?_)
  · obtain ⟨t, k, rfl, hg, hk, q⟩ := h
    rfl
  obtain ⟨t, k, rfl, hg, hk, q⟩ := h
  refine ⟨_, (pss_cons (ps_set (i := 1) sc_l_shape.nd rfl (Or.inl rfl) (pe_ix ix_list (pe_split (pv 0) pe_str) pe_int (fun _ _ => rfl)))
   (pss_cons (ps_if (pt_cmpR op_in_seq (pv 1) (pe_tup (pa_cons pe_str (pa_cons pe_str (pa_cons pe_str (pa_cons pe_str pa_nil))))) (by rfl))
    (pss_one (ps_ret (pv 1)))
    pss_nil)
   (pss_cons (ps_if (pt_cmpR op_in_seq (pv 1) (pe_tup (pa_cons pe_str (pa_cons pe_str (pa_cons pe_str (pa_cons pe_str pa_nil))))) (by rfl))
    (pss_one (ps_ret pe_str))
    pss_nil)
   (pss_one (ps_ret pe_str))))), ?_⟩
  generalize hws : Txt.split t (Str.ofString " ") = ws
  have hne : ws ≠ [] := by rw [← hws]; exact split_ne t _
  refine ⟨_, rfl, ⟨_, rfl⟩, t, _, rfl, rfl, (by decide +kernel), sizeL2 (by have := hg.len hk; omega), fun lw hlw => ?_⟩
  rw [show Txt.split t " " = ws from hws]
  generalize hG0 : upd H lw _ = H0
  have s0 : Same H H0 := by rw [← hG0]; exact same_new hlw
  have gw : H0 lw = some (.lst (ws.map V.str)) := by rw [← hG0]; exact upd_same
  refine ⟨lw, _, _, _, rfl, rfl, SqL.of gw, at_hd0 hne, ?_⟩
  have q := fun H' s' => q H' s'
  rw [shF_eq, hws] at q
  unfold shFw at q
  refine ⟨_, rfl, by show 4 ≤ sizeLine; decide, fun l7 hl7 => ?_⟩
  refine ⟨l7, (["if", "while", "call", "give"] : List Str).map V.str, rfl, .inr (SqT.of upd_same), rfl, rfl, _, rfl, ?_⟩
  rw [if_neg Bool.false_ne_true, inV_str]
  generalize hG1 : upd H0 l7 _ = H1
  have s01 : Same H H1 := by rw [← hG1]; exact s0.trans (same_new hl7)
  refine iteD2 (fun c => ?_) (fun c => ?_)
  · rw [if_pos c] at q
    exact ⟨_, rfl, q H1 s01⟩
  rw [if_neg c] at q
  refine ⟨_, rfl, by show 4 ≤ sizeLine; decide, fun l2 hl2 => ?_⟩
  refine ⟨l2, (["fun", "main", "else", "end"] : List Str).map V.str, rfl, .inr (SqT.of upd_same), rfl, rfl, _, rfl, ?_⟩
  rw [if_neg Bool.false_ne_true, inV_str]
  refine iteD2 (fun c2 => ?_) (fun c2 => ?_)
  · rw [if_pos c2] at q
    exact q _ (s01.trans (same_new hl2))
  · rw [if_neg c2] at q
    exact q _ (s01.trans (same_new hl2))

end
end K34
namespace K34
open PySem L2 TL
section
variable {P : Program} {w : World} {K : PySem.W.Frag} {mg : Str → Option Value} {base : Heap} {A : Ads}
theorem ok_law (T : Txt K mg A) : FnOk P w K mg base CX0 35 A.law A.law_d ["_law_script"] (spLaw K) := by
  have G_l_kit := ok_l_kit (P := P) (w := w) (base := base) T
  have G_l_cell_at := ok_l_cell_at (P := P) (w := w) (base := base) T
  have G_Setting_init := ok_Setting_init (P := P) (w := w) (base := base) T
  have G_read_program := ok_read_program (P := P) (w := w) (base := base) T
  have G_l_take := ok_l_take (P := P) (w := w) (base := base) T
  have G_l_drawn := ok_l_drawn (P := P) (w := w) (base := base) T
  have G_l_shape := ok_l_shape (P := P) (w := w) (base := base) T
  have G_Setting_changed := ok_Setting_changed (P := P) (w := w) (base := base) T
  have G_Program_lines := ok_Program_lines (P := P) (w := w) (base := base) T
  have G_Program_text := ok_Program_text (P := P) (w := w) (base := base) T
  have G_Setting_start := ok_Setting_start (P := P) (w := w) (base := base) T
  have G_Setting_forced := ok_Setting_forced (P := P) (w := w) (base := base) T
  refine T.F_law.ok sc_law (fun vs H Q E h => ?_) (fun cdv A0 outer s H vs Q E hr h => ?_)
  · obtain ⟨a, ns, rfl, hS, hlen, q⟩ := h
    rfl
  obtain ⟨a, ns, rfl, hS, hlen, q⟩ := h
  refine ⟨_, (pss_cons (ps_set (i := 1) sc_law.nd rfl (Or.inl rfl) (pe_call G_l_kit (hr.mono (by decide)) rfl T.m_l_kit T.F_l_kit.kp T.b_l_kit .nil pass0 (pa_cons (pe_call G_l_cell_at (hr.mono (by decide)) rfl T.m_l_cell_at T.F_l_cell_at.kp T.b_l_cell_at .nil pass0 (pa_cons (pv 0) (pa_cons pe_int pa_nil))) pa_nil)))
   (pss_cons (ps_set (i := 2) sc_law.nd rfl (Or.inl rfl) (pe_callTy call_list_ofK (by rfl) T.z_list (by decide +kernel) (pa_cons (pe_ix ix_tup (pv 1) pe_int (fun _ _ => rfl)) pa_nil)))
   (pss_cons (ps_set (i := 3) sc_law.nd rfl (Or.inl rfl) (pe_make T.k_Setting G_Setting_init (hr.mono (by decide)) rfl T.m_Setting T.b_Setting_init .nil pass0 (pa_cons (pe_call G_read_program (hr.mono (by decide)) rfl T.m_read_program T.F_read_program.kp T.b_read_program .nil passN (pa_cons (pe_join pe_str (pv 2)) pa_nil)) (pa_cons (KD.pe_disp1T hr.units (pps_cons (pe_tup (pa_cons pe_str (pa_cons pe_int pa_nil))) pe_int pps_nil) (by rfl) (by rfl) (by rfl)) (pa_cons pe_int (pa_cons (KD.pe_disp1T hr.units (pps_cons (pe_tup (pa_cons pe_int pa_nil)) pe_bl pps_nil) (by rfl) (by rfl) (by rfl)) pa_nil))))))
   (pss_cons (ps_for PassesOwn.never rfl (pi_list (pe_slice sl_list (pv 0) (po_some pe_int) (po_some pe_int))) (pg_name (i := 4) sc_law.nd rfl (Or.inl rfl))
    (pss_cons (ps_set (i := 5) sc_law.nd rfl (Or.inl rfl) (pe_lst (pa_cons (pv 4) (pa_cons pe_int (pa_cons pe_int pa_nil)))))
   (pss_cons (ps_set (i := 6) sc_law.nd rfl (Or.inl rfl) (pe_call G_l_take (hr.mono (by decide)) rfl T.m_l_take T.F_l_take.kp T.b_l_take .nil pass0 (pa_cons (pv 5) (pa_cons (pe_op op_add (pe_callB call_lenK (by rfl) T.z_len (by decide +kernel) (pa_cons (pv 2) pa_nil)) pe_int) pa_nil))))
   (pss_cons (ps_asg (pe_call G_l_drawn (hr.mono (by decide)) rfl T.m_l_drawn T.F_l_drawn.kp T.b_l_drawn .nil pass0 (pa_cons (pv 5) (pa_cons (pv 1) pa_nil))) (pg_tup (by rfl) (pgs_cons (pg_name (i := 7) sc_law.nd rfl (Or.inl rfl)) (pgs_cons (pg_name (i := 8) sc_law.nd rfl (Or.inl rfl)) pgs_nil))))
   (pss_cons (ps_cut (ps_set (i := 9) sc_law.nd rfl (Or.inl rfl) (pe_and (pv 8) (pe_and (pe_cmpR op_lt (pv 6) (pe_callB call_lenK (by rfl) T.z_len (by decide +kernel) (pa_cons (pv 2) pa_nil)) (nomark _)) (pe_one (pe_cmpR op_eq (pe_call G_l_shape (hr.mono (by decide)) rfl T.m_l_shape T.F_l_shape.kp T.b_l_shape .nil pass0 (pa_cons (pe_ix ix_list (pv 2) (pe_callB (call_min2 rfl) (by rfl) T.z_min (by decide +kernel) (pa_cons (pv 6) (pa_cons (pe_op op_sub (pe_callB call_lenK (by rfl) T.z_len (by decide +kernel) (pa_cons (pv 2) pa_nil)) pe_int) pa_nil))) (fun _ _ => rfl)) pa_nil)) (pe_call G_l_shape (hr.mono (by decide)) rfl T.m_l_shape T.F_l_shape.kp T.b_l_shape .nil pass0 (pa_cons (pv 7) pa_nil)) (nomark _)))))))
   (pss_cons (ps_set (i := 10) sc_law.nd rfl (Or.inl rfl) pe_non)
   (pss_cons (ps_set (i := 11) sc_law.nd rfl (Or.inl rfl) pe_bl)
   (pss_cons (ps_cut (ps_try_as (i := 12) (Wout := fun _ _ _ _ => False) rfl rfl sc_law.nd rfl rfl ⟨rfl, by decide, Or.inl T.m_NoChange⟩ takes0
    (fun W pn xe tk _ => (pss_one (ps_set (i := 10) sc_law.nd rfl (Or.inl rfl) (pe_methX (pv 3) T.cl_Setting T.me_Setting_changed G_Setting_changed (hr.mono (by decide)) T.b_Setting_changed (fun σ => passAt tk σ) (pa_cons (pe_tup (pa_cons pe_str (pa_cons (pv 6) (pa_cons (pv 7) pa_nil)))) pa_nil)))))
    (fun a oe cls d pn hz hf => (pss_one (ps_set (i := 11) sc_law.nd rfl (Or.inl rfl) (pe_not (pe_callB (call_isX hz hf) (by rfl) T.z_isinstance (by decide +kernel) (pa_cons (pv 12) (pa_cons (pe_glob (v := .ref A.NoProgram) (by rfl) T.m_NoProgram rfl) pa_nil)))))))))
   (pss_cons (ps_if (pt_cmpR op_eq (pv 11) (pv 9) (nomark _))
    (pss_one (ps_ret pe_bl))
    pss_nil)
   (pss_cons (ps_cut (ps_if (pt_val (pv 9))
    (pss_cons (ps_if (pt_cmpR (op_neD hr.units) (pe_meth0 (pe_fld (pv 3) rfl) T.cl_Program T.me_Program_lines G_Program_lines (hr.mono (by decide)) T.b_Program_lines .nil pass0) (pv 2) (nomark _))
    (pss_one (ps_ret pe_bl))
    pss_nil)
   (pss_cons (ps_asg (pv 7) (pg_sub (pv 2) (pv 6) set_list))
   (pss_one (ps_set (i := 3) sc_law.nd rfl (Or.inl rfl) (pv 10)))))
    pss_nil))
   (pss_cons (ps_if (PW.pt (pw_or (pt_cmpR op_ne (pe_meth0 (pe_fld (pv 3) rfl) T.cl_Program T.me_Program_text G_Program_text (hr.mono (by decide)) T.b_Program_text .nil pass0) (pe_join pe_str (pv 2)) (nomark _)) (pw_or1 (pt_cmpR (op_neD hr.units) (pe_meth0 (pe_fld (pv 3) rfl) T.cl_Program T.me_Program_lines G_Program_lines (hr.mono (by decide)) T.b_Program_lines .nil pass0) (pv 2) (nomark _)))))
    (pss_one (ps_ret pe_bl))
    pss_nil)
   (pss_one (ps_if (PW.pt (pw_or (pt_cmpR (KD.op_neDT hr.units) (pe_meth0 (pv 3) T.cl_Setting T.me_Setting_start G_Setting_start (hr.mono (by decide)) T.b_Setting_start .nil pass0) (KD.pe_disp1T hr.units (pps_cons (pe_tup (pa_cons pe_str (pa_cons pe_int pa_nil))) pe_int pps_nil) (by rfl) (by rfl) (by rfl)) (nomark _)) (pw_or (pt_cmpR op_ne (pe_fld (pv 3) rfl) pe_int (nomark _)) (pw_or1 (pt_cmpR (KD.op_neDT hr.units) (pe_meth0 (pv 3) T.cl_Setting T.me_Setting_forced G_Setting_forced (hr.mono (by decide)) T.b_Setting_forced .nil pass0) (KD.pe_disp1T hr.units (pps_cons (pe_tup (pa_cons pe_int pa_nil)) pe_bl pps_nil) (by rfl) (by rfl) (by rfl)) (nomark _))))))
    (pss_one (ps_ret pe_bl))
    pss_nil)))))))))))))
   (pss_one (ps_ret pe_bl)))))), ?_⟩
  refine ⟨_, rfl, a, ns, 0, rfl, hS, by decide, fun n0 => ?_⟩
  refine ⟨n0, rfl, fun t ll an g ls nms hs R H1 s1 ht hll hN hO hF hFO hPH => ?_⟩
  have hpo := hPH.ok
  have hlg : ∀ t ∈ ls, LnG 40 t := fun t ht => (hpo.lng t ht).mono (Nat.zero_le _)
  have hne := hpo.ne
  have hl60 := hPH.len
  obtain ⟨num, hrd, hNum⟩ := hpo.read
  have htx := lng_text hne (by omega) hlg
  have hsp : Txt.split (Txt.join (Str.ofString "\n") ls) "\n" = ls := lng_split hne hlg
  refine ⟨_, rfl, t, _, _, _, rfl, rfl, SqT.of ht, rfl, ll, _, rfl, .inl (SqL.of hll), fun lb hlb => ?_⟩
  have s2 := same_new (o := .lst (ls.map V.str)) hlb
  have g2 := upd_same (H := H1) (a := lb) (o := .lst (ls.map V.str))
  have k12 : KeepX lb H1 (upd H1 lb (.lst (ls.map V.str))) := keepX_of s2
  generalize upd H1 lb (.lst (ls.map V.str)) = H2 at s2 g2 k12 ⊢
  refine ⟨⟨_, rfl⟩, _, rfl, _, lb, ls, rfl, rfl, .inl (SqL.of g2), sum12 (by omega) hlg, ?_⟩
  refine ⟨_, rfl, .inl ⟨_, rfl, htx, fun num' v H3 e s3 hP => ?_, fun e => ?_⟩⟩
  rotate_left
  · exfalso
    rw [hsp, hrd] at e; cases e
  rw [hsp, hrd] at e
  rw [hsp] at hP
  cases e
  refine fun d1 hd1 => ⟨by show 2 ≤ sizeLine; decide, fun t1 ht1 => ?_⟩
  have n1 : t1 ≠ d1 := fun e => by rw [e, upd_same] at ht1; cases ht1
  refine ⟨by rw [upd_ne n1.symm]; exact upd_same, t1, [.inr "cell", .inl 1], .int 5, rfl, upd_same, ?_⟩
  have s4 := disp_same (o2 := .tup [V.str "cell", .int 1]) (o3 := .dT G1) hd1 ht1
  have g4 := upd_same (H := upd (upd H3 d1 (.dT [])) t1 (.tup [V.str "cell", .int 1])) (a := d1) (o := .dT G1)
  refine fun d2 hd2 => ⟨by show 1 ≤ sizeLine; decide, fun t2 ht2 => ?_⟩
  have n2 : t2 ≠ d2 := fun e => by rw [e, upd_same] at ht2; cases ht2
  refine ⟨by rw [upd_ne n2.symm]; exact upd_same, t2, [.inl 0], .bl false, rfl, upd_same, ?_⟩
  have s5 := disp_same (o2 := .tup [V.int 0]) (o3 := .dT O1) hd2 ht2
  have g5 := upd_same (H := upd (upd (upd (upd (upd H3 d1 (.dT [])) t1 (.tup [V.str "cell", .int 1])) d1 (.dT G1)) d2 (.dT [])) t2 (.tup [V.int 0])) (a := d2) (o := .dT O1)
  have s45 := s4.trans s5
  have g4' := s5 _ _ g4
  refine fun x dx hx hdx nx => ?_
  have mk : ∀ b u, upd (upd (upd (upd (upd (upd H3 d1 (.dT [])) t1 (.tup [V.str "cell", .int 1])) d1 (.dT G1)) d2 (.dT [])) t2 (.tup [V.int 0])) d2 (.dT O1) b = some u → upd (upd (upd (upd (upd (upd (upd (upd H3 d1 (.dT [])) t1 (.tup [V.str "cell", .int 1])) d1 (.dT G1)) d2 (.dT [])) t2 (.tup [V.int 0])) d2 (.dT O1)) dx (.own x)) x (.ins A.Setting dx []) b = some u := fun b u e => by
    rw [upd_ne (ne_of_none e hx), upd_ne (ne_of_none e hdx)]; exact e
  refine ⟨x, d1, d2, dx, v, rfl, upd_same, mk _ _ g4', mk _ _ g5, fun H5 hso k5 => ⟨rfl, ?_⟩⟩
  have s35 : Same H3 H5 := fun b u e => k5 _ _ (ne_of_none (s45 _ _ e) hx) (mk _ _ (s45 _ _ e))
  have s25 := s3.trans s35
  have hP5 := hP.same s35
  have g25 := s25 _ _ g2
  have k15 := k12.trans (keepX_of s25)
  clear mk s45 g4' g4 g5 s4 s5 hd1 ht1 hd2 ht2 hx hdx k5 s35 hP s3 n1 n2
  have hS5 := (s1.seq hS)
  have sq5 : SqL K H5 a (ns.map V.int) := k15.seq_none hlb hS5
  refine ⟨_, rfl, 1, rfl, 41, rfl, a, _, rfl, sq5, fun lc hlc => ?_⟩
  have s6 := same_new (o := .lst (cutV (ns.map V.int) (some 1) (some 41))) hlc
  have g6 := upd_same (H := H5) (a := lc) (o := .lst (cutV (ns.map V.int) (some 1) (some 41)))
  have nlc : lc ≠ lb := fun e => by rw [e, g25] at hlc; cases hlc
  refine ⟨lc, rfl, ⟨_, SqL.of g6⟩, for_it (walk_list (xs := cutV (ns.map V.int) (some 1) (some 41))) (fun i σ H' => ∃ (ts : List Str) (R : List (Option RT)) (num : List (Nat × RT)) (sv pq : V) (z4 z5 z6 z7 z8 z9 z10 z11 z12 : Option V), σ = [some (.ref a), some (.ref t), some (.ref lb), some sv, z4, z5, z6, z7, z8, z9, z10, z11, z12] ∧ ProgH hs ts R ∧ readF ts = some num ∧ NumIs num R ∧ SetO A.Setting H' sv pq ∧ ProgO K A.rc A.ec A.Program H' ts num pq ∧ H' lb = some (.lst (ts.map V.str)) ∧ KeepX lb H1 H' ∧ H' lc = some (.lst (cutV (ns.map V.int) (some 1) (some 41))))
    ⟨ls, R, num, .ref x, v, none, none, none, none, none, none, none, none, none, rfl, hPH, hrd, hNum, hso.same s6, hP5.same s6, s6 _ _ g25, k15.trans (keepX_of s6), g6⟩ (fun i σ H' _ h => by obtain ⟨_, _, _, _, _, _, _, _, _, _, _, _, _, _, _, _, _, _, _, _, _, _, h⟩ := h; exact SqL.of h) ?_ ?_⟩
  rotate_left
  · rintro σ H6 ⟨_, _, _, _, _, _, _, _, _, _, _, _, _, _, rfl, _⟩
    exact q _
  rintro i xc σ H6 H7 hi ⟨ts, R, num, sv, pq, z4, z5, z6, z7, z8, z9, z10, z11, z12, rfl, hPH, hrd, hNum, hso, hP, gl, k6, g6⟩ ⟨rfl, hxc⟩
  obtain ⟨cell, rfl⟩ : ∃ cell : Int, xc = .int cell := by
    obtain ⟨m, _, e⟩ := List.mem_map.mp (mem_cutV (List.mem_of_getElem? hxc))
    exact ⟨m, e.symm⟩
  clear hpo hlg hne hl60 hsp htx
  have hpo := hPH.ok
  have hlg : ∀ t ∈ ts, LnG 40 t := fun t ht => (hpo.lng t ht).mono (Nat.zero_le _)
  have hne := hpo.ne
  have hl60 := hPH.len
  have hlp : 1 ≤ ts.length := List.length_pos_iff.mpr hne
  have hml : (ts.map V.str).length = ts.length := List.length_map _
  refine ⟨_, rfl, by show 3 ≤ sizeLine; decide, fun p hp => ?_⟩
  have s8 := same_new (o := .lst [V.int cell, .int 0, .int 0]) hp
  have W : TapeAt (upd H7 p (.lst [V.int cell, .int 0, .int 0])) p 0 := ⟨cell, 0, by decide, upd_same⟩
  refine ⟨_, rfl, _, rfl, lb, _, rfl, .inl (SqL.of (s8 _ _ gl)), _, _, rfl, rfl, p, 0, _, rfl, W, by omega, fun n H3 n0 n1 k3 W3 => ?_⟩
  have n1 : n < (ts.length : Int) + 2 := by rw [hml] at n1; exact n1
  have s73 : Same H7 H3 := KeepX.same hp ((keepX_of s8).trans k3)
  have sA : Same H1 H3 := KeepX.same hlb (k6.trans (keepX_of s73))
  refine ⟨_, rfl, _, rfl, p, t, an, g, 0, nms, hs, rfl, W3, ⟨ll, sA _ _ ht, sA _ _ hN, hO, hF.same sA, hFO⟩, fun rt fits t2 H4 o4 f1 f2 k4 ht2 => ?_⟩
  refine ⟨t2, _, rfl, SqT.of ht2, rfl, _, _, rfl, _, _, rfl, rfl, ?_⟩
  have s74 : Same H7 H4 := KeepX.same hp (((keepX_of s8).trans k3).trans k4)
  have hln4 : LnG 40 rt.text := (RT.lng4 o4).mono (Nat.zero_le _)
  obtain ⟨du1, du2⟩ := due_ok hPH hrd hNum n0 o4 f1 f2
  have gl4 := s74 _ _ gl
  refine ⟨fun σ' H' => σ' = [some (.ref a), some (.ref t), some (.ref lb), some sv, some (.int cell), some (.ref p), some (.int n), some (.str rt.text), some (.bl fits), some (.bl (dueL ts n rt.text fits)), z10, z11, z12] ∧ Same H4 H', ?_, ?_⟩
  · refine ⟨_, rfl, _, rfl, ?_⟩
    clear du1 du2 f1 f2 ht2
    cases fits with
    | false => exact ⟨rfl, Same.refl _⟩
    | true =>
      refine iteT ?_
      refine ⟨_, rfl, _, rfl, lb, _, rfl, .inl (SqL.of gl4), _, _, rfl, rfl, _, rfl, iteD2 (fun c1 => ?_) (fun c1 => ?_)⟩
      · have c1 : n < (ts.length : Int) := by rw [hml] at c1; exact c1
        have hat : atI (ts.map V.str) (if ((((ts.map V.str).length : Nat) : Int) - 1) < n then (((ts.map V.str).length : Nat) : Int) - 1 else n) = some (.str (ts.getD (min n.toNat (ts.length - 1)) (Str.ofString ""))) := by
          rw [hml, if_neg (by omega)]
          obtain ⟨k, rfl⟩ : ∃ k : Nat, n = (k : Int) := ⟨n.toNat, by omega⟩
          have hk : k < ts.length := by omega
          rw [Int.toNat_natCast, Nat.min_eq_left (by omega)]
          refine atI_nat ?_
          rw [List.getElem?_map, List.getElem?_eq_getElem hk, List.getD_eq_getElem?_getD, List.getElem?_eq_getElem hk]
          rfl
        have hlx : LnG 40 (ts.getD (min n.toNat (ts.length - 1)) (Str.ofString "")) := by
          have hk : min n.toNat (ts.length - 1) < ts.length := by omega
          rw [List.getD_eq_getElem?_getD, List.getElem?_eq_getElem hk]
          exact hlg _ (List.getElem_mem hk)
        refine ⟨_, rfl, _, rfl, _, rfl, lb, _, rfl, .inl (SqL.of gl4), _, _, rfl, rfl, _, _, rfl, lb, _, _, _, rfl, rfl, SqL.of gl4, hat, ?_⟩
        refine ⟨_, 40, rfl, hlx, by decide, fun H5 s5 => ?_⟩
        refine ⟨_, rfl, _, 40, rfl, hln4, by decide, fun H6 s6 => ⟨rfl, ?_, s5.trans s6⟩⟩
        have ed : dueL ts n rt.text true = decide (V.str (shF (ts.getD (min n.toNat (ts.length - 1)) (Str.ofString ""))) = V.str (shF rt.text)) := by
          unfold dueL
          rw [decide_eq_true c1, Bool.true_and, Bool.true_and]
          by_cases e : shF (ts.getD (min n.toNat (ts.length - 1)) (Str.ofString "")) = shF rt.text
          · rw [decide_eq_true e, decide_eq_true (congrArg V.str e)]
          · rw [decide_eq_false e, decide_eq_false fun z => e (V.str.inj z)]
        rw [ed]
        rfl
      · have ed : dueL ts n rt.text true = false := by
          unfold dueL
          rw [decide_eq_false (p := n < (ts.length : Int)) (by rw [← hml]; exact c1)]
          rfl
        rw [ed]
        exact ⟨rfl, Same.refl _⟩
  rintro σ H5 ⟨rfl, s45⟩
  have s75 := s74.trans s45
  generalize dueL ts n rt.text fits = du at du1 du2 ⊢
  obtain ⟨sp, dxs, sg, so, rfl, hsp, hsg, hso2⟩ := id hso
  have hso5 := hso.same s75
  have hP5' := hP.same s75
  refine ⟨fun σ' H' => ∃ (fv : V) (y12 : Option V), σ' = [some (.ref a), some (.ref t), some (.ref lb), some (.ref sp), some (.int cell), some (.ref p), some (.int n), some (.str rt.text), some (.bl fits), some (.bl du), some fv, some (.bl (!du)), y12] ∧ Same H5 H' ∧ (du = true → ∃ pv2 num2, SetO A.Setting H' fv pv2 ∧ ProgO K A.rc A.ec A.Program H' (ts.set n.toNat rt.text) num2 pv2 ∧ readF (ts.set n.toNat rt.text) = some num2), ?_, ?_⟩
  · refine ⟨_, rfl, sp, dxs, _, rfl, s75 _ _ hsp, rfl, _, rfl, _, rfl, by show 3 ≤ sizeLine; decide, fun tt htt => ?_⟩
    have s9 := same_new (o := .tup [V.str "row", .int n, .str rt.text]) htt
    refine ⟨_, pq, tt, n, rt.text, ts, num, rfl, hso5.same s9, upd_same, hP5'.same s9, hrd, hne, hl60, hlg, hln4, fun e v2 pv2 num2 H6 s6 hs6 hP6 hr6 => ?_, fun e H6 s6 => ?_⟩
    · rw [du1] at e
      subst e
      exact ⟨_, _, rfl, s9.trans s6, fun _ => ⟨pv2, num2, hs6, hP6, hr6⟩⟩
    · rw [du1] at e
      subst e
      refine ⟨true, T.yc, fun _ ex hex => ?_, fun h => Bool.noConfusion h⟩
      refine ⟨_, rfl, A.NoChange, _, _, false, rfl, rfl, excNC T, rfl, (fun u h => h), T.yn, _, rfl, ?_⟩
      exact ⟨_, _, rfl, s9.trans s6, fun h => by cases h⟩
  rintro σ H6 ⟨fv, y12, rfl, s56, hdu⟩
  have s76 := s75.trans s56
  have gl6 := s76 _ _ gl
  have hso6 := hso.same s76
  have hP6 := hP.same s76
  refine ⟨_, rfl, _, rfl, rfl, _, rfl, iteDF (fun h => by cases du <;> cases h) ?_⟩
  refine ⟨fun σ' H' => ∃ (ts2 : List Str) (R2 : List (Option RT)) (num2 : List (Nat × RT)) (sv2 pq2 : V), σ' = [some (.ref a), some (.ref t), some (.ref lb), some sv2, some (.int cell), some (.ref p), some (.int n), some (.str rt.text), some (.bl fits), some (.bl du), some fv, some (.bl (!du)), y12] ∧ ProgH hs ts2 R2 ∧ readF ts2 = some num2 ∧ NumIs num2 R2 ∧ SetO A.Setting H' sv2 pq2 ∧ ProgO K A.rc A.ec A.Program H' ts2 num2 pq2 ∧ H' lb = some (.lst (ts2.map V.str)) ∧ KeepX lb H6 H', ?_, ?_⟩
  · refine ⟨_, rfl, du, rfl, iteB2 (fun e => ?_) (fun e => ?_)⟩
    · obtain ⟨pv2, num2, hs2, hP2, hr2⟩ := hdu e
      obtain ⟨rt0, eR, hPH2⟩ := du2 (by rw [du1, e])
      obtain ⟨num3, hr3, hN3⟩ := hPH2.ok.read
      rw [hr2] at hr3
      cases hr3
      obtain ⟨pp, dxp, la, ld, m, f, kvs, rfl, hpp, hS2, hd2, hnum2⟩ := id hP6
      have hcod : Codes ts := lines_codes (lng_ts (by omega) hlg)
      refine ⟨_, rfl, sp, A.Setting, dxs, _, _, rfl, s76 _ _ hsp, T.cl_Setting, T.n_Setting_program, rfl, pp, dxp, _, rfl, hpp, rfl, _, ts, num, rfl, hP6, fun l2 hl2 => ?_⟩
      have sB := same_new (o := .lst (ts.map V.str)) hl2
      have glB := sB _ _ gl6
      refine ⟨_, rfl, strsD ts, strsD ts, .lst (SqL.of upd_same) (dp_strs _), .lst (SqL.of glB) (dp_strs _), strs_shaped hcod, strs_shaped hcod, _, rfl, ?_⟩
      rw [strs_eqv, decide_eq_true rfl]
      refine iteF ?_
      have hs2B := hs2.same sB
      have hP2B := hP2.same sB
      have hkl : n.toNat < ts.length := by
        have := (List.getElem?_eq_some_iff.mp eR).1
        rw [hPH.same_len]; exact this
      have kB : ∀ o, KeepX lb H6 (upd (upd H6 l2 (.lst (ts.map V.str))) lb o) := fun o => (keepX_of sB).trans keepX_upd
      have hs2C := hs2B.put (ys := (ts.set n.toNat rt.text).map V.str) glB
      have hP2C := hP2B.put glB hne
      refine ⟨_, rfl, _, rfl, _, rfl, lb, _, n, n.toNat, rfl, rfl, glB, ?_, ?_⟩
      · unfold ixN
        rw [if_pos (by omega), if_pos (by rw [hml]; omega)]
      have em : (ts.map V.str).set n.toNat (.str rt.text) = (ts.set n.toNat rt.text).map V.str := by rw [List.map_set]
      rw [em]
      exact ⟨_, rfl, ts.set n.toNat rt.text, R.set n.toNat (some rt), num2, fv, pv2, rfl, hPH2, hr2, hN3, hs2C, hP2C, upd_same, kB _⟩
    · exact ⟨ts, R, num, _, pq, rfl, hPH, hrd, hNum, hso6, hP6, gl6, KeepX.refl _ _⟩
  clear hP6 hso6 gl6 hdu du1 du2 f1 f2 gl4 hln4 o4
  rintro σ H8 ⟨ts2, R2, num2, sv2, pq2, rfl, hPH2, hr2, hN2, hso8, hP8, gl8, k8⟩
  have hpo2 := hPH2.ok
  have hlg2 : ∀ t ∈ ts2, LnG 40 t := fun t ht => (hpo2.lng t ht).mono (Nat.zero_le _)
  have hl602 := hPH2.len
  have hcod2 : Codes ts2 := lines_codes (lng_ts (by omega) hlg2)
  obtain ⟨sp8, dx8, sg8, so8, rfl, hsp8, hsg8, hso8'⟩ := id hso8
  obtain ⟨pp, dxp, la, ld, m, f, kvs, rfl, hpp, hS2, hd2, hnum2⟩ := id hP8
  have k18 : KeepX lb H1 H8 := (k6.trans (keepX_of s76)).trans k8
  have g68 : H8 lc = some (.lst (cutV (ns.map V.int) (some 1) (some 41))) := k8 _ _ nlc (s76 _ _ g6)
  refine ⟨_, rfl, sp8, A.Setting, dx8, _, _, rfl, hsp8, T.cl_Setting, T.n_Setting_program, rfl, pp, dxp, _, rfl, hpp, rfl, _, ts2, num2, rfl, hP8, by omega, fun t ht => Nat.le_trans ((hlg2 t ht).len (Nat.le_refl _)) (by decide), ?_⟩
  refine ⟨⟨_, rfl⟩, _, rfl, _, lb, ts2, rfl, rfl, .inl (SqL.of gl8), sum12 (by omega) hlg2, ?_⟩
  refine ⟨rfl, _, rfl, iteNF rfl ?_⟩
  refine ⟨_, rfl, sp8, A.Setting, dx8, _, _, rfl, hsp8, T.cl_Setting, T.n_Setting_program, rfl, pp, dxp, _, rfl, hpp, rfl, _, ts2, num2, rfl, hP8, fun l2 hl2 => ?_⟩
  have sB := same_new (o := .lst (ts2.map V.str)) hl2
  have gB := upd_same (H := H8) (a := l2) (o := .lst (ts2.map V.str))
  generalize upd H8 l2 (.lst (ts2.map V.str)) = H9 at sB gB ⊢
  refine ⟨_, rfl, strsD ts2, strsD ts2, .lst (SqL.of gB) (dp_strs _), .lst (SqL.of (sB _ _ gl8)) (dp_strs _), strs_shaped hcod2, strs_shaped hcod2, _, rfl, ?_⟩
  rw [strs_eqv, decide_eq_true rfl]
  refine iteF ?_
  have hso9 := hso8.same sB
  refine ⟨_, rfl, sp8, dx8, _, rfl, sB _ _ hsp8, rfl, _, _, rfl, hso9, fun q1 hq1 => ?_⟩
  have sC := same_new (o := .dT G1) hq1
  have gq1 := upd_same (H := H9) (a := q1) (o := .dT G1)
  generalize upd H9 q1 (.dT G1) = HA at sC gq1 ⊢
  refine fun d1 hd1 => ⟨by show 2 ≤ sizeLine; decide, fun t1 ht1 => ?_⟩
  have n1 : t1 ≠ d1 := fun e => by rw [e, upd_same] at ht1; cases ht1
  refine ⟨by rw [upd_ne n1.symm]; exact upd_same, t1, [.inr "cell", .inl 1], .int 5, rfl, upd_same, ?_⟩
  have sD := disp_same (o2 := .tup [V.str "cell", .int 1]) (o3 := .dT G1) hd1 ht1
  have gD := upd_same (H := upd (upd HA d1 (.dT [])) t1 (.tup [V.str "cell", .int 1])) (a := d1) (o := .dT G1)
  refine ⟨q1, d1, [.inr "cell", .inl 1], .int 5, rfl, rfl, sD _ _ gq1, gD, rfl, _, rfl, iteF ?_⟩
  have sBD := sB.trans (sC.trans sD)
  have hsoD := hso8.same sBD
  have hspD := sBD _ _ hsp8
  refine ⟨_, rfl, sp8, A.Setting, dx8, _, _, rfl, hspD, T.cl_Setting, T.n_Setting_bound, rfl, rfl, _, rfl, iteNF rfl ?_⟩
  refine ⟨_, rfl, sp8, dx8, _, rfl, hspD, rfl, _, _, rfl, hsoD, fun q2 hq2 => ?_⟩
  have sE := same_new (o := .dT O1) hq2
  have gq2 := upd_same (H := upd (upd (upd HA d1 (.dT [])) t1 (.tup [V.str "cell", .int 1])) d1 (.dT G1)) (a := q2) (o := .dT O1)
  refine fun d2 hd2 => ⟨by show 1 ≤ sizeLine; decide, fun t3 ht3 => ?_⟩
  have n3 : t3 ≠ d2 := fun e => by rw [e, upd_same] at ht3; cases ht3
  refine ⟨by rw [upd_ne n3.symm]; exact upd_same, t3, [.inl 0], .bl false, rfl, upd_same, ?_⟩
  have sF := disp_same (o2 := .tup [V.int 0]) (o3 := .dT O1) hd2 ht3
  refine ⟨q2, d2, [.inl 0], .bl false, rfl, rfl, sF _ _ gq2, upd_same, rfl, _, rfl, iteF ?_⟩
  have sG := sBD.trans (sE.trans sF)
  exact ⟨ts2, R2, num2, .ref sp8, _, _, _, _, _, _, _, _, _, _, rfl, hPH2, hr2, hN2, hso8.same sG, hP8.same sG, sG _ _ gl8, k18.trans (keepX_of sG), sG _ _ g68⟩

end
end K34
namespace K34
open PySem PySem.Spec PyProof.Rows L2 TL
set_option maxHeartbeats 0 in
theorem facts {P : Program} {w : World} {K : PySem.W.Frag} {h : Heap} {mg : Str → Option Value} {f : Addr} (X : K.In h) (G : h.Ns mainGlobals mg) (hfa : mg ("law" : Str) = some (.ref f)) (c : SaysM hFa hFn K) :
    ∃ fd : FuncData, (∀ (s : Shared) (v : Value), BindsTo s fd ⟨[v], []⟩ [("_law_script", v)]) ∧ ∀ base : Heap, K.In base → base.Ns mainGlobals mg → FnOk P w K mg base CX0 35 f fd ["_law_script"] (spLaw K) := by
  obtain ⟨d0, F0⟩ := c.def_ 0 (d := hD_Row_shape) rfl
  obtain ⟨d1, F1⟩ := c.def_ 1 (d := hD_Choice_shape) rfl
  obtain ⟨d2, F2⟩ := c.def_ 2 (d := hD_Loop_shape) rfl
  obtain ⟨d3, F3⟩ := c.def_ 3 (d := hD_Call_shape) rfl
  obtain ⟨d4, F4⟩ := c.def_ 4 (d := hD_Give_shape) rfl
  obtain ⟨d5, F5⟩ := c.def_ 5 (d := hD_is_name) rfl
  obtain ⟨d6, F6⟩ := c.def_ 6 (d := hD_is_value_word) rfl
  obtain ⟨d7, F7⟩ := c.def_ 7 (d := hD_Number_init) rfl
  obtain ⟨d8, F8⟩ := c.def_ 8 (d := hD_Box_init) rfl
  obtain ⟨d9, F9⟩ := c.def_ 9 (d := hD_Cell_init) rfl
  obtain ⟨d10, F10⟩ := c.def_ 10 (d := hD_Two_init) rfl
  obtain ⟨d11, F11⟩ := c.def_ 11 (d := hD_Expr_parts) rfl
  obtain ⟨d12, F12⟩ := c.def_ 12 (d := hD_Cell_parts) rfl
  obtain ⟨d13, F13⟩ := c.def_ 13 (d := hD_Two_parts) rfl
  obtain ⟨d14, F14⟩ := c.def_ 14 (d := hD_expr_at) rfl
  obtain ⟨d15, F15⟩ := c.def_ 15 (d := hD_exprs_of) rfl
  obtain ⟨d16, F16⟩ := c.def_ 16 (d := hD_Row_init) rfl
  obtain ⟨d17, F17⟩ := c.def_ 17 (d := hD_Set_init) rfl
  obtain ⟨d18, F18⟩ := c.def_ 18 (d := hD_Put_init) rfl
  obtain ⟨d19, F19⟩ := c.def_ 19 (d := hD_Ask_init) rfl
  obtain ⟨d20, F20⟩ := c.def_ 20 (d := hD_Draw_init) rfl
  obtain ⟨d21, F21⟩ := c.def_ 21 (d := hD_Tell_init) rfl
  obtain ⟨d22, F22⟩ := c.def_ 22 (d := hD_Choice_init) rfl
  obtain ⟨d23, F23⟩ := c.def_ 23 (d := hD_Loop_init) rfl
  obtain ⟨d24, F24⟩ := c.def_ 24 (d := hD_Call_init) rfl
  obtain ⟨d25, F25⟩ := c.def_ 25 (d := hD_Give_init) rfl
  obtain ⟨d26, F26⟩ := c.def_ 26 (d := hD_check_names) rfl
  obtain ⟨d27, F27⟩ := c.def_ 27 (d := hD_only) rfl
  obtain ⟨d28, F28⟩ := c.def_ 28 (d := hD_simple_row) rfl
  obtain ⟨d29, F29⟩ := c.def_ 29 (d := hD_Reader_head) rfl
  obtain ⟨d30, F30⟩ := c.def_ 30 (d := hD_Reader_init) rfl
  obtain ⟨d31, F31⟩ := c.def_ 31 (d := hD_Reader_pass_line) rfl
  obtain ⟨d32, F32⟩ := c.def_ 32 (d := hD_Reader_call_row) rfl
  obtain ⟨d33, F33⟩ := c.def_ 33 (d := hD_Reader_row_with_rows) rfl
  obtain ⟨d34, F34⟩ := c.def_ 34 (d := hD_Reader_block) rfl
  obtain ⟨d35, F35⟩ := c.def_ 35 (d := hD_Reader_one_row) rfl
  obtain ⟨d36, F36⟩ := c.def_ 36 (d := hD_Function_init) rfl
  obtain ⟨d37, F37⟩ := c.def_ 37 (d := hD_Reader_function) rfl
  obtain ⟨d38, F38⟩ := c.def_ 38 (d := hD_check_calls) rfl
  obtain ⟨d39, F39⟩ := c.def_ 39 (d := hD_Program_init) rfl
  obtain ⟨d40, F40⟩ := c.def_ 40 (d := hD_Program_text) rfl
  obtain ⟨d41, F41⟩ := c.def_ 41 (d := hD_read_program) rfl
  obtain ⟨d42, F42⟩ := c.def_ 42 (d := hD_Program_lines) rfl
  obtain ⟨d43, F43⟩ := c.def_ 43 (d := hD_Program_with_line) rfl
  obtain ⟨d44, F44⟩ := c.def_ 44 (d := hD_is_value) rfl
  obtain ⟨d45, F45⟩ := c.def_ 45 (d := hD_is_given) rfl
  obtain ⟨d46, F46⟩ := c.def_ 46 (d := hD_key_of) rfl
  obtain ⟨d47, F47⟩ := c.def_ 47 (d := hD_Setting_init) rfl
  obtain ⟨d48, F48⟩ := c.def_ 48 (d := hD_Setting_start) rfl
  obtain ⟨d49, F49⟩ := c.def_ 49 (d := hD_Setting_forced) rfl
  obtain ⟨d50, F50⟩ := c.def_ 50 (d := hD_Setting_given_otherwise) rfl
  obtain ⟨d51, F51⟩ := c.def_ 51 (d := hD_Setting_going_otherwise) rfl
  obtain ⟨d52, F52⟩ := c.def_ 52 (d := hD_Setting_changed) rfl
  obtain ⟨d53, F53⟩ := c.def_ 53 (d := hD_l_cell_at) rfl
  obtain ⟨d54, F54⟩ := c.def_ 54 (d := hD_l_draw) rfl
  obtain ⟨d55, F55⟩ := c.def_ 55 (d := hD_l_take) rfl
  obtain ⟨d56, F56⟩ := c.def_ 56 (d := hD_l_expr) rfl
  obtain ⟨d57, F57⟩ := c.def_ 57 (d := hD_l_simple) rfl
  obtain ⟨d58, F58⟩ := c.def_ 58 (d := hD_l_call_row) rfl
  obtain ⟨d59, F59⟩ := c.def_ 59 (d := hD_l_row) rfl
  obtain ⟨d60, F60⟩ := c.def_ 60 (d := hD_l_rows) rfl
  obtain ⟨d61, F61⟩ := c.def_ 61 (d := hD_l_kit) rfl
  obtain ⟨d62, F62⟩ := c.def_ 62 (d := hD_l_drawn) rfl
  obtain ⟨d63, F63⟩ := c.def_ 63 (d := hD_l_shape) rfl
  obtain ⟨d64, F64⟩ := c.def_ 64 (d := hD_law) rfl
  have e := hfa.symm.trans (He.glo_ok (x := "law") X G (c.fact 23 rfl))
  cases e
  let A : Ads := ⟨He.fAd K ("Row", some "shape"), d0, He.fAd K ("Choice", some "shape"), d1, He.fAd K ("Loop", some "shape"), d2, He.fAd K ("Call", some "shape"), d3, He.fAd K ("Give", some "shape"), d4, He.fAd K ("is_name", none), d5, He.fAd K ("is_value_word", none), d6, He.fAd K ("Number", some "__init__"), d7, He.fAd K ("Box", some "__init__"), d8, He.fAd K ("Cell", some "__init__"), d9, He.fAd K ("Two", some "__init__"), d10, He.fAd K ("Expr", some "parts"), d11, He.fAd K ("Cell", some "parts"), d12, He.fAd K ("Two", some "parts"), d13, He.fAd K ("expr_at", none), d14, He.fAd K ("exprs_of", none), d15, He.fAd K ("Row", some "__init__"), d16, He.fAd K ("Set", some "__init__"), d17, He.fAd K ("Put", some "__init__"), d18, He.fAd K ("Ask", some "__init__"), d19, He.fAd K ("Draw", some "__init__"), d20, He.fAd K ("Tell", some "__init__"), d21, He.fAd K ("Choice", some "__init__"), d22, He.fAd K ("Loop", some "__init__"), d23, He.fAd K ("Call", some "__init__"), d24, He.fAd K ("Give", some "__init__"), d25, He.fAd K ("check_names", none), d26, He.fAd K ("only", none), d27, He.fAd K ("simple_row", none), d28, He.fAd K ("Reader", some "head"), d29, He.fAd K ("Reader", some "__init__"), d30, He.fAd K ("Reader", some "pass_line"), d31, He.fAd K ("Reader", some "call_row"), d32, He.fAd K ("Reader", some "row_with_rows"), d33, He.fAd K ("Reader", some "block"), d34, He.fAd K ("Reader", some "one_row"), d35, He.fAd K ("Function", some "__init__"), d36, He.fAd K ("Reader", some "function"), d37, He.fAd K ("check_calls", none), d38, He.fAd K ("Program", some "__init__"), d39, He.fAd K ("Program", some "text"), d40, He.fAd K ("read_program", none), d41, He.fAd K ("Program", some "lines"), d42, He.fAd K ("Program", some "with_line"), d43, He.fAd K ("is_value", none), d44, He.fAd K ("is_given", none), d45, He.fAd K ("key_of", none), d46, He.fAd K ("Setting", some "__init__"), d47, He.fAd K ("Setting", some "start"), d48, He.fAd K ("Setting", some "forced"), d49, He.fAd K ("Setting", some "given_otherwise"), d50, He.fAd K ("Setting", some "going_otherwise"), d51, He.fAd K ("Setting", some "changed"), d52, He.fAd K ("_law_cell_at", none), d53, He.fAd K ("_law_draw", none), d54, He.fAd K ("_law_take", none), d55, He.fAd K ("_law_expr", none), d56, He.fAd K ("_law_simple", none), d57, He.fAd K ("_law_call_row", none), d58, He.fAd K ("_law_row", none), d59, He.fAd K ("_law_rows", none), d60, He.fAd K ("_law_kit", none), d61, He.fAd K ("_law_drawn", none), d62, He.fAd K ("_law_shape", none), d63, He.fAd K ("law", none), d64, He.ga K "Skip", He.ga K "Row", He.ga K "Set", He.ga K "Put", He.ga K "Ask", He.ga K "Draw", He.ga K "Tell", He.ga K "Choice", He.ga K "Loop", He.ga K "Call", He.ga K "Give", He.ga K "Reader", He.ga K "Function", He.ga K "Program", He.ga K "Setting", He.ga K "Number", He.ga K "Expr", He.ga K "Box", He.ga K "Cell", He.ga K "Two", He.ga K "PAIRS", He.ga K "ROWS", He.ga K "OTHERS", He.ga K "CHANGES", He.ga K "NoProgram", He.ga K "NoChange"⟩
  have T : Txt K mg A :=
    { F_Row_shape := fun_of F0,
      b_Row_shape := FunD.bindsN (ps := ["self"]) F0 fun _ _ _ _ _ _ us hl => match us, hl with | [_], _ => rfl,
      F_Choice_shape := fun_of F1,
      b_Choice_shape := FunD.bindsN (ps := ["self"]) F1 fun _ _ _ _ _ _ us hl => match us, hl with | [_], _ => rfl,
      F_Loop_shape := fun_of F2,
      b_Loop_shape := FunD.bindsN (ps := ["self"]) F2 fun _ _ _ _ _ _ us hl => match us, hl with | [_], _ => rfl,
      F_Call_shape := fun_of F3,
      b_Call_shape := FunD.bindsN (ps := ["self"]) F3 fun _ _ _ _ _ _ us hl => match us, hl with | [_], _ => rfl,
      F_Give_shape := fun_of F4,
      b_Give_shape := FunD.bindsN (ps := ["self"]) F4 fun _ _ _ _ _ _ us hl => match us, hl with | [_], _ => rfl,
      F_is_name := fun_of F5,
      b_is_name := FunD.bindsN (ps := ["thing"]) F5 fun _ _ _ _ _ _ us hl => match us, hl with | [_], _ => rfl,
      m_is_name := He.glo_ok (x := "is_name") X G (c.fact 0 rfl),
      F_is_value_word := fun_of F6,
      b_is_value_word := FunD.bindsN (ps := ["word"]) F6 fun _ _ _ _ _ _ us hl => match us, hl with | [_], _ => rfl,
      m_is_value_word := He.glo_ok (x := "is_value_word") X G (c.fact 1 rfl),
      F_Number_init := fun_of F7,
      b_Number_init := FunD.bindsN (ps := ["self", "value"]) F7 fun _ _ _ _ _ _ us hl => match us, hl with | [_, _], _ => rfl,
      F_Box_init := fun_of F8,
      b_Box_init := FunD.bindsN (ps := ["self", "name"]) F8 fun _ _ _ _ _ _ us hl => match us, hl with | [_, _], _ => rfl,
      F_Cell_init := fun_of F9,
      b_Cell_init := FunD.bindsN (ps := ["self", "inner"]) F9 fun _ _ _ _ _ _ us hl => match us, hl with | [_, _], _ => rfl,
      F_Two_init := fun_of F10,
      b_Two_init := FunD.bindsN (ps := ["self", "word", "left", "right"]) F10 fun _ _ _ _ _ _ us hl => match us, hl with | [_, _, _, _], _ => rfl,
      F_Expr_parts := fun_of F11,
      b_Expr_parts := FunD.bindsN (ps := ["self"]) F11 fun _ _ _ _ _ _ us hl => match us, hl with | [_], _ => rfl,
      F_Cell_parts := fun_of F12,
      b_Cell_parts := FunD.bindsN (ps := ["self"]) F12 fun _ _ _ _ _ _ us hl => match us, hl with | [_], _ => rfl,
      F_Two_parts := fun_of F13,
      b_Two_parts := FunD.bindsN (ps := ["self"]) F13 fun _ _ _ _ _ _ us hl => match us, hl with | [_], _ => rfl,
      F_expr_at := fun_of F14,
      b_expr_at := FunD.bindsN (ps := ["row", "at", "deep"]) F14 fun _ _ _ _ _ _ us hl => match us, hl with | [_, _, _], _ => rfl,
      m_expr_at := He.glo_ok (x := "expr_at") X G (c.fact 2 rfl),
      F_exprs_of := fun_of F15,
      b_exprs_of := FunD.bindsN (ps := ["row"]) F15 fun _ _ _ _ _ _ us hl => match us, hl with | [_], _ => rfl,
      m_exprs_of := He.glo_ok (x := "exprs_of") X G (c.fact 3 rfl),
      F_Row_init := fun_of F16,
      b_Row_init := FunD.bindsN (ps := ["self", "number"]) F16 fun _ _ _ _ _ _ us hl => match us, hl with | [_, _], _ => rfl,
      F_Set_init := fun_of F17,
      b_Set_init := FunD.bindsN (ps := ["self", "number", "box", "expr"]) F17 fun _ _ _ _ _ _ us hl => match us, hl with | [_, _, _, _], _ => rfl,
      F_Put_init := fun_of F18,
      b_Put_init := FunD.bindsN (ps := ["self", "number", "first", "second"]) F18 fun _ _ _ _ _ _ us hl => match us, hl with | [_, _, _, _], _ => rfl,
      F_Ask_init := fun_of F19,
      b_Ask_init := FunD.bindsN (ps := ["self", "number", "box", "word", "expr"]) F19 fun _ _ _ _ _ _ us hl => match us, hl with | [_, _, _, _, _], _ => rfl,
      F_Draw_init := fun_of F20,
      b_Draw_init := FunD.bindsN (ps := ["self", "number", "box", "word"]) F20 fun _ _ _ _ _ _ us hl => match us, hl with | [_, _, _, _], _ => rfl,
      F_Tell_init := fun_of F21,
      b_Tell_init := FunD.bindsN (ps := ["self", "number", "expr"]) F21 fun _ _ _ _ _ _ us hl => match us, hl with | [_, _, _], _ => rfl,
      F_Choice_init := fun_of F22,
      b_Choice_init := FunD.bindsN (ps := ["self", "number", "test", "first", "second"]) F22 fun _ _ _ _ _ _ us hl => match us, hl with | [_, _, _, _, _], _ => rfl,
      F_Loop_init := fun_of F23,
      b_Loop_init := FunD.bindsN (ps := ["self", "number", "test", "body"]) F23 fun _ _ _ _ _ _ us hl => match us, hl with | [_, _, _, _], _ => rfl,
      F_Call_init := fun_of F24,
      b_Call_init := FunD.bindsN (ps := ["self", "number", "box", "fun", "given"]) F24 fun _ _ _ _ _ _ us hl => match us, hl with | [_, _, _, _, _], _ => rfl,
      F_Give_init := fun_of F25,
      b_Give_init := FunD.bindsN (ps := ["self", "number", "expr"]) F25 fun _ _ _ _ _ _ us hl => match us, hl with | [_, _, _], _ => rfl,
      F_check_names := fun_of F26,
      b_check_names := FunD.bindsN (ps := ["words", "many"]) F26 fun _ _ _ _ _ _ us hl => match us, hl with | [_, _], _ => rfl,
      m_check_names := He.glo_ok (x := "check_names") X G (c.fact 4 rfl),
      F_only := fun_of F27,
      b_only := FunD.bindsN (ps := ["found"]) F27 fun _ _ _ _ _ _ us hl => match us, hl with | [_], _ => rfl,
      m_only := He.glo_ok (x := "only") X G (c.fact 5 rfl),
      F_simple_row := fun_of F28,
      b_simple_row := FunD.bindsN (ps := ["number", "words"]) F28 fun _ _ _ _ _ _ us hl => match us, hl with | [_, _], _ => rfl,
      m_simple_row := He.glo_ok (x := "simple_row") X G (c.fact 6 rfl),
      F_Reader_head := fun_of F29,
      b_Reader_head := FunD.bindsN (ps := ["self"]) F29 fun _ _ _ _ _ _ us hl => match us, hl with | [_], _ => rfl,
      F_Reader_init := fun_of F30,
      b_Reader_init := FunD.bindsN (ps := ["self", "texts"]) F30 fun _ _ _ _ _ _ us hl => match us, hl with | [_, _], _ => rfl,
      F_Reader_pass_line := fun_of F31,
      b_Reader_pass_line := FunD.bindsN (ps := ["self", "text"]) F31 fun _ _ _ _ _ _ us hl => match us, hl with | [_, _], _ => rfl,
      F_Reader_call_row := fun_of F32,
      b_Reader_call_row := FunD.bindsN (ps := ["self", "number", "words"]) F32 fun _ _ _ _ _ _ us hl => match us, hl with | [_, _, _], _ => rfl,
      F_Reader_row_with_rows := fun_of F33,
      b_Reader_row_with_rows := FunD.bindsN (ps := ["self", "number", "words", "within"]) F33 fun _ _ _ _ _ _ us hl => match us, hl with | [_, _, _, _], _ => rfl,
      F_Reader_block := fun_of F34,
      b_Reader_block := FunD.bindsN (ps := ["self", "within"]) F34 fun _ _ _ _ _ _ us hl => match us, hl with | [_, _], _ => rfl,
      F_Reader_one_row := fun_of F35,
      b_Reader_one_row := FunD.bindsN (ps := ["self", "within"]) F35 fun _ _ _ _ _ _ us hl => match us, hl with | [_, _], _ => rfl,
      F_Function_init := fun_of F36,
      b_Function_init := FunD.bindsN (ps := ["self", "name", "params", "body", "give"]) F36 fun _ _ _ _ _ _ us hl => match us, hl with | [_, _, _, _, _], _ => rfl,
      F_Reader_function := fun_of F37,
      b_Reader_function := FunD.bindsN (ps := ["self"]) F37 fun _ _ _ _ _ _ us hl => match us, hl with | [_], _ => rfl,
      F_check_calls := fun_of F38,
      b_check_calls := FunD.bindsN (ps := ["calls", "functions"]) F38 fun _ _ _ _ _ _ us hl => match us, hl with | [_, _], _ => rfl,
      m_check_calls := He.glo_ok (x := "check_calls") X G (c.fact 7 rfl),
      F_Program_init := fun_of F39,
      b_Program_init := FunD.bindsN (ps := ["self", "texts", "main", "functions", "by_number"]) F39 fun _ _ _ _ _ _ us hl => match us, hl with | [_, _, _, _, _], _ => rfl,
      F_Program_text := fun_of F40,
      b_Program_text := FunD.bindsN (ps := ["self"]) F40 fun _ _ _ _ _ _ us hl => match us, hl with | [_], _ => rfl,
      F_read_program := fun_of F41,
      b_read_program := FunD.bindsN (ps := ["text"]) F41 fun _ _ _ _ _ _ us hl => match us, hl with | [_], _ => rfl,
      m_read_program := He.glo_ok (x := "read_program") X G (c.fact 8 rfl),
      F_Program_lines := fun_of F42,
      b_Program_lines := FunD.bindsN (ps := ["self"]) F42 fun _ _ _ _ _ _ us hl => match us, hl with | [_], _ => rfl,
      F_Program_with_line := fun_of F43,
      b_Program_with_line := FunD.bindsN (ps := ["self", "number", "line"]) F43 fun _ _ _ _ _ _ us hl => match us, hl with | [_, _, _], _ => rfl,
      F_is_value := fun_of F44,
      b_is_value := FunD.bindsN (ps := ["thing"]) F44 fun _ _ _ _ _ _ us hl => match us, hl with | [_], _ => rfl,
      m_is_value := He.glo_ok (x := "is_value") X G (c.fact 9 rfl),
      F_is_given := fun_of F45,
      b_is_given := FunD.bindsN (ps := ["thing"]) F45 fun _ _ _ _ _ _ us hl => match us, hl with | [_], _ => rfl,
      m_is_given := He.glo_ok (x := "is_given") X G (c.fact 10 rfl),
      F_key_of := fun_of F46,
      b_key_of := FunD.bindsN (ps := ["change"]) F46 fun _ _ _ _ _ _ us hl => match us, hl with | [_], _ => rfl,
      m_key_of := He.glo_ok (x := "key_of") X G (c.fact 11 rfl),
      F_Setting_init := F47,
      b_Setting_init := by
        obtain ⟨ds, r, b⟩ := F47.binds1 (ps := ["self", "program", "start", "bound", "forced"]) 5 2 (by intro z; cases z) rfl (fun _ _ _ _ _ _ _ us its hl hi => by
          match us, its, hl, hi with | [_, _, _, _, _], [_, _], _, _ => exact ⟨_, rfl, rfl⟩)
        cases r
        exact b,
      F_Setting_start := fun_of F48,
      b_Setting_start := FunD.bindsN (ps := ["self"]) F48 fun _ _ _ _ _ _ us hl => match us, hl with | [_], _ => rfl,
      F_Setting_forced := fun_of F49,
      b_Setting_forced := FunD.bindsN (ps := ["self"]) F49 fun _ _ _ _ _ _ us hl => match us, hl with | [_], _ => rfl,
      F_Setting_given_otherwise := fun_of F50,
      b_Setting_given_otherwise := FunD.bindsN (ps := ["self", "place", "value"]) F50 fun _ _ _ _ _ _ us hl => match us, hl with | [_, _, _], _ => rfl,
      F_Setting_going_otherwise := fun_of F51,
      b_Setting_going_otherwise := FunD.bindsN (ps := ["self", "address", "truth"]) F51 fun _ _ _ _ _ _ us hl => match us, hl with | [_, _, _], _ => rfl,
      F_Setting_changed := fun_of F52,
      b_Setting_changed := FunD.bindsN (ps := ["self", "change"]) F52 fun _ _ _ _ _ _ us hl => match us, hl with | [_, _], _ => rfl,
      F_l_cell_at := fun_of F53,
      b_l_cell_at := FunD.bindsN (ps := ["_law_script", "_law_k"]) F53 fun _ _ _ _ _ _ us hl => match us, hl with | [_, _], _ => rfl,
      m_l_cell_at := He.glo_ok (x := "_law_cell_at") X G (c.fact 12 rfl),
      F_l_draw := fun_of F54,
      b_l_draw := FunD.bindsN (ps := ["_law_cell", "_law_k"]) F54 fun _ _ _ _ _ _ us hl => match us, hl with | [_, _], _ => rfl,
      m_l_draw := He.glo_ok (x := "_law_draw") X G (c.fact 13 rfl),
      F_l_take := fun_of F55,
      b_l_take := FunD.bindsN (ps := ["_law_tape", "_law_many"]) F55 fun _ _ _ _ _ _ us hl => match us, hl with | [_, _], _ => rfl,
      m_l_take := He.glo_ok (x := "_law_take") X G (c.fact 14 rfl),
      F_l_expr := fun_of F56,
      b_l_expr := FunD.bindsN (ps := ["_law_tape", "_law_deep", "_law_names"]) F56 fun _ _ _ _ _ _ us hl => match us, hl with | [_, _, _], _ => rfl,
      m_l_expr := He.glo_ok (x := "_law_expr") X G (c.fact 15 rfl),
      F_l_simple := fun_of F57,
      b_l_simple := FunD.bindsN (ps := ["_law_tape", "_law_names"]) F57 fun _ _ _ _ _ _ us hl => match us, hl with | [_, _], _ => rfl,
      m_l_simple := He.glo_ok (x := "_law_simple") X G (c.fact 16 rfl),
      F_l_call_row := fun_of F58,
      b_l_call_row := FunD.bindsN (ps := ["_law_tape", "_law_names", "_law_funs"]) F58 fun _ _ _ _ _ _ us hl => match us, hl with | [_, _, _], _ => rfl,
      m_l_call_row := He.glo_ok (x := "_law_call_row") X G (c.fact 17 rfl),
      F_l_row := fun_of F59,
      b_l_row := FunD.bindsN (ps := ["_law_tape", "_law_deep", "_law_names", "_law_funs"]) F59 fun _ _ _ _ _ _ us hl => match us, hl with | [_, _, _, _], _ => rfl,
      m_l_row := He.glo_ok (x := "_law_row") X G (c.fact 18 rfl),
      F_l_rows := fun_of F60,
      b_l_rows := FunD.bindsN (ps := ["_law_tape", "_law_deep", "_law_names", "_law_funs", "_law_most"]) F60 fun _ _ _ _ _ _ us hl => match us, hl with | [_, _, _, _, _], _ => rfl,
      m_l_rows := He.glo_ok (x := "_law_rows") X G (c.fact 19 rfl),
      F_l_kit := fun_of F61,
      b_l_kit := FunD.bindsN (ps := ["_law_cell"]) F61 fun _ _ _ _ _ _ us hl => match us, hl with | [_], _ => rfl,
      m_l_kit := He.glo_ok (x := "_law_kit") X G (c.fact 20 rfl),
      F_l_drawn := fun_of F62,
      b_l_drawn := FunD.bindsN (ps := ["_law_tape", "_law_kit_here"]) F62 fun _ _ _ _ _ _ us hl => match us, hl with | [_, _], _ => rfl,
      m_l_drawn := He.glo_ok (x := "_law_drawn") X G (c.fact 21 rfl),
      F_l_shape := fun_of F63,
      b_l_shape := FunD.bindsN (ps := ["_law_line"]) F63 fun _ _ _ _ _ _ us hl => match us, hl with | [_], _ => rfl,
      m_l_shape := He.glo_ok (x := "_law_shape") X G (c.fact 22 rfl),
      F_law := fun_of F64,
      b_law := FunD.bindsN (ps := ["_law_script"]) F64 fun _ _ _ _ _ _ us hl => match us, hl with | [_], _ => rfl,
      m_law := He.glo_ok (x := "law") X G (c.fact 23 rfl),
      m_Skip := He.glo_ok (x := "Skip") X G (c.fact 24 rfl),
      cl_Skip := He.cls_ok (x := "Skip") (c.fact 25 rfl),
      mk_Skip := (c.fact 26 rfl : PySem.W.makesIn K (He.ga K "Skip") = true),
      n_Skip_number := He.noat_ok (x := "Skip") (f := "number") (c.fact 27 rfl),
      k_Skip := (show Mk K (He.ga K "Skip") (He.ma K (He.ga K "Row") "__init__") from of_decide_eq_true (c.fact 29 rfl) ▸ He.mkr_ok (x := "Skip") (c.fact 28 rfl)),
      m_Row := He.glo_ok (x := "Row") X G (c.fact 30 rfl),
      cl_Row := He.cls_ok (x := "Row") (c.fact 31 rfl),
      mk_Row := (c.fact 32 rfl : PySem.W.makesIn K (He.ga K "Row") = true),
      k_Row := He.mkr_ok (x := "Row") (c.fact 33 rfl),
      m_Set := He.glo_ok (x := "Set") X G (c.fact 34 rfl),
      cl_Set := He.cls_ok (x := "Set") (c.fact 35 rfl),
      mk_Set := (c.fact 36 rfl : PySem.W.makesIn K (He.ga K "Set") = true),
      n_Set_number := He.noat_ok (x := "Set") (f := "number") (c.fact 37 rfl),
      n_Set_box := He.noat_ok (x := "Set") (f := "box") (c.fact 38 rfl),
      n_Set_expr := He.noat_ok (x := "Set") (f := "expr") (c.fact 39 rfl),
      k_Set := He.mkr_ok (x := "Set") (c.fact 40 rfl),
      m_Put := He.glo_ok (x := "Put") X G (c.fact 41 rfl),
      cl_Put := He.cls_ok (x := "Put") (c.fact 42 rfl),
      mk_Put := (c.fact 43 rfl : PySem.W.makesIn K (He.ga K "Put") = true),
      n_Put_number := He.noat_ok (x := "Put") (f := "number") (c.fact 44 rfl),
      n_Put_first := He.noat_ok (x := "Put") (f := "first") (c.fact 45 rfl),
      n_Put_second := He.noat_ok (x := "Put") (f := "second") (c.fact 46 rfl),
      k_Put := He.mkr_ok (x := "Put") (c.fact 47 rfl),
      m_Ask := He.glo_ok (x := "Ask") X G (c.fact 48 rfl),
      cl_Ask := He.cls_ok (x := "Ask") (c.fact 49 rfl),
      mk_Ask := (c.fact 50 rfl : PySem.W.makesIn K (He.ga K "Ask") = true),
      n_Ask_number := He.noat_ok (x := "Ask") (f := "number") (c.fact 51 rfl),
      n_Ask_box := He.noat_ok (x := "Ask") (f := "box") (c.fact 52 rfl),
      n_Ask_word := He.noat_ok (x := "Ask") (f := "word") (c.fact 53 rfl),
      n_Ask_expr := He.noat_ok (x := "Ask") (f := "expr") (c.fact 54 rfl),
      k_Ask := He.mkr_ok (x := "Ask") (c.fact 55 rfl),
      m_Draw := He.glo_ok (x := "Draw") X G (c.fact 56 rfl),
      cl_Draw := He.cls_ok (x := "Draw") (c.fact 57 rfl),
      mk_Draw := (c.fact 58 rfl : PySem.W.makesIn K (He.ga K "Draw") = true),
      n_Draw_number := He.noat_ok (x := "Draw") (f := "number") (c.fact 59 rfl),
      n_Draw_box := He.noat_ok (x := "Draw") (f := "box") (c.fact 60 rfl),
      n_Draw_word := He.noat_ok (x := "Draw") (f := "word") (c.fact 61 rfl),
      k_Draw := He.mkr_ok (x := "Draw") (c.fact 62 rfl),
      m_Tell := He.glo_ok (x := "Tell") X G (c.fact 63 rfl),
      cl_Tell := He.cls_ok (x := "Tell") (c.fact 64 rfl),
      mk_Tell := (c.fact 65 rfl : PySem.W.makesIn K (He.ga K "Tell") = true),
      n_Tell_number := He.noat_ok (x := "Tell") (f := "number") (c.fact 66 rfl),
      n_Tell_expr := He.noat_ok (x := "Tell") (f := "expr") (c.fact 67 rfl),
      k_Tell := He.mkr_ok (x := "Tell") (c.fact 68 rfl),
      m_Choice := He.glo_ok (x := "Choice") X G (c.fact 69 rfl),
      cl_Choice := He.cls_ok (x := "Choice") (c.fact 70 rfl),
      mk_Choice := (c.fact 71 rfl : PySem.W.makesIn K (He.ga K "Choice") = true),
      n_Choice_number := He.noat_ok (x := "Choice") (f := "number") (c.fact 72 rfl),
      n_Choice_test := He.noat_ok (x := "Choice") (f := "test") (c.fact 73 rfl),
      n_Choice_first := He.noat_ok (x := "Choice") (f := "first") (c.fact 74 rfl),
      n_Choice_second := He.noat_ok (x := "Choice") (f := "second") (c.fact 75 rfl),
      k_Choice := He.mkr_ok (x := "Choice") (c.fact 76 rfl),
      m_Loop := He.glo_ok (x := "Loop") X G (c.fact 77 rfl),
      cl_Loop := He.cls_ok (x := "Loop") (c.fact 78 rfl),
      mk_Loop := (c.fact 79 rfl : PySem.W.makesIn K (He.ga K "Loop") = true),
      n_Loop_number := He.noat_ok (x := "Loop") (f := "number") (c.fact 80 rfl),
      n_Loop_test := He.noat_ok (x := "Loop") (f := "test") (c.fact 81 rfl),
      n_Loop_body := He.noat_ok (x := "Loop") (f := "body") (c.fact 82 rfl),
      k_Loop := He.mkr_ok (x := "Loop") (c.fact 83 rfl),
      m_Call := He.glo_ok (x := "Call") X G (c.fact 84 rfl),
      cl_Call := He.cls_ok (x := "Call") (c.fact 85 rfl),
      mk_Call := (c.fact 86 rfl : PySem.W.makesIn K (He.ga K "Call") = true),
      n_Call_number := He.noat_ok (x := "Call") (f := "number") (c.fact 87 rfl),
      n_Call_box := He.noat_ok (x := "Call") (f := "box") (c.fact 88 rfl),
      n_Call_fun := He.noat_ok (x := "Call") (f := "fun") (c.fact 89 rfl),
      n_Call_given := He.noat_ok (x := "Call") (f := "given") (c.fact 90 rfl),
      k_Call := He.mkr_ok (x := "Call") (c.fact 91 rfl),
      m_Give := He.glo_ok (x := "Give") X G (c.fact 92 rfl),
      cl_Give := He.cls_ok (x := "Give") (c.fact 93 rfl),
      mk_Give := (c.fact 94 rfl : PySem.W.makesIn K (He.ga K "Give") = true),
      n_Give_number := He.noat_ok (x := "Give") (f := "number") (c.fact 95 rfl),
      n_Give_expr := He.noat_ok (x := "Give") (f := "expr") (c.fact 96 rfl),
      k_Give := He.mkr_ok (x := "Give") (c.fact 97 rfl),
      m_Reader := He.glo_ok (x := "Reader") X G (c.fact 98 rfl),
      cl_Reader := He.cls_ok (x := "Reader") (c.fact 99 rfl),
      mk_Reader := (c.fact 100 rfl : PySem.W.makesIn K (He.ga K "Reader") = true),
      n_Reader_texts := He.noat_ok (x := "Reader") (f := "texts") (c.fact 101 rfl),
      n_Reader_at := He.noat_ok (x := "Reader") (f := "at") (c.fact 102 rfl),
      n_Reader_by_number := He.noat_ok (x := "Reader") (f := "by_number") (c.fact 103 rfl),
      n_Reader_calls := He.noat_ok (x := "Reader") (f := "calls") (c.fact 104 rfl),
      k_Reader := He.mkr_ok (x := "Reader") (c.fact 105 rfl),
      m_Function := He.glo_ok (x := "Function") X G (c.fact 106 rfl),
      cl_Function := He.cls_ok (x := "Function") (c.fact 107 rfl),
      mk_Function := (c.fact 108 rfl : PySem.W.makesIn K (He.ga K "Function") = true),
      n_Function_name := He.noat_ok (x := "Function") (f := "name") (c.fact 109 rfl),
      n_Function_params := He.noat_ok (x := "Function") (f := "params") (c.fact 110 rfl),
      n_Function_body := He.noat_ok (x := "Function") (f := "body") (c.fact 111 rfl),
      n_Function_give := He.noat_ok (x := "Function") (f := "give") (c.fact 112 rfl),
      k_Function := He.mkr_ok (x := "Function") (c.fact 113 rfl),
      m_Program := He.glo_ok (x := "Program") X G (c.fact 114 rfl),
      cl_Program := He.cls_ok (x := "Program") (c.fact 115 rfl),
      mk_Program := (c.fact 116 rfl : PySem.W.makesIn K (He.ga K "Program") = true),
      n_Program_texts := He.noat_ok (x := "Program") (f := "texts") (c.fact 117 rfl),
      n_Program_main := He.noat_ok (x := "Program") (f := "main") (c.fact 118 rfl),
      n_Program_functions := He.noat_ok (x := "Program") (f := "functions") (c.fact 119 rfl),
      n_Program_by_number := He.noat_ok (x := "Program") (f := "by_number") (c.fact 120 rfl),
      k_Program := He.mkr_ok (x := "Program") (c.fact 121 rfl),
      m_Setting := He.glo_ok (x := "Setting") X G (c.fact 122 rfl),
      cl_Setting := He.cls_ok (x := "Setting") (c.fact 123 rfl),
      mk_Setting := (c.fact 124 rfl : PySem.W.makesIn K (He.ga K "Setting") = true),
      n_Setting_program := He.noat_ok (x := "Setting") (f := "program") (c.fact 125 rfl),
      n_Setting_bound := He.noat_ok (x := "Setting") (f := "bound") (c.fact 126 rfl),
      n_Setting_given := He.noat_ok (x := "Setting") (f := "given") (c.fact 127 rfl),
      n_Setting_goings := He.noat_ok (x := "Setting") (f := "goings") (c.fact 128 rfl),
      k_Setting := He.mkr_ok (x := "Setting") (c.fact 129 rfl),
      m_Number := He.glo_ok (x := "Number") X G (c.fact 130 rfl),
      cl_Number := He.cls_ok (x := "Number") (c.fact 131 rfl),
      mk_Number := (c.fact 132 rfl : PySem.W.makesIn K (He.ga K "Number") = true),
      n_Number_value := He.noat_ok (x := "Number") (f := "value") (c.fact 133 rfl),
      k_Number := He.mkr_ok (x := "Number") (c.fact 134 rfl),
      m_Expr := He.glo_ok (x := "Expr") X G (c.fact 135 rfl),
      cl_Expr := He.cls_ok (x := "Expr") (c.fact 136 rfl),
      mk_Expr := (c.fact 137 rfl : PySem.W.makesIn K (He.ga K "Expr") = true),
      m_Box := He.glo_ok (x := "Box") X G (c.fact 138 rfl),
      cl_Box := He.cls_ok (x := "Box") (c.fact 139 rfl),
      mk_Box := (c.fact 140 rfl : PySem.W.makesIn K (He.ga K "Box") = true),
      n_Box_name := He.noat_ok (x := "Box") (f := "name") (c.fact 141 rfl),
      k_Box := He.mkr_ok (x := "Box") (c.fact 142 rfl),
      m_Cell := He.glo_ok (x := "Cell") X G (c.fact 143 rfl),
      cl_Cell := He.cls_ok (x := "Cell") (c.fact 144 rfl),
      mk_Cell := (c.fact 145 rfl : PySem.W.makesIn K (He.ga K "Cell") = true),
      n_Cell_inner := He.noat_ok (x := "Cell") (f := "inner") (c.fact 146 rfl),
      k_Cell := He.mkr_ok (x := "Cell") (c.fact 147 rfl),
      m_Two := He.glo_ok (x := "Two") X G (c.fact 148 rfl),
      cl_Two := He.cls_ok (x := "Two") (c.fact 149 rfl),
      mk_Two := (c.fact 150 rfl : PySem.W.makesIn K (He.ga K "Two") = true),
      n_Two_word := He.noat_ok (x := "Two") (f := "word") (c.fact 151 rfl),
      n_Two_left := He.noat_ok (x := "Two") (f := "left") (c.fact 152 rfl),
      n_Two_right := He.noat_ok (x := "Two") (f := "right") (c.fact 153 rfl),
      k_Two := He.mkr_ok (x := "Two") (c.fact 154 rfl),
      me_Skip_shape := (show Meth K (He.ga K "Skip") "shape" (He.ma K (He.ga K "Row") "shape") from of_decide_eq_true (c.fact 156 rfl) ▸ He.meth_ok (x := "Skip") (m := "shape") (c.fact 155 rfl)),
      me_Set_shape := (show Meth K (He.ga K "Set") "shape" (He.ma K (He.ga K "Row") "shape") from of_decide_eq_true (c.fact 158 rfl) ▸ He.meth_ok (x := "Set") (m := "shape") (c.fact 157 rfl)),
      me_Put_shape := (show Meth K (He.ga K "Put") "shape" (He.ma K (He.ga K "Row") "shape") from of_decide_eq_true (c.fact 160 rfl) ▸ He.meth_ok (x := "Put") (m := "shape") (c.fact 159 rfl)),
      me_Ask_shape := (show Meth K (He.ga K "Ask") "shape" (He.ma K (He.ga K "Row") "shape") from of_decide_eq_true (c.fact 162 rfl) ▸ He.meth_ok (x := "Ask") (m := "shape") (c.fact 161 rfl)),
      me_Draw_shape := (show Meth K (He.ga K "Draw") "shape" (He.ma K (He.ga K "Row") "shape") from of_decide_eq_true (c.fact 164 rfl) ▸ He.meth_ok (x := "Draw") (m := "shape") (c.fact 163 rfl)),
      me_Tell_shape := (show Meth K (He.ga K "Tell") "shape" (He.ma K (He.ga K "Row") "shape") from of_decide_eq_true (c.fact 166 rfl) ▸ He.meth_ok (x := "Tell") (m := "shape") (c.fact 165 rfl)),
      me_Choice_shape := He.meth_ok (x := "Choice") (m := "shape") (c.fact 167 rfl),
      me_Loop_shape := He.meth_ok (x := "Loop") (m := "shape") (c.fact 168 rfl),
      me_Call_shape := He.meth_ok (x := "Call") (m := "shape") (c.fact 169 rfl),
      me_Give_shape := He.meth_ok (x := "Give") (m := "shape") (c.fact 170 rfl),
      me_Number_parts := (show Meth K (He.ga K "Number") "parts" (He.ma K (He.ga K "Expr") "parts") from of_decide_eq_true (c.fact 172 rfl) ▸ He.meth_ok (x := "Number") (m := "parts") (c.fact 171 rfl)),
      me_Box_parts := (show Meth K (He.ga K "Box") "parts" (He.ma K (He.ga K "Expr") "parts") from of_decide_eq_true (c.fact 174 rfl) ▸ He.meth_ok (x := "Box") (m := "parts") (c.fact 173 rfl)),
      me_Cell_parts := He.meth_ok (x := "Cell") (m := "parts") (c.fact 175 rfl),
      me_Two_parts := He.meth_ok (x := "Two") (m := "parts") (c.fact 176 rfl),
      me_Reader_block := He.meth_ok (x := "Reader") (m := "block") (c.fact 177 rfl),
      me_Reader_pass_line := He.meth_ok (x := "Reader") (m := "pass_line") (c.fact 178 rfl),
      me_Reader_row_with_rows := He.meth_ok (x := "Reader") (m := "row_with_rows") (c.fact 179 rfl),
      me_Reader_call_row := He.meth_ok (x := "Reader") (m := "call_row") (c.fact 180 rfl),
      me_Reader_head := He.meth_ok (x := "Reader") (m := "head") (c.fact 181 rfl),
      me_Reader_one_row := He.meth_ok (x := "Reader") (m := "one_row") (c.fact 182 rfl),
      me_Reader_function := He.meth_ok (x := "Reader") (m := "function") (c.fact 183 rfl),
      me_Setting_given_otherwise := He.meth_ok (x := "Setting") (m := "given_otherwise") (c.fact 184 rfl),
      me_Program_with_line := He.meth_ok (x := "Program") (m := "with_line") (c.fact 185 rfl),
      me_Setting_going_otherwise := He.meth_ok (x := "Setting") (m := "going_otherwise") (c.fact 186 rfl),
      me_Setting_changed := He.meth_ok (x := "Setting") (m := "changed") (c.fact 187 rfl),
      me_Program_lines := He.meth_ok (x := "Program") (m := "lines") (c.fact 188 rfl),
      me_Program_text := He.meth_ok (x := "Program") (m := "text") (c.fact 189 rfl),
      me_Setting_start := He.meth_ok (x := "Setting") (m := "start") (c.fact 190 rfl),
      me_Setting_forced := He.meth_ok (x := "Setting") (m := "forced") (c.fact 191 rfl),
      cf_Row_init := cfn_ok (c.fact 192 rfl),
      m_PAIRS := He.glo_ok (x := "PAIRS") X G (c.fact 193 rfl),
      q_PAIRS := fun H => He.tupB_ok (x := "PAIRS") (vs := [.str "plus", .str "minus", .str "times", .str "over", .str "rest", .str "less", .str "same"]) (c.fact 194 rfl) H,
      m_ROWS := He.glo_ok (x := "ROWS") X G (c.fact 195 rfl),
      q_ROWS := fun H => He.tupB_ok (x := "ROWS") (vs := [.str "skip", .str "set", .str "put", .str "ask", .str "draw", .str "tell", .str "if", .str "while", .str "call"]) (c.fact 196 rfl) H,
      m_OTHERS := He.glo_ok (x := "OTHERS") X G (c.fact 197 rfl),
      q_OTHERS := fun H => He.tupB_ok (x := "OTHERS") (vs := [.str "else", .str "end", .str "fun", .str "main", .str "give", .str "cell"]) (c.fact 198 rfl) H,
      m_CHANGES := He.glo_ok (x := "CHANGES") X G (c.fact 199 rfl),
      q_CHANGES := fun H => He.tupB_ok (x := "CHANGES") (vs := [.str "start", .str "row", .str "goes"]) (c.fact 200 rfl) H,
      m_NoProgram := He.glo_ok (x := "NoProgram") X G (c.fact 202 rfl),
      x_NoProgram := (He.exc_ok (x := "NoProgram") (c.fact 201 rfl)).1,
      kk_NoProgram := (He.exc_ok (x := "NoProgram") (c.fact 201 rfl)).2.1,
      bb_NoProgram := (He.exc_ok (x := "NoProgram") (c.fact 201 rfl)).2.2.1,
      tt_NoProgram := (He.exc_ok (x := "NoProgram") (c.fact 201 rfl)).2.2.2,
      m_NoChange := He.glo_ok (x := "NoChange") X G (c.fact 204 rfl),
      x_NoChange := (He.exc_ok (x := "NoChange") (c.fact 203 rfl)).1,
      kk_NoChange := (He.exc_ok (x := "NoChange") (c.fact 203 rfl)).2.1,
      bb_NoChange := (He.exc_ok (x := "NoChange") (c.fact 203 rfl)).2.2.1,
      tt_NoChange := (He.exc_ok (x := "NoChange") (c.fact 203 rfl)).2.2.2,
      ne_num_box := of_decide_eq_true (c.fact 205 rfl),
      ne_num_cell := of_decide_eq_true (c.fact 206 rfl),
      ne_num_two := of_decide_eq_true (c.fact 207 rfl),
      ne_box_num := of_decide_eq_true (c.fact 208 rfl),
      ne_box_cell := of_decide_eq_true (c.fact 209 rfl),
      ne_box_two := of_decide_eq_true (c.fact 210 rfl),
      ne_cell_num := of_decide_eq_true (c.fact 211 rfl),
      ne_cell_box := of_decide_eq_true (c.fact 212 rfl),
      ne_cell_two := of_decide_eq_true (c.fact 213 rfl),
      ne_two_num := of_decide_eq_true (c.fact 214 rfl),
      ne_two_box := of_decide_eq_true (c.fact 215 rfl),
      ne_two_cell := of_decide_eq_true (c.fact 216 rfl),
      ne_Skip_Set := of_decide_eq_true (c.fact 217 rfl),
      ne_Skip_Put := of_decide_eq_true (c.fact 218 rfl),
      ne_Skip_Ask := of_decide_eq_true (c.fact 219 rfl),
      ne_Skip_Draw := of_decide_eq_true (c.fact 220 rfl),
      ne_Skip_Tell := of_decide_eq_true (c.fact 221 rfl),
      ne_Skip_Choice := of_decide_eq_true (c.fact 222 rfl),
      ne_Skip_Loop := of_decide_eq_true (c.fact 223 rfl),
      ne_Skip_Call := of_decide_eq_true (c.fact 224 rfl),
      ne_Skip_Give := of_decide_eq_true (c.fact 225 rfl),
      ne_Set_Skip := of_decide_eq_true (c.fact 226 rfl),
      ne_Set_Put := of_decide_eq_true (c.fact 227 rfl),
      ne_Set_Ask := of_decide_eq_true (c.fact 228 rfl),
      ne_Set_Draw := of_decide_eq_true (c.fact 229 rfl),
      ne_Set_Tell := of_decide_eq_true (c.fact 230 rfl),
      ne_Set_Choice := of_decide_eq_true (c.fact 231 rfl),
      ne_Set_Loop := of_decide_eq_true (c.fact 232 rfl),
      ne_Set_Call := of_decide_eq_true (c.fact 233 rfl),
      ne_Set_Give := of_decide_eq_true (c.fact 234 rfl),
      ne_Put_Skip := of_decide_eq_true (c.fact 235 rfl),
      ne_Put_Set := of_decide_eq_true (c.fact 236 rfl),
      ne_Put_Ask := of_decide_eq_true (c.fact 237 rfl),
      ne_Put_Draw := of_decide_eq_true (c.fact 238 rfl),
      ne_Put_Tell := of_decide_eq_true (c.fact 239 rfl),
      ne_Put_Choice := of_decide_eq_true (c.fact 240 rfl),
      ne_Put_Loop := of_decide_eq_true (c.fact 241 rfl),
      ne_Put_Call := of_decide_eq_true (c.fact 242 rfl),
      ne_Put_Give := of_decide_eq_true (c.fact 243 rfl),
      ne_Ask_Skip := of_decide_eq_true (c.fact 244 rfl),
      ne_Ask_Set := of_decide_eq_true (c.fact 245 rfl),
      ne_Ask_Put := of_decide_eq_true (c.fact 246 rfl),
      ne_Ask_Draw := of_decide_eq_true (c.fact 247 rfl),
      ne_Ask_Tell := of_decide_eq_true (c.fact 248 rfl),
      ne_Ask_Choice := of_decide_eq_true (c.fact 249 rfl),
      ne_Ask_Loop := of_decide_eq_true (c.fact 250 rfl),
      ne_Ask_Call := of_decide_eq_true (c.fact 251 rfl),
      ne_Ask_Give := of_decide_eq_true (c.fact 252 rfl),
      ne_Draw_Skip := of_decide_eq_true (c.fact 253 rfl),
      ne_Draw_Set := of_decide_eq_true (c.fact 254 rfl),
      ne_Draw_Put := of_decide_eq_true (c.fact 255 rfl),
      ne_Draw_Ask := of_decide_eq_true (c.fact 256 rfl),
      ne_Draw_Tell := of_decide_eq_true (c.fact 257 rfl),
      ne_Draw_Choice := of_decide_eq_true (c.fact 258 rfl),
      ne_Draw_Loop := of_decide_eq_true (c.fact 259 rfl),
      ne_Draw_Call := of_decide_eq_true (c.fact 260 rfl),
      ne_Draw_Give := of_decide_eq_true (c.fact 261 rfl),
      ne_Tell_Skip := of_decide_eq_true (c.fact 262 rfl),
      ne_Tell_Set := of_decide_eq_true (c.fact 263 rfl),
      ne_Tell_Put := of_decide_eq_true (c.fact 264 rfl),
      ne_Tell_Ask := of_decide_eq_true (c.fact 265 rfl),
      ne_Tell_Draw := of_decide_eq_true (c.fact 266 rfl),
      ne_Tell_Choice := of_decide_eq_true (c.fact 267 rfl),
      ne_Tell_Loop := of_decide_eq_true (c.fact 268 rfl),
      ne_Tell_Call := of_decide_eq_true (c.fact 269 rfl),
      ne_Tell_Give := of_decide_eq_true (c.fact 270 rfl),
      ne_Choice_Skip := of_decide_eq_true (c.fact 271 rfl),
      ne_Choice_Set := of_decide_eq_true (c.fact 272 rfl),
      ne_Choice_Put := of_decide_eq_true (c.fact 273 rfl),
      ne_Choice_Ask := of_decide_eq_true (c.fact 274 rfl),
      ne_Choice_Draw := of_decide_eq_true (c.fact 275 rfl),
      ne_Choice_Tell := of_decide_eq_true (c.fact 276 rfl),
      ne_Choice_Loop := of_decide_eq_true (c.fact 277 rfl),
      ne_Choice_Call := of_decide_eq_true (c.fact 278 rfl),
      ne_Choice_Give := of_decide_eq_true (c.fact 279 rfl),
      ne_Loop_Skip := of_decide_eq_true (c.fact 280 rfl),
      ne_Loop_Set := of_decide_eq_true (c.fact 281 rfl),
      ne_Loop_Put := of_decide_eq_true (c.fact 282 rfl),
      ne_Loop_Ask := of_decide_eq_true (c.fact 283 rfl),
      ne_Loop_Draw := of_decide_eq_true (c.fact 284 rfl),
      ne_Loop_Tell := of_decide_eq_true (c.fact 285 rfl),
      ne_Loop_Choice := of_decide_eq_true (c.fact 286 rfl),
      ne_Loop_Call := of_decide_eq_true (c.fact 287 rfl),
      ne_Loop_Give := of_decide_eq_true (c.fact 288 rfl),
      ne_Call_Skip := of_decide_eq_true (c.fact 289 rfl),
      ne_Call_Set := of_decide_eq_true (c.fact 290 rfl),
      ne_Call_Put := of_decide_eq_true (c.fact 291 rfl),
      ne_Call_Ask := of_decide_eq_true (c.fact 292 rfl),
      ne_Call_Draw := of_decide_eq_true (c.fact 293 rfl),
      ne_Call_Tell := of_decide_eq_true (c.fact 294 rfl),
      ne_Call_Choice := of_decide_eq_true (c.fact 295 rfl),
      ne_Call_Loop := of_decide_eq_true (c.fact 296 rfl),
      ne_Call_Give := of_decide_eq_true (c.fact 297 rfl),
      ne_Give_Skip := of_decide_eq_true (c.fact 298 rfl),
      ne_Give_Set := of_decide_eq_true (c.fact 299 rfl),
      ne_Give_Put := of_decide_eq_true (c.fact 300 rfl),
      ne_Give_Ask := of_decide_eq_true (c.fact 301 rfl),
      ne_Give_Draw := of_decide_eq_true (c.fact 302 rfl),
      ne_Give_Tell := of_decide_eq_true (c.fact 303 rfl),
      ne_Give_Choice := of_decide_eq_true (c.fact 304 rfl),
      ne_Give_Loop := of_decide_eq_true (c.fact 305 rfl),
      ne_Give_Call := of_decide_eq_true (c.fact 306 rfl),
      nr_Number := of_decide_eq_true (c.fact 307 rfl),
      nr_Box := of_decide_eq_true (c.fact 308 rfl),
      nr_Cell := of_decide_eq_true (c.fact 309 rfl),
      nr_Two := of_decide_eq_true (c.fact 310 rfl),
      nr_Function := of_decide_eq_true (c.fact 311 rfl),
      nr_Skip := of_decide_eq_true (c.fact 312 rfl),
      nr_Set := of_decide_eq_true (c.fact 313 rfl),
      nr_Put := of_decide_eq_true (c.fact 314 rfl),
      nr_Ask := of_decide_eq_true (c.fact 315 rfl),
      nr_Draw := of_decide_eq_true (c.fact 316 rfl),
      nr_Tell := of_decide_eq_true (c.fact 317 rfl),
      nr_Choice := of_decide_eq_true (c.fact 318 rfl),
      nr_Loop := of_decide_eq_true (c.fact 319 rfl),
      nr_Call := of_decide_eq_true (c.fact 320 rfl),
      nr_Give := of_decide_eq_true (c.fact 321 rfl),
      xg := of_decide_eq_true (c.fact 322 rfl),
      xk := of_decide_eq_true (c.fact 323 rfl),
      xd := of_decide_eq_true (c.fact 324 rfl),
      xa := of_decide_eq_true (c.fact 325 rfl),
      xn := of_decide_eq_true (c.fact 326 rfl),
      xt := of_decide_eq_true (c.fact 327 rfl),
      xm := of_decide_eq_true (c.fact 328 rfl),
      yg := of_decide_eq_true (c.fact 329 rfl),
      yk := of_decide_eq_true (c.fact 330 rfl),
      yd := of_decide_eq_true (c.fact 331 rfl),
      ya := of_decide_eq_true (c.fact 332 rfl),
      ym := of_decide_eq_true (c.fact 333 rfl),
      yp := of_decide_eq_true (c.fact 334 rfl),
      ga_Program := of_decide_eq_true (c.fact 335 rfl),
      gm_Program := of_decide_eq_true (c.fact 336 rfl),
      yc := of_decide_eq_true (c.fact 337 rfl),
      yn := of_decide_eq_true (c.fact 338 rfl),
      c_LETTERS := He.str_ok (x := "LETTERS") X G (c.fact 339 rfl),
      c_FIGURES := He.str_ok (x := "FIGURES") X G (c.fact 340 rfl),
      c_MOST_DEEP := He.int_ok (x := "MOST_DEEP") X G (c.fact 341 rfl),
      c_MOST_PARTS := He.int_ok (x := "MOST_PARTS") X G (c.fact 342 rfl),
      c_MOST_WITHIN := He.int_ok (x := "MOST_WITHIN") X G (c.fact 343 rfl),
      c_MOST_PARAMS := He.int_ok (x := "MOST_PARAMS") X G (c.fact 344 rfl),
      c_MOST_LINES := He.int_ok (x := "MOST_LINES") X G (c.fact 345 rfl),
      c_MOST_FUNCTIONS := He.int_ok (x := "MOST_FUNCTIONS") X G (c.fact 346 rfl),
      c_LIMIT := He.int_ok (x := "LIMIT") X G (c.fact 347 rfl),
      z_str := He.free_ok (x := "str") X G (c.fact 348 rfl),
      z_isinstance := He.free_ok (x := "isinstance") X G (c.fact 349 rfl),
      z_len := He.free_ok (x := "len") X G (c.fact 350 rfl),
      z_all := He.free_ok (x := "all") X G (c.fact 351 rfl),
      z_int := He.free_ok (x := "int") X G (c.fact 352 rfl),
      z_set := He.free_ok (x := "set") X G (c.fact 353 rfl),
      z_list := He.free_ok (x := "list") X G (c.fact 354 rfl),
      z_bool := He.free_ok (x := "bool") X G (c.fact 355 rfl),
      z_tuple := He.free_ok (x := "tuple") X G (c.fact 356 rfl),
      z_dict := He.free_ok (x := "dict") X G (c.fact 357 rfl),
      z_range := He.free_ok (x := "range") X G (c.fact 358 rfl),
      z_max := He.free_ok (x := "max") X G (c.fact 359 rfl),
      z_min := He.free_ok (x := "min") X G (c.fact 360 rfl) }
  exact ⟨d64, fun s v => (FunD.bindsA (ps := ["_law_script"]) F64 fun _ _ _ _ _ _ us hl => match us, hl with | [_], _ => rfl) s [v] rfl, fun base _ _ => ok_law T⟩
end K34
open PySem PySem.W PySem.Calls PyProof.Rows
set_option maxRecDepth 100000 in
set_option maxHeartbeats 0 in
theorem PySem.Challenge.cw_hadbeen_k34_rows_put_otherwise_holds : PySem.Challenge.rw_hadbeen_k34_rows_put_otherwise.Holds := by
  w_on; o_law
  refine HandSHeadRun.head_any (r := OpenLaw.row PySem.Challenge.rw_hadbeen_k34_rows_put_otherwise) (q := view (OpenLaw.row PySem.Challenge.rw_hadbeen_k34_rows_put_otherwise).prog [69]) (H := K34.hk) (ob := K34.ob) (M := 16000) (loose := K34.loose) (d := HandSHeadRun.topDef (OpenLaw.row PySem.Challenge.rw_hadbeen_k34_rows_put_otherwise).prog 69) (kwd := []) K34.ob_eq
    (by kernel_rfl) (fun s => by kernel_rfl) K34.run (by kernel_rfl) (by kernel_rfl) (by kernel_rfl) (by rfl) (by first | assumption | decide +kernel) (by decide +kernel) ⟨rfl, rfl, rfl, rfl, rfl, by decide +kernel⟩ ?hw ?hc
  case hw => w_witness2
  case hc =>
    refine L2.walk_ofE (l := PySem.Challenge.rw_hadbeen_k34_rows_put_otherwise) (n := 63) (k := 35) (x := "_law_script") (CX := L2.CX0) rfl (by decide) (by kernel_rfl) ⟨rfl, by decide, by decide⟩ ?F (fun _ _ _ _ z => z)
    intro w mg fa h Y G hmg0
    obtain ⟨K, KX, c⟩ := Y
    have hmg : mg ("law" : PySem.Str) = some (.ref fa) := by
      have e : (HandSHeadRun.topDef (OpenLaw.row PySem.Challenge.rw_hadbeen_k34_rows_put_otherwise).prog 69).name = ("law" : PySem.Str) := by kernel_rfl
      rw [← e]
      exact hmg0
    obtain ⟨fd, hb, hF⟩ := K34.facts (P := (PySem.Challenge.rw_hadbeen_k34_rows_put_otherwise).prog) (w := w) KX G hmg c
    exact ⟨K, fd, K34.spLaw K, KX, hb, fun H a ns hl _ hS => ⟨a, ns, rfl, hS, hl, fun _ => rfl⟩, hF⟩
