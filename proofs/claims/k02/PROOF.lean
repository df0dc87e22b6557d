import PyProof.Rows.All
import Wide.All
import OpenK.AllK
import Wide.FinOn
import HandS.ForMost
import HandS.IsInst
import HandS.NoneIn
import HandS.ForExc
import HandS.Walk
import HandS.RaiseMore
import HandS.Replace
import HandS.ReplaceLit
import PyProof.StrLawsChain
import KE.IntTextText
import KE.KStateDown
import Lean
import HandS.More
import HandS.WordsExc
import HandS.Defaults
import HandS.Head0
import HandS.Head1
import HandS.Head2
import HandS.HeadEnd
import HandS.HeadHook1
import HandS.HeadHook2
import HandS.ExcIs
import HandS.IsInst
import HandS.Flow
import HandS.Dict
import PySem.Challenge.RW_hadbeen_k02_no_expression
set_option Elab.async false
set_option maxRecDepth 100000
set_option maxHeartbeats 4000000
set_option linter.all false
namespace K02
open PySem L2 TL

theorem same_new {H : Hp} {p : Addr} {o : HO} (h : H p = none) : Same H (upd H p o) := fun b u q => by rw [upd_ne (ne_of_none q h)]; exact q
theorem iteDT {p A B : Prop} [Decidable p] (h : p) (a : A) : if decide p = true then A else B := by rw [decide_eq_true h]; exact iteT a
theorem iteDF {p A B : Prop} [Decidable p] (h : ¬ p) (b : B) : if decide p = true then A else B := by rw [decide_eq_false h]; exact iteF b
theorem iteNT {p A B : Prop} [Decidable p] (h : ¬ p) (a : A) : if (!decide p) = true then A else B := by rw [decide_eq_false h]; exact iteT a
theorem iteNF {p A B : Prop} [Decidable p] (h : p) (b : B) : if (!decide p) = true then A else B := by rw [decide_eq_true h]; exact iteF b
theorem iteD2 {p A B : Prop} [Decidable p] (h1 : p → A) (h2 : ¬ p → B) : if decide p = true then A else B := by
  by_cases h : p
  · exact iteDT h (h1 h)
  · exact iteDF h (h2 h)
theorem iteN2 {p A B : Prop} [Decidable p] (h1 : ¬ p → A) (h2 : p → B) : if (!decide p) = true then A else B := by
  by_cases h : p
  · exact iteNF h (h2 h)
  · exact iteNT h (h1 h)
theorem iteB2 {b : Bool} {A B : Prop} (h1 : b = true → A) (h2 : b = false → B) : if b = true then A else B := by
  cases b with
  | true => exact iteT (h1 rfl)
  | false => exact iteF (h2 rfl)
theorem vint_ne {i j : Int} (h : i ≠ j) : ¬ V.int i = V.int j := fun e => h (V.int.inj e)
theorem vstr_ne {i j : Str} (h : i ≠ j) : ¬ V.str i = V.str j := fun e => h (V.str.inj e)
/-- all that was tracked stands, but what is at p -/
def KeepX (p : Addr) (H H' : Hp) : Prop := ∀ q o, q ≠ p → H q = some o → H' q = some o
theorem KeepX.refl (p : Addr) (H : Hp) : KeepX p H H := fun _ _ _ h => h
theorem KeepX.trans {p : Addr} {H H1 H2 : Hp} (a : KeepX p H H1) (b : KeepX p H1 H2) : KeepX p H H2 := fun q o n h => b q o n (a q o n h)
theorem keepX_of {p : Addr} {H H' : Hp} (a : Same H H') : KeepX p H H' := fun q o _ h => a q o h
theorem keepX_upd {p : Addr} {H : Hp} {o : HO} : KeepX p H (upd H p o) := fun q u n h => by rw [upd_ne n]; exact h
theorem KeepX.seq {K : PySem.W.Frag} {H H' : Hp} {p a : Addr} {xs : List V} (e : KeepX p H H') (n : a ≠ p) (h : SqL K H a xs) : SqL K H' a xs := by
  rcases h with (h | ⟨o, h⟩) | h
  · exact .inl (.inl (e _ _ n h))
  · exact .inl (.inr ⟨o, e _ _ n h⟩)
  · exact .inr h
theorem same_tup {K : PySem.W.Frag} {H H' : Hp} {a : Addr} {xs : List V} (e : Same H H') (h : SqT K H a xs) : SqT K H' a xs := by
  rcases h with (h | ⟨o, h⟩) | h
  · exact .inl (.inl (e _ _ h))
  · exact .inl (.inr ⟨o, e _ _ h⟩)
  · exact .inr h
/-- what is new behind H -/
theorem KeepX.same {p : Addr} {H H' : Hp} (n : H p = none) (e : KeepX p H H') : Same H H' := fun q o h => e q o (ne_of_none h n) h
theorem none_before {H H' : Hp} {q : Addr} (s : Same H H') (h : H' q = none) : H q = none := by
  cases e : H q with
  | none => rfl
  | some o => have := s _ _ e; rw [h] at this; cases this
theorem none_keepX {p : Addr} {H H' : Hp} {q : Addr} (k : KeepX p H H') (n : q ≠ p) (h : H' q = none) : H q = none := by
  cases e : H q with
  | none => rfl
  | some o => have := k _ _ n e; rw [h] at this; cases this
/-- a def of which nothing is asked -/
theorem fn_none {P : Program} {w : World} {K : PySem.W.Frag} {mg : Str → Option Value} {base : Heap} {CX : CXT} {k : Nat} {f : Addr} {fd : FuncData} {ps : List Str} {sp : Sp} (no : ∀ vs H Q E, sp vs H Q E → False) : FnOk P w K mg base CX k f fd ps sp :=
  ⟨fun vs H Q E h => (no vs H Q E h).elim, fun A outer s H args us vs Q E _ _ _ _ h => (no vs H Q E h).elim⟩
theorem absV_rel {u : Value} {x : V} (h : absV u = some x) : RelV x u := by
  cases u <;> simp only [absV, Option.some.injEq, reduceCtorEq] at h <;> subst h <;> first | rfl | exact ⟨_, rfl⟩
theorem vals_of_absV : ∀ {us : List Value} {xs : List V}, us.map absV = xs.map some → Vals xs us
  | [], [], _ => .nil
  | [], _ :: _, h => by simp at h
  | _ :: _, [], h => by simp at h
  | u :: us, x :: xs, h => by
    rw [List.map_cons, List.map_cons, List.cons.injEq] at h
    exact .cons (absV_rel h.1) (vals_of_absV h.2)
theorem sqT_k {K : PySem.W.Frag} {H : Hp} {a : Addr} {xs : List V} {od : Option Addr} {its : Array Value} {n : Nat} {sl : Array (Option Value)} (l : K.lookup a = some ⟨.type "tuple", od, .seq its n, sl⟩) (w : its.toList.map absV = xs.map some) (z : xs.length ≤ sizeLine) : SqT K H a xs := by
  have v := vals_of_absV w
  have e := v.length
  refine .inr ⟨_, its, n, l, rfl, rfl, ?_, v⟩
  rw [← Array.length_toList, ← e]
  exact z
/-- the promise of one class's method -/
def Disp (P : Program) (w : World) (K : PySem.W.Frag) (mg : Str → Option Value) (base : Heap) (CX : CXT) (m : Str) (k : Nat) (C : Addr) (sp : Sp) : Prop :=
  ∃ f fd ps, Cls K C ∧ Meth K C m f ∧ FnOk P w K mg base CX k f fd ps sp ∧ Binds K fd ps []
/-- o.m(..) where o is an instance of one of some classes -/
def tMethP (Fam : Addr → Prop) (SP : Addr → Sp) (m : Str) (E : XK) (ta : TE) (t : TA) : TE := fun σ H Q => ta σ H fun x H1 => ∃ a C dx fs, x = .ref a ∧ H1 a = some (.ins C dx fs) ∧ fs.lookup m = none ∧ Fam C ∧
  t σ H1 fun vs H2 => SP C (x :: (vs ++ [])) H2 Q E
section
variable {X : Cx} {CX : CXT} {m : Str} {k : Nat} {Fam : Addr → Prop} {SP : Addr → Sp} {E : XK} {e o : Expr} {es : List Expr} {ta : TE} {t : TA} {pos apos : Pos}
theorem pe_methP {pl : Sem Bool} (he : PE X o ta) (D : ∀ C, Fam C → Disp X.prog X.w X.K X.mg X.base CX m k C (SP C)) (hr : Room k X.A) (hx : Passes CX X E) (ha : PA X (e :: es) t)
    (hst : starEach (e :: es) X.env = (false, eval e X.env) :: starEach es X.env := by rfl) (hpl : (backTo pos (starEach es X.env)).any (·.1) = false := by rfl)
    (ht : eval (.Call (.Attribute o m apos) (e :: es) [] pos) X.env = (do
      let ov ← eval o X.env
      standAt apos.atName
      let (f, first) ← holding [ov] (getMethod ov m pl)
      callWith pos f first (backTo pos (starEach (e :: es) X.env)) (backToKw pos (keywordEach [] X.env))) := by rfl) :
    PE X (.Call (.Attribute o m apos) (e :: es) [] pos) (tMethP Fam SP m E ta t) := by
  refine ⟨fun pins s σ H Q I h => ?_⟩
  refine PySem.W.methodCall_KW (pl := pl) (thn (he.run pins s σ H _ I h) fun u s1 ⟨x, H1, I1, rx, a, C, dx, fs, ex, ea, l, fam, q⟩ => ?_) ht
  subst ex
  obtain rfl : u = Value.ref a := rx
  obtain ⟨f, fd, ps, c, hm, F, hb⟩ := D C fam
  refine getmeth_ok I1 ea c hm l ?_
  refine PySem.W.callWith_K (first := [.ref a]) (h₀ := X.base) I.ok.mod.kin hm.kp (thn (ha.run pos pins s1 σ H1 _ I1 q) fun us s2 ⟨vs, H2, I2, r, q2⟩ => ⟨I2.kIn, ?_⟩) hst hpl
  exact run_fn (us := .ref a :: us) (vs := .ref a :: vs) F hr hb .nil hx I2 (.cons rfl r) q2
theorem pe_methP0 {pl : Sem Bool} (he : PE X o ta) (D : ∀ C, Fam C → Disp X.prog X.w X.K X.mg X.base CX m k C (SP C)) (hr : Room k X.A) (hx : Passes CX X E)
    (ht : eval (.Call (.Attribute o m apos) [] [] pos) X.env = (do
      let ov ← eval o X.env
      standAt apos.atName
      let (f, first) ← holding [ov] (getMethod ov m pl)
      callWith pos f first (backTo pos (starEach [] X.env)) (backToKw pos (keywordEach [] X.env))) := by rfl) :
    PE X (.Call (.Attribute o m apos) [] [] pos) (tMethP Fam SP m E ta tNil) := by
  refine ⟨fun pins s σ H Q I h => ?_⟩
  refine PySem.W.methodCall_KW (pl := pl) (thn (he.run pins s σ H _ I h) fun u s1 ⟨x, H1, I1, rx, a, C, dx, fs, ex, ea, l, fam, q⟩ => ?_) ht
  subst ex
  obtain rfl : u = Value.ref a := rx
  obtain ⟨f, fd, ps, c, hm, F, hb⟩ := D C fam
  refine getmeth_ok I1 ea c hm l ?_
  exact PySem.W.callWith_K0 (first := [.ref a]) I1.kIn hm.kp (run_fn (us := [.ref a]) (vs := [.ref a]) F hr hb .nil hx I1 (.cons rfl .nil) q)
end
theorem fresh_ne {H H' : Hp} {p q : Addr} {o : HO} (h : H p = some o) (n : H q = none) : q ≠ p := fun e => by rw [e, h] at n; cases n

def rTupOf (K : PySem.W.Frag) : List V → Hp → VK → Prop := fun xs H Q => ∃ p ys, xs = [.ref p] ∧ ((SqL K H p ys ∧ ∀ l, H l = none → Q (.ref l) (upd H l (.tup ys))) ∨ (SqT K H p ys ∧ Q (.ref p) H))
def rListOf (K : PySem.W.Frag) : List V → Hp → VK → Prop := fun xs H Q => ∃ p ys, xs = [.ref p] ∧ (SqL K H p ys ∨ SqT K H p ys) ∧ ∀ l, H l = none → Q (.ref l) (upd H l (.lst ys))
theorem call_tuple_ofK {X : Cx} : CallR X (.type "tuple") (rTupOf X.K) := call_tuple_of
theorem call_list_ofK {X : Cx} : CallR X (.type "list") (rListOf X.K) := call_list_of
theorem pi_tupK {X : Cx} {tg l : Expr} {tl : TE} (K : PySem.W.Frag) (hK : X.K = K) (hl : PE X l tl) : PI X tg l (iTup K tl) := by subst hK; exact pi_tup hl
theorem pi_listK {X : Cx} {tg l : Expr} {tl : TE} (K : PySem.W.Frag) (hK : X.K = K) (hl : PE X l tl) : PI X tg l (iList K tl) := by subst hK; exact pi_list hl
def rLenK (K : PySem.W.Frag) : List V → Hp → VK → Prop := fun xs H Q => ∃ p ys, xs = [.ref p] ∧ (SqL K H p ys ∨ SqT K H p ys) ∧ Q (.int ys.length) H
theorem call_lenK {X : Cx} : CallR X (.builtin "len") (rLenK X.K) := call_len_seq
/-- a choice whose test is reckoned ahead: b, and the heap behind it -/
def tIfC (c : TT) (t u : TS) : TS := fun D σ H => ∃ (b : Bool) (H1 : Hp), (∀ Z : Bool → Hp → Prop, Z b H1 → c σ H Z) ∧ (if b = true then t D σ H1 else u D σ H1)
theorem ps_ifC {X : Cx} {c : Expr} {a b : List Stmt} {tc : TT} {t u : TS} {pos : Pos} (hc : PT X c tc) (ha : PSs X a t) (hb : PSs X b u) : PS X (.If c a b pos) (tIfC tc t u) :=
  ⟨fun pins s σ H D I h => by
    obtain ⟨b, H1, h1, h2⟩ := h
    exact (ps_if hc ha hb).run pins s σ H D I (h1 _ h2)⟩
/-- a statement, then what it leaves, told by P -/
def tCut (t : TS) : TS := fun D σ H => ∃ Z : St → Hp → Prop, t { D with nx := Z } σ H ∧ ∀ σ' H', Z σ' H' → D.nx σ' H'
theorem ps_cut {X : Cx} {st : Stmt} {t : TS} (h : PS X st t) : PS X st (tCut t) := by
  refine ⟨fun pins s σ H D I hq => ?_⟩
  obtain ⟨Z, h1, h2⟩ := hq
  refine thn (h.run pins s σ H { D with nx := Z } I h1) fun f s1 hs => ?_
  cases f with
  | next =>
    obtain ⟨σ', H', I', z⟩ := hs
    exact ⟨σ', H', I', h2 _ _ z⟩
  | _ => exact hs
theorem zTrue {p : Prop} [Decidable p] {Z : Bool → Hp → Prop} {H : Hp} (h : Z (decide p) H) (q : p) : Z true H := by rw [decide_eq_true q] at h; exact h
theorem zFalse {p : Prop} [Decidable p] {Z : Bool → Hp → Prop} {H : Hp} (h : Z (decide p) H) (q : ¬ p) : Z false H := by rw [decide_eq_false q] at h; exact h

/-! ### a caught error of an own class, asked for its class -/
def rIsX (K : PySem.W.Frag) (cls : Value) (d : Option Addr) (a : Addr) : List V → Hp → VK → Prop := fun xs H Q => ∃ (D : Addr) (c : V) (cv : Value) (b : Bool), cls = .ref D ∧ d = none ∧ ExcC K D ∧ xs = [.ref a, c] ∧ (∀ u, RelV c u → u = cv) ∧ PySem.W.kitOne K (.ref D) cv = some b ∧ Q (.bl b) H
theorem call_isX {X : Cx} {a : Addr} {oe : Obj} {pn : List (Addr × Obj)} {cls : Value} {d : Option Addr} (hz : Zc cls d oe) (hf : ∃ vs, oe.data = .fields vs) : CallR (X.suite a ((a, oe) :: pn)) (.builtin "isinstance") (rIsX X.K cls d a) := by
  intro pins s σ H xs us Q I r h
  obtain ⟨D, c, cv, b, rfl, rfl, C, e, hcv, hk, q⟩ := h
  exact call_isE C hz hf pins s σ H xs us Q I r ⟨c, cv, b, e, hcv, hk, q⟩
def rIsXT (K : PySem.W.Frag) (cls : Value) (d : Option Addr) (a : Addr) : List V → Hp → VK → Prop := fun xs H Q => ∃ (D tp : Addr) (cs : List V) (us : List Value) (b : Bool), cls = .ref D ∧ d = none ∧ ExcC K D ∧ xs = [.ref a, .ref tp] ∧ H tp = some (.tup cs) ∧ Paired ClsV cs us ∧ PySem.W.kitAny K (.ref D) us = some b ∧ Q (.bl b) H
theorem call_isXT {X : Cx} {a : Addr} {oe : Obj} {pn : List (Addr × Obj)} {cls : Value} {d : Option Addr} (hz : Zc cls d oe) (hf : ∃ vs, oe.data = .fields vs) : CallR (X.suite a ((a, oe) :: pn)) (.builtin "isinstance") (rIsXT X.K cls d a) := by
  intro pins s σ H xs us Q I r h
  obtain ⟨D, tp, cs, ws, b, rfl, rfl, C, rfl, hT, k, e, q⟩ := h
  obtain ⟨u1, u2, rfl, r1, r2⟩ := vals2 r
  cases (show u1 = Value.ref a from r1)
  cases (show u2 = Value.ref tp from r2)
  obtain ⟨hget, _⟩ := I.pin (a, oe) (List.mem_append.mpr (.inl List.mem_cons_self))
  obtain ⟨vs, hv⟩ := hf
  have J : PySem.W.InstAt s.heap a oe D none := by
    obtain ⟨oc, od, oda, osl⟩ := oe
    obtain ⟨h1, h2⟩ := hz
    dsimp only at h1 h2 hv
    subst h1 h2 hv
    exact ⟨hget, rfl, rfl, trivial⟩
  obtain ⟨_, its, rv, o, h1, h2, n, h3⟩ := (show ObjOk X.prog X.w H s.heap tp (.tup cs) from I.hok tp _ hT)
  have e3 := ClsV.all k rv
  subst e3
  obtain ⟨oc, od, dt, sl⟩ := o
  simp only at h2 h3
  subst h2 h3
  exact PySem.W.kia_tup (PySem.W.handS_kitx_exc C.hg C.hk C.hs C.hd C.ha C.hn C.ht C.hm) I.kIn J h1 e (fun z => nomatch z) fun tk => ⟨.bl b, H, I.tok tk, rfl, q⟩

/-! the head's facts, by tests of one's own -/
abbrev FaM : Type := PySem.W.Frag → Bool
def obsM (fa : List FaM) (fn : List He.DefD) (K : PySem.W.Frag) : He.AlD := ((fa.all fun f => f K) && fn.all fun d => d.ok K, fn.map fun d => He.fnW K d.at_)
def SaysM (fa : List FaM) (fn : List He.DefD) (K : PySem.W.Frag) : Prop := obsM fa fn K = He.valD fn
def forceL {α : Type} : List Addr → (List Addr → α) → α
  | [], k => k []
  | a :: r, k => HandSHeadRun.frNat a fun a => forceL r fun r => k (a :: r)
theorem forceL_eq {α : Type} : ∀ (l : List Addr) (k : List Addr → α), forceL l k = k l
  | [], _ => rfl
  | a :: r, k => by
    show HandSHeadRun.frNat a (fun a => forceL r fun r => k (a :: r)) = _
    rw [HandSHeadRun.frNat_eq, forceL_eq r]
def nsOfM (g : Addr → Option Obj) (a : Addr) : List Addr := match g a with
  | some ⟨_, _, .cls cd, _⟩ => [cd.ns]
  | _ => []
def valsOfM (g : Addr → Option Obj) (a : Addr) : List Addr := match g a with
  | some ⟨_, _, .dict es _, _⟩ => es.toList.flatMap fun e => He.refV e.val
  | _ => []
def codeOfM (g : Addr → Option Obj) (a : Addr) : List Addr := match g a with
  | some ⟨_, _, .func fd, _⟩ => He.refV fd.code ++ (He.refV fd.defaults ++ He.refV fd.kwdefaults)
  | _ => []
/-- the module's names, the classes' own names, the functions' codes -/
def asM {α : Type} (names : List Str) (g : Addr → Option Obj) (k : List Addr → α) : α :=
  forceL (names.map (He.ga (He.frG g [mainGlobals]))) fun l1 => forceL (l1.flatMap (nsOfM g)) fun l2 => forceL (l2.flatMap (valsOfM g)) fun l3 => forceL ((l1 ++ l3).flatMap (codeOfM g)) fun l4 => k (mainGlobals :: (l1 ++ (l2 ++ (l3 ++ l4))))
def l1M (names : List Str) (g : Addr → Option Obj) : List Addr := names.map (He.ga (He.frG g [mainGlobals]))
def l2M (names : List Str) (g : Addr → Option Obj) : List Addr := (l1M names g).flatMap (nsOfM g)
def l3M (names : List Str) (g : Addr → Option Obj) : List Addr := (l2M names g).flatMap (valsOfM g)
def l4M (names : List Str) (g : Addr → Option Obj) : List Addr := (l1M names g ++ l3M names g).flatMap (codeOfM g)
theorem asM_eq {α : Type} (names : List Str) (g : Addr → Option Obj) : ∃ as : List Addr, ∀ k : List Addr → α, asM names g k = k as := by
  refine ⟨mainGlobals :: (l1M names g ++ (l2M names g ++ (l3M names g ++ l4M names g))), fun k => ?_⟩
  unfold asM
  rw [forceL_eq, forceL_eq, forceL_eq, forceL_eq]
  rfl
def obsMG (names : List Str) (fa : List FaM) (fn : List He.DefD) (g : Addr → Option Obj) : He.AlD := asM names g fun as => obsM fa fn (He.frG g as)
def hookM (names : List Str) (fa : List FaM) (fn : List He.DefD) : PySem.W.Hook where
  α := He.AlD
  obs := fun s => obsMG names fa fn s.heap.get?
  val := fun _ => He.valD fn
  says := fun _ h => ∃ K : PySem.W.Frag, K.In h ∧ SaysM fa fn K
  of := fun _ s e => by
    obtain ⟨as, ea⟩ := asM_eq (α := He.AlD) names s.heap.get?
    exact ⟨_, He.frG_in, (ea _).symm.trans e⟩
  keeps := fun _ _ _ ⟨K, hK, c⟩ k => ⟨K, PySem.W.Frag.In.keeps hK k, c⟩
theorem obsMG_eq {names : List Str} {fa : List FaM} {fn : List He.DefD} {g : Addr → Option Obj} {s : Shared} (h : ∀ a, g a = s.heap.get? a) : obsMG names fa fn g = (hookM names fa fn).obs s := by
  have e : g = s.heap.get? := funext h
  rw [e] <;> rfl
section
variable {fa : List FaM} {fn : List He.DefD} {K : PySem.W.Frag}
theorem SaysM.fact (c : SaysM fa fn K) (i : Nat) {f : FaM} (h : fa[i]? = some f) : f K = true := by
  have c1 := (He.ba (show ((fa.all fun f => f K) && fn.all fun d => d.ok K) = true from congrArg (fun z : He.AlD => z.1) c)).1
  exact List.all_eq_true.mp c1 f (List.mem_of_getElem? h)
theorem SaysM.def_ (c : SaysM fa fn K) (i : Nat) {d : He.DefD} (h : fn[i]? = some d) : ∃ fd, FunD K d.name d.qual d.params d.body d.scope (d.dvs K) (d.kws K) (He.fAd K d.at_) fd := by
  have c2 := (He.ba (show ((fa.all fun f => f K) && fn.all fun d => d.ok K) = true from congrArg (fun z : He.AlD => z.1) c)).2
  have e : fn.map (fun d => He.fnW K d.at_) = fn.map He.DefD.val := congrArg (fun z : He.AlD => z.2) c
  have e2 : (fn.map fun d => He.fnW K d.at_)[i]? = (fn.map He.DefD.val)[i]? := by rw [e]
  rw [List.getElem?_map, List.getElem?_map, h] at e2
  exact He.DefD.funD (Option.some.inj e2) (List.all_eq_true.mp c2 d (List.mem_of_getElem? h))
end
theorem fun_of {K : PySem.W.Frag} {x qual : Str} {st : Stmt} {f : Addr} {fd : FuncData} (F : FunD K x qual (defArgs st) (defBody st) (defScope st) [] [] f fd) : Fun K x qual st f fd := by
  obtain ⟨oc, od, dV, kV, doc, pm, an, cdv, ct, osl, rfl, lk, hcd, hD, hK⟩ := F.ex
  rcases hD with ⟨_, rfl⟩ | ⟨e, _⟩
  · exact ⟨⟨oc, od, kV, doc, pm, an, cdv, ct, osl, rfl, lk, hcd⟩, F.kp⟩
  · exact absurd rfl e

/-! ### words: values by their figures, names -/
def isLow (c : Nat) : Bool := decide (97 ≤ c) && decide (c ≤ 122)
def isDig (c : Nat) : Bool := decide (48 ≤ c) && decide (c ≤ 57)
theorem fig_mem (c : Nat) : decide (c ∈ (Str.ofString "0123456789").cps.toList) = isDig c := by
  have e : (Str.ofString "0123456789").cps.toList = [48, 49, 50, 51, 52, 53, 54, 55, 56, 57] := by decide +kernel
  rw [e]
  unfold isDig
  rw [Bool.eq_iff_iff]
  simp only [decide_eq_true_eq, Bool.and_eq_true, List.mem_cons, List.not_mem_nil, or_false]
  omega
theorem let_mem (c : Nat) : decide (c ∈ (Str.ofString "abcdefghijklmnopqrstuvwxyz").cps.toList) = isLow c := by
  have e : (Str.ofString "abcdefghijklmnopqrstuvwxyz").cps.toList = [97, 98, 99, 100, 101, 102, 103, 104, 105, 106, 107, 108, 109, 110, 111, 112, 113, 114, 115, 116, 117, 118, 119, 120, 121, 122] := by decide +kernel
  rw [e]
  unfold isLow
  rw [Bool.eq_iff_iff]
  simp only [decide_eq_true_eq, Bool.and_eq_true, List.mem_cons, List.not_mem_nil, or_false]
  omega
def PAIRW : List Str := ["plus", "minus", "times", "over", "rest", "less", "same"]
def ROWW : List Str := ["skip", "set", "put", "ask", "draw", "tell", "if", "while", "call"]
def OTHW : List Str := ["else", "end", "fun", "main", "give", "cell"]
def lenOk (s : Str) : Bool := decide (1 ≤ (tl s).length) && decide ((tl s).length ≤ 6)
def isValW (s : Str) : Bool := lenOk s && !((tl s).head? == some 48 && decide (s ≠ "0")) && (tl s).all isDig
def isNameW (s : Str) : Bool := lenOk s && !(decide (s ∈ PAIRW) || (decide (s ∈ ROWW) || decide (s ∈ OTHW))) && (tl s).all isLow
def valOf (s : Str) : Int := ((NumText.digitsVal (tl s) : Nat) : Int)
def numT (n : Int) : Str := Str.ofString (toString n)
theorem inV_str (s : Str) : ∀ l : List Str, inV (.str s) (l.map V.str) = decide (s ∈ l)
  | [] => by simp [inV]
  | x :: r => by
    have ih := inV_str s r
    unfold inV at ih ⊢
    rw [List.map_cons, List.any_cons, ih]
    have e : eqV (.str x) (.str s) = decide (s = x) := by
      show (x == s) = decide (s = x)
      by_cases h : s = x
      · subst h; simp
      · rw [decide_eq_false h]; exact beq_eq_false_iff_ne.mpr fun e => h e.symm
    rw [e]
    by_cases h : s = x <;> simp [h]
theorem digits_of_all {l : List Nat} (h : l.all isDig = true) : NumText.AllDigits l := fun c hc => by
  have := List.all_eq_true.mp h c hc
  unfold isDig at this
  simp only [Bool.and_eq_true, decide_eq_true_eq] at this
  exact this
theorem all_of_digits {l : List Nat} (h : NumText.AllDigits l) : l.all isDig = true := List.all_eq_true.mpr fun c hc => by
  have := h c hc
  unfold isDig
  simp only [Bool.and_eq_true, decide_eq_true_eq]
  exact this
theorem foldl_lt : ∀ (l : List Nat) (a : Nat), NumText.AllDigits l → l.foldl (fun acc c => acc * 10 + (c - 48)) a < (a + 1) * 10 ^ l.length
  | [], a, _ => by simp
  | c :: r, a, h => by
    have hc := h c List.mem_cons_self
    have ih := foldl_lt r (a * 10 + (c - 48)) fun d hd => h d (List.mem_cons_of_mem _ hd)
    have e : (a + 1) * 10 ^ (r.length + 1) = ((a + 1) * 10) * 10 ^ r.length := by rw [Nat.pow_succ, Nat.mul_comm (10 ^ r.length) 10, ← Nat.mul_assoc]
    rw [List.foldl_cons, List.length_cons, e]
    exact Nat.lt_of_lt_of_le ih (Nat.mul_le_mul_right _ (by omega))
theorem digitsVal_lt {l : List Nat} (h : NumText.AllDigits l) : NumText.digitsVal l < 10 ^ l.length := by
  have := foldl_lt l 0 h
  rw [Nat.zero_add, Nat.one_mul] at this
  exact this
theorem valW_parts {s : Str} (h : isValW s = true) : (1 ≤ (tl s).length ∧ (tl s).length ≤ 6) ∧ ((tl s).head? = some 48 → s = "0") ∧ NumText.AllDigits (tl s) := by
  unfold isValW lenOk at h
  simp only [Bool.and_eq_true, decide_eq_true_eq, Bool.not_eq_true', Bool.and_eq_false_iff, beq_eq_false_iff_ne, decide_eq_false_iff_not] at h
  obtain ⟨⟨⟨h1, h2⟩, h3⟩, h4⟩ := h
  refine ⟨⟨h1, h2⟩, fun e => ?_, digits_of_all h4⟩
  rcases h3 with h3 | h3
  · exact absurd e h3
  · exact Classical.not_not.mp h3
theorem valW_int {s : Str} (h : isValW s = true) : PySem.intText? s = some (valOf s) ∧ s.length ≤ 640 ∧ 0 ≤ valOf s ∧ valOf s < 1000000 := by
  obtain ⟨⟨h1, h2⟩, _, h4⟩ := valW_parts h
  have hl : s.length = (tl s).length := len_tl s
  refine ⟨PySem.intText_digits (x := s) h4 (fun e => ?_) (by omega), by omega, Int.natCast_nonneg _, ?_⟩
  · have e' : tl s = [] := e
    rw [e'] at h1; simp at h1
  · have := digitsVal_lt h4
    have p : 10 ^ (tl s).length ≤ 10 ^ 6 := Nat.pow_le_pow_right (by decide) h2
    unfold valOf
    omega
theorem numL_head : ∀ n : Nat, (numL n).head? = some 48 → n = 0 := by
  intro n
  induction n using Nat.strongRecOn with
  | _ n ih =>
    intro h
    by_cases c : n < 10
    · rw [numL_lt c] at h
      simp at h
      omega
    · rw [numL_step (by omega)] at h
      cases q : numL (n / 10) with
      | nil => exact absurd q (numL_ne _)
      | cons x r =>
        rw [q, List.cons_append, List.head?_cons] at h
        have := ih (n / 10) (by omega) (by rw [q, List.head?_cons]; exact h)
        omega
theorem tl_numT {n : Int} (h : 0 ≤ n) : tl (numT n) = numL n.toNat := by
  have e : n = ((n.toNat : Nat) : Int) := by omega
  unfold numT
  rw [e]
  exact tl_num _
theorem numT_valW {n : Int} (h0 : 0 ≤ n) (h1 : n < 1000000) : isValW (numT n) = true ∧ valOf (numT n) = n := by
  have et := tl_numT h0
  have hl : (numL n.toNat).length ≤ 6 := numL_len (by decide) (by omega)
  have hp : 1 ≤ (numL n.toNat).length := by
    cases q : numL n.toNat with
    | nil => exact absurd q (numL_ne _)
    | cons x r => simp
  refine ⟨?_, ?_⟩
  · unfold isValW lenOk
    rw [et]
    simp only [Bool.and_eq_true, decide_eq_true_eq, Bool.not_eq_true', Bool.and_eq_false_iff, beq_eq_false_iff_ne, decide_eq_false_iff_not]
    refine ⟨⟨⟨hp, hl⟩, ?_⟩, all_of_digits (numL_digits _)⟩
    by_cases c : (numL n.toNat).head? = some 48
    · have z := numL_head _ c
      right
      have : n = 0 := by omega
      subst this
      exact fun e => e (by decide +kernel)
    · exact .inl c
  · unfold valOf
    rw [et, numL_val]
    omega
theorem numT_inj {m n : Int} (hm : 0 ≤ m) (hn : 0 ≤ n) (e : numT m = numT n) : m = n := by
  have e' := congrArg tl e
  rw [tl_numT hm, tl_numT hn] at e'
  have := numL_inj e'
  omega
theorem toDigits_digitsVal' {l : List Nat} (h : NumText.AllDigits l) (h1 : 1 ≤ l.length) (c : ¬ l.head? = some 48) : numL (NumText.digitsVal l) = l := by
  unfold numL
  rw [NumText.toDigits_digitsVal (l.length - 1) l (by omega) h (Or.inr ?_), List.map_map]
  · conv => rhs; rw [← List.map_id l]
    refine List.map_congr_left fun d hd => ?_
    have hd' := h d hd
    show (Char.ofNat d).toNat = d
    obtain ⟨a, b⟩ := hd'
    have : ∀ k, k < 10 → (Char.ofNat (48 + k)).toNat = 48 + k := by decide
    have e : d = 48 + (d - 48) := by omega
    rw [e]
    exact this _ (by omega)
  · cases l with
    | nil => simp at h1
    | cons x r =>
      refine ⟨x, r, rfl, ?_⟩
      have := h x List.mem_cons_self
      have : x ≠ 48 := fun e => c (by rw [e]; rfl)
      omega
theorem valW_canon {s : Str} (h : isValW s = true) : numT (valOf s) = s := by
  obtain ⟨⟨h1, h2⟩, h3, h4⟩ := valW_parts h
  refine ext_tl ?_
  rw [tl_numT (valW_int h).2.2.1]
  show numL ((NumText.digitsVal (tl s) : Nat) : Int).toNat = tl s
  rw [Int.toNat_natCast]
  by_cases c : (tl s).head? = some 48
  · rw [h3 c]; decide +kernel
  · have key := toDigits_digitsVal' h4 h1 c
    exact key
theorem nameW_parts {s : Str} (h : isNameW s = true) : (1 ≤ (tl s).length ∧ (tl s).length ≤ 6) ∧ s ∉ PAIRW ∧ s ∉ ROWW ∧ s ∉ OTHW ∧ ∀ c ∈ tl s, 97 ≤ c ∧ c ≤ 122 := by
  unfold isNameW lenOk at h
  simp only [Bool.and_eq_true, decide_eq_true_eq, Bool.not_eq_true', Bool.or_eq_false_iff, decide_eq_false_iff_not] at h
  obtain ⟨⟨⟨h1, h2⟩, h3, h5, h6⟩, h4⟩ := h
  refine ⟨⟨h1, h2⟩, h3, h5, h6, fun c hc => ?_⟩
  have := List.all_eq_true.mp h4 c hc
  unfold isLow at this
  simp only [Bool.and_eq_true, decide_eq_true_eq] at this
  exact this
theorem name_not_val {s : Str} (h : isNameW s = true) : isValW s = false := by
  obtain ⟨⟨h1, _⟩, _, _, _, h4⟩ := nameW_parts h
  cases c : isValW s with
  | false => rfl
  | true =>
    obtain ⟨_, _, h5⟩ := valW_parts c
    cases q : tl s with
    | nil => rw [q] at h1; simp at h1
    | cons x r =>
      have a1 := h4 x (by rw [q]; exact List.mem_cons_self)
      have a2 := h5 x (by rw [q]; exact List.mem_cons_self)
      omega
theorem val_free {s : Str} {c : Nat} (h : isValW s = true) (hc : c < 48 ∨ 57 < c) : c ∉ tl s := fun hm => by
  obtain ⟨_, _, h5⟩ := valW_parts h
  have a2 := h5 c hm
  omega
theorem name_free {s : Str} {c : Nat} (h : isNameW s = true) (hc : c < 97 ∨ 122 < c) : c ∉ tl s := fun hm => by
  obtain ⟨_, _, _, _, h4⟩ := nameW_parts h
  have a1 := h4 c hm
  omega
theorem pair_free : ∀ s ∈ PAIRW, ∀ c ∈ tl s, 97 ≤ c ∧ c ≤ 122 := by decide +kernel
theorem pair_not_val : ∀ s ∈ PAIRW, isValW s = false ∧ isNameW s = false ∧ s ≠ "cell" ∧ (tl s).length ≤ 6 := by decide +kernel
theorem cell_not : isValW "cell" = false ∧ isNameW "cell" = false := by decide +kernel
/-! ### expressions -/
inductive Ex where
  | num (n : Int)
  | box (s : Str)
  | cell (e : Ex)
  | two (w : Str) (l r : Ex)
namespace Ex
def depth : Ex → Nat
  | num _ => 1
  | box _ => 1
  | cell e => e.depth + 1
  | two _ l r => max l.depth r.depth + 1
def parts : Ex → Nat
  | num _ => 1
  | box _ => 1
  | cell e => 1 + e.parts
  | two _ l r => 1 + l.parts + r.parts
def toks : Ex → List Str
  | num n => [numT n]
  | box s => [s]
  | cell e => "cell" :: e.toks
  | two w l r => w :: (l.toks ++ r.toks)
def Wf : Ex → Prop
  | num n => 0 ≤ n ∧ n < 1000000
  | box s => isNameW s = true
  | cell e => e.Wf
  | two w l r => w ∈ PAIRW ∧ l.Wf ∧ r.Wf
def told : Ex → PyData
  | num n => .tuple [.str "number", .int n]
  | box s => .tuple [.str "box", .str s]
  | cell e => .tuple [.str "cell", e.told]
  | two w l r => .tuple [.str w, l.told, r.told]
theorem depth_pos : ∀ e : Ex, 1 ≤ e.depth
  | num _ => Nat.le_refl 1
  | box _ => Nat.le_refl 1
  | cell _ => Nat.le_add_left _ _
  | two _ _ _ => Nat.le_add_left _ _
theorem parts_pos : ∀ e : Ex, 1 ≤ e.parts
  | num _ => Nat.le_refl 1
  | box _ => Nat.le_refl 1
  | cell _ => Nat.le_add_right _ _
  | two _ _ _ => Nat.le_trans (Nat.le_add_right 1 _) (Nat.le_add_right _ _)
theorem toks_len : ∀ e : Ex, e.toks.length = e.parts
  | num _ => rfl
  | box _ => rfl
  | cell e => by show e.toks.length + 1 = 1 + e.parts; rw [toks_len e]; omega
  | two w l r => by
    show (l.toks ++ r.toks).length + 1 = 1 + l.parts + r.parts
    rw [List.length_append, toks_len l, toks_len r]; omega
theorem parts_depth : ∀ e : Ex, e.depth ≤ e.parts
  | num _ => Nat.le_refl 1
  | box _ => Nat.le_refl 1
  | cell e => by have := parts_depth e; show e.depth + 1 ≤ 1 + e.parts; omega
  | two w l r => by have := parts_depth l; have := parts_depth r; show max l.depth r.depth + 1 ≤ 1 + l.parts + r.parts; omega
theorem toks_ok : ∀ {e : Ex}, e.Wf → ∀ s ∈ e.toks, (tl s).length ≤ 6 ∧ ∀ c ∈ tl s, (48 ≤ c ∧ c ≤ 57) ∨ (97 ≤ c ∧ c ≤ 122)
  | num n, h, s, hs => by
    rw [List.mem_singleton.mp hs]
    obtain ⟨⟨_, h2⟩, _, h4⟩ := valW_parts (numT_valW h.1 h.2).1
    exact ⟨h2, fun c hc => .inl (h4 c hc)⟩
  | box b, h, s, hs => by
    rw [List.mem_singleton.mp hs]
    obtain ⟨⟨_, h2⟩, _, _, _, h4⟩ := nameW_parts h
    exact ⟨h2, fun c hc => .inr (h4 c hc)⟩
  | cell e, h, s, hs => by
    rcases List.mem_cons.mp hs with rfl | hs
    · exact ⟨by decide +kernel, fun c hc => .inr ((by decide +kernel : ∀ c ∈ tl (Str.ofString "cell"), 97 ≤ c ∧ c ≤ 122) c hc)⟩
    · exact toks_ok (e := e) h s hs
  | two w l r, h, s, hs => by
    rcases List.mem_cons.mp hs with rfl | hs
    · exact ⟨(pair_not_val _ h.1).2.2.2, fun c hc => .inr (pair_free _ h.1 c hc)⟩
    · rcases List.mem_append.mp hs with hs | hs
      · exact toks_ok (e := l) h.2.1 s hs
      · exact toks_ok (e := r) h.2.2 s hs
end Ex
/-- the expression that begins the words, of at most so many parts within one another; what is behind it -/
def parseE : Nat → List Str → Option (Ex × List Str)
  | 0, _ => none
  | _ + 1, [] => none
  | d + 1, w :: r =>
    if isValW w = true then some (.num (valOf w), r)
    else if isNameW w = true then some (.box w, r)
    else if w = "cell" then (match parseE d r with
      | none => none
      | some (e, r1) => some (.cell e, r1))
    else if w ∈ PAIRW then (match parseE d r with
      | none => none
      | some (l, r1) => (match parseE d r1 with
        | none => none
        | some (e, r2) => some (.two w l e, r2)))
    else none
theorem parse_toks : ∀ {d : Nat} {e : Ex}, e.Wf → e.depth ≤ d → ∀ r, parseE d (e.toks ++ r) = some (e, r)
  | 0, e, _, hd, _ => absurd (e.depth_pos) (by omega)
  | d + 1, .num n, h, _, r => by
    have q := numT_valW h.1 h.2
    show parseE (d + 1) (numT n :: r) = _
    unfold parseE
    rw [if_pos q.1, q.2]
  | d + 1, .box s, h, _, r => by
    show parseE (d + 1) (s :: r) = _
    unfold parseE
    rw [if_neg (by rw [name_not_val h]; decide), if_pos (show isNameW s = true from h)]
  | d + 1, .cell e, h, hd, r => by
    show parseE (d + 1) ("cell" :: (e.toks ++ r)) = _
    unfold parseE
    rw [if_neg (by rw [cell_not.1]; decide), if_neg (by rw [cell_not.2]; decide), if_pos rfl, parse_toks (d := d) (e := e) h (by have : e.depth + 1 ≤ d + 1 := hd; omega) r]
  | d + 1, .two w l e, h, hd, r => by
    obtain ⟨hw, hl, he⟩ := h
    have hd' : max l.depth e.depth + 1 ≤ d + 1 := hd
    obtain ⟨q1, q2, q3, _⟩ := pair_not_val w hw
    show parseE (d + 1) (w :: ((l.toks ++ e.toks) ++ r)) = _
    unfold parseE
    rw [if_neg (by rw [q1]; decide), if_neg (by rw [q2]; decide), if_neg q3, if_pos hw, List.append_assoc, parse_toks (d := d) hl (by omega) (e.toks ++ r)]
    show (match parseE d (e.toks ++ r) with | none => none | some (e, r2) => some (Ex.two w l e, r2)) = _
    rw [parse_toks (d := d) he (by omega) r]
theorem parse_wf : ∀ {d : Nat} {ws : List Str} {e : Ex} {r : List Str}, parseE d ws = some (e, r) → e.Wf ∧ e.depth ≤ d ∧ ws = e.toks ++ r
  | 0, _, _, _, h => by simp [parseE] at h
  | _ + 1, [], _, _, h => by simp [parseE] at h
  | d + 1, w :: t, e, r, h => by
    unfold parseE at h
    by_cases c1 : isValW w = true
    · rw [if_pos c1] at h
      cases h
      obtain ⟨_, _, h3, h4⟩ := valW_int c1
      exact ⟨⟨h3, h4⟩, Nat.le_add_left _ _, by show w :: t = [numT (valOf w)] ++ t; rw [valW_canon c1]; rfl⟩
    rw [if_neg c1] at h
    by_cases c2 : isNameW w = true
    · rw [if_pos c2] at h
      cases h
      exact ⟨c2, Nat.le_add_left _ _, rfl⟩
    rw [if_neg c2] at h
    by_cases c3 : w = "cell"
    · rw [if_pos c3] at h
      cases q : parseE d t with
      | none => rw [q] at h; cases h
      | some p =>
        obtain ⟨e1, r1⟩ := p
        rw [q] at h
        cases h
        obtain ⟨a1, a2, a3⟩ := parse_wf q
        exact ⟨a1, Nat.succ_le_succ a2, by rw [c3, a3]; rfl⟩
    rw [if_neg c3] at h
    by_cases c4 : w ∈ PAIRW
    · rw [if_pos c4] at h
      cases q : parseE d t with
      | none => rw [q] at h; cases h
      | some p =>
        obtain ⟨e1, r1⟩ := p
        rw [q] at h
        simp only at h
        cases q2 : parseE d r1 with
        | none => rw [q2] at h; cases h
        | some p2 =>
          obtain ⟨e2, r2⟩ := p2
          rw [q2] at h
          cases h
          obtain ⟨a1, a2, a3⟩ := parse_wf q
          obtain ⟨b1, b2, b3⟩ := parse_wf q2
          exact ⟨⟨c4, a1, b1⟩, by show max e1.depth e2.depth + 1 ≤ d + 1; omega, by rw [a3, b3]; show _ = w :: (e1.toks ++ e2.toks) ++ r; rw [List.cons_append, List.append_assoc]⟩
    · rw [if_neg c4] at h; cases h
/-- all the expressions of a row of words -/
def parseAll : Nat → List Str → Option (List Ex)
  | _, [] => some []
  | 0, _ :: _ => none
  | n + 1, ws => match parseE 6 ws with
    | none => none
    | some (e, r) => if e.parts ≤ 15 then (match parseAll n r with
      | none => none
      | some es => some (e :: es)) else none

/-! ### objects -/
structure EC where
  num : Addr
  box : Addr
  cell : Addr
  two : Addr
def EC.Fam (c : EC) (C : Addr) : Prop := C = c.num ∨ C = c.box ∨ C = c.cell ∨ C = c.two
def EC.of (c : EC) : Ex → Addr
  | .num _ => c.num
  | .box _ => c.box
  | .cell _ => c.cell
  | .two _ _ _ => c.two
theorem EC.fam (c : EC) : ∀ e : Ex, c.Fam (c.of e)
  | .num _ => .inl rfl
  | .box _ => .inr (.inl rfl)
  | .cell _ => .inr (.inr (.inl rfl))
  | .two _ _ _ => .inr (.inr (.inr rfl))
def fNum (n : Int) : List (Str × V) := [("value", .int n)]
def fBox (s : Str) : List (Str × V) := [("name", .str s)]
def fCell (i : V) : List (Str × V) := [("inner", i)]
def fTwo (w : Str) (a b : V) : List (Str × V) := [("word", .str w), ("left", a), ("right", b)]
/-- v is an object of the expression e -/
def ObjE (c : EC) (H : Hp) : Ex → V → Prop
  | .num n, v => ∃ p dx, v = .ref p ∧ H p = some (.ins c.num dx (fNum n))
  | .box s, v => ∃ p dx, v = .ref p ∧ H p = some (.ins c.box dx (fBox s))
  | .cell e, v => ∃ p dx i, v = .ref p ∧ H p = some (.ins c.cell dx (fCell i)) ∧ ObjE c H e i
  | .two w l r, v => ∃ p dx a b, v = .ref p ∧ H p = some (.ins c.two dx (fTwo w a b)) ∧ ObjE c H l a ∧ ObjE c H r b
theorem ObjE.same {c : EC} {H H' : Hp} (s : Same H H') : ∀ {e : Ex} {v : V}, ObjE c H e v → ObjE c H' e v
  | .num n, v, ⟨p, dx, h1, h2⟩ => ⟨p, dx, h1, s _ _ h2⟩
  | .box n, v, ⟨p, dx, h1, h2⟩ => ⟨p, dx, h1, s _ _ h2⟩
  | .cell e, v, ⟨p, dx, i, h1, h2, h3⟩ => ⟨p, dx, i, h1, s _ _ h2, ObjE.same s h3⟩
  | .two w l r, v, ⟨p, dx, a, b, h1, h2, h3, h4⟩ => ⟨p, dx, a, b, h1, s _ _ h2, ObjE.same s h3, ObjE.same s h4⟩
abbrev exMeth (m : Str) : Prop := m ∈ (["told", "words", "parts", "levels", "reckon"] : List Str)
theorem look_none {m : Str} (h : exMeth m) : (∀ n, (fNum n).lookup m = none) ∧ (∀ s, (fBox s).lookup m = none) ∧ (∀ i, (fCell i).lookup m = none) ∧ (∀ w a b, (fTwo w a b).lookup m = none) := by
  have n : ∀ k ∈ (["value", "name", "inner", "word", "left", "right"] : List Str), (m == k) = false := by
    intro k hk
    have : ∀ x ∈ (["told", "words", "parts", "levels", "reckon"] : List Str), ∀ y ∈ (["value", "name", "inner", "word", "left", "right"] : List Str), (x == y) = false := by decide +kernel
    exact this m h k hk
  refine ⟨fun z => ?_, fun z => ?_, fun z => ?_, fun w a b => ?_⟩
  · show (match m == "value" with | true => some (V.int z) | false => none) = none
    rw [n "value" (by decide +kernel)]
  · show (match m == "name" with | true => some (V.str z) | false => none) = none
    rw [n "name" (by decide +kernel)]
  · show (match m == "inner" with | true => some z | false => none) = none
    rw [n "inner" (by decide +kernel)]
  · unfold fTwo
    rw [List.lookup_cons, n "word" (by decide +kernel)]
    simp only
    rw [List.lookup_cons, n "left" (by decide +kernel)]
    simp only
    rw [List.lookup_cons, n "right" (by decide +kernel)]
    rfl
theorem ObjE.at {c : EC} {H : Hp} {m : Str} (hm : exMeth m) : ∀ {e : Ex} {v : V}, ObjE c H e v → ∃ p dx fs, v = .ref p ∧ H p = some (.ins (c.of e) dx fs) ∧ fs.lookup m = none
  | .num n, v, ⟨p, dx, h1, h2⟩ => ⟨p, dx, _, h1, h2, (look_none hm).1 _⟩
  | .box n, v, ⟨p, dx, h1, h2⟩ => ⟨p, dx, _, h1, h2, (look_none hm).2.1 _⟩
  | .cell e, v, ⟨p, dx, i, h1, h2, h3⟩ => ⟨p, dx, _, h1, h2, (look_none hm).2.2.1 _⟩
  | .two w l r, v, ⟨p, dx, a, b, h1, h2, h3, h4⟩ => ⟨p, dx, _, h1, h2, (look_none hm).2.2.2 _ _ _⟩
/-! ### data told -/
theorem dp_same {K : PySem.W.Frag} {H H' : Hp} (s : Same H H') {v : V} {d : PyData} (h : Dp K H v d) : Dp K H' v d := by
  refine Dp.rec (motive_1 := fun v d _ => Dp K H' v d) (motive_2 := fun vs ds _ => DpAll K H' vs ds) ?_ ?_ ?_ ?_ ?_ ?_ ?_ ?_ h
  · exact .non
  · exact fun b => .bl b
  · exact fun i => .int i
  · exact fun x => .str x
  · exact fun h1 _ h2 => .lst (s.seq h1) h2
  · exact fun h1 _ h2 => .tup (same_tup s h1) h2
  · exact .nil
  · exact fun _ _ h1 h2 => .cons h1 h2
theorem dpAll_same {K : PySem.W.Frag} {H H' : Hp} (s : Same H H') : ∀ {vs : List V} {ds : List PyData}, DpAll K H vs ds → DpAll K H' vs ds
  | _, _, .nil => .nil
  | _, _, .cons a b => .cons (dp_same s a) (dpAll_same s b)
/-- v is told data, a tuple that stands by itself -/
def TupD (K : PySem.W.Frag) (H : Hp) (v : V) (ds : List PyData) : Prop := ∃ t xs, v = .ref t ∧ H t = some (.tup xs) ∧ DpAll K H xs ds
theorem TupD.dp {K : PySem.W.Frag} {H : Hp} {v : V} {ds : List PyData} (h : TupD K H v ds) : Dp K H v (.tuple ds) := by
  obtain ⟨t, xs, rfl, h1, h2⟩ := h
  exact .tup (SqT.of h1) h2
theorem TupD.same {K : PySem.W.Frag} {H H' : Hp} (s : Same H H') {v : V} {ds : List PyData} (h : TupD K H v ds) : TupD K H' v ds := by
  obtain ⟨t, xs, rfl, h1, h2⟩ := h
  exact ⟨t, xs, rfl, s _ _ h1, dpAll_same s h2⟩
def Ex.items : Ex → List PyData
  | .num n => [.str "number", .int n]
  | .box s => [.str "box", .str s]
  | .cell e => [.str "cell", e.told]
  | .two w l r => [.str w, l.told, r.told]
theorem Ex.told_items : ∀ e : Ex, e.told = .tuple e.items
  | .num _ => rfl
  | .box _ => rfl
  | .cell _ => rfl
  | .two _ _ _ => rfl
/-- v is the told tuple of e: each inner tuple stands by itself -/
def ToldE (K : PySem.W.Frag) (H : Hp) : Ex → V → Prop
  | .num n, v => ∃ t, v = .ref t ∧ H t = some (.tup [.str "number", .int n])
  | .box s, v => ∃ t, v = .ref t ∧ H t = some (.tup [.str "box", .str s])
  | .cell e, v => ∃ t i, v = .ref t ∧ H t = some (.tup [.str "cell", i]) ∧ ToldE K H e i
  | .two w l r, v => ∃ t a b, v = .ref t ∧ H t = some (.tup [.str w, a, b]) ∧ ToldE K H l a ∧ ToldE K H r b
theorem ToldE.same {K : PySem.W.Frag} {H H' : Hp} (s : Same H H') : ∀ {e : Ex} {v : V}, ToldE K H e v → ToldE K H' e v
  | .num n, v, ⟨p, h1, h2⟩ => ⟨p, h1, s _ _ h2⟩
  | .box n, v, ⟨p, h1, h2⟩ => ⟨p, h1, s _ _ h2⟩
  | .cell e, v, ⟨p, i, h1, h2, h3⟩ => ⟨p, i, h1, s _ _ h2, ToldE.same s h3⟩
  | .two w l r, v, ⟨p, a, b, h1, h2, h3, h4⟩ => ⟨p, a, b, h1, s _ _ h2, ToldE.same s h3, ToldE.same s h4⟩
theorem ToldE.dp {K : PySem.W.Frag} {H : Hp} : ∀ {e : Ex} {v : V}, ToldE K H e v → Dp K H v e.told
  | .num n, v, ⟨p, h1, h2⟩ => by rw [h1]; exact .tup (SqT.of h2) (.cons (.str _) (.cons (.int _) .nil))
  | .box n, v, ⟨p, h1, h2⟩ => by rw [h1]; exact .tup (SqT.of h2) (.cons (.str _) (.cons (.str _) .nil))
  | .cell e, v, ⟨p, i, h1, h2, h3⟩ => by rw [h1]; exact .tup (SqT.of h2) (.cons (.str _) (.cons (ToldE.dp h3) .nil))
  | .two w l r, v, ⟨p, a, b, h1, h2, h3, h4⟩ => by rw [h1]; exact .tup (SqT.of h2) (.cons (.str _) (.cons (ToldE.dp h3) (.cons (ToldE.dp h4) .nil)))
theorem ToldE.ref {K : PySem.W.Frag} {H : Hp} : ∀ {e : Ex} {v : V}, ToldE K H e v → ∃ t xs, v = .ref t ∧ H t = some (.tup xs)
  | .num n, v, ⟨p, h1, h2⟩ => ⟨p, _, h1, h2⟩
  | .box n, v, ⟨p, h1, h2⟩ => ⟨p, _, h1, h2⟩
  | .cell e, v, ⟨p, i, h1, h2, h3⟩ => ⟨p, _, h1, h2⟩
  | .two w l r, v, ⟨p, a, b, h1, h2, h3, h4⟩ => ⟨p, _, h1, h2⟩
theorem strOk_of {s : Str} (h : ∀ c ∈ tl s, c ≤ 122) : PyData.strOk s = true := by
  unfold PyData.strOk
  rw [← Array.all_toList]
  refine List.all_eq_true.mpr fun c hc => ?_
  have := h c hc
  simp only [decide_eq_true_eq]
  omega
theorem Ex.lay : ∀ {e : Ex}, e.Wf → e.told.canLay0 = true
  | .num n, _ => by
    show (PyData.strOk _ && (true && true)) = true
    rw [strOk_of (by decide +kernel)]; rfl
  | .box s, h => by
    obtain ⟨_, _, _, _, h4⟩ := nameW_parts (s := s) h
    show (PyData.strOk _ && (PyData.strOk s && true)) = true
    rw [strOk_of (by decide +kernel), strOk_of fun c hc => (h4 c hc).2]; rfl
  | .cell e, h => by
    have ih := Ex.lay (e := e) h
    show (PyData.strOk _ && (e.told.canLay0 && true)) = true
    rw [strOk_of (by decide +kernel), ih]; rfl
  | .two w l r, h => by
    have h1 := Ex.lay (e := l) h.2.1
    have h2 := Ex.lay (e := r) h.2.2
    show (PyData.strOk w && (l.told.canLay0 && (r.told.canLay0 && true))) = true
    rw [strOk_of fun c hc => (pair_free w h.1 c hc).2, h1, h2]; rfl
theorem Ex.told_depth : ∀ e : Ex, e.told.depth ≤ e.depth
  | .num _ => by show max 0 (max 0 0) + 1 ≤ 1; omega
  | .box _ => by show max 0 (max 0 0) + 1 ≤ 1; omega
  | .cell e => by
    have := Ex.told_depth e
    show max 0 (max e.told.depth 0) + 1 ≤ e.depth + 1; omega
  | .two w l r => by
    have := Ex.told_depth l
    have := Ex.told_depth r
    show max 0 (max l.told.depth (max r.told.depth 0)) + 1 ≤ max l.depth r.depth + 1; omega
theorem Ex.shaped {e : Ex} (h : e.Wf) (hd : e.depth ≤ 60) : SeqAt.shaped e.told = true := by
  have h1 := Ex.lay h
  have h2 := Ex.told_depth e
  show (e.told.canLay0 && decide (e.told.depth ≤ 64)) = true
  rw [h1, decide_eq_true (by omega)]; rfl
theorem Ex.eqv {e : Ex} (h : e.Wf) : PyData.eqv e.told e.told = true := SeqAt.eqv_refl _ (Ex.lay h)
/-! ### texts -/
def Ex.text : Ex → Str
  | .num n => numT n
  | .box s => s
  | .cell e => (Str.ofString "cell ") ++ e.text
  | .two w l r => Txt.join (Str.ofString " ") [w, l.text, r.text]
theorem Ex.text_len : ∀ {e : Ex}, e.Wf → e.text.length + 1 ≤ 7 * e.parts
  | .num n, h => by
    have := Ex.toks_ok (e := .num n) h (numT n) (List.mem_singleton.mpr rfl)
    show (numT n).length + 1 ≤ 7 * 1
    rw [len_tl]; omega
  | .box s, h => by
    have := Ex.toks_ok (e := .box s) h s (List.mem_singleton.mpr rfl)
    show s.length + 1 ≤ 7 * 1
    rw [len_tl]; omega
  | .cell e, h => by
    have ih := Ex.text_len (e := e) h
    show (Str.ofString "cell " ++ e.text).length + 1 ≤ 7 * (1 + e.parts)
    rw [len_tl, tl_append, List.length_append]
    have : (tl (Str.ofString "cell ")).length = 5 := by decide +kernel
    rw [len_tl] at ih
    omega
  | .two w l r, h => by
    have h1 := Ex.text_len (e := l) h.2.1
    have h2 := Ex.text_len (e := r) h.2.2
    have h3 := (pair_not_val w h.1).2.2.2
    have b : (tl (Str.ofString " ")).length = 1 := by decide +kernel
    show (Txt.join (Str.ofString " ") [w, l.text, r.text]).length + 1 ≤ 7 * (1 + l.parts + r.parts)
    rw [join_eq, len_tl, tl_join]
    rw [len_tl] at h1 h2
    simp only [List.map_cons, List.map_nil, joinL, List.length_append, b]
    omega
theorem Ex.text_toks : ∀ {e : Ex}, tl e.text = joinL [32] (e.toks.map tl)
  | .num n => rfl
  | .box s => rfl
  | .cell e => by
    have ih := Ex.text_toks (e := e)
    show tl (Str.ofString "cell " ++ e.text) = joinL [32] ((Str.ofString "cell" :: e.toks).map tl)
    rw [tl_append, ih]
    have c1 : tl (Str.ofString "cell ") = tl (Str.ofString "cell") ++ [32] := by decide +kernel
    rw [c1]
    cases q : e.toks with
    | nil => have := e.toks_len; rw [q] at this; have := e.parts_pos; simp at *; omega
    | cons x r =>
      show _ = tl (Str.ofString "cell") ++ ([32] ++ joinL [32] ((x :: r).map tl))
      rw [List.append_assoc]
  | .two w l r => by
    have h1 := Ex.text_toks (e := l)
    have h2 := Ex.text_toks (e := r)
    show tl (Txt.join (Str.ofString " ") [w, l.text, r.text]) = joinL [32] ((w :: (l.toks ++ r.toks)).map tl)
    have b : tl (Str.ofString " ") = [32] := by decide +kernel
    rw [join_eq, tl_join, b]
    show tl w ++ ([32] ++ (tl l.text ++ ([32] ++ tl r.text))) = _
    rw [h1, h2, List.map_cons, List.map_append]
    have key : ∀ (a b : List (List Nat)), a ≠ [] → b ≠ [] → joinL [32] a ++ ([32] ++ joinL [32] b) = joinL [32] (a ++ b) := by
      intro a
      induction a with
      | nil => intro b h; exact absurd rfl h
      | cons x a ih =>
        intro b _ hb
        cases a with
        | nil =>
          cases b with
          | nil => exact absurd rfl hb
          | cons y b => rfl
        | cons x2 a =>
          have := ih b (by simp) hb
          show (x ++ ([32] ++ joinL [32] (x2 :: a))) ++ _ = x ++ ([32] ++ joinL [32] ((x2 :: a) ++ b))
          rw [← this]
          simp only [List.append_assoc]
    have n1 : l.toks.map tl ≠ [] := fun e => by have := congrArg List.length e; rw [List.length_map, l.toks_len] at this; have := l.parts_pos; simp at *; omega
    have n2 : r.toks.map tl ≠ [] := fun e => by have := congrArg List.length e; rw [List.length_map, r.toks_len] at this; have := r.parts_pos; simp at *; omega
    rw [key _ _ n1 n2]
    cases q : (l.toks.map tl ++ r.toks.map tl) with
    | nil => exact absurd (List.append_eq_nil_iff.mp q).1 n1
    | cons x z => rfl
theorem Ex.split_text {e : Ex} (h : e.Wf) : Txt.split e.text (Str.ofString " ") = e.toks := by
  have b : tl (Str.ofString " ") = 32 :: [] := by decide +kernel
  have ej : e.text = Txt.join (Str.ofString " ") e.toks := by
    refine ext_tl ?_
    rw [join_eq, tl_join, b, Ex.text_toks]
  rw [ej]
  refine split_join b (by decide +kernel) (fun q => ?_) fun p hp => ?_
  · have := e.toks_len; rw [q] at this; have := e.parts_pos; simp at *; omega
  · intro hm
    rcases (Ex.toks_ok h p hp).2 32 hm with c | c <;> omega
/-! ### promises -/
/-- one text in, a truth out; nothing else is touched -/
def spTruthS (f : Str → Bool) : Sp := fun vs H Q _ => ∃ s : Str, vs = [.str s] ∧ s.length ≤ 100000 ∧ ∀ H', Same H H' → Q (.bl (f s)) H'
def spInit1 (C : Addr) (f : Str) : Sp := fun vs H Q _ => ∃ (p dx : Addr) (x : V), vs = [.ref p, x] ∧ H p = some (.ins C dx []) ∧ Q .non (upd H p (.ins C dx [(f, x)]))
def spTwoI (C : Addr) : Sp := fun vs H Q _ => ∃ (p dx : Addr) (w : Str) (a b : V), vs = [.ref p, .str w, a, b] ∧ H p = some (.ins C dx []) ∧ Q .non (upd H p (.ins C dx (fTwo w a b)))
def spTold (K : PySem.W.Frag) (c : EC) (n : Nat) (C : Addr) : Sp := fun vs H Q _ => ∃ (e : Ex) (v : V), vs = [v] ∧ ObjE c H e v ∧ c.of e = C ∧ e.depth ≤ n ∧ ∀ r H', Same H H' → ToldE K H' e r → Q r H'
def spWords (c : EC) (n : Nat) (C : Addr) : Sp := fun vs H Q _ => ∃ (e : Ex) (v : V), vs = [v] ∧ ObjE c H e v ∧ c.of e = C ∧ e.depth ≤ n ∧ e.Wf ∧ e.parts ≤ 1000 ∧ ∀ H', Same H H' → Q (.str e.text) H'
def spParts (c : EC) (n : Nat) (C : Addr) : Sp := fun vs H Q _ => ∃ (e : Ex) (v : V), vs = [v] ∧ ObjE c H e v ∧ c.of e = C ∧ e.depth ≤ n ∧ Q (.int e.parts) H
def spExprAt (K : PySem.W.Frag) (c : EC) (N : Addr) (n : Nat) : Sp := fun vs H Q E => ∃ (a : Addr) (ws : List Str) (i d : Nat), vs = [.ref a, .int i, .int (7 - (d : Int))] ∧ SqL K H a (ws.map V.str) ∧ ws.length ≤ 100000 ∧ (∀ s ∈ ws, s.length ≤ 100000) ∧ d < n ∧ d ≤ 7 ∧
  (∀ e r, parseE d (ws.drop i) = some (e, r) → ∀ t H' v, Same H H' → H' t = some (.tup [v, .int ((ws.length - r.length : Nat) : Int)]) → ObjE c H' e v → Q (.ref t) H') ∧
  (parseE d (ws.drop i) = none → ∀ H', Same H H' → E (.ref N) none H')
inductive AllE (c : EC) (H : Hp) : List Ex → List V → Prop where
  | nil : AllE c H [] []
  | cons {e : Ex} {v : V} {es : List Ex} {vs : List V} : ObjE c H e v → AllE c H es vs → AllE c H (e :: es) (v :: vs)
theorem AllE.same {c : EC} {H H' : Hp} (s : Same H H') : ∀ {es : List Ex} {vs : List V}, AllE c H es vs → AllE c H' es vs
  | _, _, .nil => .nil
  | _, _, .cons a b => .cons (a.same s) (b.same s)
theorem AllE.snoc {c : EC} {H : Hp} {e : Ex} {v : V} (h : ObjE c H e v) : ∀ {es : List Ex} {vs : List V}, AllE c H es vs → AllE c H (es ++ [e]) (vs ++ [v])
  | _, _, .nil => .cons h .nil
  | _, _, .cons a b => .cons a (b.snoc h)
theorem AllE.length {c : EC} {H : Hp} : ∀ {es : List Ex} {vs : List V}, AllE c H es vs → es.length = vs.length
  | _, _, .nil => rfl
  | _, _, .cons _ b => congrArg (· + 1) b.length
def spExprs (K : PySem.W.Frag) (c : EC) (N : Addr) : Sp := fun vs H Q E => ∃ (a : Addr) (ws : List Str), vs = [.ref a] ∧ SqL K H a (ws.map V.str) ∧ ws.length ≤ 100000 ∧ (∀ s ∈ ws, s.length ≤ 100000) ∧
  (∀ es, parseAll ws.length ws = some es → ∀ l H' os, Same H H' → H' l = some (.lst os) → AllE c H' es os → Q (.ref l) H') ∧ (parseAll ws.length ws = none → ∀ H', Same H H' → E (.ref N) none H')
def spReadE (c : EC) (N : Addr) : Sp := fun vs H Q E => ∃ (s : Str), vs = [.str s] ∧ s.length ≤ 99999 ∧
  (∀ e, parseAll (Txt.split s " ").length (Txt.split s " ") = some [e] → ∀ v H', Same H H' → ObjE c H' e v → Q v H') ∧
  ((∀ e, parseAll (Txt.split s " ").length (Txt.split s " ") ≠ some [e]) → ∀ H', Same H H' → E (.ref N) none H')
def spReadAny (K : PySem.W.Frag) (c : EC) (N : Addr) : Sp := fun vs H Q E => ∃ x : V, vs = [x] ∧ ((∃ (s : Str), x = .str s ∧ s.length ≤ 99999 ∧
  (∀ e, parseAll (Txt.split s " ").length (Txt.split s " ") = some [e] → ∀ v H', Same H H' → ObjE c H' e v → Q v H') ∧
  ((∀ e, parseAll (Txt.split s " ").length (Txt.split s " ") ≠ some [e]) → ∀ H', Same H H' → E (.ref N) none H')) ∨
  (∃ t, TyX K H x t ∧ PySem.W.kitOne K t (.type "str") = some false ∧ E (.ref N) none H))

theorem valW_false1 {s : Str} (h : ¬ 1 ≤ (tl s).length ∨ ¬ (tl s).length ≤ 6) : isValW s = false := by
  unfold isValW lenOk
  rcases h with h | h
  · rw [decide_eq_false h]; rfl
  · rw [decide_eq_false h, Bool.and_false]; rfl
theorem valW_false2 {s : Str} (h : (tl s).head? = some 48) (h2 : s ≠ "0") : isValW s = false := by
  unfold isValW
  have e : ((tl s).head? == some 48) = true := by rw [h]; rfl
  rw [e, decide_eq_true h2]
  simp
theorem valW_true {s : Str} (h1 : 1 ≤ (tl s).length) (h2 : (tl s).length ≤ 6) (h3 : (tl s).head? = some 48 → s = "0") : isValW s = (tl s).all isDig := by
  unfold isValW lenOk
  rw [decide_eq_true h1, decide_eq_true h2]
  by_cases c : (tl s).head? = some 48
  · rw [h3 c, decide_eq_false (fun e => e rfl)]; simp
  · have e : ((tl s).head? == some 48) = false := beq_eq_false_iff_ne.mpr c
    rw [e]; simp
theorem nameW_false1 {s : Str} (h : ¬ 1 ≤ (tl s).length ∨ ¬ (tl s).length ≤ 6) : isNameW s = false := by
  unfold isNameW lenOk
  rcases h with h | h
  · rw [decide_eq_false h]; rfl
  · rw [decide_eq_false h, Bool.and_false]; rfl
theorem nameW_false2 {s : Str} (h : s ∈ PAIRW ∨ s ∈ ROWW ∨ s ∈ OTHW) : isNameW s = false := by
  unfold isNameW
  have e : (decide (s ∈ PAIRW) || (decide (s ∈ ROWW) || decide (s ∈ OTHW))) = true := by
    rcases h with h | h | h <;> simp [h]
  rw [e]; simp
theorem nameW_true {s : Str} (h1 : 1 ≤ (tl s).length) (h2 : (tl s).length ≤ 6) (h3 : s ∉ PAIRW) (h4 : s ∉ ROWW) (h5 : s ∉ OTHW) : isNameW s = (tl s).all isLow := by
  unfold isNameW lenOk
  rw [decide_eq_true h1, decide_eq_true h2, decide_eq_false h3, decide_eq_false h4, decide_eq_false h5]; simp
theorem len_line {s : Str} (h : s.length ≤ 100000) : s.length ≤ sizeLine := Nat.le_trans h (by decide)

theorem log_small {n : Nat} (h : n < 2 ^ 20) : n.log2 < 1920 := by
  by_cases h0 : n = 0
  · subst h0; decide
  · exact Nat.lt_of_lt_of_le ((Nat.log2_lt h0).mpr h) (by decide)

theorem while_m {c : TT} {tb : TS} {D : Ends} {σ : St} {H : Hp} (Pv : Nat → St → Hp → Prop) (m0 : Nat) (h0 : Pv m0 σ H)
    (hs : ∀ m σ H, Pv m σ H → c σ H fun b H1 => if b = true then ∃ N : St → Hp → Prop, (∀ σ' H', N σ' H' → ∃ m', m' < m ∧ Pv m' σ' H') ∧ tb { D with nx := N, ct := N, bk := D.nx } σ H1 else D.nx σ H1) : tWhile c tb D σ H := ⟨Pv, ⟨m0, h0⟩, hs⟩
theorem made_same {H : Hp} {x dx : Addr} {o o1 o2 : HO} (hx : H x = none) (hd : H dx = none) : Same H (upd (upd (upd H dx o) x o1) x o2) := fun b u e => by
  have n1 : b ≠ x := ne_of_none e hx
  rw [upd_ne n1, upd_ne n1, upd_ne (ne_of_none e hd)]
  exact e
theorem mk_init {C : Addr} {f : Str} {H : Hp} {v : V} {Q : Hp → Prop} {E : XK} {x dx : Addr} (hx : H x = none) (hd : H dx = none) (k : ∀ H', Same H H' → H' x = some (.ins C dx [(f, v)]) → Q H') :
    spInit1 C f [.ref x, v] (upd (upd H dx (.own x)) x (.ins C dx [])) (fun v H2 => v = .non ∧ Q H2) E :=
  ⟨x, dx, v, rfl, upd_same, rfl, k _ (made_same hx hd) upd_same⟩
theorem mk_two {C : Addr} {H : Hp} {wd : Str} {a b : V} {Q : Hp → Prop} {E : XK} {x dx : Addr} (hx : H x = none) (hd : H dx = none) (k : ∀ H', Same H H' → H' x = some (.ins C dx (fTwo wd a b)) → Q H') :
    spTwoI C [.ref x, .str wd, a, b] (upd (upd H dx (.own x)) x (.ins C dx [])) (fun v H2 => v = .non ∧ Q H2) E :=
  ⟨x, dx, wd, a, b, rfl, upd_same, rfl, k _ (made_same hx hd) upd_same⟩
theorem parse_len {d : Nat} {ws : List Str} {e : Ex} {r : List Str} (h : parseE d ws = some (e, r)) : r.length < ws.length ∧ ws.drop (ws.length - r.length) = r := by
  obtain ⟨_, _, h3⟩ := parse_wf h
  have n1 := e.toks_len
  have n2 := e.parts_pos
  have hl : ws.length = e.toks.length + r.length := by rw [h3, List.length_append]
  refine ⟨by omega, ?_⟩
  have e1 : ws.length - r.length = e.toks.length := by omega
  rw [e1, h3, List.drop_left]
theorem parse_at {d i : Nat} {ws : List Str} {e : Ex} {r : List Str} (h : parseE d (ws.drop i) = some (e, r)) : i < ws.length - r.length ∧ ws.length - r.length ≤ ws.length ∧ ws.drop (ws.length - r.length) = r := by
  obtain ⟨_, _, h3⟩ := parse_wf h
  have n1 := e.toks_len
  have n2 := e.parts_pos
  have hl : (ws.drop i).length = e.toks.length + r.length := by rw [h3, List.length_append]
  rw [List.length_drop] at hl
  refine ⟨by omega, Nat.sub_le _ _, ?_⟩
  have e1 : ws.length - r.length = i + e.toks.length := by omega
  rw [e1, ← List.drop_drop, h3, List.drop_left]
theorem at_str {ws : List Str} {i : Nat} {s : Str} {r : List Str} (h : ws.drop i = s :: r) : i < ws.length ∧ atI (ws.map V.str) (i : Int) = some (.str s) ∧ ws.drop (i + 1) = r ∧ r.length = ws.length - (i + 1) ∧ s ∈ ws := by
  have hl : (ws.drop i).length = r.length + 1 := by rw [h]; rfl
  rw [List.length_drop] at hl
  have hi : i < ws.length := by omega
  have e1 : ws.drop i = ws[i] :: ws.drop (i + 1) := List.drop_eq_getElem_cons hi
  rw [h, List.cons.injEq] at e1
  refine ⟨hi, atI_nat (by rw [List.getElem?_map, List.getElem?_eq_getElem hi, ← e1.1]; rfl), e1.2.symm, by omega, ?_⟩
  rw [e1.1]; exact List.getElem_mem hi
theorem parseE_cons {d : Nat} {w : Str} {r : List Str} : parseE (d + 1) (w :: r) = (if isValW w = true then some (.num (valOf w), r)
    else if isNameW w = true then some (.box w, r)
    else if w = "cell" then (match parseE d r with
      | none => none
      | some (e, r1) => some (.cell e, r1))
    else if w ∈ PAIRW then (match parseE d r with
      | none => none
      | some (l, r1) => (match parseE d r1 with
        | none => none
        | some (e, r2) => some (.two w l e, r2)))
    else none) := rfl
theorem parseAll_fuel : ∀ (n : Nat) (ws : List Str), ws.length ≤ n → parseAll n ws = parseAll ws.length ws := by
  intro n
  induction n using Nat.strongRecOn with
  | _ n ih =>
    intro ws h
    cases ws with
    | nil => cases n <;> rfl
    | cons x t =>
      cases n with
      | zero => simp at h
      | succ n =>
        show (match parseE 6 (x :: t) with | none => none | some (e, r) => if e.parts ≤ 15 then (match parseAll n r with | none => none | some es => some (e :: es)) else none) = parseAll (t.length + 1) (x :: t)
        show _ = (match parseE 6 (x :: t) with | none => none | some (e, r) => if e.parts ≤ 15 then (match parseAll t.length r with | none => none | some es => some (e :: es)) else none)
        cases q : parseE 6 (x :: t) with
        | none => rfl
        | some p =>
          obtain ⟨e, r⟩ := p
          have hr := (parse_len q).1
          have hr' : r.length < t.length + 1 := hr
          have ht : t.length + 1 ≤ n + 1 := h
          show (if e.parts ≤ 15 then (match parseAll n r with | none => none | some es => some (e :: es)) else none) = (if e.parts ≤ 15 then (match parseAll t.length r with | none => none | some es => some (e :: es)) else none)
          rw [ih n (by omega) r (by omega)]
          by_cases c : t.length = n
          · rw [c, ih n (by omega) r (by omega)]
          · rw [ih t.length (by omega) r (by omega)]
/-- the words from here on, in one step -/
theorem parseAll_step {x : Str} {t : List Str} : parseAll (x :: t).length (x :: t) = (match parseE 6 (x :: t) with | none => none | some (e, r) => if e.parts ≤ 15 then (match parseAll r.length r with | none => none | some es => some (e :: es)) else none) := by
  show (match parseE 6 (x :: t) with | none => none | some (e, r) => if e.parts ≤ 15 then (match parseAll t.length r with | none => none | some es => some (e :: es)) else none) = _
  cases q : parseE 6 (x :: t) with
  | none => rfl
  | some p =>
    obtain ⟨e, r⟩ := p
    have hr := (parse_len q).1
    have hr' : r.length < t.length + 1 := hr
    show (if e.parts ≤ 15 then (match parseAll t.length r with | none => none | some es => some (e :: es)) else none) = (if e.parts ≤ 15 then (match parseAll r.length r with | none => none | some es => some (e :: es)) else none)
    rw [parseAll_fuel t.length r (by omega)]
def after (es : List Ex) : Option (List Ex) → Option (List Ex)
  | none => none
  | some fs => some (es ++ fs)

theorem objE_upd {c : EC} {H : Hp} {l : Addr} {xs ys : List V} (h : H l = some (.lst xs)) : ∀ {e : Ex} {v : V}, ObjE c H e v → ObjE c (upd H l (.lst ys)) e v
  | .num n, v, ⟨p, dx, h1, h2⟩ => ⟨p, dx, h1, by rw [upd_ne (ne_of h2 h (by intro z; cases z))]; exact h2⟩
  | .box n, v, ⟨p, dx, h1, h2⟩ => ⟨p, dx, h1, by rw [upd_ne (ne_of h2 h (by intro z; cases z))]; exact h2⟩
  | .cell e, v, ⟨p, dx, i, h1, h2, h3⟩ => ⟨p, dx, i, h1, by rw [upd_ne (ne_of h2 h (by intro z; cases z))]; exact h2, objE_upd h h3⟩
  | .two w l r, v, ⟨p, dx, a, b, h1, h2, h3, h4⟩ => ⟨p, dx, a, b, h1, by rw [upd_ne (ne_of h2 h (by intro z; cases z))]; exact h2, objE_upd h h3, objE_upd h h4⟩
theorem allE_upd {c : EC} {H : Hp} {l : Addr} {xs ys : List V} (h : H l = some (.lst xs)) : ∀ {es : List Ex} {vs : List V}, AllE c H es vs → AllE c (upd H l (.lst ys)) es vs
  | _, _, .nil => .nil
  | _, _, .cons a b => .cons (objE_upd h a) (allE_upd h b)
theorem allE_snoc_upd {c : EC} {H : Hp} {l : Addr} {xs ys : List V} {e : Ex} {v : V} {es : List Ex} {vs : List V} (h : H l = some (.lst xs)) (a : AllE c H es vs) (o : ObjE c H e v) : AllE c (upd H l (.lst ys)) (es ++ [e]) (vs ++ [v]) := (allE_upd h a).snoc (objE_upd h o)

theorem joinL_len : ∀ L : List (List Nat), L.length ≤ (joinL [32] L).length + 1 ∧ ∀ p ∈ L, p.length ≤ (joinL [32] L).length
  | [] => ⟨Nat.zero_le _, fun _ h => by cases h⟩
  | [x] => ⟨by simp, fun p h => by rw [List.mem_singleton.mp h]; exact Nat.le_refl _⟩
  | x :: y :: r => by
    have ih := joinL_len (y :: r)
    have e : joinL [32] (x :: y :: r) = x ++ ([32] ++ joinL [32] (y :: r)) := rfl
    rw [e, List.length_append, List.length_append]
    refine ⟨by have := ih.1; simp only [List.length_cons, List.length_nil] at this ⊢; omega, fun p h => ?_⟩
    rcases List.mem_cons.mp h with rfl | h
    · omega
    · have := ih.2 p h; omega
theorem split_small {s : Str} (h : s.length ≤ 100000 - 1) : (Txt.split s " ").length ≤ 100000 ∧ ∀ p ∈ Txt.split s " ", p.length ≤ 100000 := by
  have e := PySem.StrLaws.join_split s (Str.ofString " ")
  have e2 := congrArg tl e
  have b : tl (Str.ofString " ") = [32] := by decide +kernel
  rw [tl_join, b] at e2
  have q := joinL_len ((Txt.split s (Str.ofString " ")).map tl)
  rw [e2, List.length_map, ← len_tl s] at q
  refine ⟨by have := q.1; omega, fun p hp => ?_⟩
  have := q.2 (tl p) (List.mem_map.mpr ⟨p, hp, rfl⟩)
  rw [← len_tl p] at this
  omega

/-- all([sign in F for sign in s]) -/
theorem rd_all {K : PySem.W.Frag} {σ : St} {H : Hp} {s F : Str} {f : Nat → Bool} {Q : VK} {i j : Nat} (hi : σ[i]? = some (some (.str s))) (hj : j < σ.length) (hn : j ≠ i) (hl : s.length ≤ 16000000) (hf : ∀ c, decide (c ∈ F.cps.toList) = f c)
    (q : ∀ H', Same H H' → Q (.bl ((tl s).all f)) H') :
    tCB (rAll K) (tCons (tLc (iStr (tVar i)) (gName j) tYes (tOp (fun x y H Q => ∃ (c : Nat) (z : Str), x = .str ⟨#[c]⟩ ∧ y = .str z ∧ Q (.bl (decide (c ∈ z.cps.toList))) H) (tVar j) (tC (.str F))) [j]) tNil) σ H Q := by
  refine ⟨_, hi, s, rfl, fun D hD => lc_it walk_str (fun k H' => H' D = some (.lst ((((tl s).take k).map f).map V.bl)) ∧ Same H H') ⟨by rw [upd_same]; rfl, same_new hD⟩ (fun _ _ _ _ => trivial) ?_ ?_⟩
  · rintro k x H1 H2 hk ⟨h1, h2⟩ ⟨rfl, c, hc, rfl⟩
    have hjl : (wipe σ [j]).length = σ.length := wipe_length _ _
    refine ⟨by show ((σ.set j none).set j _).set j none = _; simp [wipe], ?_⟩
    refine ⟨_, by rw [List.getElem?_set_self (by rw [hjl]; exact hj)], c, F, rfl, rfl, ?_⟩
    have hs : k < (tl s).length := by
      have : s.cps.size = (tl s).length := by simp [tl]
      omega
    refine ⟨_, h1, ?_, ?_⟩
    · rw [List.length_map, List.length_map]
      have : s.length = (tl s).length := len_tl s
      refine Nat.lt_of_le_of_lt (List.length_take_le _ _) (by show k < 16777216; omega)
    · refine ⟨?_, fun b o e => ?_⟩
      · rw [upd_same]
        have e1 : (tl s)[k]? = some c := by rw [← hc]; simp [tl]
        rw [List.take_add_one, e1, hf c]
        simp
      · rw [upd_ne (ne_of_none e hD)]
        exact h2 b o e
  · rintro H' ⟨h1, h2⟩
    have hs : s.cps.size = (tl s).length := by simp [tl]
    rw [hs, List.take_length] at h1
    refine ⟨D, _, rfl, SqL.of h1, ?_⟩
    have e : ((tl s).map f).all id = (tl s).all f := by rw [List.all_map]; rfl
    rw [e]
    exact q H' h2

def spCell (K : PySem.W.Frag) : Sp := fun vs H Q _ => ∃ (a : Addr) (ns : List Int) (k : Int), vs = [.ref a, .int k] ∧ SqL K H a (ns.map V.int) ∧ 0 ≤ k ∧ ∀ n : Int, Q (.int n) H
/-- two ints go in, some int comes out -/
def spI2 : Sp := fun vs H Q _ => ∃ (a b : Int), vs = [.int a, .int b] ∧ ∀ n : Int, Q (.int n) H
def WellAt (H : Hp) (p : Addr) : Prop := ∃ a b c d : Int, H p = some (.lst [.int a, .int b, .int c, .int d])
def spWell (K : PySem.W.Frag) : Sp := fun vs H Q _ => ∃ (a : Addr) (ns : List Int) (k : Int), vs = [.ref a, .int k] ∧ SqL K H a (ns.map V.int) ∧ 0 ≤ k ∧ ∀ p H', H p = none → Same H H' → WellAt H' p → Q (.ref p) H'
def spDraw : Sp := fun vs H Q _ => ∃ (p : Addr) (m : Int), vs = [.ref p, .int m] ∧ WellAt H p ∧ 0 < m ∧ m ≤ 1000000 ∧ ∀ (n : Int) H', 0 ≤ n → n < m → KeepX p H H' → WellAt H' p → Q (.int n) H'
theorem at_int {ns : List Int} {k : Int} (h0 : 0 ≤ k) (h : k < (ns.length : Int)) : ∃ v : Int, atI (ns.map V.int) k = some (.int v) := by
  have hk : k.toNat < ns.length := by omega
  have ek : k = ((k.toNat : Nat) : Int) := by omega
  have q : atI (ns.map V.int) ((k.toNat : Nat) : Int) = some (.int ns[k.toNat]) := atI_nat (by rw [List.getElem?_map, List.getElem?_eq_getElem hk] <;> rfl)
  rw [← ek] at q
  exact ⟨_, q⟩
theorem mod64 {x y : Int} : CMul (x % 2147483647) y := Or.inl ⟨by omega, by omega⟩
theorem WellAt.ne {H : Hp} {p t : Addr} (W : WellAt H p) {o : HO} (h : H t = some o) (no : ∀ xs, o ≠ .lst xs) : t ≠ p := fun e => by
  obtain ⟨a, b, c, d, w⟩ := W
  rw [e, w] at h
  exact no _ (Option.some.inj h).symm
theorem KeepX.tup {p : Addr} {H H' : Hp} (k : KeepX p H H') (W : WellAt H p) {t : Addr} {xs : List V} (h : H t = some (.tup xs)) : H' t = some (.tup xs) := k _ _ (W.ne h (by intro _ e; cases e)) h
theorem WellAt.fresh {H : Hp} {p q : Addr} (W : WellAt H p) (h : H q = none) : q ≠ p := fun e => by
  obtain ⟨_, _, _, _, w⟩ := W
  rw [← e, h] at w; cases w
theorem WellAt.same {H H' : Hp} {p : Addr} (s : Same H H') : WellAt H p → WellAt H' p := fun ⟨a, b, c, d, w⟩ => ⟨a, b, c, d, s _ _ w⟩
/-- f i for all i below n -/
def seqV (f : Nat → V) (n : Nat) : List V := (List.range n).map f
theorem seqV_succ (f : Nat → V) (n : Nat) : seqV f (n + 1) = seqV f n ++ [f n] := by
  unfold seqV
  rw [List.range_succ, List.map_append]; rfl
theorem seqV_length (f : Nat → V) (n : Nat) : (seqV f n).length = n := by unfold seqV; rw [List.length_map, List.length_range]
/-- [e(x) for x in w]: each e gives a value that is known ahead -/
theorem lc_map {J : It} {n : Nat} {G : Hp → Prop} {Y : Nat → Hp → V → Hp → Prop} (w : Walk J n G Y) (f : Nat → V) {j : Nat} {te : TE} {σ : St} {H1 : Hp} {D : Addr} {Qd : Hp → Prop} (hD : H1 D = none) (hn : n < 16777216) (hj : j < σ.length)
    (hG : ∀ H, Same H1 H → G H) (hY : ∀ i H x H', Y i H x H' → H' = H)
    (step : ∀ i x H (Z : VK), i < n → Same H1 H → Y i H x H → (∀ H', Same H H' → Z (f i) H') → te ((σ.set j none).set j (some x)) H Z)
    (hd : ∀ H, Same H1 H → H D = some (.lst (seqV f n)) → Qd H) :
    ∃ W : Nat → Nat → Hp → Prop, (∃ m, W 0 m (upd H1 D (.lst []))) ∧ ∀ i m H, W i m H →
      (J.stop i H ∧ Qd H) ∨ (J.go i H ∧ ∃ Nx : Hp → Prop, (∀ H', Nx H' → ∃ m', m' < m ∧ W (i + 1) m' H') ∧ ∀ x H', J.yld i H x H' → gName j x (wipe σ [j]) H' fun σ2 H2 => wipe σ2 [j] = wipe σ [j] ∧ tYes σ2 H2 fun b H3 =>
        if b = true then te σ2 H3 fun y H4 => ∃ acc, H4 D = some (.lst acc) ∧ acc.length < sizeLine ∧ Nx (upd H4 D (.lst (acc ++ [y]))) else Nx H3) := by
  refine lc_it w (fun i H => H D = some (.lst (seqV f i)) ∧ Same H1 H) ⟨upd_same, same_new hD⟩ (fun i H _ h => hG H h.2) ?_ fun H h => hd H h.2 h.1
  rintro i x H H2 hi ⟨h1, h2⟩ y
  have e := hY _ _ _ _ y
  subst e
  have hw : wipe ((wipe σ [j]).set j (some x)) [j] = wipe σ [j] := by
    show ((σ.set j none).set j (some x)).set j none = σ.set j none
    simp
  refine ⟨hw, ?_⟩
  refine step i x _ _ hi h2 y fun H3 s3 => ⟨_, s3 _ _ h1, ?_, ?_⟩
  · rw [seqV_length]; exact Nat.lt_of_lt_of_le (Nat.lt_trans hi hn) (by decide)
  · refine ⟨by rw [upd_same, seqV_succ], fun b o hb => ?_⟩
    rw [upd_ne (ne_of_none hb hD)]
    exact s3 _ _ (h2 b o hb)
theorem at_strs {ss : List Str} {n : Int} (h0 : 0 ≤ n) (h1 : n < (ss.length : Int)) : ∃ s ∈ ss, atI (ss.map V.str) n = some (.str s) := by
  have hk : n.toNat < ss.length := by omega
  have ek : n = ((n.toNat : Nat) : Int) := by omega
  have q : atI (ss.map V.str) ((n.toNat : Nat) : Int) = some (.str ss[n.toNat]) := atI_nat (by rw [List.getElem?_map, List.getElem?_eq_getElem hk] <;> rfl)
  rw [← ek] at q
  exact ⟨_, List.getElem_mem hk, q⟩
/-- one proof for a goal that is asked more than once -/
theorem twice_asked {A B : Prop} (b : B) (f : B → A) : A := f b
def spValue : Sp := fun vs H Q _ => ∃ (p : Addr), vs = [.ref p] ∧ WellAt H p ∧ ∀ (n : Int) H', 0 ≤ n → n < 1000000 → KeepX p H H' → WellAt H' p → Q (.int n) H'
def spName : Sp := fun vs H Q _ => ∃ (p : Addr), vs = [.ref p] ∧ WellAt H p ∧ ∀ (s : Str) H', isNameW s = true → KeepX p H H' → WellAt H' p → Q (.str s) H'

/-! ### lists that go together -/
inductive All2 {α β : Type} (R : α → β → Prop) : List α → List β → Prop where
  | nil : All2 R [] []
  | cons {a : α} {b : β} {as : List α} {bs : List β} : R a b → All2 R as bs → All2 R (a :: as) (b :: bs)
theorem All2.length {α β : Type} {R : α → β → Prop} : ∀ {as : List α} {bs : List β}, All2 R as bs → as.length = bs.length
  | _, _, .nil => rfl
  | _, _, .cons _ h => congrArg (· + 1) h.length
theorem All2.mono {α β : Type} {R S : α → β → Prop} (f : ∀ a b, R a b → S a b) : ∀ {as : List α} {bs : List β}, All2 R as bs → All2 S as bs
  | _, _, .nil => .nil
  | _, _, .cons h t => .cons (f _ _ h) (t.mono f)
theorem All2.mono_mem {α β : Type} {R S : α → β → Prop} : ∀ {as : List α} {bs : List β}, (∀ a b, a ∈ as → b ∈ bs → R a b → S a b) → All2 R as bs → All2 S as bs
  | _, _, _, .nil => .nil
  | _, _, f, .cons h t => .cons (f _ _ List.mem_cons_self List.mem_cons_self h) (t.mono_mem fun a b ha hb => f a b (List.mem_cons_of_mem _ ha) (List.mem_cons_of_mem _ hb))
theorem All2.snoc {α β : Type} {R : α → β → Prop} {a : α} {b : β} (h : R a b) : ∀ {as : List α} {bs : List β}, All2 R as bs → All2 R (as ++ [a]) (bs ++ [b])
  | _, _, .nil => .cons h .nil
  | _, _, .cons g t => .cons g (t.snoc h)
theorem All2.at {α β : Type} {R : α → β → Prop} : ∀ {as : List α} {bs : List β} {i : Nat} {b : β}, All2 R as bs → bs[i]? = some b → ∃ a, as[i]? = some a ∧ R a b
  | _, _, 0, _, .cons h _, e => ⟨_, rfl, by cases e; exact h⟩
  | _, _, i + 1, _, .cons _ t, e => t.at (i := i) e
  | _, _, _, _, .nil, e => by simp at e
theorem All2.at2 {α β : Type} {R : α → β → Prop} : ∀ {as : List α} {bs : List β} {i : Nat} {a : α}, All2 R as bs → as[i]? = some a → ∃ b, bs[i]? = some b ∧ R a b
  | _, _, 0, _, .cons h _, e => ⟨_, rfl, by cases e; exact h⟩
  | _, _, i + 1, _, .cons _ t, e => t.at2 (i := i) e
  | _, _, _, _, .nil, e => by simp at e
theorem ints_of : ∀ {ys : List V} {P : Int → Prop}, (∀ y ∈ ys, ∃ n, y = V.int n ∧ P n) → ∃ ns : List Int, ys = ns.map V.int ∧ (∀ n ∈ ns, P n) ∧ ns.length = ys.length
  | [], _, _ => ⟨[], rfl, (fun _ h => by cases h), rfl⟩
  | y :: r, P, h => by
    obtain ⟨n, e, hn⟩ := h y List.mem_cons_self
    obtain ⟨ns, e2, hs, hl⟩ := ints_of (ys := r) fun z hz => h z (List.mem_cons_of_mem _ hz)
    refine ⟨n :: ns, by rw [e, e2]; rfl, fun z hz => ?_, congrArg (· + 1) hl⟩
    rcases List.mem_cons.mp hz with rfl | hz
    · exact hn
    · exact hs z hz
theorem strs_of : ∀ {ys : List V} {P : Str → Prop}, (∀ y ∈ ys, ∃ n, y = V.str n ∧ P n) → ∃ ns : List Str, ys = ns.map V.str ∧ (∀ n ∈ ns, P n) ∧ ns.length = ys.length
  | [], _, _ => ⟨[], rfl, (fun _ h => by cases h), rfl⟩
  | y :: r, P, h => by
    obtain ⟨n, e, hn⟩ := h y List.mem_cons_self
    obtain ⟨ns, e2, hs, hl⟩ := strs_of (ys := r) fun z hz => h z (List.mem_cons_of_mem _ hz)
    refine ⟨n :: ns, by rw [e, e2]; rfl, fun z hz => ?_, congrArg (· + 1) hl⟩
    rcases List.mem_cons.mp hz with rfl | hz
    · exact hn
    · exact hs z hz
/-- where a list may go on being written: nothing else moves -/
def LcGoal (J : It) (D : Addr) (te : TE) (j : Nat) (σ : St) (H1 : Hp) (Qd : Hp → Prop) : Prop :=
    ∃ W : Nat → Nat → Hp → Prop, (∃ m, W 0 m (upd H1 D (.lst []))) ∧ ∀ i m H, W i m H →
      (J.stop i H ∧ Qd H) ∨ (J.go i H ∧ ∃ Nx : Hp → Prop, (∀ H', Nx H' → ∃ m', m' < m ∧ W (i + 1) m' H') ∧ ∀ x H', J.yld i H x H' → gName j x (wipe σ [j]) H' fun σ2 H2 => wipe σ2 [j] = wipe σ [j] ∧ tYes σ2 H2 fun b H3 =>
        if b = true then te σ2 H3 fun y H4 => ∃ acc, H4 D = some (.lst acc) ∧ acc.length < sizeLine ∧ Nx (upd H4 D (.lst (acc ++ [y]))) else Nx H3)
theorem seqV_map {α : Type} (f : α → V) (d : α) (xs : List α) : seqV (fun i => f (xs.getD i d)) xs.length = xs.map f := by
  unfold seqV
  refine List.ext_getElem (by rw [List.length_map, List.length_map, List.length_range]) fun i h1 h2 => ?_
  rw [List.getElem_map, List.getElem_map, List.getElem_range]
  have : i < xs.length := by rw [List.length_map] at h2; exact h2
  rw [List.getD_eq_getElem?_getD, List.getElem?_eq_getElem this]
  rfl
/-- [f(x) for x in xs], known ahead -/
theorem lc_mapA {α : Type} (xs : List α) (g f : α → V) (d : α) {J : It} {G : Hp → Prop} {j : Nat} {te : TE} {σ : St} {H1 : Hp} {D : Addr} {Qd : Hp → Prop} (w : Walk J (xs.map g).length G (YAt (xs.map g))) (hD : H1 D = none) (hn : xs.length < 16777216) (hj : j < σ.length)
    (hG : ∀ H, Same H1 H → G H)
    (step : ∀ a ∈ xs, ∀ H (Z : VK), Same H1 H → (∀ H', Same H H' → Z (f a) H') → te ((σ.set j none).set j (some (g a))) H Z)
    (hd : ∀ H, Same H1 H → H D = some (.lst (xs.map f)) → Qd H) : LcGoal J D te j σ H1 Qd := by
  refine lc_map w (fun i => f (xs.getD i d)) hD (by rw [List.length_map]; exact hn) hj hG (fun _ _ _ _ y => y.1) ?_ fun H s h => hd H s ?_
  · rintro i x H Z hi s ⟨_, hx⟩ z
    rw [List.length_map] at hi
    have e : xs[i]? = some (xs.getD i d) := by rw [List.getD_eq_getElem?_getD, List.getElem?_eq_getElem hi]; rfl
    rw [List.getElem?_map, e] at hx
    cases hx
    exact step _ (List.mem_of_getElem? e) H Z s z
  · rw [h, List.length_map, seqV_map]
/-- [e for x in xs]: what each gives stands in R to its x -/
theorem lc_rel {H1 : Hp} {D : Addr} {α : Type} (xs : List α) {β : α → V → Prop} (R : Hp → α → V → Prop) {ws : List V} (hw : All2 β xs ws) (mono : ∀ H H' a y, Same H H' → R H a y → R H' a y) (lst : ∀ H a y ys ys', R H a y → H D = some (.lst ys) → R (upd H D (.lst ys')) a y) {J : It} {G : Hp → Prop} {j : Nat} {te : TE} {σ : St} {Qd : Hp → Prop} (w : Walk J ws.length G (YAt ws)) (hD : H1 D = none) (hn : xs.length < 16777216) (hj : j < σ.length)
    (hG : ∀ H, Same H1 H → G H)
    (step : ∀ a v, a ∈ xs → v ∈ ws → β a v → ∀ H (Z : VK), Same H1 H → (∃ ys, H D = some (.lst ys)) → (∀ H' y, Same H H' → R H' a y → Z y H') → te ((σ.set j none).set j (some v)) H Z)
    (hd : ∀ H ys, Same H1 H → All2 (R H) xs ys → H D = some (.lst ys) → Qd H) : LcGoal J D te j σ H1 Qd := by
  refine lc_it w (fun i H => ∃ ys, H D = some (.lst ys) ∧ Same H1 H ∧ All2 (R H) (xs.take i) ys) ⟨[], upd_same, same_new hD, by rw [List.take_zero]; exact .nil⟩ (fun i H _ h => hG H h.choose_spec.2.1) ?_ fun H ⟨ys, h1, h2, h3⟩ => hd H ys h2 (by rw [← hw.length, List.take_length] at h3; exact h3) h1
  rintro i v H H2 hi ⟨ys, h1, h2, h3⟩ ⟨e, hv⟩
  subst e
  have hw2 : wipe ((wipe σ [j]).set j (some v)) [j] = wipe σ [j] := by
    show ((σ.set j none).set j (some v)).set j none = σ.set j none
    simp
  refine ⟨hw2, ?_⟩
  obtain ⟨a, ha, hb⟩ := hw.at hv
  have hl := h3.length
  have hi' : i < xs.length := by rw [hw.length]; exact hi
  rw [List.length_take] at hl
  refine step a v (List.mem_of_getElem? ha) (List.mem_of_getElem? hv) hb _ _ h2 ⟨ys, h1⟩ fun H3 y s3 r3 => ⟨ys, s3 _ _ h1, ?_, ?_⟩
  · exact Nat.lt_of_lt_of_le (show ys.length < 16777216 by omega) (by decide)
  · refine ⟨ys ++ [y], upd_same, fun b o hb => ?_, ?_⟩
    · rw [upd_ne (ne_of_none hb hD)]
      exact s3 _ _ (h2 b o hb)
    · rw [List.take_add_one, ha]
      show All2 _ (xs.take i ++ [a]) _
      exact (h3.mono fun a' y' h => lst _ _ _ _ _ (mono _ _ _ _ s3 h) (s3 _ _ h1)).snoc (lst _ _ _ _ _ r3 (s3 _ _ h1))
/-- [e for k in ..], each e drawn at the well p: what each gives is P -/
theorem lc_drawn {J : It} {n : Nat} {G : Hp → Prop} {Y : Nat → Hp → V → Hp → Prop} (w : Walk J n G Y) (P : V → Prop) {p : Addr} {j : Nat} {te : TE} {σ : St} {H1 : Hp} {D : Addr} {Qd : Hp → Prop} (W : WellAt H1 p) (hD : H1 D = none) (hn : n < 16777216) (hj : j < σ.length)
    (hG : ∀ H, G H) (hY : ∀ i H x H', Y i H x H' → H' = H)
    (step : ∀ i x H (Z : VK), i < n → KeepX p H1 H → WellAt H p → Y i H x H → (∀ H' y, KeepX p H H' → WellAt H' p → P y → Z y H') → te ((σ.set j none).set j (some x)) H Z)
    (hd : ∀ H ys, KeepX p H1 H → WellAt H p → ys.length = n → (∀ y ∈ ys, P y) → H D = some (.lst ys) → Qd H) : LcGoal J D te j σ H1 Qd := by
  have npD : D ≠ p := fun e => by obtain ⟨_, _, _, _, w⟩ := W; rw [← e, hD] at w; cases w
  refine lc_it w (fun i H => ∃ ys, H D = some (.lst ys) ∧ KeepX p H1 H ∧ WellAt H p ∧ ys.length = i ∧ ∀ y ∈ ys, P y) ⟨[], upd_same, keepX_of (same_new hD), W.same (same_new hD), rfl, fun _ h => by cases h⟩ (fun i H _ _ => hG H) ?_ fun H ⟨ys, h1, h2, h3, h4, h5⟩ => hd H ys h2 h3 h4 h5 h1
  rintro i v H H2 hi ⟨ys, h1, h2, h3, h4, h5⟩ y
  have e := hY _ _ _ _ y
  subst e
  have hw2 : wipe ((wipe σ [j]).set j (some v)) [j] = wipe σ [j] := by
    show ((σ.set j none).set j (some v)).set j none = σ.set j none
    simp
  refine ⟨hw2, ?_⟩
  refine step i v _ _ hi h2 h3 y fun H3 z k3 W3 pz => ⟨ys, k3 _ _ npD h1, ?_, ?_⟩
  · exact Nat.lt_of_lt_of_le (show ys.length < 16777216 by omega) (by decide)
  · refine ⟨ys ++ [z], upd_same, fun b o nb hb => ?_, ?_, by rw [List.length_append, h4]; rfl, fun y hy => ?_⟩
    · rw [upd_ne (ne_of_none hb hD)]
      exact k3 _ _ nb (h2 b o nb hb)
    · obtain ⟨a, b, c, d, w⟩ := W3
      exact ⟨a, b, c, d, by rw [upd_ne npD.symm]; exact w⟩
    · rcases List.mem_append.mp hy with h | h
      · exact h5 y h
      · rw [List.mem_singleton.mp h]; exact pz

def SOMEN : List Str := ["a", "b", "i", "zz", "iff", "en", "cells", "giver", "mainly", "lesss", "sets", "whil"]
def BAD1 : List Str := ["if", "end", "ask", "set", "put", "fun", "main", "else", "skip", "draw", "tell", "call", "give"]
def BAD2 : List Str := ["cell", "plus", "over", "rest", "less", "same", "while", "minus", "times"]
theorem someN_ok : ∀ s ∈ SOMEN, isNameW s = true := by decide +kernel
theorem bad1_ok : ∀ s ∈ BAD1, isNameW (s ++ Str.ofString "x") = true ∧ s.length ≤ 6 := by decide +kernel
theorem bad2_ok : ∀ s ∈ BAD2, isNameW (Str.ofString "x" ++ s) = true ∧ s.length ≤ 6 := by decide +kernel
theorem words_bad : ∀ s ∈ PAIRW ++ (ROWW ++ OTHW), s ∈ BAD1 ∨ s ∈ BAD2 := by decide +kernel
/-- the k-th letter -/
theorem letter_at {n : Int} (h0 : 0 ≤ n) (h1 : n < 26) : ∃ c : Nat, atI (tl (Str.ofString "abcdefghijklmnopqrstuvwxyz")) n = some c ∧ 97 ≤ c ∧ c ≤ 122 := by
  have e : tl (Str.ofString "abcdefghijklmnopqrstuvwxyz") = (List.range 26).map (97 + ·) := by decide +kernel
  have hk : n.toNat < 26 := by omega
  have ek : n = ((n.toNat : Nat) : Int) := by omega
  rw [e, ek]
  refine ⟨97 + n.toNat, atI_nat ?_, by omega, by omega⟩
  rw [List.getElem?_map, List.getElem?_range hk]
  rfl
theorem name_of {s : Str} (h1 : 1 ≤ (tl s).length) (h2 : (tl s).length ≤ 6) (h3 : ∀ c ∈ tl s, 97 ≤ c ∧ c ≤ 122) (h4 : s ∉ BAD1) (h5 : s ∉ BAD2) : isNameW s = true := by
  have no : ∀ l : List Str, (∀ x ∈ l, x ∈ PAIRW ++ (ROWW ++ OTHW)) → s ∉ l := fun l hl hs => by
    rcases words_bad s (hl s hs) with h | h
    · exact h4 h
    · exact h5 h
  rw [nameW_true h1 h2 (no _ fun x hx => List.mem_append_left _ hx) (no _ fun x hx => List.mem_append_right _ (List.mem_append_left _ hx)) (no _ fun x hx => List.mem_append_right _ (List.mem_append_right _ hx))]
  refine List.all_eq_true.mpr fun c hc => ?_
  have := h3 c hc
  unfold isLow
  simp only [Bool.and_eq_true, decide_eq_true_eq]
  exact this

/-! ### told tuples of the law -/
theorem ToldE.keep {K : PySem.W.Frag} {p : Addr} {H H' : Hp} (k : KeepX p H H') (W : WellAt H p) : ∀ {e : Ex} {v : V}, ToldE K H e v → ToldE K H' e v
  | .num n, v, ⟨t, h1, h2⟩ => ⟨t, h1, k.tup W h2⟩
  | .box n, v, ⟨t, h1, h2⟩ => ⟨t, h1, k.tup W h2⟩
  | .cell e, v, ⟨t, i, h1, h2, h3⟩ => ⟨t, i, h1, k.tup W h2, ToldE.keep k W h3⟩
  | .two w l r, v, ⟨t, a, b, h1, h2, h3, h4⟩ => ⟨t, a, b, h1, k.tup W h2, ToldE.keep k W h3, ToldE.keep k W h4⟩
theorem in_num : inV (.str "number") [.str "number", .str "box"] = true := by decide +kernel
theorem in_box : inV (.str "box") [.str "number", .str "box"] = true := by decide +kernel
theorem in_cell : inV (.str "cell") [.str "number", .str "box"] = false := by decide +kernel
theorem in_pair {w : Str} (h : w ∈ PAIRW) : inV (.str w) [.str "number", .str "box"] = false := by
  have : ∀ w ∈ PAIRW, inV (.str w) [.str "number", .str "box"] = false := by decide +kernel
  exact this w h
theorem pair_ne {w : Str} (h : w ∈ PAIRW) : w ≠ "number" ∧ w ≠ "box" ∧ w ≠ "cell" := by
  have : ∀ w ∈ PAIRW, w ≠ "number" ∧ w ≠ "box" ∧ w ≠ "cell" := by decide +kernel
  exact this w h
def rStrAny : List V → Hp → VK → Prop := fun xs H Q => (∃ i, xs = [.int i] ∧ i.natAbs.log2 < 1920 ∧ Q (.str (toString i)) H) ∨ (∃ a, xs = [.str a] ∧ Q (.str a) H)
theorem call_str_any {X : Cx} : CallR X (.type "str") rStrAny := by
  intro pins s σ H xs us Q I r h
  rcases h with h | h
  · exact call_str_int pins s σ H xs us Q I r h
  · exact SkE.call_str_str pins s σ H xs us Q I r h
theorem sizeL2 {n : Nat} (h : n ≤ 16777216) : n ≤ sizeLine := Nat.le_trans h (by decide)
def spLParts (K : PySem.W.Frag) (n : Nat) : Sp := fun vs H Q _ => ∃ (e : Ex) (v : V), vs = [v] ∧ ToldE K H e v ∧ e.Wf ∧ e.depth ≤ n ∧ ∀ H', Same H H' → Q (.int e.parts) H'
def spLWords (K : PySem.W.Frag) (n : Nat) : Sp := fun vs H Q _ => ∃ (e : Ex) (v : V), vs = [v] ∧ ToldE K H e v ∧ e.Wf ∧ e.parts ≤ 1000 ∧ e.depth ≤ n ∧ ∀ H', Same H H' → Q (.str e.text) H'
def spLExpr (K : PySem.W.Frag) (n : Nat) : Sp := fun vs H Q _ => ∃ (p : Addr) (d m : Int), vs = [.ref p, .int d, .int m] ∧ WellAt H p ∧ 1 ≤ d ∧ d ≤ n ∧ n ≤ 8 ∧ 1 ≤ m ∧ ∀ e v H', e.Wf → (e.depth : Int) ≤ d → (e.parts : Int) ≤ m → ToldE K H' e v → KeepX p H H' → WellAt H' p → Q v H'
theorem text_cell (e : Ex) : Txt.join (Str.ofString " ") [Str.ofString "cell", e.text] = (Ex.cell e).text := by
  refine ext_tl ?_
  have b : tl (Str.ofString " ") = [32] := by decide +kernel
  have c1 : tl (Str.ofString "cell ") = tl (Str.ofString "cell") ++ [32] := by decide +kernel
  show _ = tl (Str.ofString "cell " ++ e.text)
  rw [join_eq, tl_join, b, tl_append, c1, List.append_assoc]
  rfl

/-! ### replace, told how often -/
open PySem.Builtin PySem.Builtin.Str in
theorem gives_replace1 (x y z : Str) (t u v k : Tok)
    (hf : ((occurrences x y 0 x.length 1).isEmpty || (y.length == 0 && z.length == 0)) = false →
      (u == 0 || v == 0) = false ∧ (u == v) = false ∧ (y == z) = false ∧ tooLong (x.length + (occurrences x y 0 x.length 1).length * z.length) = false) :
    Gives («str.replace» ⟨[.str x t, .str y u, .str z v, .int 1 k], []⟩) (if ((occurrences x y 0 x.length 1).isEmpty || (y.length == 0 && z.length == 0)) = true then .val (.str x t) else .str (glued z (partsBetween x (occurrences x y 0 x.length 1) y.length))) := by
  have e : countLimit "str.replace" (some (.int 1 k)) (x.length + 1) = pure 1 := by
    show (asSsize "str.replace" (.int 1 k) >>= fun i => pure (if i < 0 then x.length + 1 else i.toNat)) = _
    rw [asSsize_int "str.replace" 1 k (by decide)]
    rfl
  show Gives (countLimit "str.replace" (some (.int 1 k)) (x.length + 1) >>= fun limit => (if ((occurrences x y 0 x.length limit).isEmpty || (y.length == 0 && z.length == 0)) = true then (do rule "str.replace.nothing"; ret (.str x t)) else
          (do let same ← isSame (.str y u) (.str z v)
              if same = true then (do rule "str.replace.old-is-new"; ret (.str x t)) else
              if tooLong (x.length + (occurrences x y 0 x.length limit).length * z.length) = true then unsupported "str.replace:memory" else
              retStr (glued z (partsBetween x (occurrences x y 0 x.length limit) y.length))))) _
  rw [e]
  show Gives (if ((occurrences x y 0 x.length 1).isEmpty || (y.length == 0 && z.length == 0)) = true then (do rule "str.replace.nothing"; ret (.str x t)) else
          (do let same ← isSame (.str y u) (.str z v)
              if same = true then (do rule "str.replace.old-is-new"; ret (.str x t)) else
              if tooLong (x.length + (occurrences x y 0 x.length 1).length * z.length) = true then unsupported "str.replace:memory" else
              retStr (glued z (partsBetween x (occurrences x y 0 x.length 1) y.length)))) _
  cases hc : ((occurrences x y 0 x.length 1).isEmpty || (y.length == 0 && z.length == 0))
  · obtain ⟨h0, huv, hyz, hl⟩ := hf hc
    rw [isSame_str_other y z u v h0 huv hyz, hl]
    exact .of_eq rfl
  · exact .rule (.of_eq rfl)
open PySem.Builtin PySem.Builtin.Str in
theorem replace1_len (x y z : Str) : (glued z (partsBetween x (occurrences x y 0 x.length 1) y.length)).length ≤ x.length + z.length := by
  have h1 := StrLaws.occ_length_le x y 0 x.length 1
  have hy : (glued y (partsBetween x (occurrences x y 0 x.length 1) y.length)).length = x.length := by rw [StrLaws.glued_between_self]
  rw [size_glued, length_partsBetween, Nat.add_sub_cancel] at hy
  rw [size_glued, length_partsBetween, Nat.add_sub_cancel]
  have h2 : (occurrences x y 0 x.length 1).length * z.length ≤ 1 * z.length := Nat.mul_le_mul_right _ h1
  omega
theorem mem_joinL {c : Nat} {z : List Nat} : ∀ {L : List (List Nat)}, c ∈ joinL z L → c ∈ z ∨ ∃ p ∈ L, c ∈ p
  | [], h => by simp [joinL] at h
  | [x], h => .inr ⟨x, List.mem_cons_self, h⟩
  | x :: y :: r, h => by
    have e : joinL z (x :: y :: r) = x ++ (z ++ joinL z (y :: r)) := rfl
    rw [e] at h
    rcases List.mem_append.mp h with h | h
    · exact .inr ⟨x, List.mem_cons_self, h⟩
    · rcases List.mem_append.mp h with h | h
      · exact .inl h
      · rcases mem_joinL h with h | ⟨p, hp, hc⟩
        · exact .inl h
        · exact .inr ⟨p, List.mem_cons_of_mem _ hp, hc⟩
open PySem.Builtin PySem.Builtin.Str in
theorem replace1_mem (x y z : Str) (c : Nat) (h : c ∈ tl (glued z (partsBetween x (occurrences x y 0 x.length 1) y.length))) : c ∈ tl x ∨ c ∈ tl z := by
  rw [StrLaws.glued_eq_join, tl_join] at h
  rcases mem_joinL h with h | ⟨p, hp, hc⟩
  · exact .inr h
  · obtain ⟨q, hq, rfl⟩ := List.mem_map.mp hp
    unfold partsBetween at hq
    obtain ⟨⟨i, j⟩, _, rfl⟩ := List.mem_map.mp hq
    refine .inl ?_
    have hc2 : c ∈ (x.cps.extract i j).toList := hc
    rw [Array.toList_extract] at hc2
    exact List.mem_of_mem_drop (List.mem_of_mem_take hc2)
/-- some text that is not much longer -/
def tRepl1 (to : TE) (z : Str) : TE := fun σ H Q => to σ H fun v H1 => ∃ x, v = .str x ∧ x.length + z.length ≤ 16777216 ∧ ∀ r : Str, r.length ≤ x.length + z.length → (∀ c ∈ tl r, c ∈ tl x ∨ c ∈ tl z) → Q (.str r) H1
section
open PySem.Spec PyProof.Rows
variable {X : Cx} {o e f : Expr} {te tf : TE} {to : TE} {y z : Str} {j k : Nat} {c0 c1 c2 apos pos p p' : Pos} {l : Nat}
theorem pet_repl1 (ho : PE X o to) (hyz : (y == z) = false)
    (hst : backTo pos (starEach [.Constant (.str y) j c0, .Constant (.str z) k c1, .Constant (.int 1) l c2] X.env) = [(false, eval (.Constant (.str y) j c0) X.env), (false, eval (.Constant (.str z) k c1) X.env), (false, eval (.Constant (.int 1) l c2) X.env)] := by rfl)
    (hfew : ((backTo pos (starEach [.Constant (.str y) j c0, .Constant (.str z) k c1, .Constant (.int 1) l c2] X.env)).all (fun x => !x.1) && (backToKw pos (keywordEach [] X.env)).all (fun x => x.1.isSome)
      && decide (([.Constant (.str y) j c0, .Constant (.str z) k c1, .Constant (.int 1) l c2] : List Expr).length + ([] : List Keyword).length + (if ([] : List Keyword).isEmpty then 0 else 1) < 30)) = true := by rfl)
    (hbase : attributeBase o "replace" X.env (eval o X.env) = eval o X.env := by rfl) (hline : (apos.endLine == pos.line) = true := by rfl) :
    PET X (.Call (.Attribute o "replace" apos) [.Constant (.str y) j c0, .Constant (.str z) k c1, .Constant (.int 1) l c2] [] pos) (tRepl1 to z) := by
  intro pins s σ H Q h0 I h
  refine PySem.wpAny_Call_method_lateS hbase hfew hline (wpAny_mono (PySem.wpAny_toks (ho.run pins s σ H _ I h)) (fun v s1 q => ?_) fun _ _ z => z.2)
  rw [hst]
  obtain ⟨hk, v', H1, I1, r1, x, e1, hb, q⟩ := q
  subst e1
  obtain ⟨tx, e2⟩ := r1
  subst e2
  refine ⟨"str", _, PySem.F.plainAttrs_str, PySem.F.slot_str_replace, PySem.F.type_str_replace, typeIs_str _ _ _, (fun _ e => nomatch e), Calls.callWith_builtin rfl (Calls.evalArgs_plain (Calls.spliced_cons ?_))⟩
  refine Calls.Constant_str (Calls.spliced_cons (Calls.Constant_str (Calls.spliced_cons ?_)))
  refine wpAny_Constant_int (Calls.spliced_nil ?_)
  have hl : Builtin.Str.tooLong (x.length + (Builtin.Str.occurrences x y 0 x.length 1).length * z.length) = false := by
    have h1 := StrLaws.occ_length_le x y 0 x.length 1
    have h2 : (Builtin.Str.occurrences x y 0 x.length 1).length * z.length ≤ 1 * z.length := Nat.mul_le_mul_right _ h1
    unfold Builtin.Str.tooLong
    rw [sizeLine_eq]
    exact decide_eq_false (by omega)
  have hr := replace1_len x y z
  refine call_gives PySem.F.slot_str_replace (typeIs_str _ _ _) PySem.F.entry_str_replace (PySem.F.args_str_replace_4 _ _ _ _)
    (gives_replace1 x y z tx _ _ _ fun _ => ⟨by (have e1 : s1.toks ≠ 0 := by omega); simp [e1], by simp, hyz, hl⟩) ?_
  cases hc : ((Builtin.Str.occurrences x y 0 x.length 1).isEmpty || (y.length == 0 && z.length == 0))
  · simp only [Bool.false_eq_true, if_false]
    exact ⟨by rw [sizeLine_eq]; omega, ⟨.str _, H1, I1.tok _, ⟨_, rfl⟩, q _ hr (replace1_mem x y z)⟩⟩
  · simp only [if_true]
    exact ⟨.str _, H1, I1.tok _, ⟨_, rfl⟩, q x (Nat.le_add_right _ _) fun _ h => .inl h⟩
/-- [y + b, ..]: behind the first item a token is out -/
theorem pe_lstT {es : List Expr} {t : TA} {tb : TE} {b : Expr} {r : R2} {j0 : Nat} {op : Operator} (ho : OpR X (binaryOp op) r) (hb : PE X b tb) (hr : PAT X es t)
    (hs : starEach (.BinOp (.Constant (.str y) j0 c0) op b p :: es) X.env = (false, eval (.BinOp (.Constant (.str y) j0 c0) op b p) X.env) :: starEach es X.env := by rfl) :
    PE X (.List (.BinOp (.Constant (.str y) j0 c0) op b p :: es) pos) (tLst (tCons (tOp r (tC (.str y)) tb) t)) := by
  refine ⟨fun pins s σ H Q I hq => ?_⟩
  refine wpAny_List_spliced ?_
  rw [hs]
  show wpAny _ _ (spliced ((false, eval (.BinOp (.Constant (.str y) j0 c0) op b p) X.env) :: backTo pos (starEach es X.env))) _ _ s
  refine Calls.spliced_cons (wpAny_BinOp (Calls.Constant_str ?_))
  have I0 : Inv X pins σ H { s with toks := s.toks + 1 } := I.tok _
  refine wpAny_mono (PySem.wpAny_toks (hb.run pins _ σ H _ I0 hq)) (fun u s2 q => ?_) fun _ _ z => z.2
  obtain ⟨hk, yv, H2, I2, r2, q2⟩ := q
  have hk1 : 1 ≤ s2.toks := Nat.le_trans (Nat.le_add_left 1 s.toks) hk
  refine wpAny_mono (PySem.wpAny_toks (ho pins s2 σ H2 (.str y) yv (.str y s.toks) u _ I2 ⟨_, rfl⟩ r2 q2)) (fun v s3 q => ?_) fun _ _ z => z.2
  obtain ⟨hk3, x, H3, I3, r3, q3⟩ := q
  refine thn (hr pos pins s3 σ H3 _ (Nat.le_trans hk1 hk3) I3 q3) fun us s4 ⟨xs, H4, I4, r4, z, q4⟩ => ?_
  have rr : Vals (x :: xs) (v :: us) := .cons r3 r4
  refine ⟨by rw [← rr.length]; exact z, ?_⟩
  have hf : H4 s4.heap.objs.size = none := I4.hok.fresh (Nat.le_refl _)
  refine ⟨.ref s4.heap.objs.size, upd H4 s4.heap.objs.size (.lst (x :: xs)), I4.laid (t' := s4.toks) (fun b u e => Heap.get?_push_of_some _ e) (Nat.le_refl _) ?_, rfl, q4 _ hf⟩
  exact ⟨z, v :: us, 0, rr, Heap.get?_push_size _ rfl⟩
end

def MENU1 : List Str := ["", "0", "1", "00", "01", "999999", "1000000", "0999999", "-1", "1.0", "a", "abcdef", "abcdefg", "A", "a1"]
def MENU2 : List Str := ["cell", "plus", "minus", "times", "over", "rest", "less", "same", "skip", "set", "if", "main"]
def MENU3 : List Str := ["end", "give", "a_b"]
theorem menu_ok : ∀ s ∈ (MENU1 ++ MENU2) ++ MENU3, (tl s).length ≤ 7 ∧ ∀ c ∈ tl s, c < 128 := by decide +kernel
def WordOk (s : Str) : Prop := (tl s).length ≤ 7 ∧ ∀ c ∈ tl s, c < 128
def spMenu : Sp := fun vs H Q _ => ∃ (p : Addr), vs = [.ref p] ∧ WellAt H p ∧ ∀ (s : Str) H', WordOk s → KeepX p H H' → WellAt H' p → Q (.str s) H'
def spSpoiled : Sp := fun vs H Q _ => ∃ (p a : Addr) (ws : List Str), vs = [.ref p, .ref a] ∧ WellAt H p ∧ H a = some (.lst (ws.map V.str)) ∧ a ≠ p ∧ ws ≠ [] ∧ ws.length ≤ 100 ∧ (∀ s ∈ ws, WordOk s) ∧
  ∀ (b : Addr) (us : List Str) H', H' b = some (.lst (us.map V.str)) → b ≠ p → us ≠ [] → us.length ≤ ws.length + 1 → (∀ s ∈ us, WordOk s) → KeepX p H H' → WellAt H' p → Q (.ref b) H'
def Ascii (s : Str) : Prop := ∀ c ∈ tl s, c < 128
def spTruthA (f : Str → Bool) : Sp := fun vs H Q _ => ∃ s : Str, vs = [.str s] ∧ s.length ≤ 1000 ∧ Ascii s ∧ ∀ H', Same H H' → Q (.bl (f s)) H'
def spLRead (K : PySem.W.Frag) (n : Nat) : Sp := fun vs H Q _ => ∃ (a : Addr) (ws : List Str) (i : Nat), vs = [.ref a, .int i] ∧ SqL K H a (ws.map V.str) ∧ ws.length ≤ 1000 ∧ (∀ s ∈ ws, s.length ≤ 1000 ∧ Ascii s) ∧ ws.length - i < n ∧
  (∀ e r, parseE n (ws.drop i) = some (e, r) → ∀ t v H', Same H H' → H' t = some (.tup [v, .int ((ws.length - r.length : Nat) : Int), .int e.depth]) → ToldE K H' e v → Q (.ref t) H') ∧
  (parseE n (ws.drop i) = none → ∀ H', Same H H' → Q .non H')
def spDue (K : PySem.W.Frag) : Sp := fun vs H Q _ => ∃ (s : Str), vs = [.str s] ∧ s.length ≤ 156 ∧ Ascii s ∧
  (∀ e v H', parseAll (Txt.split s " ").length (Txt.split s " ") = some [e] → Same H H' → ToldE K H' e v → Q v H') ∧
  ((∀ e, parseAll (Txt.split s " ").length (Txt.split s " ") ≠ some [e]) → ∀ H', Same H H' → Q .non H')
def spFound (K : PySem.W.Frag) : Sp := fun vs H Q _ => ∃ x : V, vs = [x] ∧ ((∃ (s : Str), x = .str s ∧ s.length ≤ 99999 ∧
  (∀ e v H', parseAll (Txt.split s " ").length (Txt.split s " ") = some [e] → Same H H' → ToldE K H' e v → Q v H') ∧
  ((∀ e, parseAll (Txt.split s " ").length (Txt.split s " ") ≠ some [e]) → ∀ H', Same H H' → Q (.str "refused") H')) ∨
  (∃ t, TyX K H x t ∧ PySem.W.kitOne K t (.type "str") = some false ∧ ∀ H', Same H H' → Q (.str "refused") H'))
theorem cut_from {ws : List Str} {i : Nat} (h : i ≤ ws.length) : cutV (ws.map V.str) (some (i : Int)) none = (ws.drop i).map V.str := by
  unfold cutV
  rw [HT.sIx_nat, HT.sIx_none, List.length_map, Nat.min_eq_left h, ← List.map_drop, ← List.map_take, List.take_of_length_le (by rw [List.length_drop]; exact Nat.le_refl _)]
theorem cut_to {ws : List Str} {i : Nat} (h : i ≤ ws.length) : cutV (ws.map V.str) none (some (i : Int)) = (ws.take i).map V.str := by
  unfold cutV
  rw [HT.sIx_nat, HT.sIx_none, List.length_map, Nat.min_eq_left h, Nat.sub_zero, List.drop_zero, ← List.map_take]
theorem strOk_ascii {s : Str} (h : Ascii s) : PyData.strOk s = true := by
  unfold PyData.strOk
  rw [← Array.all_toList]
  refine List.all_eq_true.mpr fun c hc => ?_
  have := h c hc
  simp only [decide_eq_true_eq]
  omega
def signs (l : List Nat) : List V := l.map fun c => V.str ⟨#[c]⟩
theorem dp_signs {K : PySem.W.Frag} {H : Hp} : ∀ l : List Nat, DpAll K H (signs l) (l.map fun c => PyData.str ⟨#[c]⟩)
  | [] => .nil
  | c :: r => .cons (.str _) (dp_signs r)
theorem lay_signs : ∀ {l : List Nat}, (∀ c ∈ l, c < 128) → PyData.canLayAll0 (l.map fun c => PyData.str ⟨#[c]⟩) = true
  | [], _ => rfl
  | c :: r, h => by
    have h1 : PyData.strOk ⟨#[c]⟩ = true := strOk_ascii fun d hd => by
      have : d = c := List.mem_singleton.mp hd
      rw [this]; exact h c List.mem_cons_self
    show (PyData.strOk ⟨#[c]⟩ && PyData.canLayAll0 (r.map fun c => PyData.str ⟨#[c]⟩)) = true
    rw [h1, lay_signs fun d hd => h d (List.mem_cons_of_mem _ hd)]; rfl
theorem deep_signs : ∀ l : List Nat, PyData.depthAll (l.map fun c => PyData.str ⟨#[c]⟩) = 0
  | [] => rfl
  | c :: r => by show max 0 (PyData.depthAll (r.map fun c => PyData.str ⟨#[c]⟩)) = 0; rw [deep_signs r]; rfl
theorem signs_shaped {l : List Nat} (h : ∀ c ∈ l, c < 128) : SeqAt.shaped (.list (l.map fun c => PyData.str ⟨#[c]⟩)) = true := by
  show (PyData.canLayAll0 _ && decide (PyData.depthAll _ + 1 ≤ 64)) = true
  rw [lay_signs h, deep_signs]; rfl
theorem signs_eqv : ∀ l : List Nat, PyData.eqv (.list (l.map fun c => PyData.str ⟨#[c]⟩)) (.list []) = decide (l = [])
  | [] => rfl
  | c :: r => by rw [decide_eq_false (by simp)]; rfl
theorem sign_lt (a b : Nat) : [a] < [b] ↔ a < b := by
  constructor
  · intro h
    cases h with
    | rel h => exact h
    | cons h => cases h
  · exact fun h => .rel h
theorem lt_left {c n : Nat} {b : Str} (hb : b.cps.toList = [n]) : (⟨#[c]⟩ : Str).cps.toList < b.cps.toList ↔ c < n := by
  rw [hb]; exact sign_lt c n
theorem lt_right {c n : Nat} {b : Str} (hb : b.cps.toList = [n]) : b.cps.toList < (⟨#[c]⟩ : Str).cps.toList ↔ n < c := by
  rw [hb]; exact sign_lt n c
theorem filt_empty {f : Nat → Bool} (l : List Nat) : decide (l.filter (fun c => !f c) = []) = l.all f := by
  rw [Bool.eq_iff_iff, decide_eq_true_eq, List.filter_eq_nil_iff, List.all_eq_true]
  constructor
  · intro h c hc
    have := h c hc
    simp at this
    exact this
  · intro h c hc
    rw [h c hc]; simp
theorem refused_shaped : SeqAt.shaped (.str "refused") = true := by decide +kernel
theorem due_all {e : Ex} {ws : List Str} {n : Nat} (hn : ws.length < n) (h6 : 6 ≤ n) : parseAll ws.length ws = some [e] ↔ (parseE n ws = some (e, []) ∧ e.depth ≤ 6 ∧ e.parts ≤ 15) := by
  constructor
  · intro h
    cases ws with
    | nil => cases h
    | cons x t =>
      rw [parseAll_step] at h
      cases q : parseE 6 (x :: t) with
      | none => rw [q] at h; cases h
      | some p =>
        obtain ⟨e1, r⟩ := p
        rw [q] at h
        simp only at h
        by_cases c : e1.parts ≤ 15
        · rw [if_pos c] at h
          cases q2 : parseAll r.length r with
          | none => rw [q2] at h; cases h
          | some es =>
            rw [q2] at h
            have h2 : e1 :: es = [e] := Option.some.inj h
            injection h2 with h3 h4
            subst h3 h4
            have hr : r = [] := by
              cases r with
              | nil => rfl
              | cons y z =>
                rw [parseAll_step] at q2
                cases q3 : parseE 6 (y :: z) with
                | none => rw [q3] at q2; cases q2
                | some p3 =>
                  obtain ⟨e3, r3⟩ := p3
                  rw [q3] at q2
                  simp only at q2
                  by_cases c3 : e3.parts ≤ 15
                  · rw [if_pos c3] at q2
                    cases q4 : parseAll r3.length r3 with
                    | none => rw [q4] at q2; cases q2
                    | some es => rw [q4] at q2; cases q2
                  · rw [if_neg c3] at q2; cases q2
            subst hr
            obtain ⟨w1, w2, w3⟩ := parse_wf q
            refine ⟨?_, w2, c⟩
            rw [w3]
            exact parse_toks w1 (by omega) []
        · rw [if_neg c] at h; cases h
  · rintro ⟨h1, h2, h3⟩
    obtain ⟨w1, _, w3⟩ := parse_wf h1
    rw [List.append_nil] at w3
    rw [w3]
    have q := parse_toks w1 h2 []
    rw [List.append_nil] at q
    cases h4 : e.toks with
    | nil => have := e.toks_len; rw [h4] at this; have := e.parts_pos; simp at *; omega
    | cons x r =>
      rw [h4] at q
      rw [parseAll_step, q]
      show (if e.parts ≤ 15 then some [e] else none) = some [e]
      rw [if_pos h3]
def WL19 : List Str := ["skip", "set", "put", "ask", "draw", "tell", "if", "else", "end", "while", "call", "fun", "main", "give", "cell", "plus", "minus", "times", "over"]
def WL3 : List Str := ["rest", "less", "same"]
theorem wl_split : Txt.split (Str.ofString "skip set put ask draw tell if else end while call fun main give cell plus minus times over") (Str.ofString " ") = WL19 := by decide +kernel
theorem wl_to : ∀ s ∈ WL19 ++ WL3, s ∈ PAIRW ∨ s ∈ ROWW ∨ s ∈ OTHW := by decide +kernel
theorem wl_of : (∀ s ∈ PAIRW, s ∈ WL19 ++ WL3) ∧ (∀ s ∈ ROWW, s ∈ WL19 ++ WL3) ∧ (∀ s ∈ OTHW, s ∈ WL19 ++ WL3) := by decide +kernel
def KVS : List (Key × V) := (.inr "cell", .int 1) :: PAIRW.map fun w => (.inr w, .int 2)
def manyOf (w : Str) : Nat := if w = "cell" then 1 else if w ∈ PAIRW then 2 else 0
theorem kvs_merge : mergeK [] KVS = KVS := by kernel_rfl
theorem kvs_get (w : Str) : (valV KVS (.inr w)).getD (.int 0) = .int (manyOf w : Nat) := by
  unfold manyOf
  by_cases h0 : w = "cell"
  · rw [if_pos h0, h0]; exact (congrArg (fun z : Option V => z.getD (.int 0)) (valV_pos rfl))
  · rw [if_neg h0]
    unfold KVS
    rw [valV_neg (fun e => h0 (Sum.inr.inj e).symm)]
    have key : ∀ L : List Str, (valV (L.map fun w => ((.inr w : Key), V.int 2)) (.inr w)).getD (.int 0) = .int ((if w ∈ L then 2 else 0 : Nat) : Int) := by
      intro L
      induction L with
      | nil => rfl
      | cons x r ih =>
        rw [List.map_cons]
        by_cases hx : x = w
        · rw [valV_pos (by rw [hx]), if_pos (by rw [hx]; exact List.mem_cons_self)]; rfl
        · rw [valV_neg (fun e => hx (Sum.inr.inj e)), ih]
          by_cases hm : w ∈ r
          · rw [if_pos hm, if_pos (List.mem_cons_of_mem _ hm)]
          · rw [if_neg hm, if_neg (fun h => (List.mem_cons.mp h).elim (fun e => hx e.symm) hm)]
    exact key PAIRW
/-- so many expressions, one behind the other -/
def parseK (n : Nat) : Nat → List Str → Option (List Ex × List Str)
  | 0, ws => some ([], ws)
  | k + 1, ws => match parseK n k ws with
    | none => none
    | some (es, r) => match parseE n r with
      | none => none
      | some (e, r2) => some (es ++ [e], r2)
theorem parseK_none {n : Nat} {ws : List Str} {k : Nat} (h : parseK n k ws = none) : ∀ j, parseK n (k + j) ws = none
  | 0 => h
  | j + 1 => by
    show (match parseK n (k + j) ws with | none => none | some (es, r) => match parseE n r with | none => none | some (e, r2) => some (es ++ [e], r2)) = none
    rw [parseK_none h j]
def dmax (es : List Ex) : Nat := es.foldl (fun d e => max d e.depth) 0
theorem dmax_snoc (es : List Ex) (e : Ex) : dmax (es ++ [e]) = max (dmax es) e.depth := by
  unfold dmax
  rw [List.foldl_append]; rfl
theorem parseE_many {n : Nat} {w : Str} {r : List Str} (h1 : isValW w = false) (h2 : isNameW w = false) : parseE (n + 1) (w :: r) = (match manyOf w with
    | 0 => none
    | k + 1 => match parseK n (k + 1) r with
      | none => none
      | some (es, r2) => match es with
        | [e] => some (.cell e, r2)
        | [e1, e2] => some (.two w e1 e2, r2)
        | _ => none) := by
  rw [parseE_cons, if_neg (by rw [h1]; decide), if_neg (by rw [h2]; decide)]
  unfold manyOf
  by_cases c1 : w = "cell"
  · rw [if_pos c1, if_pos c1]
    show _ = (match (match parseE n r with | none => none | some (e, r2) => some (([] : List Ex) ++ [e], r2)) with | none => none | some (es, r2) => _)
    cases parseE n r with
    | none => rfl
    | some p => rfl
  · rw [if_neg c1, if_neg c1]
    by_cases c2 : w ∈ PAIRW
    · rw [if_pos c2, if_pos c2]
      show _ = (match (match (match parseE n r with | none => none | some (e, r2) => some (([] : List Ex) ++ [e], r2)) with | none => none | some (es, r) => match parseE n r with | none => none | some (e, r2) => some (es ++ [e], r2)) with | none => none | some (es, r2) => _)
      cases parseE n r with
      | none => rfl
      | some p =>
        obtain ⟨e1, r1⟩ := p
        simp only
        cases parseE n r1 with
        | none => rfl
        | some p => rfl
    · rw [if_neg c2, if_neg c2]
theorem parseK_len {n : Nat} {ws : List Str} : ∀ {k : Nat} {es : List Ex} {r : List Str}, parseK n k ws = some (es, r) → es.length = k
  | 0, es, r, h => by
    have : ([], ws) = (es, r) := Option.some.inj h
    rw [← (Prod.mk.inj this).1]; rfl
  | k + 1, es, r, h => by
    have h' : (match parseK n k ws with | none => none | some (es, r) => match parseE n r with | none => none | some (e, r2) => some (es ++ [e], r2)) = some (es, r) := h
    cases q : parseK n k ws with
    | none => rw [q] at h'; cases h'
    | some p =>
      obtain ⟨es1, r1⟩ := p
      rw [q] at h'
      simp only at h'
      cases q2 : parseE n r1 with
      | none => rw [q2] at h'; cases h'
      | some p2 =>
        obtain ⟨e2, r2⟩ := p2
        rw [q2] at h'
        have := (Prod.mk.inj (Option.some.inj h')).1
        rw [← this, List.length_append, parseK_len q]; rfl
theorem split_len {s : Str} : (Txt.split s " ").length ≤ s.length + 1 ∧ ∀ p ∈ Txt.split s " ", p.length ≤ s.length := by
  have e := PySem.StrLaws.join_split s (Str.ofString " ")
  have e2 := congrArg tl e
  have b : tl (Str.ofString " ") = [32] := by decide +kernel
  rw [tl_join, b] at e2
  have q := joinL_len ((Txt.split s (Str.ofString " ")).map tl)
  rw [e2, List.length_map, ← len_tl s] at q
  refine ⟨q.1, fun p hp => ?_⟩
  have := q.2 (tl p) (List.mem_map.mpr ⟨p, hp, rfl⟩)
  rw [← len_tl p] at this
  exact this
theorem joinL_sub : ∀ {L : List (List Nat)} {p : List Nat} {c : Nat} {z : List Nat}, p ∈ L → c ∈ p → c ∈ joinL z L
  | [x], p, c, z, h, hc => by rw [List.mem_singleton.mp h] at hc; exact hc
  | x :: y :: r, p, c, z, h, hc => by
    show c ∈ x ++ (z ++ joinL z (y :: r))
    rcases List.mem_cons.mp h with rfl | h
    · exact List.mem_append_left _ hc
    · exact List.mem_append_right _ (List.mem_append_right _ (joinL_sub h hc))
theorem split_ascii {s : Str} (h : Ascii s) : ∀ p ∈ Txt.split s " ", Ascii p := by
  have e2 := congrArg tl (PySem.StrLaws.join_split s (Str.ofString " "))
  rw [tl_join] at e2
  intro p hp c hc
  refine h c ?_
  rw [← e2]
  exact joinL_sub (List.mem_map.mpr ⟨p, hp, rfl⟩) hc

def spLaw (K : PySem.W.Frag) : Sp := fun vs H Q _ => ∃ (a : Addr) (ns : List Int), vs = [.ref a] ∧ SqL K H a (ns.map V.int) ∧ ns.length ≤ 63 ∧ ∀ H', Q (.bl true) H'

end K02
namespace K02
open PySem L2 TL
def top (i : Nat) : Stmt := PySem.Challenge.pw_hadbeen_k02_no_expression.main.body.getD i (.Pass ⟨0, 0, 0, 0⟩)
abbrev s_is_name : Stmt := top 16
abbrev s_is_value_word : Stmt := top 17
abbrev s_Number_init : Stmt := inClass (top 19) 0
abbrev s_Box_init : Stmt := inClass (top 20) 0
abbrev s_Cell_init : Stmt := inClass (top 21) 0
abbrev s_Two_init : Stmt := inClass (top 22) 0
abbrev s_Number_told : Stmt := inClass (top 19) 1
abbrev s_Box_told : Stmt := inClass (top 20) 1
abbrev s_Cell_told : Stmt := inClass (top 21) 1
abbrev s_Two_told : Stmt := inClass (top 22) 1
abbrev s_Expr_parts : Stmt := inClass (top 18) 3
abbrev s_Cell_parts : Stmt := inClass (top 21) 4
abbrev s_Two_parts : Stmt := inClass (top 22) 4
abbrev s_expr_at : Stmt := top 23
abbrev s_exprs_of : Stmt := top 24
abbrev s_read_expr : Stmt := top 25
abbrev s_l_cell : Stmt := top 27
abbrev s_l_mixed : Stmt := top 28
abbrev s_l_twice : Stmt := top 29
abbrev s_l_well : Stmt := top 30
abbrev s_l_draw : Stmt := top 31
abbrev s_l_value : Stmt := top 32
abbrev s_l_name : Stmt := top 33
abbrev s_l_parts : Stmt := top 34
abbrev s_l_expr : Stmt := top 35
abbrev s_l_words_of : Stmt := top 36
abbrev s_l_menu : Stmt := top 37
abbrev s_l_spoiled : Stmt := top 38
abbrev s_l_is_name : Stmt := top 39
abbrev s_l_is_value : Stmt := top 40
abbrev s_l_read : Stmt := top 41
abbrev s_l_due : Stmt := top 42
abbrev s_l_found : Stmt := top 43
abbrev s_law : Stmt := top 44
abbrev N_is_name : List Str := ["thing", "sign"]
theorem sc_is_name : FnScope ["thing", "sign"] ["thing"] (defScope s_is_name) := ⟨rfl, rfl, rfl, by decide +kernel, rfl, by decide +kernel, by decide +kernel⟩
abbrev N_is_value_word : List Str := ["word", "sign"]
theorem sc_is_value_word : FnScope ["word", "sign"] ["word"] (defScope s_is_value_word) := ⟨rfl, rfl, rfl, by decide +kernel, rfl, by decide +kernel, by decide +kernel⟩
abbrev N_Number_init : List Str := ["self", "value"]
theorem sc_Number_init : FnScope ["self", "value"] ["self", "value"] (defScope s_Number_init) := ⟨rfl, rfl, rfl, by decide +kernel, rfl, by decide +kernel, by decide +kernel⟩
abbrev N_Box_init : List Str := ["self", "name"]
theorem sc_Box_init : FnScope ["self", "name"] ["self", "name"] (defScope s_Box_init) := ⟨rfl, rfl, rfl, by decide +kernel, rfl, by decide +kernel, by decide +kernel⟩
abbrev N_Cell_init : List Str := ["self", "inner"]
theorem sc_Cell_init : FnScope ["self", "inner"] ["self", "inner"] (defScope s_Cell_init) := ⟨rfl, rfl, rfl, by decide +kernel, rfl, by decide +kernel, by decide +kernel⟩
abbrev N_Two_init : List Str := ["self", "word", "left", "right"]
theorem sc_Two_init : FnScope ["self", "word", "left", "right"] ["self", "word", "left", "right"] (defScope s_Two_init) := ⟨rfl, rfl, rfl, by decide +kernel, rfl, by decide +kernel, by decide +kernel⟩
abbrev N_Number_told : List Str := ["self"]
theorem sc_Number_told : FnScope ["self"] ["self"] (defScope s_Number_told) := ⟨rfl, rfl, rfl, by decide +kernel, rfl, by decide +kernel, by decide +kernel⟩
abbrev N_Box_told : List Str := ["self"]
theorem sc_Box_told : FnScope ["self"] ["self"] (defScope s_Box_told) := ⟨rfl, rfl, rfl, by decide +kernel, rfl, by decide +kernel, by decide +kernel⟩
abbrev N_Cell_told : List Str := ["self"]
theorem sc_Cell_told : FnScope ["self"] ["self"] (defScope s_Cell_told) := ⟨rfl, rfl, rfl, by decide +kernel, rfl, by decide +kernel, by decide +kernel⟩
abbrev N_Two_told : List Str := ["self"]
theorem sc_Two_told : FnScope ["self"] ["self"] (defScope s_Two_told) := ⟨rfl, rfl, rfl, by decide +kernel, rfl, by decide +kernel, by decide +kernel⟩
abbrev N_Expr_parts : List Str := ["self"]
theorem sc_Expr_parts : FnScope ["self"] ["self"] (defScope s_Expr_parts) := ⟨rfl, rfl, rfl, by decide +kernel, rfl, by decide +kernel, by decide +kernel⟩
abbrev N_Cell_parts : List Str := ["self"]
theorem sc_Cell_parts : FnScope ["self"] ["self"] (defScope s_Cell_parts) := ⟨rfl, rfl, rfl, by decide +kernel, rfl, by decide +kernel, by decide +kernel⟩
abbrev N_Two_parts : List Str := ["self"]
theorem sc_Two_parts : FnScope ["self"] ["self"] (defScope s_Two_parts) := ⟨rfl, rfl, rfl, by decide +kernel, rfl, by decide +kernel, by decide +kernel⟩
abbrev N_expr_at : List Str := ["row", "at", "deep", "word", "inner", "behind", "left", "middle", "right"]
theorem sc_expr_at : FnScope ["row", "at", "deep", "word", "inner", "behind", "left", "middle", "right"] ["row", "at", "deep"] (defScope s_expr_at) := ⟨rfl, rfl, rfl, by decide +kernel, rfl, by decide +kernel, by decide +kernel⟩
abbrev N_exprs_of : List Str := ["row", "found", "at", "one"]
theorem sc_exprs_of : FnScope ["row", "found", "at", "one"] ["row"] (defScope s_exprs_of) := ⟨rfl, rfl, rfl, by decide +kernel, rfl, by decide +kernel, by decide +kernel⟩
abbrev N_read_expr : List Str := ["text", "found"]
theorem sc_read_expr : FnScope ["text", "found"] ["text"] (defScope s_read_expr) := ⟨rfl, rfl, rfl, by decide +kernel, rfl, by decide +kernel, by decide +kernel⟩
abbrev N_l_cell : List Str := ["_law_script", "_law_k"]
theorem sc_l_cell : FnScope ["_law_script", "_law_k"] ["_law_script", "_law_k"] (defScope s_l_cell) := ⟨rfl, rfl, rfl, by decide +kernel, rfl, by decide +kernel, by decide +kernel⟩
abbrev N_l_mixed : List Str := ["_law_cell_here", "_law_k", "_law_number"]
theorem sc_l_mixed : FnScope ["_law_cell_here", "_law_k", "_law_number"] ["_law_cell_here", "_law_k"] (defScope s_l_mixed) := ⟨rfl, rfl, rfl, by decide +kernel, rfl, by decide +kernel, by decide +kernel⟩
abbrev N_l_twice : List Str := ["_law_cell_here", "_law_k", "_law_number"]
theorem sc_l_twice : FnScope ["_law_cell_here", "_law_k", "_law_number"] ["_law_cell_here", "_law_k"] (defScope s_l_twice) := ⟨rfl, rfl, rfl, by decide +kernel, rfl, by decide +kernel, by decide +kernel⟩
abbrev N_l_well : List Str := ["_law_script", "_law_k"]
theorem sc_l_well : FnScope ["_law_script", "_law_k"] ["_law_script", "_law_k"] (defScope s_l_well) := ⟨rfl, rfl, rfl, by decide +kernel, rfl, by decide +kernel, by decide +kernel⟩
abbrev N_l_draw : List Str := ["_law_well_here", "_law_most", "_law_number"]
theorem sc_l_draw : FnScope ["_law_well_here", "_law_most", "_law_number"] ["_law_well_here", "_law_most"] (defScope s_l_draw) := ⟨rfl, rfl, rfl, by decide +kernel, rfl, by decide +kernel, by decide +kernel⟩
abbrev N_l_value : List Str := ["_law_well_here", "_law_way"]
theorem sc_l_value : FnScope ["_law_well_here", "_law_way"] ["_law_well_here"] (defScope s_l_value) := ⟨rfl, rfl, rfl, by decide +kernel, rfl, by decide +kernel, by decide +kernel⟩
abbrev N_l_name : List Str := ["_law_well_here", "_law_some", "_law_name_here", "_law_k"]
theorem sc_l_name : FnScope ["_law_well_here", "_law_some", "_law_name_here", "_law_k"] ["_law_well_here"] (defScope s_l_name) := ⟨rfl, rfl, rfl, by decide +kernel, rfl, by decide +kernel, by decide +kernel⟩
abbrev N_l_parts : List Str := ["_law_told", "_law_one"]
theorem sc_l_parts : FnScope ["_law_told", "_law_one"] ["_law_told"] (defScope s_l_parts) := ⟨rfl, rfl, rfl, by decide +kernel, rfl, by decide +kernel, by decide +kernel⟩
abbrev N_l_expr : List Str := ["_law_well_here", "_law_deep", "_law_most", "_law_way", "_law_word", "_law_left"]
theorem sc_l_expr : FnScope ["_law_well_here", "_law_deep", "_law_most", "_law_way", "_law_word", "_law_left"] ["_law_well_here", "_law_deep", "_law_most"] (defScope s_l_expr) := ⟨rfl, rfl, rfl, by decide +kernel, rfl, by decide +kernel, by decide +kernel⟩
abbrev N_l_words_of : List Str := ["_law_told", "_law_one"]
theorem sc_l_words_of : FnScope ["_law_told", "_law_one"] ["_law_told"] (defScope s_l_words_of) := ⟨rfl, rfl, rfl, by decide +kernel, rfl, by decide +kernel, by decide +kernel⟩
abbrev N_l_menu : List Str := ["_law_well_here", "_law_some"]
theorem sc_l_menu : FnScope ["_law_well_here", "_law_some"] ["_law_well_here"] (defScope s_l_menu) := ⟨rfl, rfl, rfl, by decide +kernel, rfl, by decide +kernel, by decide +kernel⟩
abbrev N_l_spoiled : List Str := ["_law_well_here", "_law_words", "_law_at", "_law_way"]
theorem sc_l_spoiled : FnScope ["_law_well_here", "_law_words", "_law_at", "_law_way"] ["_law_well_here", "_law_words"] (defScope s_l_spoiled) := ⟨rfl, rfl, rfl, by decide +kernel, rfl, by decide +kernel, by decide +kernel⟩
abbrev N_l_is_name : List Str := ["_law_word", "_law_some", "_law_sign"]
theorem sc_l_is_name : FnScope ["_law_word", "_law_some", "_law_sign"] ["_law_word"] (defScope s_l_is_name) := ⟨rfl, rfl, rfl, by decide +kernel, rfl, by decide +kernel, by decide +kernel⟩
abbrev N_l_is_value : List Str := ["_law_word", "_law_sign"]
theorem sc_l_is_value : FnScope ["_law_word", "_law_sign"] ["_law_word"] (defScope s_l_is_value) := ⟨rfl, rfl, rfl, by decide +kernel, rfl, by decide +kernel, by decide +kernel⟩
abbrev N_l_read : List Str := ["_law_words", "_law_at", "_law_word", "_law_many", "_law_told", "_law_deep", "_law_k", "_law_found_here"]
theorem sc_l_read : FnScope ["_law_words", "_law_at", "_law_word", "_law_many", "_law_told", "_law_deep", "_law_k", "_law_found_here"] ["_law_words", "_law_at"] (defScope s_l_read) := ⟨rfl, rfl, rfl, by decide +kernel, rfl, by decide +kernel, by decide +kernel⟩
abbrev N_l_due : List Str := ["_law_text", "_law_words", "_law_found_here"]
theorem sc_l_due : FnScope ["_law_text", "_law_words", "_law_found_here"] ["_law_text"] (defScope s_l_due) := ⟨rfl, rfl, rfl, by decide +kernel, rfl, by decide +kernel, by decide +kernel⟩
abbrev N_l_found : List Str := ["_law_text", "_law_told", "e", "_law_others", "_law_alone"]
theorem sc_l_found : FnScope ["_law_text", "_law_told", "e", "_law_others", "_law_alone"] ["_law_text"] (defScope s_l_found) := ⟨rfl, rfl, rfl, by decide +kernel, rfl, by decide +kernel, by decide +kernel⟩
abbrev N_law : List Str := ["_law_script", "_law_well_here", "_law_deep", "_law_words", "_law_k", "_law_text", "_law_way", "_law_due_here", "_law_other"]
theorem sc_law : FnScope ["_law_script", "_law_well_here", "_law_deep", "_law_words", "_law_k", "_law_text", "_law_way", "_law_due_here", "_law_other"] ["_law_script"] (defScope s_law) := ⟨rfl, rfl, rfl, by decide +kernel, rfl, by decide +kernel, by decide +kernel⟩
structure Ads where
  is_name : Addr
  is_name_d : FuncData
  is_value_word : Addr
  is_value_word_d : FuncData
  Number_init : Addr
  Number_init_d : FuncData
  Box_init : Addr
  Box_init_d : FuncData
  Cell_init : Addr
  Cell_init_d : FuncData
  Two_init : Addr
  Two_init_d : FuncData
  Number_told : Addr
  Number_told_d : FuncData
  Box_told : Addr
  Box_told_d : FuncData
  Cell_told : Addr
  Cell_told_d : FuncData
  Two_told : Addr
  Two_told_d : FuncData
  Expr_parts : Addr
  Expr_parts_d : FuncData
  Cell_parts : Addr
  Cell_parts_d : FuncData
  Two_parts : Addr
  Two_parts_d : FuncData
  expr_at : Addr
  expr_at_d : FuncData
  exprs_of : Addr
  exprs_of_d : FuncData
  read_expr : Addr
  read_expr_d : FuncData
  l_cell : Addr
  l_cell_d : FuncData
  l_mixed : Addr
  l_mixed_d : FuncData
  l_twice : Addr
  l_twice_d : FuncData
  l_well : Addr
  l_well_d : FuncData
  l_draw : Addr
  l_draw_d : FuncData
  l_value : Addr
  l_value_d : FuncData
  l_name : Addr
  l_name_d : FuncData
  l_parts : Addr
  l_parts_d : FuncData
  l_expr : Addr
  l_expr_d : FuncData
  l_words_of : Addr
  l_words_of_d : FuncData
  l_menu : Addr
  l_menu_d : FuncData
  l_spoiled : Addr
  l_spoiled_d : FuncData
  l_is_name : Addr
  l_is_name_d : FuncData
  l_is_value : Addr
  l_is_value_d : FuncData
  l_read : Addr
  l_read_d : FuncData
  l_due : Addr
  l_due_d : FuncData
  l_found : Addr
  l_found_d : FuncData
  law : Addr
  law_d : FuncData
  Number : Addr
  Box : Addr
  Cell : Addr
  Two : Addr
  Expr : Addr
  PAIRS : Addr
  ROWS : Addr
  OTHERS : Addr
  NoProgram : Addr
  HadError : Addr
  NoChange : Addr
  NoText : Addr
  NoValue : Addr
  NoWish : Addr
structure Txt (K : PySem.W.Frag) (mg : Str → Option Value) (A : Ads) : Prop where
  F_is_name : Fun K "is_name" "is_name" s_is_name A.is_name A.is_name_d
  b_is_name : Binds K A.is_name_d ["thing"] []
  m_is_name : mg "is_name" = some (.ref A.is_name)
  F_is_value_word : Fun K "is_value_word" "is_value_word" s_is_value_word A.is_value_word A.is_value_word_d
  b_is_value_word : Binds K A.is_value_word_d ["word"] []
  m_is_value_word : mg "is_value_word" = some (.ref A.is_value_word)
  F_Number_init : Fun K "__init__" "Number.__init__" s_Number_init A.Number_init A.Number_init_d
  b_Number_init : Binds K A.Number_init_d ["self", "value"] []
  F_Box_init : Fun K "__init__" "Box.__init__" s_Box_init A.Box_init A.Box_init_d
  b_Box_init : Binds K A.Box_init_d ["self", "name"] []
  F_Cell_init : Fun K "__init__" "Cell.__init__" s_Cell_init A.Cell_init A.Cell_init_d
  b_Cell_init : Binds K A.Cell_init_d ["self", "inner"] []
  F_Two_init : Fun K "__init__" "Two.__init__" s_Two_init A.Two_init A.Two_init_d
  b_Two_init : Binds K A.Two_init_d ["self", "word", "left", "right"] []
  F_Number_told : Fun K "told" "Number.told" s_Number_told A.Number_told A.Number_told_d
  b_Number_told : Binds K A.Number_told_d ["self"] []
  F_Box_told : Fun K "told" "Box.told" s_Box_told A.Box_told A.Box_told_d
  b_Box_told : Binds K A.Box_told_d ["self"] []
  F_Cell_told : Fun K "told" "Cell.told" s_Cell_told A.Cell_told A.Cell_told_d
  b_Cell_told : Binds K A.Cell_told_d ["self"] []
  F_Two_told : Fun K "told" "Two.told" s_Two_told A.Two_told A.Two_told_d
  b_Two_told : Binds K A.Two_told_d ["self"] []
  F_Expr_parts : Fun K "parts" "Expr.parts" s_Expr_parts A.Expr_parts A.Expr_parts_d
  b_Expr_parts : Binds K A.Expr_parts_d ["self"] []
  F_Cell_parts : Fun K "parts" "Cell.parts" s_Cell_parts A.Cell_parts A.Cell_parts_d
  b_Cell_parts : Binds K A.Cell_parts_d ["self"] []
  F_Two_parts : Fun K "parts" "Two.parts" s_Two_parts A.Two_parts A.Two_parts_d
  b_Two_parts : Binds K A.Two_parts_d ["self"] []
  F_expr_at : Fun K "expr_at" "expr_at" s_expr_at A.expr_at A.expr_at_d
  b_expr_at : Binds K A.expr_at_d ["row", "at", "deep"] []
  m_expr_at : mg "expr_at" = some (.ref A.expr_at)
  F_exprs_of : Fun K "exprs_of" "exprs_of" s_exprs_of A.exprs_of A.exprs_of_d
  b_exprs_of : Binds K A.exprs_of_d ["row"] []
  m_exprs_of : mg "exprs_of" = some (.ref A.exprs_of)
  F_read_expr : Fun K "read_expr" "read_expr" s_read_expr A.read_expr A.read_expr_d
  b_read_expr : Binds K A.read_expr_d ["text"] []
  m_read_expr : mg "read_expr" = some (.ref A.read_expr)
  F_l_cell : Fun K "_law_cell" "_law_cell" s_l_cell A.l_cell A.l_cell_d
  b_l_cell : Binds K A.l_cell_d ["_law_script", "_law_k"] []
  m_l_cell : mg "_law_cell" = some (.ref A.l_cell)
  F_l_mixed : Fun K "_law_mixed" "_law_mixed" s_l_mixed A.l_mixed A.l_mixed_d
  b_l_mixed : Binds K A.l_mixed_d ["_law_cell_here", "_law_k"] []
  m_l_mixed : mg "_law_mixed" = some (.ref A.l_mixed)
  F_l_twice : Fun K "_law_twice" "_law_twice" s_l_twice A.l_twice A.l_twice_d
  b_l_twice : Binds K A.l_twice_d ["_law_cell_here", "_law_k"] []
  m_l_twice : mg "_law_twice" = some (.ref A.l_twice)
  F_l_well : Fun K "_law_well" "_law_well" s_l_well A.l_well A.l_well_d
  b_l_well : Binds K A.l_well_d ["_law_script", "_law_k"] []
  m_l_well : mg "_law_well" = some (.ref A.l_well)
  F_l_draw : Fun K "_law_draw" "_law_draw" s_l_draw A.l_draw A.l_draw_d
  b_l_draw : Binds K A.l_draw_d ["_law_well_here", "_law_most"] []
  m_l_draw : mg "_law_draw" = some (.ref A.l_draw)
  F_l_value : Fun K "_law_value" "_law_value" s_l_value A.l_value A.l_value_d
  b_l_value : Binds K A.l_value_d ["_law_well_here"] []
  m_l_value : mg "_law_value" = some (.ref A.l_value)
  F_l_name : Fun K "_law_name" "_law_name" s_l_name A.l_name A.l_name_d
  b_l_name : Binds K A.l_name_d ["_law_well_here"] []
  m_l_name : mg "_law_name" = some (.ref A.l_name)
  F_l_parts : Fun K "_law_parts" "_law_parts" s_l_parts A.l_parts A.l_parts_d
  b_l_parts : Binds K A.l_parts_d ["_law_told"] []
  m_l_parts : mg "_law_parts" = some (.ref A.l_parts)
  F_l_expr : Fun K "_law_expr" "_law_expr" s_l_expr A.l_expr A.l_expr_d
  b_l_expr : Binds K A.l_expr_d ["_law_well_here", "_law_deep", "_law_most"] []
  m_l_expr : mg "_law_expr" = some (.ref A.l_expr)
  F_l_words_of : Fun K "_law_words_of" "_law_words_of" s_l_words_of A.l_words_of A.l_words_of_d
  b_l_words_of : Binds K A.l_words_of_d ["_law_told"] []
  m_l_words_of : mg "_law_words_of" = some (.ref A.l_words_of)
  F_l_menu : Fun K "_law_menu" "_law_menu" s_l_menu A.l_menu A.l_menu_d
  b_l_menu : Binds K A.l_menu_d ["_law_well_here"] []
  m_l_menu : mg "_law_menu" = some (.ref A.l_menu)
  F_l_spoiled : Fun K "_law_spoiled" "_law_spoiled" s_l_spoiled A.l_spoiled A.l_spoiled_d
  b_l_spoiled : Binds K A.l_spoiled_d ["_law_well_here", "_law_words"] []
  m_l_spoiled : mg "_law_spoiled" = some (.ref A.l_spoiled)
  F_l_is_name : Fun K "_law_is_name" "_law_is_name" s_l_is_name A.l_is_name A.l_is_name_d
  b_l_is_name : Binds K A.l_is_name_d ["_law_word"] []
  m_l_is_name : mg "_law_is_name" = some (.ref A.l_is_name)
  F_l_is_value : Fun K "_law_is_value" "_law_is_value" s_l_is_value A.l_is_value A.l_is_value_d
  b_l_is_value : Binds K A.l_is_value_d ["_law_word"] []
  m_l_is_value : mg "_law_is_value" = some (.ref A.l_is_value)
  F_l_read : Fun K "_law_read" "_law_read" s_l_read A.l_read A.l_read_d
  b_l_read : Binds K A.l_read_d ["_law_words", "_law_at"] []
  m_l_read : mg "_law_read" = some (.ref A.l_read)
  F_l_due : Fun K "_law_due" "_law_due" s_l_due A.l_due A.l_due_d
  b_l_due : Binds K A.l_due_d ["_law_text"] []
  m_l_due : mg "_law_due" = some (.ref A.l_due)
  F_l_found : Fun K "_law_found" "_law_found" s_l_found A.l_found A.l_found_d
  b_l_found : Binds K A.l_found_d ["_law_text"] []
  m_l_found : mg "_law_found" = some (.ref A.l_found)
  F_law : Fun K "law" "law" s_law A.law A.law_d
  b_law : Binds K A.law_d ["_law_script"] []
  m_law : mg "law" = some (.ref A.law)
  m_Number : mg "Number" = some (.ref A.Number)
  cl_Number : Cls K A.Number
  mk_Number : PySem.W.makesIn K A.Number = true
  n_Number_value : NoAttr K A.Number "value"
  k_Number : Mk K A.Number A.Number_init
  m_Box : mg "Box" = some (.ref A.Box)
  cl_Box : Cls K A.Box
  mk_Box : PySem.W.makesIn K A.Box = true
  n_Box_name : NoAttr K A.Box "name"
  k_Box : Mk K A.Box A.Box_init
  m_Cell : mg "Cell" = some (.ref A.Cell)
  cl_Cell : Cls K A.Cell
  mk_Cell : PySem.W.makesIn K A.Cell = true
  n_Cell_inner : NoAttr K A.Cell "inner"
  k_Cell : Mk K A.Cell A.Cell_init
  m_Two : mg "Two" = some (.ref A.Two)
  cl_Two : Cls K A.Two
  mk_Two : PySem.W.makesIn K A.Two = true
  n_Two_word : NoAttr K A.Two "word"
  n_Two_left : NoAttr K A.Two "left"
  n_Two_right : NoAttr K A.Two "right"
  k_Two : Mk K A.Two A.Two_init
  m_Expr : mg "Expr" = some (.ref A.Expr)
  cl_Expr : Cls K A.Expr
  mk_Expr : PySem.W.makesIn K A.Expr = true
  me_Number_told : Meth K A.Number "told" A.Number_told
  me_Box_told : Meth K A.Box "told" A.Box_told
  me_Cell_told : Meth K A.Cell "told" A.Cell_told
  me_Two_told : Meth K A.Two "told" A.Two_told
  me_Number_parts : Meth K A.Number "parts" A.Expr_parts
  me_Box_parts : Meth K A.Box "parts" A.Expr_parts
  me_Cell_parts : Meth K A.Cell "parts" A.Cell_parts
  me_Two_parts : Meth K A.Two "parts" A.Two_parts
  m_PAIRS : mg "PAIRS" = some (.ref A.PAIRS)
  q_PAIRS : ∀ H, SqT K H A.PAIRS [V.str "plus", V.str "minus", V.str "times", V.str "over", V.str "rest", V.str "less", V.str "same"]
  m_ROWS : mg "ROWS" = some (.ref A.ROWS)
  q_ROWS : ∀ H, SqT K H A.ROWS [V.str "skip", V.str "set", V.str "put", V.str "ask", V.str "draw", V.str "tell", V.str "if", V.str "while", V.str "call"]
  m_OTHERS : mg "OTHERS" = some (.ref A.OTHERS)
  q_OTHERS : ∀ H, SqT K H A.OTHERS [V.str "else", V.str "end", V.str "fun", V.str "main", V.str "give", V.str "cell"]
  m_NoProgram : mg "NoProgram" = some (.ref A.NoProgram)
  x_NoProgram : PySem.W.excIn K A.NoProgram [.type "ValueError", .type "Exception", .type "BaseException", .type "object"] "ValueError.__new__" = true
  kk_NoProgram : PySem.W.keepIn K (.ref A.NoProgram) = true
  bb_NoProgram : PySem.W.subIn K (.ref A.NoProgram) (.type "BaseException") = some true
  tt_NoProgram : PySem.W.typeIn K (.ref A.NoProgram) = some (.type "type")
  m_HadError : mg "HadError" = some (.ref A.HadError)
  x_HadError : PySem.W.excIn K A.HadError [.type "ValueError", .type "Exception", .type "BaseException", .type "object"] "ValueError.__new__" = true
  kk_HadError : PySem.W.keepIn K (.ref A.HadError) = true
  bb_HadError : PySem.W.subIn K (.ref A.HadError) (.type "BaseException") = some true
  tt_HadError : PySem.W.typeIn K (.ref A.HadError) = some (.type "type")
  m_NoChange : mg "NoChange" = some (.ref A.NoChange)
  x_NoChange : PySem.W.excIn K A.NoChange [.type "ValueError", .type "Exception", .type "BaseException", .type "object"] "ValueError.__new__" = true
  kk_NoChange : PySem.W.keepIn K (.ref A.NoChange) = true
  bb_NoChange : PySem.W.subIn K (.ref A.NoChange) (.type "BaseException") = some true
  tt_NoChange : PySem.W.typeIn K (.ref A.NoChange) = some (.type "type")
  m_NoText : mg "NoText" = some (.ref A.NoText)
  x_NoText : PySem.W.excIn K A.NoText [.type "ValueError", .type "Exception", .type "BaseException", .type "object"] "ValueError.__new__" = true
  kk_NoText : PySem.W.keepIn K (.ref A.NoText) = true
  bb_NoText : PySem.W.subIn K (.ref A.NoText) (.type "BaseException") = some true
  tt_NoText : PySem.W.typeIn K (.ref A.NoText) = some (.type "type")
  m_NoValue : mg "NoValue" = some (.ref A.NoValue)
  x_NoValue : PySem.W.excIn K A.NoValue [.type "ValueError", .type "Exception", .type "BaseException", .type "object"] "ValueError.__new__" = true
  kk_NoValue : PySem.W.keepIn K (.ref A.NoValue) = true
  bb_NoValue : PySem.W.subIn K (.ref A.NoValue) (.type "BaseException") = some true
  tt_NoValue : PySem.W.typeIn K (.ref A.NoValue) = some (.type "type")
  m_NoWish : mg "NoWish" = some (.ref A.NoWish)
  x_NoWish : PySem.W.excIn K A.NoWish [.type "ValueError", .type "Exception", .type "BaseException", .type "object"] "ValueError.__new__" = true
  kk_NoWish : PySem.W.keepIn K (.ref A.NoWish) = true
  bb_NoWish : PySem.W.subIn K (.ref A.NoWish) (.type "BaseException") = some true
  tt_NoWish : PySem.W.typeIn K (.ref A.NoWish) = some (.type "type")
  ne_num_box : A.Number ≠ A.Box
  ne_num_cell : A.Number ≠ A.Cell
  ne_num_two : A.Number ≠ A.Two
  ne_box_num : A.Box ≠ A.Number
  ne_box_cell : A.Box ≠ A.Cell
  ne_box_two : A.Box ≠ A.Two
  ne_cell_num : A.Cell ≠ A.Number
  ne_cell_box : A.Cell ≠ A.Box
  ne_cell_two : A.Cell ≠ A.Two
  ne_two_num : A.Two ≠ A.Number
  ne_two_box : A.Two ≠ A.Box
  ne_two_cell : A.Two ≠ A.Cell
  xg : PySem.W.findIn K (.ref A.NoProgram) "__getattribute__" = some (some (.builtin "BaseException.__getattribute__"))
  xk : PySem.W.findIn K (.ref A.NoProgram) "__getattr__" = some none
  xd : PySem.W.hasDictIn K A.NoProgram = true
  xa : PySem.W.findIn K (.ref A.NoProgram) "__class__" = some (some (.builtin "object.__class__"))
  xn : PySem.W.specialIn K (.builtin "object.__class__") "__get__" = some (some (.builtin "getset_descriptor.__get__"))
  xt : PySem.W.takesIn K (.builtin "object.__class__") = some true
  xm : PySem.W.mroIn K A.NoProgram (.type "object") = some true
  xh : PySem.W.exmOne K (.ref A.NoProgram) (.ref A.HadError) = some true
  xo : PySem.W.kitAny K (.ref A.NoProgram) [.ref A.NoChange, .ref A.NoText, .ref A.NoValue, .ref A.NoWish] = some false
  xv : PySem.W.kitOne K (.ref A.NoProgram) (.type "ValueError") = some true
  c_LETTERS : ∃ t, mg "LETTERS" = some (.str "abcdefghijklmnopqrstuvwxyz" t)
  c_FIGURES : ∃ t, mg "FIGURES" = some (.str "0123456789" t)
  c_MOST_DEEP : ∃ t, mg "MOST_DEEP" = some (.int 6 t)
  c_MOST_PARTS : ∃ t, mg "MOST_PARTS" = some (.int 15 t)
  z_str : mg "str" = none
  z_isinstance : mg "isinstance" = none
  z_len : mg "len" = none
  z_all : mg "all" = none
  z_int : mg "int" = none
  z_range : mg "range" = none
  z_sum : mg "sum" = none
  z_max : mg "max" = none
  z_ValueError : mg "ValueError" = none
abbrev Ads.ec (A : Ads) : EC := ⟨A.Number, A.Box, A.Cell, A.Two⟩
theorem excNP {K : PySem.W.Frag} {mg : Str → Option Value} {A : Ads} (T : Txt K mg A) : ExcC K A.NoProgram := ⟨T.xg, T.xk, T.bb_NoProgram, T.xd, T.xa, T.xn, T.xt, T.xm⟩
theorem is_self {K : PySem.W.Frag} (C : Addr) : PySem.W.kitOne K (.ref C) (.ref C) = some true := by
  unfold PySem.W.kitOne
  rw [if_pos (by simp)]
end K02
open PySem L2 TL

local macro_rules | `(tactic| walk_at "rd") => `(tactic| repeat (first
  | refine ⟨_, rfl, ?_⟩
  | refine ⟨_, _, rfl, rfl, ?_⟩
  | refine ⟨Or.inl ⟨by decide, by decide⟩, ?_⟩
  | refine ⟨Or.inr ⟨by decide, by decide⟩, ?_⟩
  | refine ⟨(⟨by decide, by decide⟩ : CDiv _ _), ?_⟩
  | refine ⟨(⟨by decide, by decide, by decide⟩ : CPow _ _), ?_⟩
  | refine ⟨(by show (0 : Int) < _; decide), ?_⟩
  | refine ⟨K02.mod64, ?_⟩))
namespace K02
open PySem L2 TL
section
variable {P : Program} {w : World} {K : PySem.W.Frag} {mg : Str → Option Value} {base : Heap} {A : Ads}
theorem ok_is_name (T : Txt K mg A) : FnOk P w K mg base CX0 1 A.is_name A.is_name_d ["thing"] (spTruthS isNameW) := by
  refine T.F_is_name.ok sc_is_name (fun vs H Q E h => ?_) (fun cdv A0 outer s H vs Q E hr h => ?_)
  · obtain ⟨s, rfl, hl, q⟩ := h
    rfl
  obtain ⟨s, rfl, hl, q⟩ := h
  refine ⟨_, (pss_cons (ps_if (PW.pt (pw_or (pt_not (pt_val (pe_callB call_isi (by rfl) T.z_isinstance (by decide +kernel) (pa_cons (pv 0) (pa_cons (pe_bltn (v := .ty "str") (by rfl) T.z_str (by decide +kernel) rfl) pa_nil))))) (pw_or1 (pt_not (pt_chain op_le op_le pe_int (pe_callB call_len_str (by rfl) T.z_len (by decide +kernel) (pa_cons (pv 0) pa_nil)) pe_int)))))
    (pss_one (ps_ret pe_bl))
    pss_nil)
   (pss_cons (ps_if (PW.pt (pw_or (pt_cmpR op_in_seq (pv 0) (pe_glob (v := .ref A.PAIRS) (by rfl) T.m_PAIRS rfl) (by rfl)) (pw_or (pt_cmpR op_in_seq (pv 0) (pe_glob (v := .ref A.ROWS) (by rfl) T.m_ROWS rfl) (by rfl)) (pw_or1 (pt_cmpR op_in_seq (pv 0) (pe_glob (v := .ref A.OTHERS) (by rfl) T.m_OTHERS rfl) (by rfl))))))
    (pss_one (ps_ret pe_bl))
    pss_nil)
   (pss_one (ps_ret (pe_callB (cr_all rfl) (by rfl) T.z_all (by decide +kernel) (pa_cons (pe_lc (own := [("sign", 1)]) (g := gName 1) (tt := tYes) rfl sc_is_name.nd (pi_str (pv 0)) (blkOk_by (own := [("sign", 1)]) (N := N_is_name) (sc := defScope s_is_name) (by decide +kernel)) (fun _ _ _ _ _ => pg_name (i := 1) sc_is_name.nd rfl (Or.inl rfl)) (fun _ _ _ _ _ => pts_nil) (fun _ _ _ _ _ => (pe_cmpR op_in_sign (pv 1) (pe_glob (v := .str "abcdefghijklmnopqrstuvwxyz") (by rfl) T.c_LETTERS.choose_spec ⟨_, rfl⟩) rfl))) pa_nil)))))), ?_⟩
  have hs : s.length = (tl s).length := len_tl s
  refine ⟨_, rfl, _, _, _, _, true, rfl, .ty _, .base (.str _), kit_ty (by decide +kernel), _, rfl, iteF ?_⟩
  refine ⟨_, rfl, _, rfl, len_line hl, _, _, rfl, rfl, _, rfl, ?_⟩
  refine iteD2 (fun c1 => ?_) (fun c1 => ?_)
  · refine ⟨_, _, rfl, rfl, _, rfl, iteN2 (fun c2 => ?_) (fun c2 => ?_)⟩
    · refine (nameW_false1 (s := s) (Or.inr ?_)) ▸ q _ (Same.refl H)
      omega
    · refine ⟨_, rfl, A.PAIRS, PAIRW.map V.str, rfl, .inr (T.q_PAIRS _), rfl, rfl, _, rfl, ?_⟩
      rw [if_neg Bool.false_ne_true, inV_str]
      refine iteD2 (fun c3 => (nameW_false2 (s := s) (.inl c3)) ▸ q _ (Same.refl H)) (fun c3 => ?_)
      refine ⟨_, rfl, A.ROWS, ROWW.map V.str, rfl, .inr (T.q_ROWS _), rfl, rfl, _, rfl, ?_⟩
      rw [if_neg Bool.false_ne_true, inV_str]
      refine iteD2 (fun c4 => (nameW_false2 (s := s) (.inr (.inl c4))) ▸ q _ (Same.refl H)) (fun c4 => ?_)
      refine ⟨_, rfl, A.OTHERS, OTHW.map V.str, rfl, .inr (T.q_OTHERS _), rfl, rfl, _, rfl, ?_⟩
      rw [if_neg Bool.false_ne_true, inV_str]
      refine iteD2 (fun c5 => (nameW_false2 (s := s) (.inr (.inr c5))) ▸ q _ (Same.refl H)) (fun c5 => ?_)
      exact rd_all (f := isLow) rfl (by show 1 < 2; decide) (by decide) (by omega) let_mem fun H' s' => (nameW_true (s := s) (by omega) (by omega) c3 c4 c5) ▸ q H' s'
  · refine ⟨_, rfl, iteT ?_⟩
    refine (nameW_false1 (s := s) (Or.inl ?_)) ▸ q _ (Same.refl H)
    omega

theorem ok_is_value_word (T : Txt K mg A) : FnOk P w K mg base CX0 1 A.is_value_word A.is_value_word_d ["word"] (spTruthS isValW) := by
  refine T.F_is_value_word.ok sc_is_value_word (fun vs H Q E h => ?_) (fun cdv A0 outer s H vs Q E hr h => ?_)
  · obtain ⟨s, rfl, hl, q⟩ := h
    rfl
  obtain ⟨s, rfl, hl, q⟩ := h
  refine ⟨_, (pss_cons (ps_if (PW.pt (pw_or (pt_not (pt_chain op_le op_le pe_int (pe_callB call_len_str (by rfl) T.z_len (by decide +kernel) (pa_cons (pv 0) pa_nil)) pe_int)) (pw_or1 (PW.pt (pw_and (pt_cmpR op_eq (pe_ix ix_str (pv 0) pe_int (fun _ _ => rfl)) pe_str (nomark _)) (pw_and1 (pt_cmpR op_ne (pv 0) pe_str (nomark _))))))))
    (pss_one (ps_ret pe_bl))
    pss_nil)
   (pss_one (ps_ret (pe_callB (cr_all rfl) (by rfl) T.z_all (by decide +kernel) (pa_cons (pe_lc (own := [("sign", 1)]) (g := gName 1) (tt := tYes) rfl sc_is_value_word.nd (pi_str (pv 0)) (blkOk_by (own := [("sign", 1)]) (N := N_is_value_word) (sc := defScope s_is_value_word) (by decide +kernel)) (fun _ _ _ _ _ => pg_name (i := 1) sc_is_value_word.nd rfl (Or.inl rfl)) (fun _ _ _ _ _ => pts_nil) (fun _ _ _ _ _ => (pe_cmpR op_in_sign (pv 1) (pe_glob (v := .str "0123456789") (by rfl) T.c_FIGURES.choose_spec ⟨_, rfl⟩) rfl))) pa_nil))))), ?_⟩
  have hs : s.length = (tl s).length := len_tl s
  refine ⟨_, rfl, _, rfl, len_line hl, _, _, rfl, rfl, _, rfl, ?_⟩
  refine iteD2 (fun c1 => ?_) (fun c1 => ?_)
  · refine ⟨_, _, rfl, rfl, _, rfl, iteN2 (fun c2 => ?_) (fun c2 => ?_)⟩
    · refine (valW_false1 (s := s) (Or.inr ?_)) ▸ q _ (Same.refl H)
      omega
    · have h6 : (tl s).length ≤ 6 ∧ 1 ≤ (tl s).length := by omega
      obtain ⟨c, r, hc⟩ : ∃ c r, tl s = c :: r := by
        cases e : tl s with
        | nil => rw [e] at h6; simp at h6
        | cons c r => exact ⟨c, r, rfl⟩
      refine ⟨_, rfl, s, 0, c, rfl, rfl, len_line hl, (by show atI (tl s) ((0 : Nat) : Int) = some c; rw [hc]; exact atI_nat rfl), rfl, _, rfl, ?_⟩
      refine iteD2 (fun c3 => ?_) (fun c3 => ?_)
      · refine ⟨_, rfl, rfl, _, rfl, iteN2 (fun c4 => ?_) (fun c4 => ?_)⟩
        · refine (valW_false2 (s := s) ?_ (fun e => c4 (congrArg V.str e))) ▸ q _ (Same.refl H)
          rw [hc]
          have := congrArg tl (V.str.inj c3)
          have z : tl (Str.ofString "0") = [48] := by decide +kernel
          rw [z] at this
          have e2 : [c] = [48] := this
          rw [List.cons.injEq] at e2
          rw [e2.1]; rfl
        · exact rd_all (f := isDig) rfl (by show 1 < 2; decide) (by decide) (by omega) fig_mem fun H' s' => (valW_true (s := s) h6.2 h6.1 (fun _ => V.str.inj c4)) ▸ q H' s'
      · refine rd_all (f := isDig) rfl (by show 1 < 2; decide) (by decide) (by omega) fig_mem fun H' s' => (valW_true (s := s) h6.2 h6.1 (fun e => ?_)) ▸ q H' s'
        rw [hc, List.head?_cons] at e
        refine absurd (congrArg V.str ?_) c3
        refine ext_tl ?_
        have z : tl (Str.ofString "0") = [48] := by decide +kernel
        rw [z, Option.some.inj e]
  · refine ⟨_, rfl, iteT ?_⟩
    refine (valW_false1 (s := s) (Or.inl ?_)) ▸ q _ (Same.refl H)
    omega

end
end K02
namespace K02
open PySem L2 TL
section
variable {P : Program} {w : World} {K : PySem.W.Frag} {mg : Str → Option Value} {base : Heap} {A : Ads}
theorem ok_Number_init (T : Txt K mg A) : FnOk P w K mg base CX0 1 A.Number_init A.Number_init_d ["self", "value"] (spInit1 A.Number "value") := by
  refine T.F_Number_init.ok sc_Number_init (fun vs H Q E h => ?_) (fun cdv A0 outer s H vs Q E hr h => ?_)
  · obtain ⟨p, dx, x, rfl, hp, q⟩ := h
    rfl
  obtain ⟨p, dx, x, rfl, hp, q⟩ := h
  refine ⟨_, (pss_one (ps_fld (pv 0) (pv 1) rfl)), ?_⟩
  exact ⟨_, rfl, _, rfl, p, A.Number, dx, [], rfl, hp, T.cl_Number, T.n_Number_value, (by show 0 < 1000; decide), q⟩

theorem ok_Box_init (T : Txt K mg A) : FnOk P w K mg base CX0 1 A.Box_init A.Box_init_d ["self", "name"] (spInit1 A.Box "name") := by
  refine T.F_Box_init.ok sc_Box_init (fun vs H Q E h => ?_) (fun cdv A0 outer s H vs Q E hr h => ?_)
  · obtain ⟨p, dx, x, rfl, hp, q⟩ := h
    rfl
  obtain ⟨p, dx, x, rfl, hp, q⟩ := h
  refine ⟨_, (pss_one (ps_fld (pv 0) (pv 1) rfl)), ?_⟩
  exact ⟨_, rfl, _, rfl, p, A.Box, dx, [], rfl, hp, T.cl_Box, T.n_Box_name, (by show 0 < 1000; decide), q⟩

theorem ok_Cell_init (T : Txt K mg A) : FnOk P w K mg base CX0 1 A.Cell_init A.Cell_init_d ["self", "inner"] (spInit1 A.Cell "inner") := by
  refine T.F_Cell_init.ok sc_Cell_init (fun vs H Q E h => ?_) (fun cdv A0 outer s H vs Q E hr h => ?_)
  · obtain ⟨p, dx, x, rfl, hp, q⟩ := h
    rfl
  obtain ⟨p, dx, x, rfl, hp, q⟩ := h
  refine ⟨_, (pss_one (ps_fld (pv 0) (pv 1) rfl)), ?_⟩
  exact ⟨_, rfl, _, rfl, p, A.Cell, dx, [], rfl, hp, T.cl_Cell, T.n_Cell_inner, (by show 0 < 1000; decide), q⟩

theorem ok_Two_init (T : Txt K mg A) : FnOk P w K mg base CX0 1 A.Two_init A.Two_init_d ["self", "word", "left", "right"] (spTwoI A.Two) := by
  refine T.F_Two_init.ok sc_Two_init (fun vs H Q E h => ?_) (fun cdv A0 outer s H vs Q E hr h => ?_)
  · obtain ⟨p, dx, wd, l, r, rfl, hp, q⟩ := h
    rfl
  obtain ⟨p, dx, wd, l, r, rfl, hp, q⟩ := h
  refine ⟨_, (pss_cons (ps_fld (pv 0) (pv 1) rfl)
   (pss_cons (ps_fld (pv 0) (pv 2) rfl)
   (pss_one (ps_fld (pv 0) (pv 3) rfl)))), ?_⟩
  refine ⟨_, rfl, _, rfl, p, A.Two, dx, [], rfl, hp, T.cl_Two, T.n_Two_word, (by show 0 < 1000; decide), ?_⟩
  refine ⟨_, rfl, _, rfl, p, A.Two, dx, _, rfl, upd_same, T.cl_Two, T.n_Two_left, (by show 1 < 1000; decide), ?_⟩
  refine ⟨_, rfl, _, rfl, p, A.Two, dx, _, rfl, upd_same, T.cl_Two, T.n_Two_right, (by show 2 < 1000; decide), ?_⟩
  rw [upd_upd, upd_upd]
  exact q

end
end K02
namespace K02
open PySem L2 TL
section
variable {P : Program} {w : World} {K : PySem.W.Frag} {mg : Str → Option Value} {base : Heap} {A : Ads}
theorem ok_Number_told (T : Txt K mg A) {n : Nat} : FnOk P w K mg base CX0 (n + 2) A.Number_told A.Number_told_d ["self"] (spTold K A.ec (n + 1) A.Number) := by
  refine T.F_Number_told.ok sc_Number_told (fun vs H Q E h => ?_) (fun cdv A0 outer s H vs Q E hr h => ?_)
  · obtain ⟨e, v, rfl, ho, hc, hd, q⟩ := h
    rfl
  obtain ⟨e, v, rfl, ho, hc, hd, q⟩ := h
  refine ⟨_, (pss_one (ps_ret (pe_tup (pa_cons pe_str (pa_cons (pe_fld (pv 0) rfl) pa_nil))))), ?_⟩
  cases e with
  | num n =>
    obtain ⟨p, dx, rfl, h1⟩ := ho
    refine ⟨_, rfl, p, A.Number, dx, _, _, rfl, h1, T.cl_Number, T.n_Number_value, rfl, by show 2 ≤ sizeLine; decide, fun t ht => ?_⟩
    exact q _ _ (same_new ht) ⟨t, rfl, upd_same⟩
  | box z => exact (T.ne_box_num hc).elim
  | cell e => exact (T.ne_cell_num hc).elim
  | two wd l r => exact (T.ne_two_num hc).elim

theorem ok_Box_told (T : Txt K mg A) {n : Nat} : FnOk P w K mg base CX0 (n + 2) A.Box_told A.Box_told_d ["self"] (spTold K A.ec (n + 1) A.Box) := by
  refine T.F_Box_told.ok sc_Box_told (fun vs H Q E h => ?_) (fun cdv A0 outer s H vs Q E hr h => ?_)
  · obtain ⟨e, v, rfl, ho, hc, hd, q⟩ := h
    rfl
  obtain ⟨e, v, rfl, ho, hc, hd, q⟩ := h
  refine ⟨_, (pss_one (ps_ret (pe_tup (pa_cons pe_str (pa_cons (pe_fld (pv 0) rfl) pa_nil))))), ?_⟩
  cases e with
  | num n => exact (T.ne_num_box hc).elim
  | box z =>
    obtain ⟨p, dx, rfl, h1⟩ := ho
    refine ⟨_, rfl, p, A.Box, dx, _, _, rfl, h1, T.cl_Box, T.n_Box_name, rfl, by show 2 ≤ sizeLine; decide, fun t ht => ?_⟩
    exact q _ _ (same_new ht) ⟨t, rfl, upd_same⟩
  | cell e => exact (T.ne_cell_box hc).elim
  | two wd l r => exact (T.ne_two_box hc).elim

theorem ok_Cell_told (T : Txt K mg A) {n : Nat} (D_told : ∀ C, A.ec.Fam C → Disp P w K mg base CX0 "told" (n + 1) C (spTold K A.ec n C)) : FnOk P w K mg base CX0 (n + 2) A.Cell_told A.Cell_told_d ["self"] (spTold K A.ec (n + 1) A.Cell) := by
  refine T.F_Cell_told.ok sc_Cell_told (fun vs H Q E h => ?_) (fun cdv A0 outer s H vs Q E hr h => ?_)
  · obtain ⟨e, v, rfl, ho, hc, hd, q⟩ := h
    rfl
  obtain ⟨e, v, rfl, ho, hc, hd, q⟩ := h
  refine ⟨_, (pss_one (ps_ret (pe_tup (pa_cons pe_str (pa_cons (pe_methP0 (pe_fld (pv 0) rfl) D_told (hr.mono (by omega)) pass0) pa_nil))))), ?_⟩
  cases e with
  | num n => exact (T.ne_num_cell hc).elim
  | box z => exact (T.ne_box_cell hc).elim
  | cell e =>
    obtain ⟨p, dx, i, rfl, h1, h2⟩ := ho
    have hd' : e.depth ≤ n := Nat.le_of_succ_le_succ hd
    obtain ⟨p2, d2, f2, e2, g1, g2⟩ := h2.at (m := "told") (by decide +kernel)
    refine ⟨_, rfl, p, A.Cell, dx, _, _, rfl, h1, T.cl_Cell, T.n_Cell_inner, rfl, p2, _, d2, f2, e2, g1, g2, A.ec.fam e, e, i, rfl, h2, rfl, hd', fun r H1 s1 t1 => ?_⟩
    refine ⟨by show 2 ≤ sizeLine; decide, fun t ht => ?_⟩
    exact q _ _ (s1.trans (same_new ht)) ⟨t, r, rfl, upd_same, t1.same (same_new ht)⟩
  | two wd l r => exact (T.ne_two_cell hc).elim

theorem ok_Two_told (T : Txt K mg A) {n : Nat} (D_told : ∀ C, A.ec.Fam C → Disp P w K mg base CX0 "told" (n + 1) C (spTold K A.ec n C)) : FnOk P w K mg base CX0 (n + 2) A.Two_told A.Two_told_d ["self"] (spTold K A.ec (n + 1) A.Two) := by
  refine T.F_Two_told.ok sc_Two_told (fun vs H Q E h => ?_) (fun cdv A0 outer s H vs Q E hr h => ?_)
  · obtain ⟨e, v, rfl, ho, hc, hd, q⟩ := h
    rfl
  obtain ⟨e, v, rfl, ho, hc, hd, q⟩ := h
  refine ⟨_, (pss_one (ps_ret (pe_tup (pa_cons (pe_fld (pv 0) rfl) (pa_cons (pe_methP0 (pe_fld (pv 0) rfl) D_told (hr.mono (by omega)) pass0) (pa_cons (pe_methP0 (pe_fld (pv 0) rfl) D_told (hr.mono (by omega)) pass0) pa_nil)))))), ?_⟩
  cases e with
  | num n => exact (T.ne_num_two hc).elim
  | box z => exact (T.ne_box_two hc).elim
  | cell e => exact (T.ne_cell_two hc).elim
  | two wd l r =>
    obtain ⟨p, dx, a, b, rfl, h1, h2, h3⟩ := ho
    have hd' : max l.depth r.depth ≤ n := Nat.le_of_succ_le_succ hd
    obtain ⟨p2, d2, f2, e2, g1, g2⟩ := h2.at (m := "told") (by decide +kernel)
    refine ⟨_, rfl, p, A.Two, dx, _, _, rfl, h1, T.cl_Two, T.n_Two_word, rfl, _, rfl, p, A.Two, dx, _, _, rfl, h1, T.cl_Two, T.n_Two_left, rfl, p2, _, d2, f2, e2, g1, g2, A.ec.fam l, l, a, rfl, h2, rfl, by omega, fun v1 H1 s1 t1 => ?_⟩
    obtain ⟨p3, d3, f3, e3, k1, k2⟩ := (h3.same s1).at (m := "told") (by decide +kernel)
    refine ⟨_, rfl, p, A.Two, dx, _, _, rfl, s1 _ _ h1, T.cl_Two, T.n_Two_right, rfl, p3, _, d3, f3, e3, k1, k2, A.ec.fam r, r, b, rfl, h3.same s1, rfl, by omega, fun v2 H2 s2 t2 => ?_⟩
    refine ⟨by show 3 ≤ sizeLine; decide, fun t ht => ?_⟩
    exact q _ _ (s1.trans (s2.trans (same_new ht))) ⟨t, v1, v2, rfl, upd_same, t1.same (s2.trans (same_new ht)), t2.same (same_new ht)⟩

theorem disp_told (T : Txt K mg A) : ∀ (n : Nat) (C : Addr), A.ec.Fam C → Disp P w K mg base CX0 "told" (n + 1) C (spTold K A.ec n C)
  | 0, C, h => by
    have no : ∀ vs H Q E, spTold K A.ec 0 C vs H Q E → False := fun vs H Q E ⟨e, v, _, _, _, hd, _⟩ => by have := e.depth_pos; omega
    rcases h with rfl | rfl | rfl | rfl
    · exact ⟨_, A.Number_told_d, _, T.cl_Number, T.me_Number_told, fn_none (ps := ["self"]) no, T.b_Number_told⟩
    · exact ⟨_, A.Box_told_d, _, T.cl_Box, T.me_Box_told, fn_none (ps := ["self"]) no, T.b_Box_told⟩
    · exact ⟨_, A.Cell_told_d, _, T.cl_Cell, T.me_Cell_told, fn_none (ps := ["self"]) no, T.b_Cell_told⟩
    · exact ⟨_, A.Two_told_d, _, T.cl_Two, T.me_Two_told, fn_none (ps := ["self"]) no, T.b_Two_told⟩
  | n + 1, C, h => by
    have D := disp_told T n
    rcases h with rfl | rfl | rfl | rfl
    · exact ⟨_, _, _, T.cl_Number, T.me_Number_told, ok_Number_told T, T.b_Number_told⟩
    · exact ⟨_, _, _, T.cl_Box, T.me_Box_told, ok_Box_told T, T.b_Box_told⟩
    · exact ⟨_, _, _, T.cl_Cell, T.me_Cell_told, ok_Cell_told T D, T.b_Cell_told⟩
    · exact ⟨_, _, _, T.cl_Two, T.me_Two_told, ok_Two_told T D, T.b_Two_told⟩

end
end K02
namespace K02
open PySem L2 TL
section
variable {P : Program} {w : World} {K : PySem.W.Frag} {mg : Str → Option Value} {base : Heap} {A : Ads}
theorem ok_Expr_parts (T : Txt K mg A) {n : Nat} {C : Addr} (hC : C = A.Number ∨ C = A.Box) : FnOk P w K mg base CX0 (n + 2) A.Expr_parts A.Expr_parts_d ["self"] (spParts A.ec (n + 1) C) := by
  refine T.F_Expr_parts.ok sc_Expr_parts (fun vs H Q E h => ?_) (fun cdv A0 outer s H vs Q E hr h => ?_)
  · obtain ⟨e, v, rfl, ho, hc, hd, q⟩ := h
    rfl
  obtain ⟨e, v, rfl, ho, hc, hd, q⟩ := h
  refine ⟨_, (pss_one (ps_ret pe_int)), ?_⟩
  cases e with
  | num n => exact q
  | box s => exact q
  | cell e =>
    rcases hC with h | h
    · exact (T.ne_cell_num (hc.trans h)).elim
    · exact (T.ne_cell_box (hc.trans h)).elim
  | two w l r =>
    rcases hC with h | h
    · exact (T.ne_two_num (hc.trans h)).elim
    · exact (T.ne_two_box (hc.trans h)).elim

theorem ok_Cell_parts (T : Txt K mg A) {n : Nat} (D_parts : ∀ C, A.ec.Fam C → Disp P w K mg base CX0 "parts" (n + 1) C (spParts A.ec n C)) : FnOk P w K mg base CX0 (n + 2) A.Cell_parts A.Cell_parts_d ["self"] (spParts A.ec (n + 1) A.Cell) := by
  refine T.F_Cell_parts.ok sc_Cell_parts (fun vs H Q E h => ?_) (fun cdv A0 outer s H vs Q E hr h => ?_)
  · obtain ⟨e, v, rfl, ho, hc, hd, q⟩ := h
    rfl
  obtain ⟨e, v, rfl, ho, hc, hd, q⟩ := h
  refine ⟨_, (pss_one (ps_ret (pe_op op_add pe_int (pe_methP0 (pe_fld (pv 0) rfl) D_parts (hr.mono (by omega)) pass0)))), ?_⟩
  cases e with
  | num n => exact (T.ne_num_cell hc).elim
  | box z => exact (T.ne_box_cell hc).elim
  | cell e =>
    obtain ⟨p, dx, i, rfl, h1, h2⟩ := ho
    have hd' : e.depth ≤ n := Nat.le_of_succ_le_succ hd
    obtain ⟨p2, d2, f2, e2, g1, g2⟩ := h2.at (m := "parts") (by decide +kernel)
    refine ⟨_, rfl, p, A.Cell, dx, _, _, rfl, h1, T.cl_Cell, T.n_Cell_inner, rfl, p2, _, d2, f2, e2, g1, g2, A.ec.fam e, e, i, rfl, h2, rfl, hd', ?_⟩
    refine ⟨_, _, rfl, rfl, ?_⟩
    have e1 : (1 : Int) + (e.parts : Int) = ((Ex.cell e).parts : Int) := by show (1 : Int) + (e.parts : Int) = ((1 + e.parts : Nat) : Int); omega
    show Q (.int ((1 : Int) + (e.parts : Int))) H
    rw [e1]
    exact q
  | two wd l r => exact (T.ne_two_cell hc).elim

theorem ok_Two_parts (T : Txt K mg A) {n : Nat} (D_parts : ∀ C, A.ec.Fam C → Disp P w K mg base CX0 "parts" (n + 1) C (spParts A.ec n C)) : FnOk P w K mg base CX0 (n + 2) A.Two_parts A.Two_parts_d ["self"] (spParts A.ec (n + 1) A.Two) := by
  refine T.F_Two_parts.ok sc_Two_parts (fun vs H Q E h => ?_) (fun cdv A0 outer s H vs Q E hr h => ?_)
  · obtain ⟨e, v, rfl, ho, hc, hd, q⟩ := h
    rfl
  obtain ⟨e, v, rfl, ho, hc, hd, q⟩ := h
  refine ⟨_, (pss_one (ps_ret (pe_op op_add (pe_op op_add pe_int (pe_methP0 (pe_fld (pv 0) rfl) D_parts (hr.mono (by omega)) pass0)) (pe_methP0 (pe_fld (pv 0) rfl) D_parts (hr.mono (by omega)) pass0)))), ?_⟩
  cases e with
  | num n => exact (T.ne_num_two hc).elim
  | box z => exact (T.ne_box_two hc).elim
  | cell e => exact (T.ne_cell_two hc).elim
  | two wd l r =>
    obtain ⟨p, dx, a, b, rfl, h1, h2, h3⟩ := ho
    have hd' : max l.depth r.depth ≤ n := Nat.le_of_succ_le_succ hd
    obtain ⟨p2, d2, f2, e2, g1, g2⟩ := h2.at (m := "parts") (by decide +kernel)
    obtain ⟨p3, d3, f3, e3, k1, k2⟩ := h3.at (m := "parts") (by decide +kernel)
    refine ⟨_, rfl, p, A.Two, dx, _, _, rfl, h1, T.cl_Two, T.n_Two_left, rfl, p2, _, d2, f2, e2, g1, g2, A.ec.fam l, l, a, rfl, h2, rfl, by omega, ?_⟩
    refine ⟨_, _, rfl, rfl, ?_⟩
    refine ⟨_, rfl, p, A.Two, dx, _, _, rfl, h1, T.cl_Two, T.n_Two_right, rfl, p3, _, d3, f3, e3, k1, k2, A.ec.fam r, r, b, rfl, h3, rfl, by omega, ?_⟩
    refine ⟨_, _, rfl, rfl, ?_⟩
    have e1 : (1 : Int) + (l.parts : Int) + (r.parts : Int) = ((Ex.two wd l r).parts : Int) := by show (1 : Int) + (l.parts : Int) + (r.parts : Int) = ((1 + l.parts + r.parts : Nat) : Int); omega
    show Q (.int ((1 : Int) + (l.parts : Int) + (r.parts : Int))) H
    rw [e1]
    exact q

theorem disp_parts (T : Txt K mg A) : ∀ (n : Nat) (C : Addr), A.ec.Fam C → Disp P w K mg base CX0 "parts" (n + 1) C (spParts A.ec n C)
  | 0, C, h => by
    have no : ∀ vs H Q E, spParts A.ec 0 C vs H Q E → False := fun vs H Q E ⟨e, v, _, _, _, hd, _⟩ => by have := e.depth_pos; omega
    rcases h with rfl | rfl | rfl | rfl
    · exact ⟨_, A.Expr_parts_d, _, T.cl_Number, T.me_Number_parts, fn_none (ps := ["self"]) no, T.b_Expr_parts⟩
    · exact ⟨_, A.Expr_parts_d, _, T.cl_Box, T.me_Box_parts, fn_none (ps := ["self"]) no, T.b_Expr_parts⟩
    · exact ⟨_, A.Cell_parts_d, _, T.cl_Cell, T.me_Cell_parts, fn_none (ps := ["self"]) no, T.b_Cell_parts⟩
    · exact ⟨_, A.Two_parts_d, _, T.cl_Two, T.me_Two_parts, fn_none (ps := ["self"]) no, T.b_Two_parts⟩
  | n + 1, C, h => by
    have D := disp_parts T n
    rcases h with rfl | rfl | rfl | rfl
    · exact ⟨_, _, _, T.cl_Number, T.me_Number_parts, ok_Expr_parts T (.inl rfl), T.b_Expr_parts⟩
    · exact ⟨_, _, _, T.cl_Box, T.me_Box_parts, ok_Expr_parts T (.inr rfl), T.b_Expr_parts⟩
    · exact ⟨_, _, _, T.cl_Cell, T.me_Cell_parts, ok_Cell_parts T D, T.b_Cell_parts⟩
    · exact ⟨_, _, _, T.cl_Two, T.me_Two_parts, ok_Two_parts T D, T.b_Two_parts⟩

end
end K02
namespace K02
open PySem L2 TL
section
variable {P : Program} {w : World} {K : PySem.W.Frag} {mg : Str → Option Value} {base : Heap} {A : Ads}
theorem ok_expr_at (T : Txt K mg A) : ∀ n : Nat, FnOk P w K mg base (L2.CX P w) (n + 2) A.expr_at A.expr_at_d ["row", "at", "deep"] (spExprAt K A.ec A.NoProgram n)
| 0 => fn_none fun vs H Q E h => by
    obtain ⟨_, _, _, d, _, _, _, _, hd, _⟩ := h; omega
| n + 1 => by
  have G_expr_at := ok_expr_at T n
  have G_is_value_word := ok_is_value_word (P := P) (w := w) (base := base) T
  have G_Number_init := ok_Number_init (P := P) (w := w) (base := base) T
  have G_is_name := ok_is_name (P := P) (w := w) (base := base) T
  have G_Box_init := ok_Box_init (P := P) (w := w) (base := base) T
  have G_Cell_init := ok_Cell_init (P := P) (w := w) (base := base) T
  have G_Two_init := ok_Two_init (P := P) (w := w) (base := base) T
  refine T.F_expr_at.okX sc_expr_at (fun vs H Q E h => ?_) (fun cdv A0 outer s H vs Q E hr h => ?_)
  · obtain ⟨a, ws, i, d, rfl, hS, hlen, hws, hdn, hd7, q1, q2⟩ := h
    rfl
  obtain ⟨a, ws, i, d, rfl, hS, hlen, hws, hdn, hd7, q1, q2⟩ := h
  refine ⟨_, (pss_cons (ps_if (PW.pt (pw_or (pt_cmpR op_gt (pv 2) (pe_glob (v := .int 6) (by rfl) T.c_MOST_DEEP.choose_spec ⟨_, rfl⟩) (nomark _)) (pw_or1 (pt_cmpR op_ge (pv 1) (pe_callB call_lenK (by rfl) T.z_len (by decide +kernel) (pa_cons (pv 0) pa_nil)) (nomark _)))))
    (pss_one (ps_raise rfl (takes_of rfl rfl rfl rfl) (pmk_own PySem.F.excBase_ValueError T.x_NoProgram T.m_NoProgram T.kk_NoProgram (raises_own T.bb_NoProgram T.tt_NoProgram) (by exact rfl))))
    pss_nil)
   (pss_cons (ps_set (i := 3) sc_expr_at.nd rfl (Or.inl rfl) (pe_ix ix_list (pv 0) (pv 1) (fun _ _ => rfl)))
   (pss_cons (ps_if (pt_val (pe_call G_is_value_word (hr.mono (by omega)) rfl T.m_is_value_word T.F_is_value_word.kp T.b_is_value_word .nil pass0 (pa_cons (pv 3) pa_nil)))
    (pss_one (ps_ret (pe_tup (pa_cons (pe_make T.k_Number G_Number_init (hr.mono (by omega)) rfl T.m_Number T.b_Number_init .nil pass0 (pa_cons (pe_callTy call_int_str (by rfl) T.z_int (by decide +kernel) (pa_cons (pv 3) pa_nil)) pa_nil)) (pa_cons (pe_op op_add (pv 1) pe_int) pa_nil)))))
    pss_nil)
   (pss_cons (ps_if (pt_val (pe_call G_is_name (hr.mono (by omega)) rfl T.m_is_name T.F_is_name.kp T.b_is_name .nil pass0 (pa_cons (pv 3) pa_nil)))
    (pss_one (ps_ret (pe_tup (pa_cons (pe_make T.k_Box G_Box_init (hr.mono (by omega)) rfl T.m_Box T.b_Box_init .nil pass0 (pa_cons (pv 3) pa_nil)) (pa_cons (pe_op op_add (pv 1) pe_int) pa_nil)))))
    pss_nil)
   (pss_cons (ps_if (pt_cmpR op_eq (pv 3) pe_str (nomark _))
    (pss_cons (ps_asg (pe_call G_expr_at (hr.mono (by omega)) rfl T.m_expr_at T.F_expr_at.kp T.b_expr_at .nil (passes_call (takes_of rfl rfl rfl rfl) (fun _ _ _ _ h => h)) (pa_cons (pv 0) (pa_cons (pe_op op_add (pv 1) pe_int) (pa_cons (pe_op op_add (pv 2) pe_int) pa_nil)))) (pg_tup (by rfl) (pgs_cons (pg_name (i := 4) sc_expr_at.nd rfl (Or.inl rfl)) (pgs_cons (pg_name (i := 5) sc_expr_at.nd rfl (Or.inl rfl)) pgs_nil))))
   (pss_one (ps_ret (pe_tup (pa_cons (pe_make T.k_Cell G_Cell_init (hr.mono (by omega)) rfl T.m_Cell T.b_Cell_init .nil pass0 (pa_cons (pv 4) pa_nil)) (pa_cons (pv 5) pa_nil))))))
    pss_nil)
   (pss_cons (ps_if (pt_cmpR op_notIn_seq (pv 3) (pe_glob (v := .ref A.PAIRS) (by rfl) T.m_PAIRS rfl) (by rfl))
    (pss_one (ps_raise rfl (takes_of rfl rfl rfl rfl) (pmk_own PySem.F.excBase_ValueError T.x_NoProgram T.m_NoProgram T.kk_NoProgram (raises_own T.bb_NoProgram T.tt_NoProgram) (by exact rfl))))
    pss_nil)
   (pss_cons (ps_asg (pe_call G_expr_at (hr.mono (by omega)) rfl T.m_expr_at T.F_expr_at.kp T.b_expr_at .nil (passes_call (takes_of rfl rfl rfl rfl) (fun _ _ _ _ h => h)) (pa_cons (pv 0) (pa_cons (pe_op op_add (pv 1) pe_int) (pa_cons (pe_op op_add (pv 2) pe_int) pa_nil)))) (pg_tup (by rfl) (pgs_cons (pg_name (i := 6) sc_expr_at.nd rfl (Or.inl rfl)) (pgs_cons (pg_name (i := 7) sc_expr_at.nd rfl (Or.inl rfl)) pgs_nil))))
   (pss_cons (ps_asg (pe_call G_expr_at (hr.mono (by omega)) rfl T.m_expr_at T.F_expr_at.kp T.b_expr_at .nil (passes_call (takes_of rfl rfl rfl rfl) (fun _ _ _ _ h => h)) (pa_cons (pv 0) (pa_cons (pv 7) (pa_cons (pe_op op_add (pv 2) pe_int) pa_nil)))) (pg_tup (by rfl) (pgs_cons (pg_name (i := 8) sc_expr_at.nd rfl (Or.inl rfl)) (pgs_cons (pg_name (i := 5) sc_expr_at.nd rfl (Or.inl rfl)) pgs_nil))))
   (pss_one (ps_ret (pe_tup (pa_cons (pe_make T.k_Two G_Two_init (hr.mono (by omega)) rfl T.m_Two T.b_Two_init .nil pass0 (pa_cons (pv 3) (pa_cons (pv 6) (pa_cons (pv 8) pa_nil)))) (pa_cons (pv 5) pa_nil))))))))))))), ?_⟩
  refine ⟨_, rfl, _, _, rfl, rfl, _, rfl, ?_⟩
  refine iteD2 (fun c1 => ?_) (fun c1 => ?_)
  · have d0 : d = 0 := by omega
    subst d0
    exact q2 rfl H (Same.refl H)
  obtain ⟨d', rfl⟩ : ∃ d', d = d' + 1 := ⟨d - 1, by omega⟩
  refine ⟨_, rfl, _, rfl, a, _, rfl, .inl hS, _, _, rfl, rfl, _, rfl, ?_⟩
  rw [List.length_map]
  refine iteD2 (fun c2 => ?_) (fun c2 => ?_)
  · refine q2 ?_ H (Same.refl H)
    rw [List.drop_eq_nil_of_le (by omega)]
    rfl
  obtain ⟨w1, r1, hw⟩ : ∃ w1 r1, ws.drop i = w1 :: r1 := ⟨_, _, List.drop_eq_getElem_cons (by omega)⟩
  obtain ⟨hi, hat, hdr, hrl, hmem⟩ := at_str hw
  rw [hw, parseE_cons] at q1 q2
  have hl1 := hws _ hmem
  refine ⟨_, rfl, _, rfl, a, _, _, _, rfl, rfl, hS, hat, ?_⟩
  refine ⟨_, rfl, w1, rfl, hl1, fun H1 s1 => ⟨_, rfl, iteB2 (fun c3 => ?_) (fun c3 => ?_)⟩⟩
  · rw [if_pos c3] at q1
    have hv := valW_int c3
    refine ⟨_, rfl, w1, valOf w1, rfl, hv.1, hv.2.1, fun x dx hx hdx _ => mk_init hx hdx fun H2 s2 h2 => ?_⟩
    refine ⟨_, rfl, _, _, rfl, rfl, by show 2 ≤ sizeLine; decide, fun t ht => ?_⟩
    refine q1 _ _ rfl t _ (.ref x) (s1.trans (s2.trans (same_new ht))) ?_ ⟨x, dx, rfl, (same_new ht) _ _ h2⟩
    rw [upd_same, hrl]
    have : ((ws.length - (ws.length - (i + 1)) : Nat) : Int) = (i : Int) + 1 := by omega
    rw [this]
  rw [if_neg (by rw [c3]; decide)] at q1 q2
  refine ⟨_, rfl, w1, rfl, hl1, fun H2 s2 => ⟨_, rfl, iteB2 (fun c4 => ?_) (fun c4 => ?_)⟩⟩
  · rw [if_pos c4] at q1
    refine ⟨_, rfl, fun x dx hx hdx _ => mk_init hx hdx fun H3 s3 h3 => ?_⟩
    refine ⟨_, rfl, _, _, rfl, rfl, by show 2 ≤ sizeLine; decide, fun t ht => ?_⟩
    refine q1 _ _ rfl t _ (.ref x) (s1.trans (s2.trans (s3.trans (same_new ht)))) ?_ ⟨x, dx, rfl, (same_new ht) _ _ h3⟩
    rw [upd_same, hrl]
    have : ((ws.length - (ws.length - (i + 1)) : Nat) : Int) = (i : Int) + 1 := by omega
    rw [this]
  rw [if_neg (by rw [c4]; decide)] at q1 q2
  have s12 := s1.trans s2
  have e1 : (i : Int) + 1 = ((i + 1 : Nat) : Int) := by omega
  have e2 : (7 : Int) - ((d' + 1 : Nat) : Int) + 1 = 7 - (d' : Int) := by omega
  refine ⟨_, rfl, rfl, _, rfl, ?_⟩
  refine iteD2 (fun c5 => ?_) (fun c5 => ?_)
  · rw [if_pos (V.str.inj c5)] at q1 q2
    refine ⟨_, rfl, _, rfl, _, _, rfl, rfl, _, rfl, _, _, rfl, rfl, a, ws, i + 1, d', (by show [V.ref a, V.int ((i : Int) + 1), V.int ((7 : Int) - ((d' + 1 : Nat) : Int) + 1)] = _; rw [e1, e2]), s12.seq hS, hlen, hws, by omega, by omega, fun e3 r3 p3 t H3 v s3 ht ho => ?_, fun p3 H3 s3 => ?_⟩
    · rw [hdr] at p3
      rw [p3] at q1
      refine ⟨t, _, rfl, SqT.of ht, rfl, _, _, rfl, _, _, rfl, rfl, ?_⟩
      refine ⟨_, rfl, fun x dx hx hdx _ => mk_init hx hdx fun H4 s4 h4 => ?_⟩
      refine ⟨_, rfl, by show 2 ≤ sizeLine; decide, fun t2 ht2 => ?_⟩
      exact q1 _ _ rfl t2 _ (.ref x) (s12.trans (s3.trans (s4.trans (same_new ht2)))) upd_same ⟨x, dx, v, rfl, (same_new ht2) _ _ h4, ho.same (s4.trans (same_new ht2))⟩
    · rw [hdr] at p3
      rw [p3] at q2
      exact q2 rfl H3 (s12.trans s3)
  rw [if_neg (fun e => c5 (congrArg V.str e))] at q1 q2
  refine ⟨_, rfl, A.PAIRS, PAIRW.map V.str, rfl, .inr (T.q_PAIRS _), rfl, rfl, _, rfl, ?_⟩
  rw [if_pos rfl, inV_str]
  refine iteN2 (fun c6 => ?_) (fun c6 => ?_)
  · rw [if_neg c6] at q2
    exact q2 rfl H2 s12
  rw [if_pos c6] at q1 q2
  refine ⟨_, rfl, _, rfl, _, _, rfl, rfl, _, rfl, _, _, rfl, rfl, a, ws, i + 1, d', (by show [V.ref a, V.int ((i : Int) + 1), V.int ((7 : Int) - ((d' + 1 : Nat) : Int) + 1)] = _; rw [e1, e2]), s12.seq hS, hlen, hws, by omega, by omega, fun e3 r3 p3 t H3 v s3 ht ho => ?_, fun p3 H3 s3 => ?_⟩
  · rw [hdr] at p3
    rw [p3] at q1 q2
    have pa := parse_at (i := i + 1) (d := d') (ws := ws) (by rw [hdr]; exact p3)
    refine ⟨t, _, rfl, SqT.of ht, rfl, _, _, rfl, _, _, rfl, rfl, ?_⟩
    refine ⟨_, rfl, _, rfl, _, rfl, _, _, rfl, rfl, a, ws, ws.length - r3.length, d', (by show [V.ref a, V.int _, V.int ((7 : Int) - ((d' + 1 : Nat) : Int) + 1)] = _; rw [e2]), s3.seq (s12.seq hS), hlen, hws, by omega, by omega, fun e4 r4 p4 t2 H4 v2 s4 ht2 ho2 => ?_, fun p4 H4 s4 => ?_⟩
    · rw [pa.2.2] at p4
      simp only at q1
      rw [p4] at q1
      refine ⟨t2, _, rfl, SqT.of ht2, rfl, _, _, rfl, _, _, rfl, rfl, ?_⟩
      refine ⟨_, rfl, _, rfl, _, rfl, fun x dx hx hdx _ => mk_two hx hdx fun H5 s5 h5 => ?_⟩
      refine ⟨_, rfl, by show 2 ≤ sizeLine; decide, fun t3 ht3 => ?_⟩
      exact q1 _ _ rfl t3 _ (.ref x) (s12.trans (s3.trans (s4.trans (s5.trans (same_new ht3))))) upd_same ⟨x, dx, v, v2, rfl, (same_new ht3) _ _ h5, ho.same (s4.trans (s5.trans (same_new ht3))), ho2.same (s5.trans (same_new ht3))⟩
    · rw [pa.2.2] at p4
      simp only at q2
      rw [p4] at q2
      exact q2 rfl H4 (s12.trans (s3.trans s4))
  · rw [hdr] at p3
    rw [p3] at q2
    exact q2 rfl H3 (s12.trans s3)

end
end K02
namespace K02
open PySem L2 TL
section
variable {P : Program} {w : World} {K : PySem.W.Frag} {mg : Str → Option Value} {base : Heap} {A : Ads}
theorem ok_exprs_of (T : Txt K mg A) : FnOk P w K mg base (L2.CX P w) 11 A.exprs_of A.exprs_of_d ["row"] (spExprs K A.ec A.NoProgram) := by
  have G_expr_at := ok_expr_at (P := P) (w := w) (base := base) T 8
  have D_parts := disp_parts (P := P) (w := w) (base := base) T 7
  refine T.F_exprs_of.okX sc_exprs_of (fun vs H Q E h => ?_) (fun cdv A0 outer s H vs Q E hr h => ?_)
  · obtain ⟨a, ws, rfl, hS, hlen, hws, q1, q2⟩ := h
    rfl
  obtain ⟨a, ws, rfl, hS, hlen, hws, q1, q2⟩ := h
  refine ⟨_, (pss_cons (ps_set (i := 1) sc_exprs_of.nd rfl (Or.inl rfl) (pe_lst pa_nil))
   (pss_cons (ps_set (i := 2) sc_exprs_of.nd rfl (Or.inl rfl) pe_int)
   (pss_cons (ps_while (passes_of rfl) (pt_cmpR op_lt (pv 2) (pe_callB call_lenK (by rfl) T.z_len (by decide +kernel) (pa_cons (pv 0) pa_nil)) (nomark _))
    (pss_cons (ps_asg (pe_call G_expr_at (hr.mono (by decide)) rfl T.m_expr_at T.F_expr_at.kp T.b_expr_at .nil (passes_call (takes_of rfl rfl rfl rfl) (fun _ _ _ _ h => h)) (pa_cons (pv 0) (pa_cons (pv 2) (pa_cons pe_int pa_nil)))) (pg_tup (by rfl) (pgs_cons (pg_name (i := 3) sc_exprs_of.nd rfl (Or.inl rfl)) (pgs_cons (pg_name (i := 2) sc_exprs_of.nd rfl (Or.inl rfl)) pgs_nil))))
   (pss_cons (ps_if (pt_cmpR op_gt (pe_methP0 (pv 3) D_parts (hr.mono (by decide)) pass0) (pe_glob (v := .int 15) (by rfl) T.c_MOST_PARTS.choose_spec ⟨_, rfl⟩) (nomark _))
    (pss_one (ps_raise rfl (takes_of rfl rfl rfl rfl) (pmk_own PySem.F.excBase_ValueError T.x_NoProgram T.m_NoProgram T.kk_NoProgram (raises_own T.bb_NoProgram T.tt_NoProgram) (by exact rfl))))
    pss_nil)
   (pss_one (ps_expr (pe_bm PySem.F.plainAttrs_list PySem.F.slot_list_append PySem.F.type_list_append mt_append (pv 1) (pa_cons (pv 3) pa_nil)))))))
   (pss_one (ps_ret (pv 1)))))), ?_⟩
  refine ⟨by show 0 ≤ sizeLine; decide, fun l hl => ?_⟩
  refine while_m (fun m σ H' => ∃ (i : Nat) (es : List Ex) (os : List V) (z : Option V), σ = [some (.ref a), some (.ref l), some (.int i), z] ∧ m = ws.length - i ∧ i ≤ ws.length ∧ Same H H' ∧ H' l = some (.lst os) ∧ os.length ≤ i ∧ AllE A.ec H' es os ∧ after es (parseAll (ws.drop i).length (ws.drop i)) = parseAll ws.length ws) ws.length
    ⟨0, [], [], none, rfl, rfl, Nat.zero_le _, same_new hl, upd_same, Nat.le_refl _, .nil, by rw [List.drop_zero]; cases parseAll ws.length ws <;> rfl⟩ ?_
  rintro m σ H1 ⟨i, es, os, z, rfl, rfl, hi, s1, h1, hos, ha, hp⟩
  refine ⟨_, rfl, _, rfl, a, _, rfl, .inl (s1.seq hS), _, _, rfl, rfl, _, rfl, ?_⟩
  rw [List.length_map]
  refine iteD2 (fun c1 => ?_) (fun c1 => ?_)
  · refine ⟨fun σ' H' => ∃ (i' : Nat) (es : List Ex) (os : List V) (z : Option V), i < i' ∧ σ' = [some (.ref a), some (.ref l), some (.int i'), z] ∧ i' ≤ ws.length ∧ Same H H' ∧ H' l = some (.lst os) ∧ os.length ≤ i' ∧ AllE A.ec H' es os ∧ after es (parseAll (ws.drop i').length (ws.drop i')) = parseAll ws.length ws,
      fun σ' H' ⟨i', es, os, z, hi', hσ, k⟩ => ⟨ws.length - i', by omega, i', es, os, z, hσ, rfl, k⟩, ?_⟩
    obtain ⟨w1, r1, hw⟩ : ∃ w1 r1, ws.drop i = w1 :: r1 := ⟨_, _, List.drop_eq_getElem_cons (by omega)⟩
    rw [hw, parseAll_step, ← hw] at hp
    refine ⟨_, rfl, _, rfl, a, ws, i, 6, rfl, s1.seq hS, hlen, hws, by decide, by decide, fun e r p t H2 v s2 ht ho => ?_, fun p H2 s2 => ?_⟩
    · rw [p] at hp
      have pa := parse_at p
      simp only at hp
      refine ⟨t, _, rfl, SqT.of ht, rfl, _, _, rfl, _, _, rfl, rfl, ?_⟩
      obtain ⟨p2, d2, f2, e2, g1, g2⟩ := ho.at (m := "parts") (by decide +kernel)
      refine ⟨_, rfl, p2, _, d2, f2, e2, g1, g2, A.ec.fam e, e, v, by rw [e2]; rfl, ho, rfl, by have := (parse_wf p).2.1; omega, ?_⟩
      refine ⟨_, _, rfl, rfl, _, rfl, ?_⟩
      refine iteD2 (fun c2 => ?_) (fun c2 => ?_)
      · rw [if_neg (by omega)] at hp
        exact q2 hp.symm H2 (s1.trans s2)
      · rw [if_pos (by omega)] at hp
        have h2 := s2 _ _ h1
        refine ⟨_, rfl, .inl ⟨rfl, _, SqL.of h2⟩, _, rfl, l, _, _, rfl, rfl, h2, Nat.lt_of_le_of_lt (Nat.le_trans hos (Nat.le_trans hi hlen)) (by decide), ?_⟩
        have kx : ∀ b o, H b = some o → upd H2 l (.lst (os ++ [v])) b = some o := fun b o hb => by rw [upd_ne (ne_of_none hb hl)]; exact (s1.trans s2) b o hb
        have hol : ∀ {e : Ex} {v : V} {X : Hp}, Same X H2 → ObjE A.ec X e v → ObjE A.ec (upd H2 l (.lst (os ++ [v]))) e v := fun sx hx => objE_upd h2 (hx.same sx)
        refine ⟨ws.length - r.length, es ++ [e], os ++ [v], _, pa.1, rfl, pa.2.1, kx, upd_same, by rw [List.length_append, List.length_singleton]; omega, allE_snoc_upd h2 (ha.same s2) ho, ?_⟩
        rw [pa.2.2, ← hp]
        cases q : parseAll r.length r with
        | none => rfl
        | some fs => show some ((es ++ [e]) ++ fs) = some (es ++ (e :: fs)); rw [List.append_assoc]; rfl
    · rw [p] at hp
      exact q2 hp.symm H2 (s1.trans s2)
  · have ei : i = ws.length := by omega
    subst ei
    rw [List.drop_length] at hp
    have hp' : some es = parseAll ws.length ws := by
      rw [← hp]; show _ = some (es ++ []); rw [List.append_nil]
    exact ⟨_, rfl, q1 es hp'.symm l H1 os s1 h1 ha⟩

end
end K02
namespace K02
open PySem L2 TL
section
variable {P : Program} {w : World} {K : PySem.W.Frag} {mg : Str → Option Value} {base : Heap} {A : Ads}
theorem ok_read_expr (T : Txt K mg A) : FnOk P w K mg base (L2.CX P w) 12 A.read_expr A.read_expr_d ["text"] (spReadAny K A.ec A.NoProgram) := by
  have G_exprs_of := ok_exprs_of (P := P) (w := w) (base := base) T
  refine T.F_read_expr.okX sc_read_expr (fun vs H Q E h => ?_) (fun cdv A0 outer s H vs Q E hr h => ?_)
  · obtain ⟨x, rfl, h⟩ := h
    rfl
  obtain ⟨x, rfl, h⟩ := h
  refine ⟨_, (pss_cons (ps_if (pt_not (pt_val (pe_callB call_isi (by rfl) T.z_isinstance (by decide +kernel) (pa_cons (pv 0) (pa_cons (pe_bltn (v := .ty "str") (by rfl) T.z_str (by decide +kernel) rfl) pa_nil)))))
    (pss_one (ps_raise rfl (takes_of rfl rfl rfl rfl) (pmk_own PySem.F.excBase_ValueError T.x_NoProgram T.m_NoProgram T.kk_NoProgram (raises_own T.bb_NoProgram T.tt_NoProgram) (by exact rfl))))
    pss_nil)
   (pss_cons (ps_set (i := 1) sc_read_expr.nd rfl (Or.inl rfl) (pe_call G_exprs_of (hr.mono (by decide)) rfl T.m_exprs_of T.F_exprs_of.kp T.b_exprs_of .nil (passes_call (takes_of rfl rfl rfl rfl) (fun _ _ _ _ h => h)) (pa_cons (pe_split (pv 0) pe_str) pa_nil)))
   (pss_cons (ps_if (pt_cmpR op_ne (pe_callB call_lenK (by rfl) T.z_len (by decide +kernel) (pa_cons (pv 1) pa_nil)) pe_int (nomark _))
    (pss_one (ps_raise rfl (takes_of rfl rfl rfl rfl) (pmk_own PySem.F.excBase_ValueError T.x_NoProgram T.m_NoProgram T.kk_NoProgram (raises_own T.bb_NoProgram T.tt_NoProgram) (by exact rfl))))
    pss_nil)
   (pss_one (ps_ret (pe_ix ix_list (pv 1) pe_int (fun _ _ => rfl))))))), ?_⟩
  rcases h with ⟨s, rfl, hl, q1, q2⟩ | ⟨t, ht, hk, q⟩
  rotate_left
  · exact ⟨_, rfl, _, _, _, _, false, rfl, .ty _, ht, hk, _, rfl, iteT q⟩

  refine ⟨_, rfl, _, _, _, _, true, rfl, .ty _, .base (.str _), kit_ty (by decide +kernel), _, rfl, iteF ?_⟩
  have hs := split_small (s := s) hl
  refine ⟨_, rfl, ⟨_, rfl⟩, s, _, rfl, rfl, (by decide +kernel), Nat.le_trans (Nat.add_le_add_right hl 2) (by decide), fun l hn => ?_⟩
  refine ⟨l, Txt.split s " ", rfl, SqL.of upd_same, hs.1, hs.2, fun es p t H1 os s1 h1 ha => ?_, fun p H1 s1 => ?_⟩
  · refine ⟨_, rfl, t, _, rfl, .inl (SqL.of h1), rfl, _, rfl, ?_⟩
    have hlen := ha.length
    refine iteN2 (fun c => ?_) (fun c => ?_)
    · refine q2 (fun e pe => ?_) H1 ((same_new hn).trans s1)
      rw [p] at pe
      have : es = [e] := Option.some.inj pe
      rw [this] at hlen
      exact c (congrArg V.int (by rw [← hlen]; rfl))
    · have c' := V.int.inj c
      cases ha with
      | nil => simp at c'
      | cons o r =>
        cases r with
        | cons o2 r2 => simp at c'; omega
        | nil => exact ⟨_, rfl, t, _, _, _, rfl, rfl, SqL.of h1, rfl, q1 _ p _ H1 ((same_new hn).trans s1) o⟩
  · exact q2 (fun e pe => by rw [p] at pe; cases pe) H1 ((same_new hn).trans s1)

end
end K02
namespace K02
open PySem L2 TL
section
variable {P : Program} {w : World} {K : PySem.W.Frag} {mg : Str → Option Value} {base : Heap} {A : Ads}
theorem ok_l_cell (T : Txt K mg A) : FnOk P w K mg base CX0 1 A.l_cell A.l_cell_d ["_law_script", "_law_k"] (spCell K) := by
  refine T.F_l_cell.ok sc_l_cell (fun vs H Q E h => ?_) (fun cdv A0 outer s H vs Q E hr h => ?_)
  · obtain ⟨a, ns, k, rfl, hS, hk, q⟩ := h
    rfl
  obtain ⟨a, ns, k, rfl, hS, hk, q⟩ := h
  refine ⟨_, (pss_cons (ps_if (pt_cmpR op_lt (pv 1) (pe_callB call_lenK (by rfl) T.z_len (by decide +kernel) (pa_cons (pv 0) pa_nil)) (nomark _))
    (pss_one (ps_ret (pe_ix ix_list (pv 0) (pv 1) (fun _ _ => rfl))))
    pss_nil)
   (pss_one (ps_ret pe_int))), ?_⟩
  refine ⟨_, rfl, _, rfl, a, _, rfl, .inl hS, _, _, rfl, rfl, _, rfl, ?_⟩
  refine iteD2 (fun c => ?_) (fun c => ?_)
  · obtain ⟨v, hv⟩ := at_int (ns := ns) hk (by rw [List.length_map] at c; exact c)
    exact ⟨_, rfl, _, rfl, a, _, _, _, rfl, rfl, hS, hv, q v⟩
  · exact q 0

theorem ok_l_mixed (T : Txt K mg A) : FnOk P w K mg base CX0 1 A.l_mixed A.l_mixed_d ["_law_cell_here", "_law_k"] spI2 := by
  refine T.F_l_mixed.ok sc_l_mixed (fun vs H Q E h => ?_) (fun cdv A0 outer s H vs Q E hr h => ?_)
  · obtain ⟨a, b, rfl, q⟩ := h
    rfl
  obtain ⟨a, b, rfl, q⟩ := h
  refine ⟨_, (pss_cons (ps_set (i := 2) sc_l_mixed.nd rfl (Or.inl rfl) (pe_op op_mod (pe_op op_mul (pe_op op_add (pe_op op_add (pv 0) (pe_op op_mul pe_int (pv 1))) pe_int) pe_int) pe_int))
   (pss_one (ps_ret (pe_op op_mod (pe_op op_mul (pv 2) (pe_op op_add (pe_op op_fdiv (pv 2) pe_int) pe_int)) pe_int)))), ?_⟩
  walk_at "rd"
  exact q _

theorem ok_l_twice (T : Txt K mg A) : FnOk P w K mg base CX0 2 A.l_twice A.l_twice_d ["_law_cell_here", "_law_k"] spI2 := by
  have G_l_mixed := ok_l_mixed (P := P) (w := w) (base := base) T
  refine T.F_l_twice.ok sc_l_twice (fun vs H Q E h => ?_) (fun cdv A0 outer s H vs Q E hr h => ?_)
  · obtain ⟨a, b, rfl, q⟩ := h
    rfl
  obtain ⟨a, b, rfl, q⟩ := h
  refine ⟨_, (pss_cons (ps_set (i := 2) sc_l_twice.nd rfl (Or.inl rfl) (pe_op op_mod (pe_op op_mul (pe_op op_add (pe_op op_add (pe_call G_l_mixed (hr.mono (by decide)) rfl T.m_l_mixed T.F_l_mixed.kp T.b_l_mixed .nil pass0 (pa_cons (pv 0) (pa_cons (pv 1) pa_nil))) (pe_op op_mul pe_int (pv 1))) pe_int) pe_int) pe_int))
   (pss_one (ps_ret (pe_op op_mod (pe_op op_mul (pv 2) (pe_op op_add (pe_op op_fdiv (pv 2) pe_int) pe_int)) pe_int)))), ?_⟩
  walk_at "rd"
  refine ⟨_, _, rfl, fun n => ?_⟩
  walk_at "rd"
  exact q _

theorem ok_l_well (T : Txt K mg A) : FnOk P w K mg base CX0 2 A.l_well A.l_well_d ["_law_script", "_law_k"] (spWell K) := by
  have G_l_cell := ok_l_cell (P := P) (w := w) (base := base) T
  refine T.F_l_well.ok sc_l_well (fun vs H Q E h => ?_) (fun cdv A0 outer s H vs Q E hr h => ?_)
  · obtain ⟨a, ns, k, rfl, hS, hk, q⟩ := h
    rfl
  obtain ⟨a, ns, k, rfl, hS, hk, q⟩ := h
  refine ⟨_, (pss_one (ps_ret (pe_lst (pa_cons (pe_op op_mod (pe_call G_l_cell (hr.mono (by decide)) rfl T.m_l_cell T.F_l_cell.kp T.b_l_cell .nil pass0 (pa_cons (pv 0) (pa_cons pe_int pa_nil))) pe_int) (pa_cons (pe_call G_l_cell (hr.mono (by decide)) rfl T.m_l_cell T.F_l_cell.kp T.b_l_cell .nil pass0 (pa_cons (pv 0) (pa_cons (pv 1) pa_nil))) (pa_cons pe_int (pa_cons (pe_op op_add (pe_call G_l_cell (hr.mono (by decide)) rfl T.m_l_cell T.F_l_cell.kp T.b_l_cell .nil pass0 (pa_cons (pv 0) (pa_cons (pv 1) pa_nil))) (pv 1)) pa_nil))))))), ?_⟩
  refine ⟨_, rfl, a, ns, 0, rfl, hS, Int.le_refl 0, fun n1 => ?_⟩
  walk_at "rd"
  refine ⟨a, ns, k, rfl, hS, hk, fun n2 => ?_⟩
  walk_at "rd"
  refine ⟨a, ns, k, rfl, hS, hk, fun n3 => ?_⟩
  walk_at "rd"
  exact ⟨by show 4 ≤ sizeLine; decide, fun p hp => q p _ hp (same_new hp) ⟨_, _, _, _, upd_same⟩⟩

theorem ok_l_draw (T : Txt K mg A) : FnOk P w K mg base CX0 3 A.l_draw A.l_draw_d ["_law_well_here", "_law_most"] spDraw := by
  have G_l_twice := ok_l_twice (P := P) (w := w) (base := base) T
  refine T.F_l_draw.ok sc_l_draw (fun vs H Q E h => ?_) (fun cdv A0 outer s H vs Q E hr h => ?_)
  · obtain ⟨p, m, rfl, ⟨a, b, c, d, h⟩, hm0, hm1, q⟩ := h
    rfl
  obtain ⟨p, m, rfl, ⟨a, b, c, d, h⟩, hm0, hm1, q⟩ := h
  refine ⟨_, (pss_cons (ps_if (PW.pt (pw_and (pt_cmpR op_eq (pe_ix ix_list (pv 0) pe_int (fun _ _ => rfl)) pe_int (nomark _)) (pw_and1 (pt_cmpR op_notIn_seq (pe_ix ix_list (pv 0) pe_int (fun _ _ => rfl)) (pe_tup (pa_cons pe_int (pa_cons (pe_un un_neg pe_int) pa_nil))) (by rfl)))))
    (pss_cons (ps_set (i := 2) sc_l_draw.nd rfl (Or.inl rfl) (pe_op op_modN (pe_ix ix_list (pv 0) pe_int (fun _ _ => rfl)) (pv 1)))
   (pss_cons (ps_asg (pe_op op_fdivN (pe_ix ix_list (pv 0) pe_int (fun _ _ => rfl)) (pv 1)) (pg_sub (pv 0) pe_int set_list))
   (pss_one (ps_ret (pv 2)))))
    pss_nil)
   (pss_cons (ps_asg (pe_op op_add (pe_ix ix_list (pv 0) pe_int (fun _ _ => rfl)) pe_int) (pg_sub (pv 0) pe_int set_list))
   (pss_one (ps_ret (pe_op op_modN (pe_call G_l_twice (hr.mono (by decide)) rfl T.m_l_twice T.F_l_twice.kp T.b_l_twice .nil pass0 (pa_cons (pe_ix ix_list (pv 0) pe_int (fun _ _ => rfl)) (pa_cons (pe_ix ix_list (pv 0) pe_int (fun _ _ => rfl)) pa_nil))) (pv 1)))))), ?_⟩
  have hm : m ≠ 0 := by omega
  refine ⟨_, rfl, p, _, _, _, rfl, rfl, SqL.of h, rfl, rfl, _, rfl, ?_⟩
  refine iteD2 (fun c1 => ?_) (fun c1 => ?_)
  · refine ⟨_, rfl, p, _, _, _, rfl, rfl, SqL.of h, rfl, _, rfl, by show 2 ≤ sizeLine; decide, fun t ht => ?_⟩
    have npt : p ≠ t := ne_of_none h ht
    have h1 : ∀ o, upd H t o p = some (.lst [.int a, .int b, .int c, .int d]) := fun o => by rw [upd_ne npt]; exact h
    refine ⟨t, _, rfl, .inr (SqT.of upd_same), rfl, rfl, _, rfl, ?_⟩
    refine iteB2 (fun c2 => ?_) (fun c2 => ?_)
    · refine ⟨_, rfl, p, _, _, _, rfl, rfl, SqL.of (h1 _), rfl, _, rfl, _, _, rfl, rfl, hm, ?_⟩
      refine ⟨_, rfl, p, _, _, _, rfl, rfl, SqL.of (h1 _), rfl, _, rfl, _, _, rfl, rfl, ⟨hm, by omega⟩, ?_⟩
      refine ⟨_, rfl, p, _, _, 1, rfl, rfl, h1 _, rfl, _, rfl, ?_⟩
      exact q _ _ (Int.fmod_nonneg_of_pos _ hm0) (Int.fmod_lt_of_pos _ hm0) ((keepX_of (same_new ht)).trans keepX_upd) ⟨_, _, _, _, upd_same⟩
    · refine ⟨_, rfl, p, _, _, _, rfl, rfl, SqL.of (h1 _), rfl, _, _, rfl, rfl, _, rfl, p, _, _, 2, rfl, rfl, h1 _, rfl, ?_⟩
      refine ⟨_, rfl, p, _, _, _, rfl, rfl, SqL.of upd_same, rfl, _, rfl, p, _, _, _, rfl, rfl, SqL.of upd_same, rfl, _, _, rfl, fun n => ?_⟩
      refine ⟨_, rfl, _, _, rfl, rfl, hm, ?_⟩
      exact q _ _ (Int.fmod_nonneg_of_pos _ hm0) (Int.fmod_lt_of_pos _ hm0) ((keepX_of (same_new ht)).trans keepX_upd) ⟨_, _, _, _, upd_same⟩
  · refine ⟨_, rfl, p, _, _, _, rfl, rfl, SqL.of h, rfl, _, _, rfl, rfl, _, rfl, p, _, _, 2, rfl, rfl, h, rfl, ?_⟩
    refine ⟨_, rfl, p, _, _, _, rfl, rfl, SqL.of upd_same, rfl, _, rfl, p, _, _, _, rfl, rfl, SqL.of upd_same, rfl, _, _, rfl, fun n => ?_⟩
    refine ⟨_, rfl, _, _, rfl, rfl, hm, ?_⟩
    exact q _ _ (Int.fmod_nonneg_of_pos _ hm0) (Int.fmod_lt_of_pos _ hm0) keepX_upd ⟨_, _, _, _, upd_same⟩

end
end K02
namespace K02
open PySem L2 TL
section
variable {P : Program} {w : World} {K : PySem.W.Frag} {mg : Str → Option Value} {base : Heap} {A : Ads}
theorem ok_l_value (T : Txt K mg A) : FnOk P w K mg base CX0 4 A.l_value A.l_value_d ["_law_well_here"] spValue := by
  have G_l_draw := ok_l_draw (P := P) (w := w) (base := base) T
  refine T.F_l_value.ok sc_l_value (fun vs H Q E h => ?_) (fun cdv A0 outer s H vs Q E hr h => ?_)
  · obtain ⟨p, rfl, W, q⟩ := h
    rfl
  obtain ⟨p, rfl, W, q⟩ := h
  refine ⟨_, (pss_cons (ps_set (i := 1) sc_l_value.nd rfl (Or.inl rfl) (pe_call G_l_draw (hr.mono (by decide)) rfl T.m_l_draw T.F_l_draw.kp T.b_l_draw .nil pass0 (pa_cons (pv 0) (pa_cons pe_int pa_nil))))
   (pss_cons (ps_if (pt_cmpR op_eq (pv 1) pe_int (nomark _))
    (pss_one (ps_ret (pe_call G_l_draw (hr.mono (by decide)) rfl T.m_l_draw T.F_l_draw.kp T.b_l_draw .nil pass0 (pa_cons (pv 0) (pa_cons (pe_op op_pow pe_int pe_int) pa_nil)))))
    pss_nil)
   (pss_cons (ps_if (pt_cmpR op_eq (pv 1) pe_int (nomark _))
    (pss_one (ps_ret (pe_op op_sub pe_int (pe_call G_l_draw (hr.mono (by decide)) rfl T.m_l_draw T.F_l_draw.kp T.b_l_draw .nil pass0 (pa_cons (pv 0) (pa_cons pe_int pa_nil))))))
    pss_nil)
   (pss_one (ps_ret (pe_call G_l_draw (hr.mono (by decide)) rfl T.m_l_draw T.F_l_draw.kp T.b_l_draw .nil pass0 (pa_cons (pv 0) (pa_cons pe_int pa_nil)))))))), ?_⟩
  refine ⟨_, rfl, p, 4, rfl, W, by decide, by decide, fun n H1 hn0 hn1 k1 W1 => ?_⟩
  refine ⟨_, rfl, rfl, _, rfl, ?_⟩
  refine iteD2 (fun c1 => ?_) (fun c1 => ?_)
  · refine ⟨_, rfl, _, _, rfl, rfl, ⟨by decide, by decide, by decide⟩, p, _, rfl, W1, by decide, by decide, fun m H2 hm0 hm1 k2 W2 => ?_⟩
    have e6 : (10 : Int) ^ ((6 : Int).toNat) = 1000000 := by decide
    rw [e6] at hm1
    exact q m H2 hm0 hm1 (k1.trans k2) W2
  refine ⟨_, rfl, rfl, _, rfl, ?_⟩
  refine iteD2 (fun c2 => ?_) (fun c2 => ?_)
  · refine ⟨_, rfl, p, 3, rfl, W1, by decide, by decide, fun m H2 hm0 hm1 k2 W2 => ?_⟩
    exact ⟨_, _, rfl, rfl, q _ H2 (by omega) (by omega) (k1.trans k2) W2⟩
  · refine ⟨_, rfl, p, 4, rfl, W1, by decide, by decide, fun m H2 hm0 hm1 k2 W2 => ?_⟩
    exact q m H2 hm0 (by omega) (k1.trans k2) W2

theorem ok_l_name (T : Txt K mg A) : FnOk P w K mg base CX0 4 A.l_name A.l_name_d ["_law_well_here"] spName := by
  have G_l_draw := ok_l_draw (P := P) (w := w) (base := base) T
  refine T.F_l_name.ok sc_l_name (fun vs H Q E h => ?_) (fun cdv A0 outer s H vs Q E hr h => ?_)
  · obtain ⟨p, rfl, W, q⟩ := h
    rfl
  obtain ⟨p, rfl, W, q⟩ := h
  refine ⟨_, (pss_cons (ps_if (pt_cmpR op_eq (pe_call G_l_draw (hr.mono (by decide)) rfl T.m_l_draw T.F_l_draw.kp T.b_l_draw .nil pass0 (pa_cons (pv 0) (pa_cons pe_int pa_nil))) pe_int (nomark _))
    (pss_cons (ps_set (i := 1) sc_l_name.nd rfl (Or.inl rfl) (pe_lst (pa_cons pe_str (pa_cons pe_str (pa_cons pe_str (pa_cons pe_str (pa_cons pe_str (pa_cons pe_str (pa_cons pe_str (pa_cons pe_str (pa_cons pe_str (pa_cons pe_str (pa_cons pe_str (pa_cons pe_str pa_nil))))))))))))))
   (pss_one (ps_ret (pe_ix ix_list (pv 1) (pe_call G_l_draw (hr.mono (by decide)) rfl T.m_l_draw T.F_l_draw.kp T.b_l_draw .nil pass0 (pa_cons (pv 0) (pa_cons pe_int pa_nil))) (fun _ _ => rfl)))))
    pss_nil)
   (pss_cons (ps_set (i := 2) sc_l_name.nd rfl (Or.inl rfl) pe_str)
   (pss_cons (ps_for PassesOwn.never rfl (pi_range1 (by rfl) T.z_range (pa_cons (pe_op op_add pe_int (pe_call G_l_draw (hr.mono (by decide)) rfl T.m_l_draw T.F_l_draw.kp T.b_l_draw .nil pass0 (pa_cons (pv 0) (pa_cons pe_int pa_nil)))) pa_nil)) (pg_name (i := 3) sc_l_name.nd rfl (Or.inl rfl))
    (pss_one (ps_set (i := 2) sc_l_name.nd rfl (Or.inl rfl) (pe_op op_add_str (pv 2) (pe_ix ix_str pe_str (pe_call G_l_draw (hr.mono (by decide)) rfl T.m_l_draw T.F_l_draw.kp T.b_l_draw .nil pass0 (pa_cons (pv 0) (pa_cons pe_int pa_nil))) (fun _ _ => rfl))))))
   (pss_cons (ps_if (pt_cmpR op_in_seq (pv 2) (pe_lst (pa_cons pe_str (pa_cons pe_str (pa_cons pe_str (pa_cons pe_str (pa_cons pe_str (pa_cons pe_str (pa_cons pe_str (pa_cons pe_str (pa_cons pe_str (pa_cons pe_str (pa_cons pe_str (pa_cons pe_str (pa_cons pe_str pa_nil)))))))))))))) (by rfl))
    (pss_one (ps_ret (pe_op op_add_str (pv 2) pe_str)))
    pss_nil)
   (pss_cons (ps_if (pt_cmpR op_in_seq (pv 2) (pe_lst (pa_cons pe_str (pa_cons pe_str (pa_cons pe_str (pa_cons pe_str (pa_cons pe_str (pa_cons pe_str (pa_cons pe_str (pa_cons pe_str (pa_cons pe_str pa_nil)))))))))) (by rfl))
    (pss_one (ps_ret (pe_op op_add_str pe_str (pv 2))))
    pss_nil)
   (pss_one (ps_ret (pv 2)))))))), ?_⟩
  refine ⟨_, rfl, p, 2, rfl, W, by decide, by decide, fun n H1 hn0 hn1 k1 W1 => ?_⟩
  refine ⟨rfl, _, rfl, ?_⟩
  refine iteD2 (fun c1 => ?_) (fun c1 => ?_)
  · refine ⟨by show 12 ≤ sizeLine; decide, fun l hl => ?_⟩
    refine ⟨_, rfl, _, rfl, p, 12, rfl, W1.same (same_new hl), by decide, by decide, fun m H2 hm0 hm1 k2 W2 => ?_⟩
    have npl : l ≠ p := fun e => by obtain ⟨_, _, _, _, w⟩ := W1; rw [← e, hl] at w; cases w
    have hl2 := k2 _ _ npl upd_same
    obtain ⟨s, hs, es⟩ := at_strs (ss := SOMEN) hm0 hm1
    refine ⟨l, SOMEN.map V.str, _, _, rfl, rfl, SqL.of hl2, es, ?_⟩
    exact q s H2 (someN_ok s hs) (k1.trans ((keepX_of (same_new hl)).trans k2)) W2
  · refine ⟨_, rfl, p, 6, rfl, W1, by decide, by decide, fun m H2 hm0 hm1 k2 W2 => ?_⟩
    refine ⟨_, _, rfl, rfl, ?_⟩
    refine ⟨1 + m, rfl, by omega, by omega, for_range (n := (1 + m).toNat) (fun i σ H' => ∃ (s : Str) (v1 v2 : Option V), σ = [some (.ref p), v1, some (.str s), v2] ∧ (tl s).length = i ∧ (∀ c ∈ tl s, 97 ≤ c ∧ c ≤ 122) ∧ KeepX p H H' ∧ WellAt H' p)
      ⟨"", none, none, rfl, rfl, (fun c hc => by have : tl (Str.ofString "") = [] := by decide +kernel
                                                 rw [this] at hc; cases hc), k1.trans k2, W2⟩ ?_ ?_⟩
    · rintro i σ H3 hi ⟨s, v1, v2, rfl, hl, hc, k3, W3⟩
      refine ⟨_, rfl, _, rfl, p, 26, rfl, W3, by decide, by decide, fun z H4 hz0 hz1 k4 W4 => ?_⟩
      obtain ⟨c, hat, hc1, hc2⟩ := letter_at hz0 hz1
      have et : tl (s ++ (⟨#[c]⟩ : Str)) = tl s ++ [c] := by rw [tl_append]
      refine ⟨_, _, c, rfl, rfl, by decide +kernel, hat, ?_⟩
      refine ⟨_, _, rfl, rfl, ?_, s ++ (⟨#[c]⟩ : Str), _, _, rfl, by rw [et, List.length_append, hl]; rfl, fun x hx => ?_, k3.trans k4, W4⟩
      · have : s.length = (tl s).length := len_tl s
        show s.length + 1 ≤ 16777216
        omega
      · rw [et] at hx
        rcases List.mem_append.mp hx with h | h
        · exact hc x h
        · rw [List.mem_singleton.mp h]; exact ⟨hc1, hc2⟩
    · rintro σ H3 ⟨s, v1, v2, rfl, hl, hc, k3, W3⟩
      have hl1 : 1 ≤ (tl s).length := by omega
      have hl6 : (tl s).length ≤ 6 := by omega
      have hls : s.length = (tl s).length := len_tl s
      refine ⟨_, rfl, by show 13 ≤ sizeLine; decide, fun l1 hl1' => ?_⟩
      refine ⟨l1, BAD1.map V.str, rfl, .inl (SqL.of upd_same), rfl, rfl, _, rfl, ?_⟩
      rw [if_neg Bool.false_ne_true, inV_str]
      have k4 := k3.trans (keepX_of (same_new (o := .lst (BAD1.map V.str)) hl1'))
      refine iteD2 (fun c2 => ?_) (fun c2 => ?_)
      · refine ⟨_, rfl, _, _, rfl, rfl, by show s.length + 1 ≤ 16777216; omega, ?_⟩
        exact q _ _ (bad1_ok s c2).1 k4 (W3.same (same_new hl1'))
      refine ⟨_, rfl, by show 9 ≤ sizeLine; decide, fun l2 hl2 => ?_⟩
      refine ⟨l2, BAD2.map V.str, rfl, .inl (SqL.of upd_same), rfl, rfl, _, rfl, ?_⟩
      rw [if_neg Bool.false_ne_true, inV_str]
      have k5 := k4.trans (keepX_of (same_new (o := .lst (BAD2.map V.str)) hl2))
      have W5 := (W3.same (same_new (o := .lst (BAD1.map V.str)) hl1')).same (same_new (o := .lst (BAD2.map V.str)) hl2)
      refine iteD2 (fun c3 => ?_) (fun c3 => ?_)
      · refine ⟨_, rfl, _, _, rfl, rfl, by show 1 + s.length ≤ 16777216; omega, ?_⟩
        exact q _ _ (bad2_ok s c3).1 k5 W5
      · exact ⟨_, rfl, q _ _ (name_of hl1 hl6 hc c2 c3) k5 W5⟩

end
end K02
namespace K02
open PySem L2 TL
section
variable {P : Program} {w : World} {K : PySem.W.Frag} {mg : Str → Option Value} {base : Heap} {A : Ads}
theorem ok_l_parts (T : Txt K mg A) : ∀ n : Nat, FnOk P w K mg base CX0 (n + 2) A.l_parts A.l_parts_d ["_law_told"] (spLParts K n)
| 0 => fn_none fun vs H Q E h => by
    obtain ⟨e, _, _, _, _, hd, _⟩ := h; have := e.depth_pos; omega
| n + 1 => by
  have G_l_parts := ok_l_parts T n
  refine T.F_l_parts.ok sc_l_parts (fun vs H Q E h => ?_) (fun cdv A0 outer s H vs Q E hr h => ?_)
  · obtain ⟨e, v, rfl, ht, hw, hd, q⟩ := h
    rfl
  obtain ⟨e, v, rfl, ht, hw, hd, q⟩ := h
  refine ⟨_, (pss_cons (ps_if (pt_cmpR op_in_seq (pe_ix ix_tup (pv 0) pe_int (fun _ _ => rfl)) (pe_tup (pa_cons pe_str (pa_cons pe_str pa_nil))) (by rfl))
    (pss_one (ps_ret pe_int))
    pss_nil)
   (pss_one (ps_ret (pe_op op_add pe_int (pe_callB (cr_sum rfl) (by rfl) T.z_sum (by decide +kernel) (pa_cons (pe_lc (own := [("_law_one", 1)]) (g := gName 1) (tt := tYes) rfl sc_l_parts.nd (pi_tup (pe_slice sl_tup (pv 0) (po_some pe_int) po_none)) (blkOk_by (own := [("_law_one", 1)]) (N := N_l_parts) (sc := defScope s_l_parts) (by decide +kernel)) (fun _ _ _ _ _ => pg_name (i := 1) sc_l_parts.nd rfl (Or.inl rfl)) (fun _ _ _ _ _ => pts_nil) (fun _ _ _ _ _ => (pe_call G_l_parts (hr.mono (by omega)) rfl T.m_l_parts T.F_l_parts.kp T.b_l_parts .nil pass0 (pa_cons (pv 1) pa_nil)))) pa_nil)))))), ?_⟩
  cases e with
  | num z =>
    obtain ⟨t, rfl, h1⟩ := ht
    refine ⟨_, rfl, t, _, _, _, rfl, rfl, SqT.of h1, rfl, by show 2 ≤ sizeLine; decide, fun u hu => ?_⟩
    refine ⟨u, [.str "number", .str "box"], rfl, .inr (SqT.of upd_same), rfl, rfl, _, rfl, ?_⟩
    rw [if_neg Bool.false_ne_true, in_num]
    exact iteT (q _ (same_new hu))
  | box z =>
    obtain ⟨t, rfl, h1⟩ := ht
    refine ⟨_, rfl, t, _, _, _, rfl, rfl, SqT.of h1, rfl, by show 2 ≤ sizeLine; decide, fun u hu => ?_⟩
    refine ⟨u, [.str "number", .str "box"], rfl, .inr (SqT.of upd_same), rfl, rfl, _, rfl, ?_⟩
    rw [if_neg Bool.false_ne_true, in_box]
    exact iteT (q _ (same_new hu))
  | cell e =>
    obtain ⟨t, i, rfl, h1, h2⟩ := ht
    have hd' : e.depth ≤ n := Nat.le_of_succ_le_succ hd
    refine ⟨_, rfl, t, _, _, _, rfl, rfl, SqT.of h1, rfl, by show 2 ≤ sizeLine; decide, fun u hu => ?_⟩
    refine ⟨u, [.str "number", .str "box"], rfl, .inr (SqT.of upd_same), rfl, rfl, _, rfl, ?_⟩
    rw [if_neg Bool.false_ne_true, in_cell]
    refine iteF ?_
    have s1 := same_new (o := .tup [.str "number", .str "box"]) hu
    refine ⟨_, rfl, 1, rfl, t, [.str "cell", i], rfl, SqT.of (s1 _ _ h1), (by show ¬(HT.sIx 2 0 (some 1) = 0 ∧ HT.sIx 2 2 none = 2); decide), fun p hp => ?_⟩
    have s2 := s1.trans (same_new (o := .tup [i]) hp)
    refine ⟨p, rfl, ⟨_, SqT.of upd_same⟩, fun D hD => lc_map (walk_tup (xs := [i])) (fun _ => .int e.parts) hD (by show 1 < 16777216; decide) (by show 1 < 2; decide) (fun H' s' => SqT.of (s' _ _ upd_same)) (fun _ _ _ _ y => y.1) ?_ ?_⟩
    · rintro k x H' Z hk s' ⟨_, hx⟩ z
      obtain rfl : k = 0 := by have : k < 1 := hk; omega
      cases hx
      exact ⟨_, rfl, e, i, rfl, h2.same (s2.trans s'), hw, hd', z⟩
    · intro H' s' hD'
      refine ⟨D, [(e.parts : Int)], rfl, SqL.of hD', ?_⟩
      refine ⟨_, _, rfl, rfl, ?_⟩
      have e1 : (1 : Int) + ([(e.parts : Int)].sum) = ((Ex.cell e).parts : Int) := by show (1 : Int) + ((e.parts : Int) + 0) = ((1 + e.parts : Nat) : Int); omega
      show Q (.int ((1 : Int) + ([(e.parts : Int)].sum))) H'
      rw [e1]
      exact q H' (s2.trans s')
  | two wd l r =>
    obtain ⟨t, a, b, rfl, h1, h2, h3⟩ := ht
    have hd' : max l.depth r.depth ≤ n := Nat.le_of_succ_le_succ hd
    obtain ⟨hw0, hw1, hw2⟩ : wd ∈ PAIRW ∧ l.Wf ∧ r.Wf := hw
    refine ⟨_, rfl, t, _, _, _, rfl, rfl, SqT.of h1, rfl, by show 2 ≤ sizeLine; decide, fun u hu => ?_⟩
    refine ⟨u, [.str "number", .str "box"], rfl, .inr (SqT.of upd_same), rfl, rfl, _, rfl, ?_⟩
    rw [if_neg Bool.false_ne_true, in_pair hw0]
    refine iteF ?_
    have s1 := same_new (o := .tup [.str "number", .str "box"]) hu
    refine ⟨_, rfl, 1, rfl, t, [.str wd, a, b], rfl, SqT.of (s1 _ _ h1), (by show ¬(HT.sIx 3 0 (some 1) = 0 ∧ HT.sIx 3 3 none = 3); decide), fun p hp => ?_⟩
    have s2 := s1.trans (same_new (o := .tup [a, b]) hp)
    refine ⟨p, rfl, ⟨_, SqT.of upd_same⟩, fun D hD => lc_map (walk_tup (xs := [a, b])) (fun k => if k = 0 then .int l.parts else .int r.parts) hD (by show 2 < 16777216; decide) (by show 1 < 2; decide) (fun H' s' => SqT.of (s' _ _ upd_same)) (fun _ _ _ _ y => y.1) ?_ ?_⟩
    · rintro k x H' Z hk s' ⟨_, hx⟩ z
      have : k = 0 ∨ k = 1 := by have : k < 2 := hk; omega
      rcases this with rfl | rfl
      · cases hx
        exact ⟨_, rfl, l, a, rfl, h2.same (s2.trans s'), hw1, by omega, z⟩
      · cases hx
        exact ⟨_, rfl, r, b, rfl, h3.same (s2.trans s'), hw2, by omega, z⟩
    · intro H' s' hD'
      refine ⟨D, [(l.parts : Int), (r.parts : Int)], rfl, SqL.of hD', ?_⟩
      refine ⟨_, _, rfl, rfl, ?_⟩
      have e1 : (1 : Int) + ([(l.parts : Int), (r.parts : Int)].sum) = ((Ex.two wd l r).parts : Int) := by show (1 : Int) + ((l.parts : Int) + ((r.parts : Int) + 0)) = ((1 + l.parts + r.parts : Nat) : Int); omega
      show Q (.int ((1 : Int) + ([(l.parts : Int), (r.parts : Int)].sum))) H'
      rw [e1]
      exact q H' (s2.trans s')

end
end K02
namespace K02
open PySem L2 TL
section
variable {P : Program} {w : World} {K : PySem.W.Frag} {mg : Str → Option Value} {base : Heap} {A : Ads}
theorem ok_l_expr (T : Txt K mg A) : ∀ n : Nat, FnOk P w K mg base CX0 (n + 9) A.l_expr A.l_expr_d ["_law_well_here", "_law_deep", "_law_most"] (spLExpr K n)
| 0 => fn_none fun vs H Q E h => by
    obtain ⟨_, _, _, _, _, h1, h2, _⟩ := h; omega
| n + 1 => by
  have G_l_expr := ok_l_expr T n
  have G_l_draw := ok_l_draw (P := P) (w := w) (base := base) T
  have G_l_parts := ok_l_parts (P := P) (w := w) (base := base) T 7
  have G_l_value := ok_l_value (P := P) (w := w) (base := base) T
  have G_l_name := ok_l_name (P := P) (w := w) (base := base) T
  refine T.F_l_expr.ok sc_l_expr (fun vs H Q E h => ?_) (fun cdv A0 outer s H vs Q E hr h => ?_)
  · obtain ⟨p, d, m, rfl, W, hd1, hdn, hn8, hm1, q⟩ := h
    rfl
  obtain ⟨p, d, m, rfl, W, hd1, hdn, hn8, hm1, q⟩ := h
  refine ⟨_, (pss_cons (ps_set (i := 3) sc_l_expr.nd rfl (Or.inl rfl) (pe_call G_l_draw (hr.mono (by omega)) rfl T.m_l_draw T.F_l_draw.kp T.b_l_draw .nil pass0 (pa_cons (pv 0) (pa_cons pe_int pa_nil))))
   (pss_cons (ps_ifC (PW.pt (pw_and (pt_cmpR op_eq (pv 3) pe_int (nomark _)) (pw_and (pt_cmpR op_gt (pv 1) pe_int (nomark _)) (pw_and1 (pt_cmpR op_gt (pv 2) pe_int (nomark _))))))
    (pss_one (ps_ret (pe_tup (pa_cons pe_str (pa_cons (pe_call G_l_expr (hr.mono (by omega)) rfl T.m_l_expr T.F_l_expr.kp T.b_l_expr .nil pass0 (pa_cons (pv 0) (pa_cons (pe_op op_sub (pv 1) pe_int) (pa_cons (pe_op op_sub (pv 2) pe_int) pa_nil)))) pa_nil)))))
    pss_nil)
   (pss_cons (ps_ifC (PW.pt (pw_and (pt_cmpR op_gt (pv 3) pe_int (nomark _)) (pw_and (pt_cmpR op_gt (pv 1) pe_int (nomark _)) (pw_and1 (pt_cmpR op_gt (pv 2) pe_int (nomark _))))))
    (pss_cons (ps_set (i := 4) sc_l_expr.nd rfl (Or.inl rfl) (pe_ix ix_list (pe_lst (pa_cons pe_str (pa_cons pe_str (pa_cons pe_str (pa_cons pe_str (pa_cons pe_str (pa_cons pe_str (pa_cons pe_str pa_nil)))))))) (pe_call G_l_draw (hr.mono (by omega)) rfl T.m_l_draw T.F_l_draw.kp T.b_l_draw .nil pass0 (pa_cons (pv 0) (pa_cons pe_int pa_nil))) (fun _ _ => rfl)))
   (pss_cons (ps_set (i := 5) sc_l_expr.nd rfl (Or.inl rfl) (pe_call G_l_expr (hr.mono (by omega)) rfl T.m_l_expr T.F_l_expr.kp T.b_l_expr .nil pass0 (pa_cons (pv 0) (pa_cons (pe_op op_sub (pv 1) pe_int) (pa_cons (pe_op op_sub (pv 2) pe_int) pa_nil)))))
   (pss_one (ps_ret (pe_tup (pa_cons (pv 4) (pa_cons (pv 5) (pa_cons (pe_call G_l_expr (hr.mono (by omega)) rfl T.m_l_expr T.F_l_expr.kp T.b_l_expr .nil pass0 (pa_cons (pv 0) (pa_cons (pe_op op_sub (pv 1) pe_int) (pa_cons (pe_op op_sub (pe_op op_sub (pv 2) pe_int) (pe_call G_l_parts (hr.mono (by omega)) rfl T.m_l_parts T.F_l_parts.kp T.b_l_parts .nil pass0 (pa_cons (pv 5) pa_nil))) pa_nil)))) pa_nil))))))))
    pss_nil)
   (pss_cons (ps_if (pt_cmpR op_eq (pe_call G_l_draw (hr.mono (by omega)) rfl T.m_l_draw T.F_l_draw.kp T.b_l_draw .nil pass0 (pa_cons (pv 0) (pa_cons pe_int pa_nil))) pe_int (nomark _))
    (pss_one (ps_ret (pe_tup (pa_cons pe_str (pa_cons (pe_call G_l_value (hr.mono (by omega)) rfl T.m_l_value T.F_l_value.kp T.b_l_value .nil pass0 (pa_cons (pv 0) pa_nil)) pa_nil)))))
    pss_nil)
   (pss_one (ps_ret (pe_tup (pa_cons pe_str (pa_cons (pe_call G_l_name (hr.mono (by omega)) rfl T.m_l_name T.F_l_name.kp T.b_l_name .nil pass0 (pa_cons (pv 0) pa_nil)) pa_nil))))))))), ?_⟩
  refine ⟨_, rfl, p, 4, rfl, W, by decide, by decide, fun way H1 hw0 hw1 k1 W1 => ?_⟩
  refine ⟨decide (way = 1 ∧ 1 < d ∧ 1 < m), H1, fun Z hZ => ?_, ?_⟩
  · refine ⟨_, rfl, rfl, _, rfl, iteD2 (fun c1 => ?_) (fun c1 => zFalse hZ fun h => c1 (congrArg V.int h.1))⟩
    refine ⟨_, rfl, _, _, rfl, rfl, _, rfl, iteD2 (fun c2 => ?_) (fun c2 => zFalse hZ fun h => c2 h.2.1)⟩
    refine ⟨_, rfl, _, _, rfl, rfl, _, rfl, ?_⟩
    by_cases c3 : 1 < m
    · rw [decide_eq_true c3]; exact zTrue hZ ⟨V.int.inj c1, c2, c3⟩
    · rw [decide_eq_false c3]; exact zFalse hZ fun h => c3 h.2.2
  refine iteD2 (fun c => ?_) (fun c => ?_)
  · obtain ⟨c1, c2, c3⟩ := c
    refine ⟨_, rfl, _, rfl, _, _, rfl, rfl, _, rfl, _, _, rfl, rfl, p, d - 1, m - 1, rfl, W1, by omega, by omega, by omega, by omega, fun e v H2 a1 a2 a3 a4 k2 W2 => ?_⟩
    refine ⟨by show 2 ≤ sizeLine; decide, fun t ht => ?_⟩
    have s := same_new (o := .tup [.str "cell", v]) ht
    exact q (.cell e) _ _ a1 (by show ((e.depth + 1 : Nat) : Int) ≤ d; omega) (by show ((1 + e.parts : Nat) : Int) ≤ m; omega) ⟨t, v, rfl, upd_same, a4.same s⟩ (k1.trans (k2.trans (keepX_of s))) (W2.same s)
  refine ⟨decide (1 < way ∧ 1 < d ∧ 2 < m), H1, fun Z hZ => ?_, ?_⟩
  · refine ⟨_, rfl, _, _, rfl, rfl, _, rfl, iteD2 (fun c1 => ?_) (fun c1 => zFalse hZ fun h => c1 h.1)⟩
    refine ⟨_, rfl, _, _, rfl, rfl, _, rfl, iteD2 (fun c2 => ?_) (fun c2 => zFalse hZ fun h => c2 h.2.1)⟩
    refine ⟨_, rfl, _, _, rfl, rfl, _, rfl, ?_⟩
    by_cases c3 : 2 < m
    · rw [decide_eq_true c3]; exact zTrue hZ ⟨c1, c2, c3⟩
    · rw [decide_eq_false c3]; exact zFalse hZ fun h => c3 h.2.2
  refine iteD2 (fun c => ?_) (fun c => ?_)
  · obtain ⟨c1, c2, c3⟩ := c
    refine ⟨by show 7 ≤ sizeLine; decide, fun l hl => ?_⟩
    have s0 := same_new (o := .lst (PAIRW.map V.str)) hl
    refine ⟨_, rfl, p, 7, rfl, W1.same s0, by decide, by decide, fun z H2 hz0 hz1 k2 W2 => ?_⟩
    have npl : l ≠ p := fun e => by obtain ⟨_, _, _, _, w⟩ := W1; rw [← e, hl] at w; cases w
    have hl2 := k2 _ _ npl (upd_same (H := H1) (o := .lst (PAIRW.map V.str)))
    obtain ⟨wd, hs, es⟩ := at_strs (ss := PAIRW) hz0 hz1
    refine ⟨l, PAIRW.map V.str, _, _, rfl, rfl, SqL.of hl2, es, ?_⟩
    have k12 := k1.trans ((keepX_of s0).trans k2)
    refine ⟨_, rfl, _, rfl, _, _, rfl, rfl, _, rfl, _, _, rfl, rfl, p, d - 1, m - 2, rfl, W2, by omega, by omega, by omega, by omega, fun e v H3 a1 a2 a3 a4 k3 W3 => ?_⟩
    refine ⟨_, rfl, _, rfl, _, rfl, _, rfl, _, _, rfl, rfl, _, rfl, _, _, rfl, rfl, _, rfl, e, v, rfl, a4, a1, by omega, fun H4 s4 => ?_⟩
    refine ⟨_, _, rfl, rfl, ?_⟩
    refine ⟨p, d - 1, m - 1 - e.parts, rfl, W3.same s4, by omega, by omega, by omega, by omega, fun e2 v2 H5 b1 b2 b3 b4 k5 W5 => ?_⟩
    refine ⟨by show 3 ≤ sizeLine; decide, fun t ht => ?_⟩
    have s := same_new (o := .tup [.str wd, v, v2]) ht
    exact q (.two wd e e2) _ _ ⟨hs, a1, b1⟩ (by show ((max e.depth e2.depth + 1 : Nat) : Int) ≤ d; omega) (by show ((1 + e.parts + e2.parts : Nat) : Int) ≤ m; omega)
      ⟨t, v, v2, rfl, upd_same, ((a4.same s4).keep k5 (W3.same s4)).same s, b4.same s⟩ (k12.trans (k3.trans ((keepX_of s4).trans (k5.trans (keepX_of s))))) (W5.same s)
  refine ⟨_, rfl, p, 2, rfl, W1, by decide, by decide, fun z H2 hz0 hz1 k2 W2 => ?_⟩
  refine ⟨rfl, _, rfl, ?_⟩
  refine iteD2 (fun c1 => ?_) (fun c1 => ?_)
  · refine ⟨_, rfl, p, rfl, W2, fun x H3 hx0 hx1 k3 W3 => ?_⟩
    refine ⟨by show 2 ≤ sizeLine; decide, fun t ht => ?_⟩
    have s := same_new (o := .tup [.str "number", .int x]) ht
    exact q (.num x) _ _ ⟨hx0, hx1⟩ (by show ((1 : Nat) : Int) ≤ d; omega) (by show ((1 : Nat) : Int) ≤ m; omega) ⟨t, rfl, upd_same⟩ (k1.trans (k2.trans (k3.trans (keepX_of s)))) (W3.same s)
  · refine ⟨_, rfl, p, rfl, W2, fun x H3 hx k3 W3 => ?_⟩
    refine ⟨by show 2 ≤ sizeLine; decide, fun t ht => ?_⟩
    have s := same_new (o := .tup [.str "box", .str x]) ht
    exact q (.box x) _ _ hx (by show ((1 : Nat) : Int) ≤ d; omega) (by show ((1 : Nat) : Int) ≤ m; omega) ⟨t, rfl, upd_same⟩ (k1.trans (k2.trans (k3.trans (keepX_of s)))) (W3.same s)

end
end K02
namespace K02
open PySem L2 TL
section
variable {P : Program} {w : World} {K : PySem.W.Frag} {mg : Str → Option Value} {base : Heap} {A : Ads}
theorem ok_l_words_of (T : Txt K mg A) : ∀ n : Nat, FnOk P w K mg base CX0 (n + 2) A.l_words_of A.l_words_of_d ["_law_told"] (spLWords K n)
| 0 => fn_none fun vs H Q E h => by
    obtain ⟨e, _, _, _, _, _, hd, _⟩ := h; have := e.depth_pos; omega
| n + 1 => by
  have G_l_words_of := ok_l_words_of T n
  refine T.F_l_words_of.ok sc_l_words_of (fun vs H Q E h => ?_) (fun cdv A0 outer s H vs Q E hr h => ?_)
  · obtain ⟨e, v, rfl, ht, hw, hpp, hd, q⟩ := h
    rfl
  obtain ⟨e, v, rfl, ht, hw, hpp, hd, q⟩ := h
  refine ⟨_, (pss_cons (ps_if (pt_cmpR op_in_seq (pe_ix ix_tup (pv 0) pe_int (fun _ _ => rfl)) (pe_tup (pa_cons pe_str (pa_cons pe_str pa_nil))) (by rfl))
    (pss_one (ps_ret (pe_callTy call_str_any (by rfl) T.z_str (by decide +kernel) (pa_cons (pe_ix ix_tup (pv 0) pe_int (fun _ _ => rfl)) pa_nil))))
    pss_nil)
   (pss_one (ps_ret (pe_join pe_str (pe_op op_cat (pe_lst (pa_cons (pe_ix ix_tup (pv 0) pe_int (fun _ _ => rfl)) pa_nil)) (pe_lc (own := [("_law_one", 1)]) (g := gName 1) (tt := tYes) rfl sc_l_words_of.nd (pi_tup (pe_slice sl_tup (pv 0) (po_some pe_int) po_none)) (blkOk_by (own := [("_law_one", 1)]) (N := N_l_words_of) (sc := defScope s_l_words_of) (by decide +kernel)) (fun _ _ _ _ _ => pg_name (i := 1) sc_l_words_of.nd rfl (Or.inl rfl)) (fun _ _ _ _ _ => pts_nil) (fun _ _ _ _ _ => (pe_call G_l_words_of (hr.mono (by omega)) rfl T.m_l_words_of T.F_l_words_of.kp T.b_l_words_of .nil pass0 (pa_cons (pv 1) pa_nil))))))))), ?_⟩
  cases e with
  | num z =>
    obtain ⟨t, rfl, h1⟩ := ht
    refine ⟨_, rfl, t, _, _, _, rfl, rfl, SqT.of h1, rfl, by show 2 ≤ sizeLine; decide, fun u hu => ?_⟩
    refine ⟨u, [.str "number", .str "box"], rfl, .inr (SqT.of upd_same), rfl, rfl, _, rfl, ?_⟩
    rw [if_neg Bool.false_ne_true, in_num]
    have hl : z.natAbs < 2 ^ 20 := by have := hw.1; have := hw.2; omega
    refine iteT ⟨_, rfl, t, _, _, _, rfl, rfl, SqT.of ((same_new hu) _ _ h1), rfl, .inl ⟨z, rfl, log_small hl, ?_⟩⟩
    exact q _ (same_new hu)
  | box z =>
    obtain ⟨t, rfl, h1⟩ := ht
    refine ⟨_, rfl, t, _, _, _, rfl, rfl, SqT.of h1, rfl, by show 2 ≤ sizeLine; decide, fun u hu => ?_⟩
    refine ⟨u, [.str "number", .str "box"], rfl, .inr (SqT.of upd_same), rfl, rfl, _, rfl, ?_⟩
    rw [if_neg Bool.false_ne_true, in_box]
    refine iteT ⟨_, rfl, t, _, _, _, rfl, rfl, SqT.of ((same_new hu) _ _ h1), rfl, .inr ⟨z, rfl, ?_⟩⟩
    exact q _ (same_new hu)
  | cell e =>
    obtain ⟨t, i, rfl, h1, h2⟩ := ht
    have hd' : e.depth ≤ n := Nat.le_of_succ_le_succ hd
    have hp' : 1 + e.parts ≤ 1000 := hpp
    refine ⟨_, rfl, t, _, _, _, rfl, rfl, SqT.of h1, rfl, by show 2 ≤ sizeLine; decide, fun u hu => ?_⟩
    refine ⟨u, [.str "number", .str "box"], rfl, .inr (SqT.of upd_same), rfl, rfl, _, rfl, ?_⟩
    rw [if_neg Bool.false_ne_true, in_cell]
    refine iteF ?_
    have s1 := same_new (o := .tup [.str "number", .str "box"]) hu
    refine ⟨⟨_, rfl⟩, _, rfl, t, _, _, _, rfl, rfl, SqT.of (s1 _ _ h1), rfl, by show 1 ≤ sizeLine; decide, fun l1 hl1 => ?_⟩
    have s3 := s1.trans (same_new (o := .lst [.str "cell"]) hl1)
    refine ⟨_, rfl, 1, rfl, t, [.str "cell", i], rfl, SqT.of (s3 _ _ h1), (by show ¬(HT.sIx 2 0 (some 1) = 0 ∧ HT.sIx 2 2 none = 2); decide), fun p hp => ?_⟩
    have s2 := s3.trans (same_new (o := .tup [i]) hp)
    refine ⟨p, rfl, ⟨_, SqT.of upd_same⟩, fun D hD => lc_map (walk_tup (xs := [i])) (fun _ => .str e.text) hD (by show 1 < 16777216; decide) (by show 1 < 2; decide) (fun H' s' => SqT.of (s' _ _ upd_same)) (fun _ _ _ _ y => y.1) ?_ ?_⟩
    · rintro k x H' Z hk s' ⟨_, hx⟩ z
      obtain rfl : k = 0 := by have : k < 1 := hk; omega
      cases hx
      exact ⟨_, rfl, e, i, rfl, h2.same (s2.trans s'), hw, by omega, hd', z⟩
    · intro H' s' hD'
      have g1 := s' _ _ ((same_new (o := .tup [i]) hp) _ _ upd_same)
      refine ⟨l1, D, [.str "cell"], [.str e.text], rfl, rfl, g1, hD', by show 2 ≤ sizeLine; decide, fun l2 hl2 => ?_⟩
      have q1 := Ex.text_len (e := e) hw
      refine ⟨_, l2, [Str.ofString "cell", e.text], rfl, rfl, .inl (SqL.of upd_same), ?_, ?_⟩
      · show 4 + (e.text.length + 0) + 2 * 1 ≤ 16777216
        omega
      · rw [text_cell]
        exact q _ (s2.trans (s'.trans (same_new hl2)))
  | two wd l r =>
    obtain ⟨t, a, b, rfl, h1, h2, h3⟩ := ht
    have hd' : max l.depth r.depth ≤ n := Nat.le_of_succ_le_succ hd
    have hp' : 1 + l.parts + r.parts ≤ 1000 := hpp
    obtain ⟨hw0, hw1, hw2⟩ : wd ∈ PAIRW ∧ l.Wf ∧ r.Wf := hw
    refine ⟨_, rfl, t, _, _, _, rfl, rfl, SqT.of h1, rfl, by show 2 ≤ sizeLine; decide, fun u hu => ?_⟩
    refine ⟨u, [.str "number", .str "box"], rfl, .inr (SqT.of upd_same), rfl, rfl, _, rfl, ?_⟩
    rw [if_neg Bool.false_ne_true, in_pair hw0]
    refine iteF ?_
    have s1 := same_new (o := .tup [.str "number", .str "box"]) hu
    refine ⟨⟨_, rfl⟩, _, rfl, t, _, _, _, rfl, rfl, SqT.of (s1 _ _ h1), rfl, by show 1 ≤ sizeLine; decide, fun l1 hl1 => ?_⟩
    have s3 := s1.trans (same_new (o := .lst [.str wd]) hl1)
    refine ⟨_, rfl, 1, rfl, t, [.str wd, a, b], rfl, SqT.of (s3 _ _ h1), (by show ¬(HT.sIx 3 0 (some 1) = 0 ∧ HT.sIx 3 3 none = 3); decide), fun p hp => ?_⟩
    have s2 := s3.trans (same_new (o := .tup [a, b]) hp)
    refine ⟨p, rfl, ⟨_, SqT.of upd_same⟩, fun D hD => lc_map (walk_tup (xs := [a, b])) (fun k => if k = 0 then .str l.text else .str r.text) hD (by show 2 < 16777216; decide) (by show 1 < 2; decide) (fun H' s' => SqT.of (s' _ _ upd_same)) (fun _ _ _ _ y => y.1) ?_ ?_⟩
    · rintro k x H' Z hk s' ⟨_, hx⟩ z
      have : k = 0 ∨ k = 1 := by have : k < 2 := hk; omega
      rcases this with rfl | rfl
      · cases hx
        exact ⟨_, rfl, l, a, rfl, h2.same (s2.trans s'), hw1, by omega, by omega, z⟩
      · cases hx
        exact ⟨_, rfl, r, b, rfl, h3.same (s2.trans s'), hw2, by omega, by omega, z⟩
    · intro H' s' hD'
      have g1 := s' _ _ ((same_new (o := .tup [a, b]) hp) _ _ upd_same)
      refine ⟨l1, D, [.str wd], [.str l.text, .str r.text], rfl, rfl, g1, hD', by show 3 ≤ sizeLine; decide, fun l2 hl2 => ?_⟩
      have q1 := Ex.text_len hw1
      have q2 := Ex.text_len hw2
      have q3 := (pair_not_val wd hw0).2.2.2
      refine ⟨_, l2, [wd, l.text, r.text], rfl, rfl, .inl (SqL.of upd_same), ?_, ?_⟩
      · have : wd.length = (tl wd).length := len_tl wd
        show wd.length + (l.text.length + (r.text.length + 0)) + 3 * 1 ≤ 16777216
        omega
      · exact q _ (s2.trans (s'.trans (same_new hl2)))

end
end K02
namespace K02
open PySem L2 TL
section
variable {P : Program} {w : World} {K : PySem.W.Frag} {mg : Str → Option Value} {base : Heap} {A : Ads}
theorem ok_l_menu (T : Txt K mg A) : FnOk P w K mg base CX0 4 A.l_menu A.l_menu_d ["_law_well_here"] spMenu := by
  have G_l_draw := ok_l_draw (P := P) (w := w) (base := base) T
  refine T.F_l_menu.ok sc_l_menu (fun vs H Q E h => ?_) (fun cdv A0 outer s H vs Q E hr h => ?_)
  · obtain ⟨p, rfl, W, q⟩ := h
    rfl
  obtain ⟨p, rfl, W, q⟩ := h
  refine ⟨_, (pss_cons (ps_set (i := 1) sc_l_menu.nd rfl (Or.inl rfl) (pe_lst (pa_cons pe_str (pa_cons pe_str (pa_cons pe_str (pa_cons pe_str (pa_cons pe_str (pa_cons pe_str (pa_cons pe_str (pa_cons pe_str (pa_cons pe_str (pa_cons pe_str (pa_cons pe_str (pa_cons pe_str (pa_cons pe_str (pa_cons pe_str (pa_cons pe_str pa_nil)))))))))))))))))
   (pss_cons (ps_set (i := 1) sc_l_menu.nd rfl (Or.inl rfl) (pe_op op_cat (pv 1) (pe_lst (pa_cons pe_str (pa_cons pe_str (pa_cons pe_str (pa_cons pe_str (pa_cons pe_str (pa_cons pe_str (pa_cons pe_str (pa_cons pe_str (pa_cons pe_str (pa_cons pe_str (pa_cons pe_str (pa_cons pe_str pa_nil)))))))))))))))
   (pss_one (ps_ret (pe_ix ix_list (pe_op op_cat (pv 1) (pe_lst (pa_cons pe_str (pa_cons pe_str (pa_cons pe_str pa_nil))))) (pe_call G_l_draw (hr.mono (by decide)) rfl T.m_l_draw T.F_l_draw.kp T.b_l_draw .nil pass0 (pa_cons (pv 0) (pa_cons pe_int pa_nil))) (fun _ _ => rfl)))))), ?_⟩
  refine ⟨by show 15 ≤ sizeLine; decide, fun l1 hl1 => ?_⟩
  have s1 := same_new (o := .lst (MENU1.map V.str)) hl1
  have g1 := upd_same (H := H) (a := l1) (o := .lst (MENU1.map V.str))
  refine ⟨_, rfl, by show 12 ≤ sizeLine; decide, fun l2 hl2 => ?_⟩
  have s2 := same_new (o := .lst (MENU2.map V.str)) hl2
  refine ⟨l1, l2, MENU1.map V.str, MENU2.map V.str, rfl, rfl, s2 _ _ g1, upd_same, by show 27 ≤ sizeLine; decide, fun l3 hl3 => ?_⟩
  have s3 := same_new (o := .lst (MENU1.map V.str ++ MENU2.map V.str)) hl3
  have g3 := upd_same (H := upd (upd H l1 (.lst (MENU1.map V.str))) l2 (.lst (MENU2.map V.str))) (a := l3) (o := .lst (MENU1.map V.str ++ MENU2.map V.str))
  refine ⟨_, rfl, by show 3 ≤ sizeLine; decide, fun l4 hl4 => ?_⟩
  have s4 := same_new (o := .lst (MENU3.map V.str)) hl4
  refine ⟨l3, l4, MENU1.map V.str ++ MENU2.map V.str, MENU3.map V.str, rfl, rfl, s4 _ _ g3, upd_same, by show 30 ≤ sizeLine; decide, fun l5 hl5 => ?_⟩
  have s5 := same_new (o := .lst ((MENU1.map V.str ++ MENU2.map V.str) ++ MENU3.map V.str)) hl5
  have sA := s1.trans (s2.trans (s3.trans (s4.trans s5)))
  have e : (MENU1.map V.str ++ MENU2.map V.str) ++ MENU3.map V.str = ((MENU1 ++ MENU2) ++ MENU3).map V.str := by rw [List.map_append, List.map_append]
  have npl : l5 ≠ p := (W.same (s1.trans (s2.trans (s3.trans s4)))).fresh hl5
  refine ⟨_, rfl, p, 30, rfl, W.same sA, by decide, by decide, fun m H2 hm0 hm1 k2 W2 => ?_⟩
  have hl := k2 _ _ npl upd_same
  rw [e] at hl
  obtain ⟨s, hs, es⟩ := at_strs (ss := (MENU1 ++ MENU2) ++ MENU3) hm0 hm1
  refine ⟨l5, _, _, _, rfl, rfl, SqL.of hl, es, ?_⟩
  exact q s H2 (menu_ok s hs) ((keepX_of sA).trans k2) W2

end
end K02
namespace K02
open PySem L2 TL
section
variable {P : Program} {w : World} {K : PySem.W.Frag} {mg : Str → Option Value} {base : Heap} {A : Ads}
theorem ok_l_spoiled (T : Txt K mg A) : FnOk P w K mg base CX0 5 A.l_spoiled A.l_spoiled_d ["_law_well_here", "_law_words"] spSpoiled := by
  have G_l_draw := ok_l_draw (P := P) (w := w) (base := base) T
  have G_l_menu := ok_l_menu (P := P) (w := w) (base := base) T
  refine T.F_l_spoiled.ok sc_l_spoiled (fun vs H Q E h => ?_) (fun cdv A0 outer s H vs Q E hr h => ?_)
  · obtain ⟨p, a, ws, rfl, W, ha, nap, hne, hlen, hok, q⟩ := h
    rfl
  obtain ⟨p, a, ws, rfl, W, ha, nap, hne, hlen, hok, q⟩ := h
  refine ⟨_, (pss_cons (ps_set (i := 2) sc_l_spoiled.nd rfl (Or.inl rfl) (pe_call G_l_draw (hr.mono (by decide)) rfl T.m_l_draw T.F_l_draw.kp T.b_l_draw .nil pass0 (pa_cons (pv 0) (pa_cons (pe_callB call_lenK (by rfl) T.z_len (by decide +kernel) (pa_cons (pv 1) pa_nil)) pa_nil))))
   (pss_cons (ps_set (i := 3) sc_l_spoiled.nd rfl (Or.inl rfl) (pe_call G_l_draw (hr.mono (by decide)) rfl T.m_l_draw T.F_l_draw.kp T.b_l_draw .nil pass0 (pa_cons (pv 0) (pa_cons pe_int pa_nil))))
   (pss_cons (ps_if (pt_cmpR op_eq (pv 3) pe_int (nomark _))
    (pss_one (ps_ret (pe_op op_cat (pe_op op_cat (pe_slice sl_list (pv 1) po_none (po_some (pv 2))) (pe_lst (pa_cons (pe_call G_l_menu (hr.mono (by decide)) rfl T.m_l_menu T.F_l_menu.kp T.b_l_menu .nil pass0 (pa_cons (pv 0) pa_nil)) pa_nil))) (pe_slice sl_list (pv 1) (po_some (pe_op op_add (pv 2) pe_int)) po_none))))
    pss_nil)
   (pss_cons (ps_if (pt_cmpR op_eq (pv 3) pe_int (nomark _))
    (pss_one (ps_ret (pe_op op_cat (pe_op op_cat (pe_slice sl_list (pv 1) po_none (po_some (pv 2))) (pe_slice sl_list (pv 1) (po_some (pe_op op_add (pv 2) pe_int)) po_none)) (pe_op op_rep (pe_lst (pa_cons pe_str pa_nil)) (pe_callTy call_int1 (by rfl) T.z_int (by decide +kernel) (pa_cons (pe_cmpR op_eq (pe_callB call_lenK (by rfl) T.z_len (by decide +kernel) (pa_cons (pv 1) pa_nil)) pe_int (nomark _)) pa_nil))))))
    pss_nil)
   (pss_cons (ps_if (pt_cmpR op_eq (pv 3) pe_int (nomark _))
    (pss_one (ps_ret (pe_op op_cat (pe_slice sl_list (pv 1) po_none (po_some (pe_op op_add (pv 2) pe_int))) (pe_slice sl_list (pv 1) (po_some (pv 2)) po_none))))
    pss_nil)
   (pss_one (ps_ret (pe_op op_cat (pe_op op_cat (pe_slice sl_list (pv 1) po_none (po_some (pv 2))) (pe_lst (pa_cons (pe_call G_l_menu (hr.mono (by decide)) rfl T.m_l_menu T.F_l_menu.kp T.b_l_menu .nil pass0 (pa_cons (pv 0) pa_nil)) pa_nil))) (pe_slice sl_list (pv 1) (po_some (pv 2)) po_none))))))))), ?_⟩
  have hl1 : 1 ≤ ws.length := by cases ws with
    | nil => exact absurd rfl hne
    | cons _ _ => exact Nat.le_add_left _ _
  refine ⟨_, rfl, _, rfl, a, _, rfl, .inl (SqL.of ha), p, _, rfl, W, by rw [List.length_map]; omega, by rw [List.length_map]; omega, fun at_ H1 h0 h1 k1 W1 => ?_⟩
  rw [List.length_map] at h1
  obtain ⟨i, rfl⟩ : ∃ i : Nat, at_ = (i : Int) := ⟨at_.toNat, by omega⟩
  have hi : i < ws.length := by omega
  have ha1 := k1 _ _ nap ha
  refine ⟨_, rfl, p, 4, rfl, W1, by decide, by decide, fun way H2 w0 w1 k2 W2 => ?_⟩
  have ha2 := k2 _ _ nap ha1
  have k12 := k1.trans k2
  refine ⟨_, rfl, rfl, _, rfl, ?_⟩
  refine iteD2 (fun c => ?_) (fun c => ?_)
  · refine ⟨_, rfl, _, rfl, _, rfl, a, _, rfl, SqL.of ha2, fun b1 hb1 => ?_⟩
    rw [cut_to (by omega)]
    have s3 := same_new (o := .lst ((ws.take i).map V.str)) hb1
    have g3 := upd_same (H := H2) (a := b1) (o := .lst ((ws.take i).map V.str))
    have n1 : b1 ≠ p := fun e => by obtain ⟨_, _, _, _, w⟩ := W2; rw [← e, hb1] at w; cases w
    refine ⟨_, rfl, p, rfl, W2.same s3, fun m H4 hm k4 W4 => ?_⟩
    have g4 := k4 _ _ n1 g3
    have ha4 := k4 _ _ nap (s3 _ _ ha2)
    refine ⟨by show 1 ≤ sizeLine; decide, fun b2 hb2 => ?_⟩
    have s5 := same_new (o := .lst [V.str m]) hb2
    refine ⟨b1, b2, _, _, rfl, rfl, s5 _ _ g4, upd_same, by rw [List.length_map, List.length_take]; exact sizeL2 (by show min i ws.length + 1 ≤ _; omega), fun b3 hb3 => ?_⟩
    have s6 := same_new (o := .lst ((ws.take i).map V.str ++ [V.str m])) hb3
    have s56 := s5.trans s6
    refine ⟨_, rfl, _, rfl, _, _, rfl, rfl, _, rfl, a, _, rfl, SqL.of (s56 _ _ ha4), fun b4 hb4 => ?_⟩
    rw [show ((i : Int) + 1) = ((i + 1 : Nat) : Int) from by omega, cut_from (by omega)]
    have s7 := same_new (o := .lst ((ws.drop (i + 1)).map V.str)) hb4
    have g6 := upd_same (H := upd H4 b2 (.lst [V.str m])) (a := b3) (o := .lst ((ws.take i).map V.str ++ [V.str m]))
    refine ⟨b3, b4, _, _, rfl, rfl, s7 _ _ g6, upd_same, by simp only [List.length_append, List.length_map, List.length_take, List.length_drop, List.length_cons, List.length_nil]; exact sizeL2 (by omega), fun b5 hb5 => ?_⟩
    have e : ((ws.take i).map V.str ++ [V.str m]) ++ (ws.drop (i + 1)).map V.str = (ws.take i ++ [m] ++ ws.drop (i + 1)).map V.str := by simp
    rw [e]
    have s8 := same_new (o := .lst ((ws.take i ++ [m] ++ ws.drop (i + 1)).map V.str)) hb5
    have sA := s56.trans (s7.trans s8)
    have n5 : b5 ≠ p := fun e => by
      obtain ⟨_, _, _, _, w⟩ := W4.same (s56.trans s7)
      rw [← e, hb5] at w; cases w
    refine q b5 (ws.take i ++ [m] ++ ws.drop (i + 1)) _ upd_same n5 (by simp) (by simp only [List.length_append, List.length_take, List.length_drop, List.length_cons, List.length_nil]; omega) (fun s hs => ?_) (k12.trans ((keepX_of s3).trans (k4.trans (keepX_of sA)))) (W4.same sA)
    rcases List.mem_append.mp hs with hs | hs
    · rcases List.mem_append.mp hs with hs | hs
      · exact hok s (List.mem_of_mem_take hs)
      · rw [List.mem_singleton.mp hs]; exact hm
    · exact hok s (List.mem_of_mem_drop hs)
  refine ⟨_, rfl, rfl, _, rfl, ?_⟩
  refine iteD2 (fun c => ?_) (fun c => ?_)
  · refine ⟨_, rfl, _, rfl, _, rfl, a, _, rfl, SqL.of ha2, fun b1 hb1 => ?_⟩
    rw [cut_to (by omega)]
    have s3 := same_new (o := .lst ((ws.take i).map V.str)) hb1
    have g3 := upd_same (H := H2) (a := b1) (o := .lst ((ws.take i).map V.str))
    refine ⟨_, rfl, _, rfl, _, _, rfl, rfl, _, rfl, a, _, rfl, SqL.of (s3 _ _ ha2), fun b2 hb2 => ?_⟩
    rw [show ((i : Int) + 1) = ((i + 1 : Nat) : Int) from by omega, cut_from (by omega)]
    have s4 := same_new (o := .lst ((ws.drop (i + 1)).map V.str)) hb2
    refine ⟨b1, b2, _, _, rfl, rfl, s4 _ _ g3, upd_same, by simp only [List.length_map, List.length_take, List.length_drop]; exact sizeL2 (by omega), fun b3 hb3 => ?_⟩
    have s5 := same_new (o := .lst ((ws.take i).map V.str ++ (ws.drop (i + 1)).map V.str)) hb3
    have g5 := upd_same (H := upd (upd H2 b1 (.lst ((ws.take i).map V.str))) b2 (.lst ((ws.drop (i + 1)).map V.str))) (a := b3) (o := .lst ((ws.take i).map V.str ++ (ws.drop (i + 1)).map V.str))
    refine ⟨by show 1 ≤ sizeLine; decide, fun b4 hb4 => ?_⟩
    have s6 := same_new (o := .lst [V.str ""]) hb4
    have s46 := s3.trans (s4.trans (s5.trans s6))
    refine ⟨_, rfl, a, _, rfl, .inl (SqL.of (s46 _ _ ha2)), rfl, .inr ⟨_, rfl, ?_⟩⟩
    refine ⟨b4, _, [V.str ""], rfl, rfl, upd_same, ?_, ?_, ?_, fun b5 hb5 => ?_⟩
    · split <;> decide
    · split <;> decide
    · split <;> (show _ ≤ sizeLine; decide)
    have s7 := same_new (o := .lst (List.replicate (if decide (V.int ((ws.map V.str).length : Nat) = V.int 1) = true then (1 : Int) else 0).toNat [V.str ""]).flatten) hb5
    have s67 := s6.trans s7
    refine ⟨b3, b5, _, _, rfl, rfl, s67 _ _ g5, upd_same, ?_, fun b6 hb6 => ?_⟩
    · simp only [List.length_append, List.length_map, List.length_take, List.length_drop]
      split <;> exact sizeL2 (by simp; omega)
    have hw : ∃ us : List Str, ((ws.take i).map V.str ++ (ws.drop (i + 1)).map V.str) ++ (List.replicate (if decide (V.int ((ws.map V.str).length : Nat) = V.int 1) = true then (1 : Int) else 0).toNat [V.str ""]).flatten = us.map V.str ∧ us ≠ [] ∧ us.length ≤ ws.length + 1 ∧ ∀ s ∈ us, WordOk s := by
      by_cases c1 : ws.length = 1
      · have e : decide (V.int ((ws.map V.str).length : Nat) = V.int 1) = true := decide_eq_true (by rw [List.length_map, c1]; rfl)
        refine ⟨(ws.take i ++ ws.drop (i + 1)) ++ [Str.ofString ""], by rw [e]; simp, by simp, by simp only [List.length_append, List.length_take, List.length_drop, List.length_cons, List.length_nil]; omega, fun s hs => ?_⟩
        rcases List.mem_append.mp hs with hs | hs
        · rcases List.mem_append.mp hs with hs | hs
          · exact hok s (List.mem_of_mem_take hs)
          · exact hok s (List.mem_of_mem_drop hs)
        · rw [List.mem_singleton.mp hs]; exact ⟨by decide +kernel, by decide +kernel⟩
      · have e : decide (V.int ((ws.map V.str).length : Nat) = V.int 1) = false := decide_eq_false (fun h => c1 (by rw [List.length_map] at h; have := V.int.inj h; omega))
        refine ⟨ws.take i ++ ws.drop (i + 1), by rw [e]; simp, fun h => ?_, by simp only [List.length_append, List.length_take, List.length_drop]; omega, fun s hs => ?_⟩
        · have := congrArg List.length h
          simp only [List.length_append, List.length_take, List.length_drop, List.length_nil] at this
          omega
        · rcases List.mem_append.mp hs with hs | hs
          · exact hok s (List.mem_of_mem_take hs)
          · exact hok s (List.mem_of_mem_drop hs)
    obtain ⟨us, eu, u1, u2, u3⟩ := hw
    rw [eu]
    have sA := s3.trans (s4.trans (s5.trans (s67.trans (same_new (o := .lst (us.map V.str)) hb6))))
    have n6 : b6 ≠ p := fun e => by
      obtain ⟨_, _, _, _, w⟩ := W2.same (s3.trans (s4.trans (s5.trans s67)))
      rw [← e, hb6] at w; cases w
    exact q b6 us _ upd_same n6 u1 u2 u3 (k12.trans (keepX_of sA)) (W2.same sA)
  refine ⟨_, rfl, rfl, _, rfl, ?_⟩
  refine iteD2 (fun c => ?_) (fun c => ?_)
  · refine ⟨_, rfl, _, rfl, _, _, rfl, rfl, _, rfl, a, _, rfl, SqL.of ha2, fun b1 hb1 => ?_⟩
    rw [show ((i : Int) + 1) = ((i + 1 : Nat) : Int) from by omega, cut_to (by omega)]
    have s3 := same_new (o := .lst ((ws.take (i + 1)).map V.str)) hb1
    have g3 := upd_same (H := H2) (a := b1) (o := .lst ((ws.take (i + 1)).map V.str))
    refine ⟨_, rfl, _, rfl, _, rfl, a, _, rfl, SqL.of (s3 _ _ ha2), fun b2 hb2 => ?_⟩
    rw [cut_from (by omega)]
    have s4 := same_new (o := .lst ((ws.drop i).map V.str)) hb2
    refine ⟨b1, b2, _, _, rfl, rfl, s4 _ _ g3, upd_same, by simp only [List.length_map, List.length_take, List.length_drop]; exact sizeL2 (by omega), fun b3 hb3 => ?_⟩
    rw [← List.map_append]
    have s5 := same_new (o := .lst ((ws.take (i + 1) ++ ws.drop i).map V.str)) hb3
    have sA := s3.trans (s4.trans s5)
    have n6 : b3 ≠ p := fun e => by
      obtain ⟨_, _, _, _, w⟩ := W2.same (s3.trans s4)
      rw [← e, hb3] at w; cases w
    refine q b3 _ _ upd_same n6 (fun h => ?_) (by simp only [List.length_append, List.length_take, List.length_drop]; omega) (fun s hs => ?_) (k12.trans (keepX_of sA)) (W2.same sA)
    · have := congrArg List.length h
      simp only [List.length_append, List.length_take, List.length_drop, List.length_nil] at this
      omega
    · rcases List.mem_append.mp hs with hs | hs
      · exact hok s (List.mem_of_mem_take hs)
      · exact hok s (List.mem_of_mem_drop hs)
  · refine ⟨_, rfl, _, rfl, _, rfl, a, _, rfl, SqL.of ha2, fun b1 hb1 => ?_⟩
    rw [cut_to (by omega)]
    have s3 := same_new (o := .lst ((ws.take i).map V.str)) hb1
    have g3 := upd_same (H := H2) (a := b1) (o := .lst ((ws.take i).map V.str))
    have n1 : b1 ≠ p := fun e => by obtain ⟨_, _, _, _, w⟩ := W2; rw [← e, hb1] at w; cases w
    refine ⟨_, rfl, p, rfl, W2.same s3, fun m H4 hm k4 W4 => ?_⟩
    have g4 := k4 _ _ n1 g3
    have ha4 := k4 _ _ nap (s3 _ _ ha2)
    refine ⟨by show 1 ≤ sizeLine; decide, fun b2 hb2 => ?_⟩
    have s5 := same_new (o := .lst [V.str m]) hb2
    refine ⟨b1, b2, _, _, rfl, rfl, s5 _ _ g4, upd_same, by rw [List.length_map, List.length_take]; exact sizeL2 (by show min i ws.length + 1 ≤ _; omega), fun b3 hb3 => ?_⟩
    have s6 := same_new (o := .lst ((ws.take i).map V.str ++ [V.str m])) hb3
    have s56 := s5.trans s6
    refine ⟨_, rfl, _, rfl, _, rfl, a, _, rfl, SqL.of (s56 _ _ ha4), fun b4 hb4 => ?_⟩
    rw [cut_from (by omega)]
    have s7 := same_new (o := .lst ((ws.drop i).map V.str)) hb4
    have g6 := upd_same (H := upd H4 b2 (.lst [V.str m])) (a := b3) (o := .lst ((ws.take i).map V.str ++ [V.str m]))
    refine ⟨b3, b4, _, _, rfl, rfl, s7 _ _ g6, upd_same, by simp only [List.length_append, List.length_map, List.length_take, List.length_drop, List.length_cons, List.length_nil]; exact sizeL2 (by omega), fun b5 hb5 => ?_⟩
    have e : ((ws.take i).map V.str ++ [V.str m]) ++ (ws.drop i).map V.str = (ws.take i ++ [m] ++ ws.drop i).map V.str := by simp
    rw [e]
    have s8 := same_new (o := .lst ((ws.take i ++ [m] ++ ws.drop i).map V.str)) hb5
    have sA := s56.trans (s7.trans s8)
    have n5 : b5 ≠ p := fun e => by
      obtain ⟨_, _, _, _, w⟩ := W4.same (s56.trans s7)
      rw [← e, hb5] at w; cases w
    refine q b5 (ws.take i ++ [m] ++ ws.drop i) _ upd_same n5 (by simp) (by simp only [List.length_append, List.length_take, List.length_drop, List.length_cons, List.length_nil]; omega) (fun s hs => ?_) (k12.trans ((keepX_of s3).trans (k4.trans (keepX_of sA)))) (W4.same sA)
    rcases List.mem_append.mp hs with hs | hs
    · rcases List.mem_append.mp hs with hs | hs
      · exact hok s (List.mem_of_mem_take hs)
      · rw [List.mem_singleton.mp hs]; exact hm
    · exact hok s (List.mem_of_mem_drop hs)

end
end K02
namespace K02
open PySem L2 TL
section
variable {P : Program} {w : World} {K : PySem.W.Frag} {mg : Str → Option Value} {base : Heap} {A : Ads}
theorem ok_l_is_name (T : Txt K mg A) : FnOk P w K mg base CX0 1 A.l_is_name A.l_is_name_d ["_law_word"] (spTruthA isNameW) := by
  refine T.F_l_is_name.ok sc_l_is_name (fun vs H Q E h => ?_) (fun cdv A0 outer s H vs Q E hr h => ?_)
  · obtain ⟨s, rfl, hl, hasc, q⟩ := h
    rfl
  obtain ⟨s, rfl, hl, hasc, q⟩ := h
  refine ⟨_, (pss_cons (ps_set (i := 1) sc_l_is_name.nd rfl (Or.inl rfl) pe_str)
   (pss_cons (ps_if (PW.pt (pw_or (pt_not (pt_chain op_le op_le pe_int (pe_callB call_len_str (by rfl) T.z_len (by decide +kernel) (pa_cons (pv 0) pa_nil)) pe_int)) (pw_or1 (pt_cmpR op_in_seq (pv 0) (pe_op op_cat (pe_split (pv 1) pe_str) (pe_lst (pa_cons pe_str (pa_cons pe_str (pa_cons pe_str pa_nil))))) (by rfl)))))
    (pss_one (ps_ret pe_bl))
    pss_nil)
   (pss_one (ps_ret (pe_cmpR (op_eqD hr.units) (pe_lc (own := [("_law_sign", 2)]) (g := gName 2) rfl sc_l_is_name.nd (pi_str (pv 0)) (blkOk_by (own := [("_law_sign", 2)]) (N := N_l_is_name) (sc := defScope s_l_is_name) (by decide +kernel)) (fun _ _ _ _ _ => pg_name (i := 2) sc_l_is_name.nd rfl (Or.inl rfl)) (fun _ _ _ _ _ => pts_one (pt_not (pt_chain op_le_str op_le_str pe_str (pv 2) pe_str))) (fun _ _ _ _ _ => (pv 2))) (pe_lst pa_nil) (nomark _)))))), ?_⟩
  have hs : s.length = (tl s).length := len_tl s
  refine ⟨_, rfl, _, rfl, len_line (by omega), _, _, rfl, rfl, _, rfl, ?_⟩
  refine iteD2 (fun c1 => ?_) (fun c1 => ?_)
  · refine ⟨_, _, rfl, rfl, _, rfl, iteN2 (fun c2 => ?_) (fun c2 => ?_)⟩
    · refine (nameW_false1 (s := s) (Or.inr ?_)) ▸ q _ (Same.refl H)
      omega
    · refine ⟨_, rfl, _, rfl, ⟨_, rfl⟩, _, _, rfl, rfl, (by decide +kernel), (by show _ ≤ sizeLine; decide +kernel), fun l hl' => ?_⟩
      rw [wl_split]
      have s1 := same_new (o := .lst (WL19.map V.str)) hl'
      have g1 := upd_same (H := H) (a := l) (o := .lst (WL19.map V.str))
      refine ⟨by show 3 ≤ sizeLine; decide, fun l2 hl2 => ?_⟩
      have s2 := same_new (o := .lst (WL3.map V.str)) hl2
      refine ⟨l, l2, _, WL3.map V.str, rfl, rfl, s2 _ _ g1, upd_same, by show 22 ≤ sizeLine; decide, fun l3 hl3 => ?_⟩
      have e : WL19.map V.str ++ WL3.map V.str = (WL19 ++ WL3).map V.str := by rw [List.map_append]
      rw [e]
      have s3 := s1.trans (s2.trans (same_new (o := .lst ((WL19 ++ WL3).map V.str)) hl3))
      refine ⟨l3, (WL19 ++ WL3).map V.str, rfl, .inl (SqL.of upd_same), rfl, rfl, _, rfl, ?_⟩
      rw [if_neg Bool.false_ne_true, inV_str]
      refine iteD2 (fun c3 => (nameW_false2 (s := s) (wl_to s c3)) ▸ q _ s3) (fun c3 => ?_)
      refine ⟨_, rfl, s, rfl, fun D hD => lc_it walk_str (fun k H' => H' D = some (.lst (signs (((tl s).take k).filter fun c => !isLow c))) ∧ Same (upd (upd (upd H l (.lst (WL19.map V.str))) l2 (.lst (WL3.map V.str))) l3 (.lst ((WL19 ++ WL3).map V.str))) H') ⟨by rw [upd_same]; rfl, same_new hD⟩ (fun _ _ _ _ => trivial) (by
      rintro k x X1 X2 hk ⟨h1, h2⟩ ⟨rfl, c, hc, rfl⟩
      refine ⟨rfl, ?_⟩
      have e1 : (tl s)[k]? = some c := by rw [← hc]; simp [tl]
      have hkl : k < s.length := hk
      have no : isLow c = true → X2 D = some (.lst (signs (((tl s).take (k + 1)).filter fun c => !isLow c))) := fun hf => by
        rw [h1, List.take_add_one, e1]
        simp [List.filter_append, hf]
      have yes : isLow c = false → ∃ acc, X2 D = some (.lst acc) ∧ acc.length < sizeLine ∧ (upd X2 D (.lst (acc ++ [V.str ⟨#[c]⟩])) D = some (.lst (signs (((tl s).take (k + 1)).filter fun c => !isLow c))) ∧ Same (upd (upd (upd H l (.lst (WL19.map V.str))) l2 (.lst (WL3.map V.str))) l3 (.lst ((WL19 ++ WL3).map V.str))) (upd X2 D (.lst (acc ++ [V.str ⟨#[c]⟩])))) := fun hf => by
        refine ⟨_, h1, ?_, ?_, fun b o e => ?_⟩
        · have q1 := List.length_filter_le (fun c => !isLow c) ((tl s).take k)
          have q2 := List.length_take_le k (tl s)
          have : (signs (((tl s).take k).filter fun c => !isLow c)).length = (((tl s).take k).filter fun c => !isLow c).length := List.length_map _
          rw [this]
          exact Nat.lt_of_lt_of_le (show _ < 16777216 by omega) (by decide)
        · rw [upd_same, List.take_add_one, e1]
          simp [List.filter_append, hf, signs]
        · rw [upd_ne (ne_of_none e hD)]; exact h2 b o e
      refine ⟨_, rfl, _, _, rfl, rfl, _, rfl, ?_⟩
      refine iteN2 (fun g1 => ?_) (fun g1 => ?_)
      · have g1 : ¬ c < 97 := fun h => g1 ((lt_left (n := 97) (by decide +kernel)).mpr h)
        refine ⟨_, _, rfl, rfl, _, rfl, ?_⟩
        by_cases g2 : 122 < c
        · rw [decide_eq_true ((lt_right (n := 122) (by decide +kernel)).mpr g2)]
          exact iteT ⟨_, rfl, yes (by unfold isLow; rw [decide_eq_false (show ¬ c ≤ 122 by omega), Bool.and_false])⟩
        · rw [decide_eq_false (fun h => g2 ((lt_right (n := 122) (by decide +kernel)).mp h))]
          exact iteF ⟨no (by unfold isLow; rw [decide_eq_true (show c ≤ 122 by omega), decide_eq_true (show 97 ≤ c by omega)]; rfl), h2⟩
      · have g1 := (lt_left (n := 97) (by decide +kernel)).mp g1
        exact ⟨_, rfl, iteT ⟨_, rfl, yes (by unfold isLow; rw [decide_eq_false (show ¬ 97 ≤ c by omega)]; rfl)⟩⟩) (by
      rintro X1 ⟨h1, h2⟩
      have hs' : s.cps.size = (tl s).length := by simp [tl]
      rw [hs', List.take_length] at h1
      have asc : ∀ c ∈ (tl s).filter (fun c => !isLow c), c < 128 := fun c hc => hasc c (List.mem_filter.mp hc).1
      refine ⟨by show 0 ≤ sizeLine; decide, fun z hz => ?_⟩
      have sz := same_new (o := .lst []) hz
      refine ⟨.list (((tl s).filter fun c => !isLow c).map fun c => PyData.str ⟨#[c]⟩), .list [], .lst (SqL.of (sz _ _ h1)) (dp_signs _), .lst (SqL.of upd_same) .nil, signs_shaped asc, rfl, ?_⟩
      rw [signs_eqv, filt_empty]
      exact (nameW_true (s := s) (by omega) (by omega) (fun h => c3 (wl_of.1 s h)) (fun h => c3 (wl_of.2.1 s h)) (fun h => c3 (wl_of.2.2 s h))) ▸ q _ (s3.trans (h2.trans sz)))⟩
  · refine ⟨_, rfl, iteT ?_⟩
    refine (nameW_false1 (s := s) (Or.inl ?_)) ▸ q _ (Same.refl H)
    omega

end
end K02
namespace K02
open PySem L2 TL
section
variable {P : Program} {w : World} {K : PySem.W.Frag} {mg : Str → Option Value} {base : Heap} {A : Ads}
theorem ok_l_is_value (T : Txt K mg A) : FnOk P w K mg base CX0 1 A.l_is_value A.l_is_value_d ["_law_word"] (spTruthA isValW) := by
  refine T.F_l_is_value.ok sc_l_is_value (fun vs H Q E h => ?_) (fun cdv A0 outer s H vs Q E hr h => ?_)
  · obtain ⟨s, rfl, hl, hasc, q⟩ := h
    rfl
  obtain ⟨s, rfl, hl, hasc, q⟩ := h
  refine ⟨_, (pss_cons (ps_if (PW.pt (pw_or (pt_cmpR op_eq (pv 0) pe_str (nomark _)) (pw_or1 (pt_cmpR (op_neD hr.units) (pe_lc (own := [("_law_sign", 1)]) (g := gName 1) rfl sc_l_is_value.nd (pi_str (pv 0)) (blkOk_by (own := [("_law_sign", 1)]) (N := N_l_is_value) (sc := defScope s_l_is_value) (by decide +kernel)) (fun _ _ _ _ _ => pg_name (i := 1) sc_l_is_value.nd rfl (Or.inl rfl)) (fun _ _ _ _ _ => pts_one (pt_not (pt_chain op_le_str op_le_str pe_str (pv 1) pe_str))) (fun _ _ _ _ _ => (pv 1))) (pe_lst pa_nil) (nomark _)))))
    (pss_one (ps_ret pe_bl))
    pss_nil)
   (pss_one (ps_ret (pe_and (pe_cmpR op_lt (pe_callB call_len_str (by rfl) T.z_len (by decide +kernel) (pa_cons (pv 0) pa_nil)) pe_int (nomark _)) (pe_one (pe_or (pe_cmpR op_eq (pv 0) pe_str (nomark _)) (pe_one (pe_cmpR op_ne (pe_ix ix_str (pv 0) pe_int (fun _ _ => rfl)) pe_str (nomark _))))))))), ?_⟩
  have hs : s.length = (tl s).length := len_tl s
  refine ⟨_, rfl, rfl, _, rfl, ?_⟩
  refine iteD2 (fun c1 => ?_) (fun c1 => ?_)
  · rw [V.str.inj c1] at q
    exact (show isValW "" = false from by decide +kernel) ▸ q _ (Same.refl H)
  have hp : 1 ≤ (tl s).length := by
    cases e : tl s with
    | nil => exact absurd (congrArg V.str (ext_tl (x := s) (y := "") (by rw [e]; decide +kernel))) c1
    | cons c r => exact Nat.le_add_left _ _
  refine ⟨_, rfl, s, rfl, fun D hD => lc_it walk_str (fun k H' => H' D = some (.lst (signs (((tl s).take k).filter fun c => !isDig c))) ∧ Same H H') ⟨by rw [upd_same]; rfl, same_new hD⟩ (fun _ _ _ _ => trivial) (by
      rintro k x X1 X2 hk ⟨h1, h2⟩ ⟨rfl, c, hc, rfl⟩
      refine ⟨rfl, ?_⟩
      have e1 : (tl s)[k]? = some c := by rw [← hc]; simp [tl]
      have hkl : k < s.length := hk
      have no : isDig c = true → X2 D = some (.lst (signs (((tl s).take (k + 1)).filter fun c => !isDig c))) := fun hf => by
        rw [h1, List.take_add_one, e1]
        simp [List.filter_append, hf]
      have yes : isDig c = false → ∃ acc, X2 D = some (.lst acc) ∧ acc.length < sizeLine ∧ (upd X2 D (.lst (acc ++ [V.str ⟨#[c]⟩])) D = some (.lst (signs (((tl s).take (k + 1)).filter fun c => !isDig c))) ∧ Same H (upd X2 D (.lst (acc ++ [V.str ⟨#[c]⟩])))) := fun hf => by
        refine ⟨_, h1, ?_, ?_, fun b o e => ?_⟩
        · have q1 := List.length_filter_le (fun c => !isDig c) ((tl s).take k)
          have q2 := List.length_take_le k (tl s)
          have : (signs (((tl s).take k).filter fun c => !isDig c)).length = (((tl s).take k).filter fun c => !isDig c).length := List.length_map _
          rw [this]
          exact Nat.lt_of_lt_of_le (show _ < 16777216 by omega) (by decide)
        · rw [upd_same, List.take_add_one, e1]
          simp [List.filter_append, hf, signs]
        · rw [upd_ne (ne_of_none e hD)]; exact h2 b o e
      refine ⟨_, rfl, _, _, rfl, rfl, _, rfl, ?_⟩
      refine iteN2 (fun g1 => ?_) (fun g1 => ?_)
      · have g1 : ¬ c < 48 := fun h => g1 ((lt_left (n := 48) (by decide +kernel)).mpr h)
        refine ⟨_, _, rfl, rfl, _, rfl, ?_⟩
        by_cases g2 : 57 < c
        · rw [decide_eq_true ((lt_right (n := 57) (by decide +kernel)).mpr g2)]
          exact iteT ⟨_, rfl, yes (by unfold isDig; rw [decide_eq_false (show ¬ c ≤ 57 by omega), Bool.and_false])⟩
        · rw [decide_eq_false (fun h => g2 ((lt_right (n := 57) (by decide +kernel)).mp h))]
          exact iteF ⟨no (by unfold isDig; rw [decide_eq_true (show c ≤ 57 by omega), decide_eq_true (show 48 ≤ c by omega)]; rfl), h2⟩
      · have g1 := (lt_left (n := 48) (by decide +kernel)).mp g1
        exact ⟨_, rfl, iteT ⟨_, rfl, yes (by unfold isDig; rw [decide_eq_false (show ¬ 48 ≤ c by omega)]; rfl)⟩⟩) (by
      rintro X1 ⟨h1, h2⟩
      have hs' : s.cps.size = (tl s).length := by simp [tl]
      rw [hs', List.take_length] at h1
      have asc : ∀ c ∈ (tl s).filter (fun c => !isDig c), c < 128 := fun c hc => hasc c (List.mem_filter.mp hc).1
      refine ⟨by show 0 ≤ sizeLine; decide, fun z hz => ?_⟩
      have sz := same_new (o := .lst []) hz
      refine ⟨.list (((tl s).filter fun c => !isDig c).map fun c => PyData.str ⟨#[c]⟩), .list [], .lst (SqL.of (sz _ _ h1)) (dp_signs _), .lst (SqL.of upd_same) .nil, signs_shaped asc, rfl, ?_⟩
      rw [signs_eqv, filt_empty]
      have s0 := h2.trans sz
      refine ⟨_, rfl, ?_⟩
      cases hd : (tl s).all isDig with
      | false =>
        refine iteT ?_
        have e : isValW s = false := by unfold isValW; rw [hd, Bool.and_false]
        rw [e] at q
        exact q _ s0
      | true =>
        refine iteF ?_
        obtain ⟨c, r, hc⟩ : ∃ c r, tl s = c :: r := by
          cases e : tl s with
          | nil => rw [e] at hp; simp at hp
          | cons c r => exact ⟨c, r, rfl⟩
        refine ⟨_, rfl, _, rfl, len_line (by omega), _, _, rfl, rfl, _, rfl, iteD2 (fun g1 => ?_) (fun g1 => ?_)⟩
        · have h6 : (tl s).length ≤ 6 := by omega
          refine ⟨_, rfl, rfl, _, rfl, iteD2 (fun g2 => ?_) (fun g2 => ?_)⟩
          · have e : isValW s = true := by rw [V.str.inj g2]; decide +kernel
            rw [e] at q
            exact q _ s0
          · refine ⟨_, rfl, s, 0, c, rfl, rfl, len_line (by omega), (by show atI (tl s) ((0 : Nat) : Int) = some c; rw [hc]; exact atI_nat rfl), rfl, ?_⟩
            have e : isValW s = !decide (V.str ⟨#[c]⟩ = V.str "0") := by
              by_cases g3 : c = 48
              · subst g3
                rw [valW_false2 (s := s) (by rw [hc]; rfl) (fun e => g2 (congrArg V.str e))]
                decide +kernel
              · rw [valW_true hp h6 (fun e => by rw [hc] at e; exact absurd (Option.some.inj e) g3), hd, decide_eq_false (fun e => g3 ?_)]
                · rfl
                · have := congrArg tl (V.str.inj e)
                  have z : tl (Str.ofString "0") = [48] := by decide +kernel
                  rw [z] at this
                  exact (List.cons.inj this).1
            rw [e] at q
            exact q _ s0
        · have e : isValW s = false := valW_false1 (.inr (by omega))
          rw [e] at q
          exact q _ s0)⟩

end
end K02
namespace K02
open PySem L2 TL
section
variable {P : Program} {w : World} {K : PySem.W.Frag} {mg : Str → Option Value} {base : Heap} {A : Ads}
theorem ok_l_read (T : Txt K mg A) : ∀ n : Nat, FnOk P w K mg base CX0 (n + 3) A.l_read A.l_read_d ["_law_words", "_law_at"] (spLRead K n)
| 0 => fn_none fun vs H Q E h => by
    obtain ⟨_, _, _, _, _, _, _, hd, _⟩ := h; omega
| n + 1 => by
  have G_l_read := ok_l_read T n
  have G_l_is_value := ok_l_is_value (P := P) (w := w) (base := base) T
  have G_l_is_name := ok_l_is_name (P := P) (w := w) (base := base) T
  refine T.F_l_read.ok sc_l_read (fun vs H Q E h => ?_) (fun cdv A0 outer s H vs Q E hr h => ?_)
  · obtain ⟨a, ws, i, rfl, hS, hlen, hws, hdn, q1, q2⟩ := h
    rfl
  obtain ⟨a, ws, i, rfl, hS, hlen, hws, hdn, q1, q2⟩ := h
  refine ⟨_, (pss_cons (ps_if (pt_cmpR op_ge (pv 1) (pe_callB call_lenK (by rfl) T.z_len (by decide +kernel) (pa_cons (pv 0) pa_nil)) (nomark _))
    (pss_one (ps_ret pe_non))
    pss_nil)
   (pss_cons (ps_set (i := 2) sc_l_read.nd rfl (Or.inl rfl) (pe_ix ix_list (pv 0) (pv 1) (fun _ _ => rfl)))
   (pss_cons (ps_if (pt_val (pe_call G_l_is_value (hr.mono (by omega)) rfl T.m_l_is_value T.F_l_is_value.kp T.b_l_is_value .nil pass0 (pa_cons (pv 2) pa_nil)))
    (pss_one (ps_ret (pe_tup (pa_cons (pe_tup (pa_cons pe_str (pa_cons (pe_callTy call_int_str (by rfl) T.z_int (by decide +kernel) (pa_cons (pv 2) pa_nil)) pa_nil))) (pa_cons (pe_op op_add (pv 1) pe_int) (pa_cons pe_int pa_nil))))))
    pss_nil)
   (pss_cons (ps_if (pt_val (pe_call G_l_is_name (hr.mono (by omega)) rfl T.m_l_is_name T.F_l_is_name.kp T.b_l_is_name .nil pass0 (pa_cons (pv 2) pa_nil)))
    (pss_one (ps_ret (pe_tup (pa_cons (pe_tup (pa_cons pe_str (pa_cons (pv 2) pa_nil))) (pa_cons (pe_op op_add (pv 1) pe_int) (pa_cons pe_int pa_nil))))))
    pss_nil)
   (pss_cons (ps_set (i := 3) sc_l_read.nd rfl (Or.inl rfl) (pe_dget2 (hu_of hr) (pe_disp (pps_cons pe_str pe_int (pps_cons pe_str pe_int (pps_cons pe_str pe_int (pps_cons pe_str pe_int (pps_cons pe_str pe_int (pps_cons pe_str pe_int (pps_cons pe_str pe_int (pps_cons pe_str pe_int pps_nil)))))))) (by rfl) (by rfl) (fun z => by cases z) (by decide)) (pv 2) pe_int ⟨by rfl, by rfl, by rfl, by rfl⟩))
   (pss_cons (ps_if (pt_cmpR op_eq (pv 3) pe_int (nomark _))
    (pss_one (ps_ret pe_non))
    pss_nil)
   (pss_cons (ps_set (i := 4) sc_l_read.nd rfl (Or.inl rfl) (pe_tup (pa_cons (pv 2) pa_nil)))
   (pss_cons (ps_set (i := 5) sc_l_read.nd rfl (Or.inl rfl) pe_int)
   (pss_cons (ps_set (i := 1) sc_l_read.nd rfl (Or.inl rfl) (pe_op op_add (pv 1) pe_int))
   (pss_cons (ps_for PassesOwn.never rfl (pi_range1 (by rfl) T.z_range (pa_cons (pv 3) pa_nil)) (pg_name (i := 6) sc_l_read.nd rfl (Or.inl rfl))
    (pss_cons (ps_set (i := 7) sc_l_read.nd rfl (Or.inl rfl) (pe_call G_l_read (hr.mono (by omega)) rfl T.m_l_read T.F_l_read.kp T.b_l_read .nil pass0 (pa_cons (pv 0) (pa_cons (pv 1) pa_nil))))
   (pss_cons (ps_if (pt_cmpR op_isN (pv 7) pe_non (nomark _))
    (pss_one (ps_ret pe_non))
    pss_nil)
   (pss_cons (ps_set (i := 4) sc_l_read.nd rfl (Or.inl rfl) (pe_op op_catT (pv 4) (pe_tup (pa_cons (pe_ix ix_tup (pv 7) pe_int (fun _ _ => rfl)) pa_nil))))
   (pss_cons (ps_set (i := 1) sc_l_read.nd rfl (Or.inl rfl) (pe_ix ix_tup (pv 7) pe_int (fun _ _ => rfl)))
   (pss_one (ps_set (i := 5) sc_l_read.nd rfl (Or.inl rfl) (pe_callB (call_max2 rfl) (by rfl) T.z_max (by decide +kernel) (pa_cons (pv 5) (pa_cons (pe_ix ix_tup (pv 7) pe_int (fun _ _ => rfl)) pa_nil))))))))))
   (pss_one (ps_ret (pe_tup (pa_cons (pv 4) (pa_cons (pv 1) (pa_cons (pe_op op_add pe_int (pv 5)) pa_nil)))))))))))))))), ?_⟩
  refine ⟨_, rfl, _, rfl, a, _, rfl, .inl hS, _, _, rfl, rfl, _, rfl, ?_⟩
  rw [List.length_map]
  refine iteD2 (fun c2 => ?_) (fun c2 => ?_)
  · refine q2 ?_ H (Same.refl H)
    rw [List.drop_eq_nil_of_le (by omega)]
    rfl
  obtain ⟨w1, r1, hw⟩ : ∃ w1 r1, ws.drop i = w1 :: r1 := ⟨_, _, List.drop_eq_getElem_cons (by omega)⟩
  obtain ⟨hi, hat, hdr, hrl, hmem⟩ := at_str hw
  rw [hw] at q1 q2
  obtain ⟨hl1, hasc⟩ := hws _ hmem
  refine ⟨_, rfl, _, rfl, a, _, _, _, rfl, rfl, hS, hat, ?_⟩
  have ei : (i : Int) + 1 = ((i + 1 : Nat) : Int) := by omega
  refine ⟨_, rfl, w1, rfl, hl1, hasc, fun H1 s1 => ⟨_, rfl, iteB2 (fun c3 => ?_) (fun c3 => ?_)⟩⟩
  · rw [parseE_cons, if_pos c3] at q1
    have hv := valW_int c3
    refine ⟨_, rfl, w1, valOf w1, rfl, hv.1, hv.2.1, by show 2 ≤ sizeLine; decide, fun t1 ht1 => ?_⟩
    refine ⟨_, rfl, _, _, rfl, rfl, by show 3 ≤ sizeLine; decide, fun t ht => ?_⟩
    have s2 := same_new (o := .tup [V.str "number", V.int (valOf w1)]) ht1
    refine q1 _ _ rfl t (.ref t1) _ (s1.trans (s2.trans (same_new ht))) ?_ ⟨t1, rfl, (same_new ht) _ _ upd_same⟩
    rw [upd_same, hrl]
    have : ((ws.length - (ws.length - (i + 1)) : Nat) : Int) = (i : Int) + 1 := by omega
    rw [this]; rfl
  refine ⟨_, rfl, w1, rfl, hl1, hasc, fun H2 s2 => ⟨_, rfl, iteB2 (fun c4 => ?_) (fun c4 => ?_)⟩⟩
  · rw [parseE_cons, if_neg (by rw [c3]; decide), if_pos c4] at q1
    refine ⟨_, rfl, by show 2 ≤ sizeLine; decide, fun t1 ht1 => ?_⟩
    refine ⟨_, rfl, _, _, rfl, rfl, by show 3 ≤ sizeLine; decide, fun t ht => ?_⟩
    have s3 := same_new (o := .tup [V.str "box", V.str w1]) ht1
    refine q1 _ _ rfl t (.ref t1) _ (s1.trans (s2.trans (s3.trans (same_new ht)))) ?_ ⟨t1, rfl, (same_new ht) _ _ upd_same⟩
    rw [upd_same, hrl]
    have : ((ws.length - (ws.length - (i + 1)) : Nat) : Int) = (i : Int) + 1 := by omega
    rw [this]; rfl
  rw [parseE_many c3 c4] at q1 q2
  have s12 := s1.trans s2
  refine fun d hd => ?_
  refine ⟨upd_same, KVS, rfl, by decide, ?_⟩
  rw [kvs_merge]
  refine ⟨d, rfl, .inl ⟨_, .inl upd_same⟩, _, rfl, _, DGet.k (k := .inr w1) upd_same, ?_⟩
  rw [kvs_get]
  have s3 : Same H2 (upd (upd H2 d (.dK [])) d (.dK KVS)) := by rw [upd_upd]; exact same_new hd
  revert s3
  generalize upd (upd H2 d (.dK [])) d (.dK KVS) = H3
  intro s3
  have s13 := s12.trans s3
  refine ⟨_, rfl, rfl, _, rfl, iteD2 (fun c5 => ?_) (fun c5 => ?_)⟩
  · have c5 : manyOf w1 = 0 := by have := V.int.inj c5; omega
    rw [c5] at q2
    exact q2 rfl H3 s13
  obtain ⟨m, hm⟩ : ∃ m, manyOf w1 = m + 1 := ⟨manyOf w1 - 1, by
    have : manyOf w1 ≠ 0 := fun e => c5 (by rw [e]; rfl)
    omega⟩
  have hm2 : m + 1 ≤ 2 := by
    rw [← hm]; unfold manyOf
    by_cases g : w1 = "cell"
    · rw [if_pos g]; decide
    · rw [if_neg g]
      by_cases g2 : w1 ∈ PAIRW
      · rw [if_pos g2]; decide
      · rw [if_neg g2]; decide
  rw [hm] at q1 q2 ⊢
  simp only at q1 q2
  refine ⟨_, rfl, by show 1 ≤ sizeLine; decide, fun t0 ht0 => ?_⟩
  have s4 := s13.trans (same_new (o := .tup [V.str w1]) ht0)
  refine ⟨_, rfl, _, _, rfl, rfl, ?_⟩
  refine ⟨_, rfl, ((m + 1 : Nat) : Int), rfl, by omega, by omega, for_range (n := ((m + 1 : Nat) : Int).toNat) (fun k σ H' => ∃ (es : List Ex) (j : Nat) (t : Addr) (vs : List V) (v6 v7 : Option V), parseK n k r1 = some (es, ws.drop j) ∧ i + 1 ≤ j ∧ j ≤ ws.length ∧
      σ = [some (.ref a), some (.int j), some (.str w1), some (.int ((m + 1 : Nat) : Int)), some (.ref t), some (.int (dmax es : Nat)), v6, v7] ∧ Same H H' ∧ H' t = some (.tup (.str w1 :: vs)) ∧ All2 (ToldE K H') es vs)
    ⟨[], i + 1, t0, [], none, none, by rw [hdr]; rfl, Nat.le_refl _, by omega, by rw [← ei]; rfl, s4, upd_same, .nil⟩ ?_ ?_⟩
  · rintro k σ X1 hk ⟨es, j, t, vs, v6, v7, hp, hj1, hj2, rfl, sx, ht, ha⟩
    have hk' : k < m + 1 := by omega
    have hln := parseK_len hp
    have hal := ha.length
    refine ⟨_, rfl, _, rfl, a, ws, j, rfl, sx.seq hS, hlen, hws, by omega, fun e r pe t2 v X2 s5 ht2 hv => ?_, fun pe X2 s5 => ?_⟩
    · have pa := parse_at pe
      refine ⟨_, rfl, rfl, _, rfl, iteDF (by simp) ?_⟩
      refine ⟨_, rfl, _, rfl, t2, _, _, _, rfl, rfl, SqT.of ht2, rfl, by show 1 ≤ sizeLine; decide, fun t3 ht3 => ?_⟩
      have s6 := same_new (o := .tup [v]) ht3
      refine ⟨t, t3, _, _, rfl, rfl, SqT.of (s6 _ _ (s5 _ _ ht)), SqT.of upd_same, by simp, by show vs.length + 1 + 1 ≤ sizeLine; exact sizeL2 (by omega), (fun h => by cases h), fun _ t4 ht4 => ?_⟩
      have s7 := same_new (o := .tup ((V.str w1 :: vs) ++ [v])) ht4
      have s57 := s5.trans (s6.trans s7)
      refine ⟨_, rfl, t2, _, _, _, rfl, rfl, SqT.of ((s6.trans s7) _ _ ht2), rfl, ?_⟩
      refine ⟨_, rfl, _, rfl, t2, _, _, _, rfl, rfl, SqT.of ((s6.trans s7) _ _ ht2), rfl, _, _, rfl, ?_⟩
      refine ⟨es ++ [e], ws.length - r.length, t4, vs ++ [v], some (.int (0 + (k : Int))), some (.ref t2), ?_, by omega, pa.2.1, ?_, sx.trans s57, upd_same, (ha.mono fun e v h => h.same s57).snoc (hv.same (s6.trans s7))⟩
      · show (match parseK n k r1 with | none => none | some (es, r) => match parseE n r with | none => none | some (e, r2) => some (es ++ [e], r2)) = _
        rw [hp]
        show (match parseE n (ws.drop j) with | none => none | some (e, r2) => some (es ++ [e], r2)) = _
        rw [pe, pa.2.2]
      · rw [dmax_snoc]
        have em : (if ((e.depth : Nat) : Int) > ((dmax es : Nat) : Int) then ((e.depth : Nat) : Int) else ((dmax es : Nat) : Int)) = ((max (dmax es) e.depth : Nat) : Int) := by split <;> omega
        rw [← em]; rfl
    · refine ⟨_, rfl, rfl, _, rfl, iteDT rfl ?_⟩
      have hn : parseK n (k + 1) r1 = none := by
        show (match parseK n k r1 with | none => none | some (es, r) => match parseE n r with | none => none | some (e, r2) => some (es ++ [e], r2)) = _
        rw [hp]
        show (match parseE n (ws.drop j) with | none => none | some (e, r2) => some (es ++ [e], r2)) = _
        rw [pe]
      have hn2 := parseK_none hn (m - k)
      rw [show k + 1 + (m - k) = m + 1 by omega] at hn2
      rw [hn2] at q2
      exact q2 rfl X2 (sx.trans s5)
  · rintro σ X1 ⟨es, j, t, vs, v6, v7, hp, hj1, hj2, rfl, sx, ht, ha⟩
    rw [Int.toNat_natCast] at hp
    have hln := parseK_len hp
    rw [hp] at q1
    refine ⟨_, rfl, _, rfl, _, rfl, _, _, rfl, rfl, by show 3 ≤ sizeLine; decide, fun t5 ht5 => ?_⟩
    have s5 := same_new (o := .tup [V.ref t, V.int (j : Nat), V.int (1 + (dmax es : Nat))]) ht5
    have hjj : ws.length - (ws.drop j).length = j := by rw [List.length_drop]; omega
    have hmm : m = 0 ∨ m = 1 := by omega
    rcases hmm with rfl | rfl
    · obtain ⟨e, rfl⟩ : ∃ e, es = [e] := by
        match es, hln with
        | [e], _ => exact ⟨e, rfl⟩
      cases ha with
      | cons h1 hn =>
        cases hn
        have g : w1 = "cell" := by
          unfold manyOf at hm
          by_cases g : w1 = "cell"
          · exact g
          · rw [if_neg g] at hm
            by_cases g2 : w1 ∈ PAIRW
            · rw [if_pos g2] at hm; omega
            · rw [if_neg g2] at hm; omega
        subst g
        refine q1 (.cell e) _ rfl t5 (.ref t) _ (sx.trans s5) ?_ ⟨t, _, rfl, s5 _ _ ht, h1.same s5⟩
        rw [upd_same, hjj]
        have : (1 : Int) + ((dmax [e] : Nat) : Int) = (((Ex.cell e).depth : Nat) : Int) := by show (1 : Int) + ((max 0 e.depth : Nat) : Int) = ((e.depth + 1 : Nat) : Int); omega
        show some (HO.tup [V.ref t, V.int (j : Nat), V.int (1 + (dmax [e] : Nat))]) = _
        rw [this]
    · obtain ⟨e1, e2, rfl⟩ : ∃ e1 e2, es = [e1, e2] := by
        match es, hln with
        | [e1, e2], _ => exact ⟨e1, e2, rfl⟩
      cases ha with
      | cons h1 hn =>
        cases hn with
        | cons h2 hn =>
          cases hn
          refine q1 (.two w1 e1 e2) _ rfl t5 (.ref t) _ (sx.trans s5) ?_ ⟨t, _, _, rfl, s5 _ _ ht, h1.same s5, h2.same s5⟩
          rw [upd_same, hjj]
          have : (1 : Int) + ((dmax [e1, e2] : Nat) : Int) = (((Ex.two w1 e1 e2).depth : Nat) : Int) := by show (1 : Int) + ((max (max 0 e1.depth) e2.depth : Nat) : Int) = ((max e1.depth e2.depth + 1 : Nat) : Int); omega
          show some (HO.tup [V.ref t, V.int (j : Nat), V.int (1 + (dmax [e1, e2] : Nat))]) = _
          rw [this]

end
end K02
namespace K02
open PySem L2 TL
section
variable {P : Program} {w : World} {K : PySem.W.Frag} {mg : Str → Option Value} {base : Heap} {A : Ads}
theorem ok_l_due (T : Txt K mg A) : FnOk P w K mg base CX0 164 A.l_due A.l_due_d ["_law_text"] (spDue K) := by
  have G_l_read := ok_l_read (P := P) (w := w) (base := base) T 160
  have G_l_parts := ok_l_parts (P := P) (w := w) (base := base) T 7
  refine T.F_l_due.ok sc_l_due (fun vs H Q E h => ?_) (fun cdv A0 outer s H vs Q E hr h => ?_)
  · obtain ⟨s, rfl, hl, hasc, q1, q2⟩ := h
    rfl
  obtain ⟨s, rfl, hl, hasc, q1, q2⟩ := h
  refine ⟨_, (pss_cons (ps_set (i := 1) sc_l_due.nd rfl (Or.inl rfl) (pe_split (pv 0) pe_str))
   (pss_cons (ps_set (i := 2) sc_l_due.nd rfl (Or.inl rfl) (pe_call G_l_read (hr.mono (by decide)) rfl T.m_l_read T.F_l_read.kp T.b_l_read .nil pass0 (pa_cons (pv 1) (pa_cons pe_int pa_nil))))
   (pss_cons (ps_if (PW.pt (pw_or (pt_cmpR op_isN (pv 2) pe_non (nomark _)) (pw_or (pt_cmpR op_ne (pe_ix ix_tup (pv 2) pe_int (fun _ _ => rfl)) (pe_callB call_lenK (by rfl) T.z_len (by decide +kernel) (pa_cons (pv 1) pa_nil)) (nomark _)) (pw_or (pt_cmpR op_gt (pe_ix ix_tup (pv 2) pe_int (fun _ _ => rfl)) pe_int (nomark _)) (pw_or1 (pt_cmpR op_gt (pe_call G_l_parts (hr.mono (by decide)) rfl T.m_l_parts T.F_l_parts.kp T.b_l_parts .nil pass0 (pa_cons (pe_ix ix_tup (pv 2) pe_int (fun _ _ => rfl)) pa_nil)) pe_int (nomark _)))))))
    (pss_one (ps_ret pe_non))
    pss_nil)
   (pss_one (ps_ret (pe_ix ix_tup (pv 2) pe_int (fun _ _ => rfl))))))), ?_⟩
  have hsl := split_len (s := s)
  refine ⟨_, rfl, ⟨_, rfl⟩, s, _, rfl, rfl, (by decide +kernel), sizeL2 (by omega), fun l hn => ?_⟩
  have s1 := same_new (o := .lst ((Txt.split s (Str.ofString " ")).map V.str)) hn
  have g1 := upd_same (H := H) (a := l) (o := .lst ((Txt.split s (Str.ofString " ")).map V.str))
  have hdu := fun e => due_all (e := e) (ws := Txt.split s (Str.ofString " ")) (n := 160) (by have := hsl.1; omega) (by decide)
  refine ⟨_, rfl, l, Txt.split s (Str.ofString " "), 0, rfl, SqL.of g1, by have := hsl.1; omega, fun p hp => ⟨by have := hsl.2 p hp; omega, split_ascii hasc p hp⟩, by have := hsl.1; omega, fun e r pe t v H1 s2 ht hv => ?_, fun pe H1 s2 => ?_⟩
  · rw [List.drop_zero] at pe
    have s12 := s1.trans s2
    have pw := parse_wf pe
    refine ⟨_, rfl, rfl, _, rfl, iteDF (by simp) ?_⟩
    refine ⟨_, rfl, t, _, _, _, rfl, rfl, SqT.of ht, rfl, _, rfl, l, _, rfl, .inl (SqL.of (s2 _ _ g1)), rfl, _, rfl, iteN2 (fun c1 => ?_) (fun c1 => ?_)⟩
    · refine q2 (fun e2 h2 => c1 ?_) H1 s12
      have h3 := ((hdu e2).mp h2).1
      rw [pe] at h3
      have h4 := (Prod.mk.inj (Option.some.inj h3)).2
      rw [h4, List.length_map]; rfl
    have hr : r = [] := by
      have c1 := V.int.inj c1
      rw [List.length_map] at c1
      have hlw := congrArg List.length pw.2.2
      rw [List.length_append, e.toks_len] at hlw
      have := e.parts_pos
      cases r with
      | nil => rfl
      | cons x z => simp only [List.length_cons] at c1 hlw; omega
    subst hr
    refine ⟨_, rfl, t, _, _, _, rfl, rfl, SqT.of ht, rfl, _, _, rfl, rfl, _, rfl, iteD2 (fun c2 => ?_) (fun c2 => ?_)⟩
    · refine q2 (fun e2 h2 => ?_) H1 s12
      have h3 := (hdu e2).mp h2
      rw [pe] at h3
      have h4 := (Prod.mk.inj (Option.some.inj h3.1)).1
      rw [← h4] at h3
      have := h3.2.1
      omega
    refine ⟨_, rfl, t, _, _, _, rfl, rfl, SqT.of ht, rfl, e, v, rfl, hv, pw.1, by omega, fun H3 s3 => ?_⟩
    refine ⟨_, _, rfl, rfl, _, rfl, iteD2 (fun c3 => ?_) (fun c3 => ?_)⟩
    · refine q2 (fun e2 h2 => ?_) H3 (s12.trans s3)
      have h3 := (hdu e2).mp h2
      rw [pe] at h3
      have h4 := (Prod.mk.inj (Option.some.inj h3.1)).1
      rw [← h4] at h3
      have := h3.2.2
      omega
    · refine ⟨_, rfl, t, _, _, _, rfl, rfl, SqT.of (s3 _ _ ht), rfl, ?_⟩
      exact q1 e v H3 ((hdu e).mpr ⟨pe, by omega, by omega⟩) (s12.trans s3) (hv.same s3)
  · rw [List.drop_zero] at pe
    refine ⟨_, rfl, rfl, _, rfl, iteDT rfl ?_⟩
    refine q2 (fun e2 h2 => ?_) H1 (s1.trans s2)
    have h3 := ((hdu e2).mp h2).1
    rw [pe] at h3; cases h3

end
end K02
namespace K02
open PySem L2 TL
section
variable {P : Program} {w : World} {K : PySem.W.Frag} {mg : Str → Option Value} {base : Heap} {A : Ads}
theorem ok_l_found (T : Txt K mg A) : FnOk P w K mg base CX0 13 A.l_found A.l_found_d ["_law_text"] (spFound K) := by
  have G_read_expr := ok_read_expr (P := P) (w := w) (base := base) T
  have D_told := disp_told (P := P) (w := w) (base := base) T 7
  refine T.F_l_found.ok sc_l_found (fun vs H Q E h => ?_) (fun cdv A0 outer s H vs Q E hr h => ?_)
  · obtain ⟨x, rfl, h⟩ := h
    rfl
  obtain ⟨x, rfl, h⟩ := h
  refine ⟨_, (pss_cons (ps_try_as (i := 2) (Wout := fun _ _ _ _ => False) rfl rfl sc_l_found.nd rfl rfl ⟨rfl, by decide, Or.inl T.m_HadError⟩ takes0
    (fun W pn xe tk _ => (pss_one (ps_set (i := 1) sc_l_found.nd rfl (Or.inl rfl) (pe_methP0 (pe_callS G_read_expr (hr.mono (by decide)) rfl T.m_read_expr T.F_read_expr.kp T.b_read_expr (fun σ => passAt tk σ) (pa_cons (pv 0) pa_nil)) D_told (hr.mono (by decide)) pass0))))
    (fun a oe cls d pn hz hf => (pss_cons (ps_set (i := 3) sc_l_found.nd rfl (Or.inl rfl) (pe_callB (call_isXT hz hf) (by rfl) T.z_isinstance (by decide +kernel) (pa_cons (pv 2) (pa_cons (pe_tup (pa_cons (pe_glob (v := .ref A.NoChange) (by rfl) T.m_NoChange rfl) (pa_cons (pe_glob (v := .ref A.NoText) (by rfl) T.m_NoText rfl) (pa_cons (pe_glob (v := .ref A.NoValue) (by rfl) T.m_NoValue rfl) (pa_cons (pe_glob (v := .ref A.NoWish) (by rfl) T.m_NoWish rfl) pa_nil))))) pa_nil))))
   (pss_cons (ps_set (i := 4) sc_l_found.nd rfl (Or.inl rfl) (pe_and (pe_callB (call_isX hz hf) (by rfl) T.z_isinstance (by decide +kernel) (pa_cons (pv 2) (pa_cons (pe_glob (v := .ref A.NoProgram) (by rfl) T.m_NoProgram rfl) pa_nil))) (pe_and (pe_callB (call_isX hz hf) (by rfl) T.z_isinstance (by decide +kernel) (pa_cons (pv 2) (pa_cons (pe_bltn (v := .ty "ValueError") (by rfl) T.z_ValueError (by decide +kernel) rfl) pa_nil))) (pe_one (pe_not (pv 3))))))
   (pss_one (ps_ret (pe_ix (r := rIxL K) ix_list (pe_lst (pa_cons pe_str (pa_cons pe_str pa_nil))) (pe_callTy call_int1 (by rfl) T.z_int (by decide +kernel) (pa_cons (pv 4) pa_nil)) (fun _ _ => rfl))))))))
   (pss_one (ps_ret (pv 1)))), ?_⟩
  rcases h with ⟨s, rfl, hl, q1, q2⟩ | ⟨t, ht, hk, q⟩
  · refine ⟨_, rfl, _, rfl, .inl ⟨s, rfl, hl, fun e pe v H1 s1 ho => ?_, fun no H1 s1 => ?_⟩⟩
    · obtain ⟨p2, d2, f2, e2, g1, g2⟩ := ho.at (m := "told") (by decide +kernel)
      have hdep : e.depth ≤ 7 := by
        have h2 := (due_all (e := e) (ws := Txt.split s (Str.ofString " ")) (n := (Txt.split s (Str.ofString " ")).length + 7) (by omega) (by omega)).mp pe
        have := h2.2.1
        omega
      refine ⟨p2, _, d2, f2, e2, g1, g2, A.ec.fam e, e, v, by rw [e2]; rfl, ho, rfl, hdep, fun r2 H2 s2 t2 => ?_⟩
      exact ⟨_, rfl, q1 e r2 H2 pe (s1.trans s2) t2⟩
    · exact ⟨true, T.xh, fun _ ex hex => by
    refine ⟨_, rfl, by show 4 ≤ sizeLine; decide, fun tp htp => ?_⟩
    refine ⟨A.NoProgram, tp, _, [.ref A.NoChange, .ref A.NoText, .ref A.NoValue, .ref A.NoWish], false, rfl, rfl, excNP T, rfl, upd_same, .cons (.own _) (.cons (.own _) (.cons (.own _) (.cons (.own _) .nil))), T.xo, ?_⟩
    refine ⟨_, rfl, A.NoProgram, _, _, true, rfl, rfl, excNP T, rfl, (fun u h => h), is_self _, _, rfl, iteT ?_⟩
    refine ⟨_, rfl, A.NoProgram, _, _, true, rfl, rfl, excNP T, rfl, (fun u h => h), T.xv, _, rfl, iteT ?_⟩
    refine ⟨_, rfl, _, rfl, ?_⟩
    refine ⟨by show 2 ≤ sizeLine; decide, fun l hl => ?_⟩
    refine ⟨_, rfl, .inr ⟨_, rfl, ?_⟩⟩
    refine ⟨l, _, _, _, rfl, rfl, SqL.of upd_same, rfl, ?_⟩
    exact q2 no _ (s1.trans <| (same_new htp).trans (same_new hl)), fun h => Bool.noConfusion h⟩
  · exact ⟨_, rfl, _, rfl, .inr ⟨t, ht, hk, ⟨true, T.xh, fun _ ex hex => by
    refine ⟨_, rfl, by show 4 ≤ sizeLine; decide, fun tp htp => ?_⟩
    refine ⟨A.NoProgram, tp, _, [.ref A.NoChange, .ref A.NoText, .ref A.NoValue, .ref A.NoWish], false, rfl, rfl, excNP T, rfl, upd_same, .cons (.own _) (.cons (.own _) (.cons (.own _) (.cons (.own _) .nil))), T.xo, ?_⟩
    refine ⟨_, rfl, A.NoProgram, _, _, true, rfl, rfl, excNP T, rfl, (fun u h => h), is_self _, _, rfl, iteT ?_⟩
    refine ⟨_, rfl, A.NoProgram, _, _, true, rfl, rfl, excNP T, rfl, (fun u h => h), T.xv, _, rfl, iteT ?_⟩
    refine ⟨_, rfl, _, rfl, ?_⟩
    refine ⟨by show 2 ≤ sizeLine; decide, fun l hl => ?_⟩
    refine ⟨_, rfl, .inr ⟨_, rfl, ?_⟩⟩
    refine ⟨l, _, _, _, rfl, rfl, SqL.of upd_same, rfl, ?_⟩
    exact q _ ((same_new htp).trans (same_new hl)), fun h => Bool.noConfusion h⟩⟩⟩

end
end K02
namespace K02
open PySem L2 TL
section
variable {P : Program} {w : World} {K : PySem.W.Frag} {mg : Str → Option Value} {base : Heap} {A : Ads}
theorem ok_law (T : Txt K mg A) : FnOk P w K mg base CX0 165 A.law A.law_d ["_law_script"] (spLaw K) := by
  have G_l_well := ok_l_well (P := P) (w := w) (base := base) T
  have G_l_draw := ok_l_draw (P := P) (w := w) (base := base) T
  have G_l_words_of := ok_l_words_of (P := P) (w := w) (base := base) T 7
  have G_l_expr := ok_l_expr (P := P) (w := w) (base := base) T 8
  have G_l_spoiled := ok_l_spoiled (P := P) (w := w) (base := base) T
  have G_l_due := ok_l_due (P := P) (w := w) (base := base) T
  have G_l_found := ok_l_found (P := P) (w := w) (base := base) T
  refine T.F_law.ok sc_law (fun vs H Q E h => ?_) (fun cdv A0 outer s H vs Q E hr h => ?_)
  · obtain ⟨a, ns, rfl, hS, hlen, q⟩ := h
    rfl
  obtain ⟨a, ns, rfl, hS, hlen, q⟩ := h
  refine ⟨_, (pss_cons (ps_set (i := 1) sc_law.nd rfl (Or.inl rfl) (pe_call G_l_well (hr.mono (by decide)) rfl T.m_l_well T.F_l_well.kp T.b_l_well .nil pass0 (pa_cons (pv 0) (pa_cons pe_int pa_nil))))
   (pss_cons (ps_set (i := 2) sc_law.nd rfl (Or.inl rfl) (pe_op op_add pe_int (pe_call G_l_draw (hr.mono (by decide)) rfl T.m_l_draw T.F_l_draw.kp T.b_l_draw .nil pass0 (pa_cons (pv 1) (pa_cons pe_int pa_nil)))))
   (pss_cons (ps_set (i := 3) sc_law.nd rfl (Or.inl rfl) (pe_split (pe_call G_l_words_of (hr.mono (by decide)) rfl T.m_l_words_of T.F_l_words_of.kp T.b_l_words_of .nil pass0 (pa_cons (pe_call G_l_expr (hr.mono (by decide)) rfl T.m_l_expr T.F_l_expr.kp T.b_l_expr .nil pass0 (pa_cons (pv 1) (pa_cons (pv 2) (pa_cons (pe_op op_add pe_int (pe_op op_mul pe_int (pe_call G_l_draw (hr.mono (by decide)) rfl T.m_l_draw T.F_l_draw.kp T.b_l_draw .nil pass0 (pa_cons (pv 1) (pa_cons pe_int pa_nil))))) pa_nil)))) pa_nil)) pe_str))
   (pss_cons (ps_set (i := 1) sc_law.nd rfl (Or.inl rfl) (pe_call G_l_well (hr.mono (by decide)) rfl T.m_l_well T.F_l_well.kp T.b_l_well .nil pass0 (pa_cons (pv 0) (pa_cons pe_int pa_nil))))
   (pss_cons (ps_for PassesOwn.never rfl (pi_range1 (by rfl) T.z_range (pa_cons (pe_call G_l_draw (hr.mono (by decide)) rfl T.m_l_draw T.F_l_draw.kp T.b_l_draw .nil pass0 (pa_cons (pv 1) (pa_cons pe_int pa_nil))) pa_nil)) (pg_name (i := 4) sc_law.nd rfl (Or.inl rfl))
    (pss_one (ps_set (i := 3) sc_law.nd rfl (Or.inl rfl) (pe_call G_l_spoiled (hr.mono (by decide)) rfl T.m_l_spoiled T.F_l_spoiled.kp T.b_l_spoiled .nil pass0 (pa_cons (pv 1) (pa_cons (pv 3) pa_nil))))))
   (pss_cons (ps_set (i := 5) sc_law.nd rfl (Or.inl rfl) (pe_join pe_str (pv 3)))
   (pss_cons (ps_set (i := 6) sc_law.nd rfl (Or.inl rfl) (pe_call G_l_draw (hr.mono (by decide)) rfl T.m_l_draw T.F_l_draw.kp T.b_l_draw .nil pass0 (pa_cons (pv 1) (pa_cons pe_int pa_nil))))
   (pss_cons (ps_cut (ps_if (pt_cmpR op_lt (pv 6) pe_int (nomark _))
    (pss_one (ps_set (i := 5) sc_law.nd rfl (Or.inl rfl) (pe_ix ix_list (pe_lstT op_add_str (by exact (pv 5)) (pat_cons (CwR.PET.of (pe_op op_add_str (pv 5) pe_str)) (pat_cons (pet_repl1 (pv 5) (by decide)) (pat_cons (CwR.PET.of (pe_op op_add_str (pv 5) pe_str)) pat_nil)))) (pv 6) (fun _ _ => rfl))))
    pss_nil))
   (pss_cons (ps_cut (ps_set (i := 7) sc_law.nd rfl (Or.inl rfl) (pe_call G_l_due (hr.mono (by decide)) rfl T.m_l_due T.F_l_due.kp T.b_l_due .nil pass0 (pa_cons (pv 5) pa_nil))))
   (pss_cons (ps_cut (ps_if (pt_cmpR (op_neD hr.units) (pe_call G_l_found (hr.mono (by decide)) rfl T.m_l_found T.F_l_found.kp T.b_l_found .nil pass0 (pa_cons (pv 5) pa_nil)) (pe_orT (pv 7) (pe_one pe_str)) (nomark _))
    (pss_one (ps_ret pe_bl))
    pss_nil))
   (pss_cons (ps_cut (ps_set (i := 8) sc_law.nd rfl (Or.inl rfl) (pe_ix ix_list (pe_lst (pa_cons pe_non (pa_cons pe_int (pa_cons pe_bl (pa_cons (pe_lst (pa_cons pe_str pa_nil)) (pa_cons (pe_tup (pa_cons pe_str (pa_cons pe_int pa_nil))) (pa_cons pe_str pa_nil))))))) (pe_call G_l_draw (hr.mono (by decide)) rfl T.m_l_draw T.F_l_draw.kp T.b_l_draw .nil pass0 (pa_cons (pv 1) (pa_cons pe_int pa_nil))) (fun _ _ => rfl))))
   (pss_one (ps_ret (pe_cmpR (op_eqD hr.units) (pe_call G_l_found (hr.mono (by decide)) rfl T.m_l_found T.F_l_found.kp T.b_l_found .nil pass0 (pa_cons (pv 8) pa_nil)) pe_str (nomark _))))))))))))))), ?_⟩
  refine ⟨_, rfl, a, ns, 1, rfl, hS, by decide, fun p H1 hp s1 W1 => ?_⟩
  refine ⟨_, rfl, p, 2, rfl, W1, by decide, by decide, fun d H2 d0 d1 k2 W2 => ?_⟩
  refine ⟨_, _, rfl, rfl, ?_⟩
  refine ⟨_, rfl, _, rfl, _, rfl, p, 2, rfl, W2, by decide, by decide, fun z H3 z0 z1 k3 W3 => ?_⟩
  refine ⟨_, _, rfl, rfl, Or.inl ⟨by decide, by decide⟩, ?_⟩
  refine ⟨_, _, rfl, rfl, ?_⟩
  refine ⟨p, 6 + d, 15 + 2 * z, rfl, W3, by omega, by omega, by decide, by omega, fun e t H4 hw hd hpt ht k4 W4 => ?_⟩
  have k14 : KeepX p H1 H4 := k2.trans (k3.trans k4)
  have s14 : Same H H4 := KeepX.same hp (fun y o n e => k14 y o n (s1 y o e))
  refine ⟨e, t, rfl, ht, hw, by omega, by omega, fun H5 s5 => ?_⟩
  have hlt := Ex.text_len hw
  refine ⟨⟨_, rfl⟩, e.text, _, rfl, rfl, (by decide +kernel), sizeL2 (by omega), fun l hl => ?_⟩
  rw [Ex.split_text hw]
  have s6 := same_new (o := .lst (e.toks.map V.str)) hl
  have g6 := upd_same (H := H5) (a := l) (o := .lst (e.toks.map V.str))
  have htk : ∀ s ∈ e.toks, WordOk s := fun s hs => by
    have h := Ex.toks_ok hw s hs
    refine ⟨by omega, fun c hc => ?_⟩
    rcases h.2 c hc with h | h <;> omega
  have htl := e.toks_len
  have hpp := e.parts_pos
  refine ⟨_, rfl, a, ns, 2, rfl, (s14.trans (s5.trans s6)).seq hS, by decide, fun p2 H7 hp2 s7 W7 => ?_⟩
  have g7 := s7 _ _ g6
  have nlp : l ≠ p2 := fun e => by rw [← e, g6] at hp2; cases hp2
  refine ⟨_, rfl, p2, 3, rfl, W7, by decide, by decide, fun m H8 m0 m1 k8 W8 => ?_⟩
  have g8 := k8 _ _ nlp g7
  refine ⟨m, rfl, by omega, by omega, for_range (n := m.toNat) (fun i σ H' => ∃ (b : Addr) (us : List Str) (v4 : Option V), σ = [some (.ref a), some (.ref p2), some (.int (6 + d)), some (.ref b), v4, none, none, none, none] ∧ H' b = some (.lst (us.map V.str)) ∧ b ≠ p2 ∧ us ≠ [] ∧ us.length ≤ 17 + i ∧ (∀ s ∈ us, WordOk s) ∧ WellAt H' p2)
    ⟨l, e.toks, none, rfl, g8, nlp, (fun h => by rw [h] at htl; simp at htl; omega), by omega, htk, W8⟩ ?_ ?_⟩
  · rintro i σ H9 hi ⟨b, us, v4, rfl, hb, nb, une, ulen, uok, W9⟩
    refine ⟨_, rfl, _, rfl, p2, b, us, rfl, W9, hb, nb, une, by omega, uok, fun b2 us2 H10 hb2 nb2 une2 ul2 uok2 k10 W10 => ?_⟩
    exact ⟨b2, us2, _, rfl, hb2, nb2, une2, by omega, uok2, W10⟩
  rintro σ H9 ⟨b, us, v4, rfl, hb, nb, une, ulen, uok, W9⟩
  have ul : us.length ≤ 19 := by omega
  have hjl : (Txt.join (Str.ofString " ") us).length ≤ 153 := by
    have q1 : ((us.map tl).length) ≤ 19 := by rw [List.length_map]; exact ul
    have key : ∀ L : List (List Nat), (∀ p ∈ L, p.length ≤ 7) → (joinL [32] L).length ≤ L.length * 8 := by
      intro L
      induction L with
      | nil => intro _; simp [joinL]
      | cons x r ih =>
        intro h
        have hx := h x List.mem_cons_self
        have ih := ih fun z hz => h z (List.mem_cons_of_mem _ hz)
        cases r with
        | nil => simp [joinL]; omega
        | cons y r =>
          have e : joinL [32] (x :: y :: r) = x ++ ([32] ++ joinL [32] (y :: r)) := rfl
          rw [e, List.length_append, List.length_append]
          simp only [List.length_cons, List.length_nil] at ih ⊢
          omega
    have b1 : tl (Str.ofString " ") = [32] := by decide +kernel
    rw [join_eq, len_tl, tl_join, b1]
    have := key (us.map tl) fun p hp => by
      obtain ⟨s, hs, rfl⟩ := List.mem_map.mp hp
      exact (uok s hs).1
    omega
  have hja : Ascii (Txt.join (Str.ofString " ") us) := fun c hc => by
    have b1 : tl (Str.ofString " ") = [32] := by decide +kernel
    rw [join_eq, tl_join, b1] at hc
    rcases mem_joinL hc with h | ⟨p, hp, hc⟩
    · rw [List.mem_singleton.mp h]; decide
    · obtain ⟨s, hs, rfl⟩ := List.mem_map.mp hp
      exact (uok s hs).2 c hc
  have hsum : (us.map (·.length)).sum + us.length * (Str.ofString " ").length ≤ 16777216 := by
    have key : ∀ L : List Str, (∀ s ∈ L, WordOk s) → (L.map (·.length)).sum ≤ L.length * 7 := by
      intro L
      induction L with
      | nil => intro _; simp
      | cons x r ih =>
        intro h
        have hx := (h x List.mem_cons_self).1
        have ih := ih fun z hz => h z (List.mem_cons_of_mem _ hz)
        rw [← len_tl] at hx
        simp only [List.map_cons, List.sum_cons, List.length_cons]
        omega
    have := key us uok
    have b1 : (Str.ofString " ").length = 1 := by decide +kernel
    rw [b1]; omega
  refine ⟨⟨_, rfl⟩, _, rfl, _, b, us, rfl, rfl, .inl (SqL.of hb), hsum, ?_⟩
  revert hjl hja
  generalize Txt.join (Str.ofString " ") us = s0
  intro hjl hja
  refine ⟨_, rfl, p2, 16, rfl, W9, by decide, by decide, fun way H10 w0 w1 k10 W10 => ?_⟩
  refine ⟨fun σ' H' => ∃ txt : Str, σ' = [some (.ref a), some (.ref p2), some (.int (6 + d)), some (.ref b), v4, some (.str txt), some (.int way), none, none] ∧ txt.length ≤ 156 ∧ Ascii txt ∧ WellAt H' p2, ?_, ?_⟩
  · refine ⟨_, rfl, _, _, rfl, rfl, _, rfl, iteD2 (fun c => ?_) (fun c => ?_)⟩
    · have asc1 : ∀ x y : Str, Ascii x → Ascii y → Ascii (x ++ y) := fun x y hx hy c hc => by
        rw [tl_append] at hc
        rcases List.mem_append.mp hc with h | h
        · exact hx c h
        · exact hy c h
      have len1 : ∀ x y : Str, (x ++ y).length = x.length + y.length := fun x y => by rw [len_tl, tl_append, List.length_append, ← len_tl, ← len_tl]
      have b1 : (Str.ofString " ").length = 1 := by decide +kernel
      have b2 : (Str.ofString "  ").length = 2 := by decide +kernel
      have b3 : (Str.ofString "\n").length = 1 := by decide +kernel
      have c1 : Ascii (Str.ofString " ") := by unfold Ascii; decide +kernel
      have c2 : Ascii (Str.ofString "  ") := by unfold Ascii; decide +kernel
      have c3 : Ascii (Str.ofString "\n") := by unfold Ascii; decide +kernel
      refine ⟨_, rfl, _, _, rfl, rfl, by rw [b1]; exact sizeL2 (by omega), ?_⟩
      refine ⟨_, rfl, _, _, rfl, rfl, by rw [b1]; exact sizeL2 (by omega), ?_⟩
      refine ⟨_, rfl, s0, rfl, by rw [b2]; omega, fun r hr hrm => ?_⟩
      rw [b2] at hr
      have hra : Ascii r := fun c hc => (hrm c hc).elim (hja c) (c2 c)
      refine ⟨_, rfl, _, _, rfl, rfl, by rw [b3]; exact sizeL2 (by omega), ?_⟩
      refine ⟨by show 4 ≤ sizeLine; decide, fun l2 hl2 => ?_⟩
      obtain ⟨tx, htx, etx⟩ := at_strs (ss := [Str.ofString " " ++ s0, s0 ++ Str.ofString " ", r, s0 ++ Str.ofString "\n"]) (n := way) w0 (by show way < ((4 : Nat) : Int); omega)
      refine ⟨_, rfl, l2, _, _, _, rfl, rfl, SqL.of upd_same, etx, ?_⟩
      have hok : tx.length ≤ 156 ∧ Ascii tx := by
        simp only [List.mem_cons, List.not_mem_nil, or_false] at htx
        rcases htx with rfl | rfl | rfl | rfl
        · exact ⟨by rw [len1, b1]; omega, asc1 _ _ c1 hja⟩
        · exact ⟨by rw [len1, b1]; omega, asc1 _ _ hja c1⟩
        · exact ⟨by omega, hra⟩
        · exact ⟨by rw [len1, b3]; omega, asc1 _ _ hja c3⟩
      exact ⟨tx, rfl, hok.1, hok.2, W10.same (same_new hl2)⟩
    · exact ⟨s0, rfl, by omega, hja, W10⟩
  rintro σ H11 ⟨txt, rfl, txl, txa, W11⟩
  refine ⟨fun σ' H' => ∃ v : V, σ' = [some (.ref a), some (.ref p2), some (.int (6 + d)), some (.ref b), v4, some (.str txt), some (.int way), some v, none] ∧ WellAt H' p2 ∧
    ((∃ e, parseAll (Txt.split txt " ").length (Txt.split txt " ") = some [e] ∧ ToldE K H' e v) ∨ (v = .non ∧ ∀ e, parseAll (Txt.split txt " ").length (Txt.split txt " ") ≠ some [e])), ?_, ?_⟩
  · refine ⟨_, rfl, txt, rfl, txl, txa, fun e v H' pe s' hv => ?_, fun no H' s' => ?_⟩
    · exact ⟨v, rfl, W11.same s', .inl ⟨e, pe, hv⟩⟩
    · exact ⟨.non, rfl, W11.same s', .inr ⟨rfl, no⟩⟩
  rintro σ H12 ⟨v, rfl, W12, hv⟩
  refine ⟨fun σ' H' => σ' = [some (.ref a), some (.ref p2), some (.int (6 + d)), some (.ref b), v4, some (.str txt), some (.int way), some v, none] ∧ WellAt H' p2, ?_, ?_⟩
  · refine ⟨_, rfl, _, rfl, .inl ⟨txt, rfl, by omega, fun e2 v2 H' pe2 s' hv2 => ?_, fun no H' s' => ?_⟩⟩
    · rcases hv with ⟨e, pe, hv⟩ | ⟨_, no⟩
      · rw [pe] at pe2
        obtain rfl : e = e2 := by injection pe2 with h; injection h
        have h2 := (due_all (e := e) (ws := Txt.split txt (Str.ofString " ")) (n := (Txt.split txt (Str.ofString " ")).length + 7) (by omega) (by omega)).mp pe
        have hw := (parse_wf h2.1).1
        have sh := Ex.shaped hw (by omega)
        obtain ⟨tt, xx, rfl, htt⟩ := hv.ref
        have hne : (!xx.isEmpty) = true := by
          cases e with
          | num n => obtain ⟨_, h1, h2⟩ := hv; cases h1; rw [htt] at h2; cases h2; rfl
          | box n => obtain ⟨_, h1, h2⟩ := hv; cases h1; rw [htt] at h2; cases h2; rfl
          | cell e => obtain ⟨_, _, h1, h2, _⟩ := hv; cases h1; rw [htt] at h2; cases h2; rfl
          | two w l r => obtain ⟨_, _, _, h1, h2, _⟩ := hv; cases h1; rw [htt] at h2; cases h2; rfl
        refine ⟨_, rfl, true, .inr (.inl ⟨xx, SqT.of (s' _ _ htt), hne.symm⟩), iteT ?_⟩
        refine ⟨e.told, e.told, hv2.dp, (hv.same s').dp, sh, sh, _, rfl, ?_⟩
        rw [Ex.eqv hw]
        exact iteF ⟨rfl, W12.same s'⟩
      · exact absurd pe2 (no e2)
    · rcases hv with ⟨e, pe, hv⟩ | ⟨rfl, _⟩
      · exact absurd pe (no e)
      · refine ⟨_, rfl, false, rfl, iteF ?_⟩
        refine ⟨.str "refused", .str "refused", .str _, .str _, refused_shaped, refused_shaped, _, rfl, ?_⟩
        rw [show PyData.eqv (.str "refused") (.str "refused") = true from by decide +kernel]
        exact iteF ⟨rfl, W12.same s'⟩
  rintro σ H13 ⟨rfl, W13⟩
  refine ⟨fun σ' H' => ∃ x : V, σ' = [some (.ref a), some (.ref p2), some (.int (6 + d)), some (.ref b), v4, some (.str txt), some (.int way), some v, some x] ∧ (x = .str "" ∨ ∃ t, TyX K H' x t ∧ PySem.W.kitOne K t (.type "str") = some false), ?_, ?_⟩
  · refine ⟨by show 1 ≤ sizeLine; decide, fun l1 hl1 => ⟨by show 2 ≤ sizeLine; decide, fun t1 ht1 => ⟨by show 6 ≤ sizeLine; decide, fun l2 hl2 => ?_⟩⟩⟩
    have s1 := same_new (o := .lst [V.str "a"]) hl1
    have s2 := same_new (o := .tup [V.str "number", V.int 1]) ht1
    have s3 := same_new (o := .lst [V.non, V.int 7, V.bl true, V.ref l1, V.ref t1, V.str ""]) hl2
    have g1 := (s2.trans s3) _ _ (upd_same (H := H13) (a := l1) (o := .lst [V.str "a"]))
    have g2 := s3 _ _ (upd_same (H := upd H13 l1 (.lst [V.str "a"])) (a := t1) (o := .tup [V.str "number", V.int 1]))
    have Wx := W13.same (s1.trans (s2.trans s3))
    have nl : l2 ≠ p2 := (W13.same (s1.trans s2)).fresh hl2
    refine ⟨_, rfl, p2, 6, rfl, Wx, by decide, by decide, fun m H' m0 m1 k W' => ?_⟩
    have g3 := k _ _ nl upd_same
    have g1 := k _ _ (W13.fresh hl1) g1
    have g2 := k.tup Wx g2
    have hm : m = 0 ∨ m = 1 ∨ m = 2 ∨ m = 3 ∨ m = 4 ∨ m = 5 := by omega
    rcases hm with rfl | rfl | rfl | rfl | rfl | rfl
    · exact ⟨l2, _, _, _, rfl, rfl, SqL.of g3, rfl, .non, rfl, .inr ⟨_, .base .non, kit_ty (by decide +kernel)⟩⟩
    · exact ⟨l2, _, _, _, rfl, rfl, SqL.of g3, rfl, .int 7, rfl, .inr ⟨_, .base (.int _), kit_ty (by decide +kernel)⟩⟩
    · exact ⟨l2, _, _, _, rfl, rfl, SqL.of g3, rfl, .bl true, rfl, .inr ⟨_, .base (.bl _), kit_ty (by decide +kernel)⟩⟩
    · exact ⟨l2, _, _, _, rfl, rfl, SqL.of g3, rfl, .ref l1, rfl, .inr ⟨_, .base (.lst g1), kit_ty (by decide +kernel)⟩⟩
    · exact ⟨l2, _, _, _, rfl, rfl, SqL.of g3, rfl, .ref t1, rfl, .inr ⟨_, .base (.tup g2), kit_ty (by decide +kernel)⟩⟩
    · exact ⟨l2, _, _, _, rfl, rfl, SqL.of g3, rfl, .str "", rfl, .inl rfl⟩
  rintro σ H14 ⟨x, rfl, hx⟩
  have fin : ∀ H', ∃ d e, Dp K H' (.str "refused") d ∧ Dp K H' (.str "refused") e ∧ SeqAt.shaped d = true ∧ SeqAt.shaped e = true ∧ Q (.bl (PyData.eqv d e)) H' := fun H' => by
    refine ⟨.str "refused", .str "refused", .str _, .str _, refused_shaped, refused_shaped, ?_⟩
    rw [show PyData.eqv (.str "refused") (.str "refused") = true from by decide +kernel]
    exact q _
  rcases hx with rfl | ⟨t, ht, hk⟩
  · have e0 : ∀ e, parseAll (Txt.split (Str.ofString "") (Str.ofString " ")).length (Txt.split (Str.ofString "") (Str.ofString " ")) ≠ some [e] := fun e h => by
      have h1 : Txt.split (Str.ofString "") (Str.ofString " ") = [Str.ofString ""] := by decide +kernel
      rw [h1] at h
      have h2 := (due_all (e := e) (ws := [Str.ofString ""]) (n := 8) (by decide) (by decide)).mp h
      have c3 : isValW (Str.ofString "") = false := by decide +kernel
      have c4 : isNameW (Str.ofString "") = false := by decide +kernel
      have c5 : manyOf (Str.ofString "") = 0 := by decide +kernel
      have h3 := h2.1
      rw [parseE_many (n := 7) c3 c4, c5] at h3
      cases h3
    exact ⟨_, rfl, _, rfl, .inl ⟨_, rfl, by decide, fun e v H' pe => absurd pe (e0 e), fun _ H' s' => fin H'⟩⟩
  · exact ⟨_, rfl, _, rfl, .inr ⟨t, ht, hk, fun H' s' => fin H'⟩⟩

end
end K02
namespace K02
open PySem PySem.Spec PyProof.Rows L2 TL
def hD_is_name : He.DefD := ⟨("is_name", none), "is_name", "is_name", defArgs s_is_name, defBody s_is_name, defScope s_is_name, [], []⟩
def hD_is_value_word : He.DefD := ⟨("is_value_word", none), "is_value_word", "is_value_word", defArgs s_is_value_word, defBody s_is_value_word, defScope s_is_value_word, [], []⟩
def hD_Number_init : He.DefD := ⟨("Number", some "__init__"), "__init__", "Number.__init__", defArgs s_Number_init, defBody s_Number_init, defScope s_Number_init, [], []⟩
def hD_Box_init : He.DefD := ⟨("Box", some "__init__"), "__init__", "Box.__init__", defArgs s_Box_init, defBody s_Box_init, defScope s_Box_init, [], []⟩
def hD_Cell_init : He.DefD := ⟨("Cell", some "__init__"), "__init__", "Cell.__init__", defArgs s_Cell_init, defBody s_Cell_init, defScope s_Cell_init, [], []⟩
def hD_Two_init : He.DefD := ⟨("Two", some "__init__"), "__init__", "Two.__init__", defArgs s_Two_init, defBody s_Two_init, defScope s_Two_init, [], []⟩
def hD_Number_told : He.DefD := ⟨("Number", some "told"), "told", "Number.told", defArgs s_Number_told, defBody s_Number_told, defScope s_Number_told, [], []⟩
def hD_Box_told : He.DefD := ⟨("Box", some "told"), "told", "Box.told", defArgs s_Box_told, defBody s_Box_told, defScope s_Box_told, [], []⟩
def hD_Cell_told : He.DefD := ⟨("Cell", some "told"), "told", "Cell.told", defArgs s_Cell_told, defBody s_Cell_told, defScope s_Cell_told, [], []⟩
def hD_Two_told : He.DefD := ⟨("Two", some "told"), "told", "Two.told", defArgs s_Two_told, defBody s_Two_told, defScope s_Two_told, [], []⟩
def hD_Expr_parts : He.DefD := ⟨("Expr", some "parts"), "parts", "Expr.parts", defArgs s_Expr_parts, defBody s_Expr_parts, defScope s_Expr_parts, [], []⟩
def hD_Cell_parts : He.DefD := ⟨("Cell", some "parts"), "parts", "Cell.parts", defArgs s_Cell_parts, defBody s_Cell_parts, defScope s_Cell_parts, [], []⟩
def hD_Two_parts : He.DefD := ⟨("Two", some "parts"), "parts", "Two.parts", defArgs s_Two_parts, defBody s_Two_parts, defScope s_Two_parts, [], []⟩
def hD_expr_at : He.DefD := ⟨("expr_at", none), "expr_at", "expr_at", defArgs s_expr_at, defBody s_expr_at, defScope s_expr_at, [], []⟩
def hD_exprs_of : He.DefD := ⟨("exprs_of", none), "exprs_of", "exprs_of", defArgs s_exprs_of, defBody s_exprs_of, defScope s_exprs_of, [], []⟩
def hD_read_expr : He.DefD := ⟨("read_expr", none), "read_expr", "read_expr", defArgs s_read_expr, defBody s_read_expr, defScope s_read_expr, [], []⟩
def hD_l_cell : He.DefD := ⟨("_law_cell", none), "_law_cell", "_law_cell", defArgs s_l_cell, defBody s_l_cell, defScope s_l_cell, [], []⟩
def hD_l_mixed : He.DefD := ⟨("_law_mixed", none), "_law_mixed", "_law_mixed", defArgs s_l_mixed, defBody s_l_mixed, defScope s_l_mixed, [], []⟩
def hD_l_twice : He.DefD := ⟨("_law_twice", none), "_law_twice", "_law_twice", defArgs s_l_twice, defBody s_l_twice, defScope s_l_twice, [], []⟩
def hD_l_well : He.DefD := ⟨("_law_well", none), "_law_well", "_law_well", defArgs s_l_well, defBody s_l_well, defScope s_l_well, [], []⟩
def hD_l_draw : He.DefD := ⟨("_law_draw", none), "_law_draw", "_law_draw", defArgs s_l_draw, defBody s_l_draw, defScope s_l_draw, [], []⟩
def hD_l_value : He.DefD := ⟨("_law_value", none), "_law_value", "_law_value", defArgs s_l_value, defBody s_l_value, defScope s_l_value, [], []⟩
def hD_l_name : He.DefD := ⟨("_law_name", none), "_law_name", "_law_name", defArgs s_l_name, defBody s_l_name, defScope s_l_name, [], []⟩
def hD_l_parts : He.DefD := ⟨("_law_parts", none), "_law_parts", "_law_parts", defArgs s_l_parts, defBody s_l_parts, defScope s_l_parts, [], []⟩
def hD_l_expr : He.DefD := ⟨("_law_expr", none), "_law_expr", "_law_expr", defArgs s_l_expr, defBody s_l_expr, defScope s_l_expr, [], []⟩
def hD_l_words_of : He.DefD := ⟨("_law_words_of", none), "_law_words_of", "_law_words_of", defArgs s_l_words_of, defBody s_l_words_of, defScope s_l_words_of, [], []⟩
def hD_l_menu : He.DefD := ⟨("_law_menu", none), "_law_menu", "_law_menu", defArgs s_l_menu, defBody s_l_menu, defScope s_l_menu, [], []⟩
def hD_l_spoiled : He.DefD := ⟨("_law_spoiled", none), "_law_spoiled", "_law_spoiled", defArgs s_l_spoiled, defBody s_l_spoiled, defScope s_l_spoiled, [], []⟩
def hD_l_is_name : He.DefD := ⟨("_law_is_name", none), "_law_is_name", "_law_is_name", defArgs s_l_is_name, defBody s_l_is_name, defScope s_l_is_name, [], []⟩
def hD_l_is_value : He.DefD := ⟨("_law_is_value", none), "_law_is_value", "_law_is_value", defArgs s_l_is_value, defBody s_l_is_value, defScope s_l_is_value, [], []⟩
def hD_l_read : He.DefD := ⟨("_law_read", none), "_law_read", "_law_read", defArgs s_l_read, defBody s_l_read, defScope s_l_read, [], []⟩
def hD_l_due : He.DefD := ⟨("_law_due", none), "_law_due", "_law_due", defArgs s_l_due, defBody s_l_due, defScope s_l_due, [], []⟩
def hD_l_found : He.DefD := ⟨("_law_found", none), "_law_found", "_law_found", defArgs s_l_found, defBody s_l_found, defScope s_l_found, [], []⟩
def hD_law : He.DefD := ⟨("law", none), "law", "law", defArgs s_law, defBody s_law, defScope s_law, [], []⟩
def hFn : List He.DefD := ([hD_is_name, hD_is_value_word, hD_Number_init, hD_Box_init, hD_Cell_init, hD_Two_init, hD_Number_told, hD_Box_told, hD_Cell_told, hD_Two_told, hD_Expr_parts, hD_Cell_parts, hD_Two_parts, hD_expr_at, hD_exprs_of, hD_read_expr, hD_l_cell, hD_l_mixed, hD_l_twice, hD_l_well, hD_l_draw, hD_l_value, hD_l_name, hD_l_parts, hD_l_expr, hD_l_words_of, hD_l_menu, hD_l_spoiled, hD_l_is_name, hD_l_is_value] : List He.DefD) ++ ([hD_l_read, hD_l_due, hD_l_found, hD_law] : List He.DefD)
def hFa : List FaM := ([fun K => (He.Fa.glo "is_name").ok K,
  fun K => (He.Fa.glo "is_value_word").ok K,
  fun K => (He.Fa.glo "expr_at").ok K,
  fun K => (He.Fa.glo "exprs_of").ok K,
  fun K => (He.Fa.glo "read_expr").ok K,
  fun K => (He.Fa.glo "_law_cell").ok K,
  fun K => (He.Fa.glo "_law_mixed").ok K,
  fun K => (He.Fa.glo "_law_twice").ok K,
  fun K => (He.Fa.glo "_law_well").ok K,
  fun K => (He.Fa.glo "_law_draw").ok K,
  fun K => (He.Fa.glo "_law_value").ok K,
  fun K => (He.Fa.glo "_law_name").ok K,
  fun K => (He.Fa.glo "_law_parts").ok K,
  fun K => (He.Fa.glo "_law_expr").ok K,
  fun K => (He.Fa.glo "_law_words_of").ok K,
  fun K => (He.Fa.glo "_law_menu").ok K,
  fun K => (He.Fa.glo "_law_spoiled").ok K,
  fun K => (He.Fa.glo "_law_is_name").ok K,
  fun K => (He.Fa.glo "_law_is_value").ok K,
  fun K => (He.Fa.glo "_law_read").ok K] : List FaM) ++
  ([fun K => (He.Fa.glo "_law_due").ok K,
  fun K => (He.Fa.glo "_law_found").ok K,
  fun K => (He.Fa.glo "law").ok K,
  fun K => (He.Fa.glo "Number").ok K,
  fun K => (He.Fa.cls "Number").ok K,
  fun K => PySem.W.makesIn K (He.ga K "Number"),
  fun K => (He.Fa.noat "Number" "value").ok K,
  fun K => (He.Fa.mkr "Number").ok K,
  fun K => (He.Fa.glo "Box").ok K,
  fun K => (He.Fa.cls "Box").ok K,
  fun K => PySem.W.makesIn K (He.ga K "Box"),
  fun K => (He.Fa.noat "Box" "name").ok K,
  fun K => (He.Fa.mkr "Box").ok K,
  fun K => (He.Fa.glo "Cell").ok K,
  fun K => (He.Fa.cls "Cell").ok K,
  fun K => PySem.W.makesIn K (He.ga K "Cell"),
  fun K => (He.Fa.noat "Cell" "inner").ok K,
  fun K => (He.Fa.mkr "Cell").ok K,
  fun K => (He.Fa.glo "Two").ok K,
  fun K => (He.Fa.cls "Two").ok K] : List FaM) ++
  ([fun K => PySem.W.makesIn K (He.ga K "Two"),
  fun K => (He.Fa.noat "Two" "word").ok K,
  fun K => (He.Fa.noat "Two" "left").ok K,
  fun K => (He.Fa.noat "Two" "right").ok K,
  fun K => (He.Fa.mkr "Two").ok K,
  fun K => (He.Fa.glo "Expr").ok K,
  fun K => (He.Fa.cls "Expr").ok K,
  fun K => PySem.W.makesIn K (He.ga K "Expr"),
  fun K => (He.Fa.meth "Number" "told").ok K,
  fun K => (He.Fa.meth "Box" "told").ok K,
  fun K => (He.Fa.meth "Cell" "told").ok K,
  fun K => (He.Fa.meth "Two" "told").ok K,
  fun K => (He.Fa.meth "Number" "parts").ok K,
  fun K => decide (He.ma K (He.ga K "Number") "parts" = He.ma K (He.ga K "Expr") "parts"),
  fun K => (He.Fa.meth "Box" "parts").ok K,
  fun K => decide (He.ma K (He.ga K "Box") "parts" = He.ma K (He.ga K "Expr") "parts"),
  fun K => (He.Fa.meth "Cell" "parts").ok K,
  fun K => (He.Fa.meth "Two" "parts").ok K,
  fun K => (He.Fa.glo "PAIRS").ok K,
  fun K => He.tupB K "PAIRS" [.str "plus", .str "minus", .str "times", .str "over", .str "rest", .str "less", .str "same"]] : List FaM) ++
  ([fun K => (He.Fa.glo "ROWS").ok K,
  fun K => He.tupB K "ROWS" [.str "skip", .str "set", .str "put", .str "ask", .str "draw", .str "tell", .str "if", .str "while", .str "call"],
  fun K => (He.Fa.glo "OTHERS").ok K,
  fun K => He.tupB K "OTHERS" [.str "else", .str "end", .str "fun", .str "main", .str "give", .str "cell"],
  fun K => (He.Fa.exc "NoProgram").ok K,
  fun K => (He.Fa.glo "NoProgram").ok K,
  fun K => (He.Fa.exc "HadError").ok K,
  fun K => (He.Fa.glo "HadError").ok K,
  fun K => (He.Fa.exc "NoChange").ok K,
  fun K => (He.Fa.glo "NoChange").ok K,
  fun K => (He.Fa.exc "NoText").ok K,
  fun K => (He.Fa.glo "NoText").ok K,
  fun K => (He.Fa.exc "NoValue").ok K,
  fun K => (He.Fa.glo "NoValue").ok K,
  fun K => (He.Fa.exc "NoWish").ok K,
  fun K => (He.Fa.glo "NoWish").ok K,
  fun K => decide ((He.ga K "Number") ≠ (He.ga K "Box")),
  fun K => decide ((He.ga K "Number") ≠ (He.ga K "Cell")),
  fun K => decide ((He.ga K "Number") ≠ (He.ga K "Two")),
  fun K => decide ((He.ga K "Box") ≠ (He.ga K "Number"))] : List FaM) ++
  ([fun K => decide ((He.ga K "Box") ≠ (He.ga K "Cell")),
  fun K => decide ((He.ga K "Box") ≠ (He.ga K "Two")),
  fun K => decide ((He.ga K "Cell") ≠ (He.ga K "Number")),
  fun K => decide ((He.ga K "Cell") ≠ (He.ga K "Box")),
  fun K => decide ((He.ga K "Cell") ≠ (He.ga K "Two")),
  fun K => decide ((He.ga K "Two") ≠ (He.ga K "Number")),
  fun K => decide ((He.ga K "Two") ≠ (He.ga K "Box")),
  fun K => decide ((He.ga K "Two") ≠ (He.ga K "Cell")),
  fun K => decide (PySem.W.findIn K (.ref (He.ga K "NoProgram")) "__getattribute__" = some (some (.builtin "BaseException.__getattribute__"))),
  fun K => decide (PySem.W.findIn K (.ref (He.ga K "NoProgram")) "__getattr__" = some none),
  fun K => decide (PySem.W.hasDictIn K (He.ga K "NoProgram") = true),
  fun K => decide (PySem.W.findIn K (.ref (He.ga K "NoProgram")) "__class__" = some (some (.builtin "object.__class__"))),
  fun K => decide (PySem.W.specialIn K (.builtin "object.__class__") "__get__" = some (some (.builtin "getset_descriptor.__get__"))),
  fun K => decide (PySem.W.takesIn K (.builtin "object.__class__") = some true),
  fun K => decide (PySem.W.mroIn K (He.ga K "NoProgram") (.type "object") = some true),
  fun K => decide (PySem.W.exmOne K (.ref (He.ga K "NoProgram")) (.ref (He.ga K "HadError")) = some true),
  fun K => decide (PySem.W.kitAny K (.ref (He.ga K "NoProgram")) [.ref (He.ga K "NoChange"), .ref (He.ga K "NoText"), .ref (He.ga K "NoValue"), .ref (He.ga K "NoWish")] = some false),
  fun K => decide (PySem.W.kitOne K (.ref (He.ga K "NoProgram")) (.type "ValueError") = some true),
  fun K => (He.Fa.str "LETTERS" "abcdefghijklmnopqrstuvwxyz").ok K,
  fun K => (He.Fa.str "FIGURES" "0123456789").ok K] : List FaM) ++
  ([fun K => (He.Fa.int "MOST_DEEP" 6).ok K,
  fun K => (He.Fa.int "MOST_PARTS" 15).ok K,
  fun K => (He.Fa.free "str").ok K,
  fun K => (He.Fa.free "isinstance").ok K,
  fun K => (He.Fa.free "len").ok K,
  fun K => (He.Fa.free "all").ok K,
  fun K => (He.Fa.free "int").ok K,
  fun K => (He.Fa.free "range").ok K,
  fun K => (He.Fa.free "sum").ok K,
  fun K => (He.Fa.free "max").ok K,
  fun K => (He.Fa.free "ValueError").ok K] : List FaM)
def loose : List Str := (["_wall", "HadError", "NoProgram", "NoChange", "NoValue", "NoWish", "NoText", "MOST_PARTS", "MOST_DEEP", "LETTERS", "FIGURES", "PAIRS", "ROWS", "OTHERS", "is_name"] : List Str) ++ (["is_value_word", "Expr", "Number", "Box", "Cell", "Two", "expr_at", "exprs_of", "read_expr", "_law_cell", "_law_mixed", "_law_twice", "_law_well", "_law_draw", "_law_value"] : List Str) ++ (["_law_name", "_law_parts", "_law_expr", "_law_words_of", "_law_menu", "_law_spoiled", "_law_is_name", "_law_is_value", "_law_read", "_law_due", "_law_found"] : List Str)
abbrev R : PySem.W.OpenRow := PySem.W.OpenLaw.row PySem.Challenge.rw_hadbeen_k02_no_expression
abbrev hk : PySem.W.Hook := hookM ("law" :: loose) hFa hFn
def ob (s : PySem.W.SharedT) : He.AlD := obsMG ("law" :: loose) hFa hFn (HandSHeadRun.getT s)
theorem ob_eq (s : PySem.W.SharedT) : ob s = hk.obs s.abs := obsMG_eq (HandSHeadRun.getT_eq s)
end K02
namespace K02
open PySem PySem.Spec PyProof.Rows L2 TL
theorem run (w : World) : HandSHeadRun.RunEq R (PySem.W.view R.prog [44]) hk ob 4000 loose w := by
  intro os
  kernel_rfl
end K02
namespace K02
open PySem PySem.Spec PyProof.Rows L2 TL
set_option maxHeartbeats 0 in
theorem facts {P : Program} {w : World} {K : PySem.W.Frag} {h : Heap} {mg : Str → Option Value} {f : Addr} (X : K.In h) (G : h.Ns mainGlobals mg) (hfa : mg ("law" : Str) = some (.ref f)) (c : SaysM hFa hFn K) :
    ∃ fd : FuncData, (∀ (s : Shared) (v : Value), BindsTo s fd ⟨[v], []⟩ [("_law_script", v)]) ∧ ∀ base : Heap, K.In base → base.Ns mainGlobals mg → FnOk P w K mg base CX0 165 f fd ["_law_script"] (spLaw K) := by
  obtain ⟨d0, F0⟩ := c.def_ 0 (d := hD_is_name) rfl
  obtain ⟨d1, F1⟩ := c.def_ 1 (d := hD_is_value_word) rfl
  obtain ⟨d2, F2⟩ := c.def_ 2 (d := hD_Number_init) rfl
  obtain ⟨d3, F3⟩ := c.def_ 3 (d := hD_Box_init) rfl
  obtain ⟨d4, F4⟩ := c.def_ 4 (d := hD_Cell_init) rfl
  obtain ⟨d5, F5⟩ := c.def_ 5 (d := hD_Two_init) rfl
  obtain ⟨d6, F6⟩ := c.def_ 6 (d := hD_Number_told) rfl
  obtain ⟨d7, F7⟩ := c.def_ 7 (d := hD_Box_told) rfl
  obtain ⟨d8, F8⟩ := c.def_ 8 (d := hD_Cell_told) rfl
  obtain ⟨d9, F9⟩ := c.def_ 9 (d := hD_Two_told) rfl
  obtain ⟨d10, F10⟩ := c.def_ 10 (d := hD_Expr_parts) rfl
  obtain ⟨d11, F11⟩ := c.def_ 11 (d := hD_Cell_parts) rfl
  obtain ⟨d12, F12⟩ := c.def_ 12 (d := hD_Two_parts) rfl
  obtain ⟨d13, F13⟩ := c.def_ 13 (d := hD_expr_at) rfl
  obtain ⟨d14, F14⟩ := c.def_ 14 (d := hD_exprs_of) rfl
  obtain ⟨d15, F15⟩ := c.def_ 15 (d := hD_read_expr) rfl
  obtain ⟨d16, F16⟩ := c.def_ 16 (d := hD_l_cell) rfl
  obtain ⟨d17, F17⟩ := c.def_ 17 (d := hD_l_mixed) rfl
  obtain ⟨d18, F18⟩ := c.def_ 18 (d := hD_l_twice) rfl
  obtain ⟨d19, F19⟩ := c.def_ 19 (d := hD_l_well) rfl
  obtain ⟨d20, F20⟩ := c.def_ 20 (d := hD_l_draw) rfl
  obtain ⟨d21, F21⟩ := c.def_ 21 (d := hD_l_value) rfl
  obtain ⟨d22, F22⟩ := c.def_ 22 (d := hD_l_name) rfl
  obtain ⟨d23, F23⟩ := c.def_ 23 (d := hD_l_parts) rfl
  obtain ⟨d24, F24⟩ := c.def_ 24 (d := hD_l_expr) rfl
  obtain ⟨d25, F25⟩ := c.def_ 25 (d := hD_l_words_of) rfl
  obtain ⟨d26, F26⟩ := c.def_ 26 (d := hD_l_menu) rfl
  obtain ⟨d27, F27⟩ := c.def_ 27 (d := hD_l_spoiled) rfl
  obtain ⟨d28, F28⟩ := c.def_ 28 (d := hD_l_is_name) rfl
  obtain ⟨d29, F29⟩ := c.def_ 29 (d := hD_l_is_value) rfl
  obtain ⟨d30, F30⟩ := c.def_ 30 (d := hD_l_read) rfl
  obtain ⟨d31, F31⟩ := c.def_ 31 (d := hD_l_due) rfl
  obtain ⟨d32, F32⟩ := c.def_ 32 (d := hD_l_found) rfl
  obtain ⟨d33, F33⟩ := c.def_ 33 (d := hD_law) rfl
  have e := hfa.symm.trans (He.glo_ok (x := "law") X G (c.fact 22 rfl))
  cases e
  let A : Ads := ⟨He.fAd K ("is_name", none), d0, He.fAd K ("is_value_word", none), d1, He.fAd K ("Number", some "__init__"), d2, He.fAd K ("Box", some "__init__"), d3, He.fAd K ("Cell", some "__init__"), d4, He.fAd K ("Two", some "__init__"), d5, He.fAd K ("Number", some "told"), d6, He.fAd K ("Box", some "told"), d7, He.fAd K ("Cell", some "told"), d8, He.fAd K ("Two", some "told"), d9, He.fAd K ("Expr", some "parts"), d10, He.fAd K ("Cell", some "parts"), d11, He.fAd K ("Two", some "parts"), d12, He.fAd K ("expr_at", none), d13, He.fAd K ("exprs_of", none), d14, He.fAd K ("read_expr", none), d15, He.fAd K ("_law_cell", none), d16, He.fAd K ("_law_mixed", none), d17, He.fAd K ("_law_twice", none), d18, He.fAd K ("_law_well", none), d19, He.fAd K ("_law_draw", none), d20, He.fAd K ("_law_value", none), d21, He.fAd K ("_law_name", none), d22, He.fAd K ("_law_parts", none), d23, He.fAd K ("_law_expr", none), d24, He.fAd K ("_law_words_of", none), d25, He.fAd K ("_law_menu", none), d26, He.fAd K ("_law_spoiled", none), d27, He.fAd K ("_law_is_name", none), d28, He.fAd K ("_law_is_value", none), d29, He.fAd K ("_law_read", none), d30, He.fAd K ("_law_due", none), d31, He.fAd K ("_law_found", none), d32, He.fAd K ("law", none), d33, He.ga K "Number", He.ga K "Box", He.ga K "Cell", He.ga K "Two", He.ga K "Expr", He.ga K "PAIRS", He.ga K "ROWS", He.ga K "OTHERS", He.ga K "NoProgram", He.ga K "HadError", He.ga K "NoChange", He.ga K "NoText", He.ga K "NoValue", He.ga K "NoWish"⟩
  have T : Txt K mg A :=
    { F_is_name := fun_of F0,
      b_is_name := FunD.bindsN (ps := ["thing"]) F0 fun _ _ _ _ _ _ us hl => match us, hl with | [_], _ => rfl,
      m_is_name := He.glo_ok (x := "is_name") X G (c.fact 0 rfl),
      F_is_value_word := fun_of F1,
      b_is_value_word := FunD.bindsN (ps := ["word"]) F1 fun _ _ _ _ _ _ us hl => match us, hl with | [_], _ => rfl,
      m_is_value_word := He.glo_ok (x := "is_value_word") X G (c.fact 1 rfl),
      F_Number_init := fun_of F2,
      b_Number_init := FunD.bindsN (ps := ["self", "value"]) F2 fun _ _ _ _ _ _ us hl => match us, hl with | [_, _], _ => rfl,
      F_Box_init := fun_of F3,
      b_Box_init := FunD.bindsN (ps := ["self", "name"]) F3 fun _ _ _ _ _ _ us hl => match us, hl with | [_, _], _ => rfl,
      F_Cell_init := fun_of F4,
      b_Cell_init := FunD.bindsN (ps := ["self", "inner"]) F4 fun _ _ _ _ _ _ us hl => match us, hl with | [_, _], _ => rfl,
      F_Two_init := fun_of F5,
      b_Two_init := FunD.bindsN (ps := ["self", "word", "left", "right"]) F5 fun _ _ _ _ _ _ us hl => match us, hl with | [_, _, _, _], _ => rfl,
      F_Number_told := fun_of F6,
      b_Number_told := FunD.bindsN (ps := ["self"]) F6 fun _ _ _ _ _ _ us hl => match us, hl with | [_], _ => rfl,
      F_Box_told := fun_of F7,
      b_Box_told := FunD.bindsN (ps := ["self"]) F7 fun _ _ _ _ _ _ us hl => match us, hl with | [_], _ => rfl,
      F_Cell_told := fun_of F8,
      b_Cell_told := FunD.bindsN (ps := ["self"]) F8 fun _ _ _ _ _ _ us hl => match us, hl with | [_], _ => rfl,
      F_Two_told := fun_of F9,
      b_Two_told := FunD.bindsN (ps := ["self"]) F9 fun _ _ _ _ _ _ us hl => match us, hl with | [_], _ => rfl,
      F_Expr_parts := fun_of F10,
      b_Expr_parts := FunD.bindsN (ps := ["self"]) F10 fun _ _ _ _ _ _ us hl => match us, hl with | [_], _ => rfl,
      F_Cell_parts := fun_of F11,
      b_Cell_parts := FunD.bindsN (ps := ["self"]) F11 fun _ _ _ _ _ _ us hl => match us, hl with | [_], _ => rfl,
      F_Two_parts := fun_of F12,
      b_Two_parts := FunD.bindsN (ps := ["self"]) F12 fun _ _ _ _ _ _ us hl => match us, hl with | [_], _ => rfl,
      F_expr_at := fun_of F13,
      b_expr_at := FunD.bindsN (ps := ["row", "at", "deep"]) F13 fun _ _ _ _ _ _ us hl => match us, hl with | [_, _, _], _ => rfl,
      m_expr_at := He.glo_ok (x := "expr_at") X G (c.fact 2 rfl),
      F_exprs_of := fun_of F14,
      b_exprs_of := FunD.bindsN (ps := ["row"]) F14 fun _ _ _ _ _ _ us hl => match us, hl with | [_], _ => rfl,
      m_exprs_of := He.glo_ok (x := "exprs_of") X G (c.fact 3 rfl),
      F_read_expr := fun_of F15,
      b_read_expr := FunD.bindsN (ps := ["text"]) F15 fun _ _ _ _ _ _ us hl => match us, hl with | [_], _ => rfl,
      m_read_expr := He.glo_ok (x := "read_expr") X G (c.fact 4 rfl),
      F_l_cell := fun_of F16,
      b_l_cell := FunD.bindsN (ps := ["_law_script", "_law_k"]) F16 fun _ _ _ _ _ _ us hl => match us, hl with | [_, _], _ => rfl,
      m_l_cell := He.glo_ok (x := "_law_cell") X G (c.fact 5 rfl),
      F_l_mixed := fun_of F17,
      b_l_mixed := FunD.bindsN (ps := ["_law_cell_here", "_law_k"]) F17 fun _ _ _ _ _ _ us hl => match us, hl with | [_, _], _ => rfl,
      m_l_mixed := He.glo_ok (x := "_law_mixed") X G (c.fact 6 rfl),
      F_l_twice := fun_of F18,
      b_l_twice := FunD.bindsN (ps := ["_law_cell_here", "_law_k"]) F18 fun _ _ _ _ _ _ us hl => match us, hl with | [_, _], _ => rfl,
      m_l_twice := He.glo_ok (x := "_law_twice") X G (c.fact 7 rfl),
      F_l_well := fun_of F19,
      b_l_well := FunD.bindsN (ps := ["_law_script", "_law_k"]) F19 fun _ _ _ _ _ _ us hl => match us, hl with | [_, _], _ => rfl,
      m_l_well := He.glo_ok (x := "_law_well") X G (c.fact 8 rfl),
      F_l_draw := fun_of F20,
      b_l_draw := FunD.bindsN (ps := ["_law_well_here", "_law_most"]) F20 fun _ _ _ _ _ _ us hl => match us, hl with | [_, _], _ => rfl,
      m_l_draw := He.glo_ok (x := "_law_draw") X G (c.fact 9 rfl),
      F_l_value := fun_of F21,
      b_l_value := FunD.bindsN (ps := ["_law_well_here"]) F21 fun _ _ _ _ _ _ us hl => match us, hl with | [_], _ => rfl,
      m_l_value := He.glo_ok (x := "_law_value") X G (c.fact 10 rfl),
      F_l_name := fun_of F22,
      b_l_name := FunD.bindsN (ps := ["_law_well_here"]) F22 fun _ _ _ _ _ _ us hl => match us, hl with | [_], _ => rfl,
      m_l_name := He.glo_ok (x := "_law_name") X G (c.fact 11 rfl),
      F_l_parts := fun_of F23,
      b_l_parts := FunD.bindsN (ps := ["_law_told"]) F23 fun _ _ _ _ _ _ us hl => match us, hl with | [_], _ => rfl,
      m_l_parts := He.glo_ok (x := "_law_parts") X G (c.fact 12 rfl),
      F_l_expr := fun_of F24,
      b_l_expr := FunD.bindsN (ps := ["_law_well_here", "_law_deep", "_law_most"]) F24 fun _ _ _ _ _ _ us hl => match us, hl with | [_, _, _], _ => rfl,
      m_l_expr := He.glo_ok (x := "_law_expr") X G (c.fact 13 rfl),
      F_l_words_of := fun_of F25,
      b_l_words_of := FunD.bindsN (ps := ["_law_told"]) F25 fun _ _ _ _ _ _ us hl => match us, hl with | [_], _ => rfl,
      m_l_words_of := He.glo_ok (x := "_law_words_of") X G (c.fact 14 rfl),
      F_l_menu := fun_of F26,
      b_l_menu := FunD.bindsN (ps := ["_law_well_here"]) F26 fun _ _ _ _ _ _ us hl => match us, hl with | [_], _ => rfl,
      m_l_menu := He.glo_ok (x := "_law_menu") X G (c.fact 15 rfl),
      F_l_spoiled := fun_of F27,
      b_l_spoiled := FunD.bindsN (ps := ["_law_well_here", "_law_words"]) F27 fun _ _ _ _ _ _ us hl => match us, hl with | [_, _], _ => rfl,
      m_l_spoiled := He.glo_ok (x := "_law_spoiled") X G (c.fact 16 rfl),
      F_l_is_name := fun_of F28,
      b_l_is_name := FunD.bindsN (ps := ["_law_word"]) F28 fun _ _ _ _ _ _ us hl => match us, hl with | [_], _ => rfl,
      m_l_is_name := He.glo_ok (x := "_law_is_name") X G (c.fact 17 rfl),
      F_l_is_value := fun_of F29,
      b_l_is_value := FunD.bindsN (ps := ["_law_word"]) F29 fun _ _ _ _ _ _ us hl => match us, hl with | [_], _ => rfl,
      m_l_is_value := He.glo_ok (x := "_law_is_value") X G (c.fact 18 rfl),
      F_l_read := fun_of F30,
      b_l_read := FunD.bindsN (ps := ["_law_words", "_law_at"]) F30 fun _ _ _ _ _ _ us hl => match us, hl with | [_, _], _ => rfl,
      m_l_read := He.glo_ok (x := "_law_read") X G (c.fact 19 rfl),
      F_l_due := fun_of F31,
      b_l_due := FunD.bindsN (ps := ["_law_text"]) F31 fun _ _ _ _ _ _ us hl => match us, hl with | [_], _ => rfl,
      m_l_due := He.glo_ok (x := "_law_due") X G (c.fact 20 rfl),
      F_l_found := fun_of F32,
      b_l_found := FunD.bindsN (ps := ["_law_text"]) F32 fun _ _ _ _ _ _ us hl => match us, hl with | [_], _ => rfl,
      m_l_found := He.glo_ok (x := "_law_found") X G (c.fact 21 rfl),
      F_law := fun_of F33,
      b_law := FunD.bindsN (ps := ["_law_script"]) F33 fun _ _ _ _ _ _ us hl => match us, hl with | [_], _ => rfl,
      m_law := He.glo_ok (x := "law") X G (c.fact 22 rfl),
      m_Number := He.glo_ok (x := "Number") X G (c.fact 23 rfl),
      cl_Number := He.cls_ok (x := "Number") (c.fact 24 rfl),
      mk_Number := (c.fact 25 rfl : PySem.W.makesIn K (He.ga K "Number") = true),
      n_Number_value := He.noat_ok (x := "Number") (f := "value") (c.fact 26 rfl),
      k_Number := He.mkr_ok (x := "Number") (c.fact 27 rfl),
      m_Box := He.glo_ok (x := "Box") X G (c.fact 28 rfl),
      cl_Box := He.cls_ok (x := "Box") (c.fact 29 rfl),
      mk_Box := (c.fact 30 rfl : PySem.W.makesIn K (He.ga K "Box") = true),
      n_Box_name := He.noat_ok (x := "Box") (f := "name") (c.fact 31 rfl),
      k_Box := He.mkr_ok (x := "Box") (c.fact 32 rfl),
      m_Cell := He.glo_ok (x := "Cell") X G (c.fact 33 rfl),
      cl_Cell := He.cls_ok (x := "Cell") (c.fact 34 rfl),
      mk_Cell := (c.fact 35 rfl : PySem.W.makesIn K (He.ga K "Cell") = true),
      n_Cell_inner := He.noat_ok (x := "Cell") (f := "inner") (c.fact 36 rfl),
      k_Cell := He.mkr_ok (x := "Cell") (c.fact 37 rfl),
      m_Two := He.glo_ok (x := "Two") X G (c.fact 38 rfl),
      cl_Two := He.cls_ok (x := "Two") (c.fact 39 rfl),
      mk_Two := (c.fact 40 rfl : PySem.W.makesIn K (He.ga K "Two") = true),
      n_Two_word := He.noat_ok (x := "Two") (f := "word") (c.fact 41 rfl),
      n_Two_left := He.noat_ok (x := "Two") (f := "left") (c.fact 42 rfl),
      n_Two_right := He.noat_ok (x := "Two") (f := "right") (c.fact 43 rfl),
      k_Two := He.mkr_ok (x := "Two") (c.fact 44 rfl),
      m_Expr := He.glo_ok (x := "Expr") X G (c.fact 45 rfl),
      cl_Expr := He.cls_ok (x := "Expr") (c.fact 46 rfl),
      mk_Expr := (c.fact 47 rfl : PySem.W.makesIn K (He.ga K "Expr") = true),
      me_Number_told := He.meth_ok (x := "Number") (m := "told") (c.fact 48 rfl),
      me_Box_told := He.meth_ok (x := "Box") (m := "told") (c.fact 49 rfl),
      me_Cell_told := He.meth_ok (x := "Cell") (m := "told") (c.fact 50 rfl),
      me_Two_told := He.meth_ok (x := "Two") (m := "told") (c.fact 51 rfl),
      me_Number_parts := (show Meth K (He.ga K "Number") "parts" (He.ma K (He.ga K "Expr") "parts") from of_decide_eq_true (c.fact 53 rfl) ▸ He.meth_ok (x := "Number") (m := "parts") (c.fact 52 rfl)),
      me_Box_parts := (show Meth K (He.ga K "Box") "parts" (He.ma K (He.ga K "Expr") "parts") from of_decide_eq_true (c.fact 55 rfl) ▸ He.meth_ok (x := "Box") (m := "parts") (c.fact 54 rfl)),
      me_Cell_parts := He.meth_ok (x := "Cell") (m := "parts") (c.fact 56 rfl),
      me_Two_parts := He.meth_ok (x := "Two") (m := "parts") (c.fact 57 rfl),
      m_PAIRS := He.glo_ok (x := "PAIRS") X G (c.fact 58 rfl),
      q_PAIRS := fun H => He.tupB_ok (x := "PAIRS") (vs := [.str "plus", .str "minus", .str "times", .str "over", .str "rest", .str "less", .str "same"]) (c.fact 59 rfl) H,
      m_ROWS := He.glo_ok (x := "ROWS") X G (c.fact 60 rfl),
      q_ROWS := fun H => He.tupB_ok (x := "ROWS") (vs := [.str "skip", .str "set", .str "put", .str "ask", .str "draw", .str "tell", .str "if", .str "while", .str "call"]) (c.fact 61 rfl) H,
      m_OTHERS := He.glo_ok (x := "OTHERS") X G (c.fact 62 rfl),
      q_OTHERS := fun H => He.tupB_ok (x := "OTHERS") (vs := [.str "else", .str "end", .str "fun", .str "main", .str "give", .str "cell"]) (c.fact 63 rfl) H,
      m_NoProgram := He.glo_ok (x := "NoProgram") X G (c.fact 65 rfl),
      x_NoProgram := (He.exc_ok (x := "NoProgram") (c.fact 64 rfl)).1,
      kk_NoProgram := (He.exc_ok (x := "NoProgram") (c.fact 64 rfl)).2.1,
      bb_NoProgram := (He.exc_ok (x := "NoProgram") (c.fact 64 rfl)).2.2.1,
      tt_NoProgram := (He.exc_ok (x := "NoProgram") (c.fact 64 rfl)).2.2.2,
      m_HadError := He.glo_ok (x := "HadError") X G (c.fact 67 rfl),
      x_HadError := (He.exc_ok (x := "HadError") (c.fact 66 rfl)).1,
      kk_HadError := (He.exc_ok (x := "HadError") (c.fact 66 rfl)).2.1,
      bb_HadError := (He.exc_ok (x := "HadError") (c.fact 66 rfl)).2.2.1,
      tt_HadError := (He.exc_ok (x := "HadError") (c.fact 66 rfl)).2.2.2,
      m_NoChange := He.glo_ok (x := "NoChange") X G (c.fact 69 rfl),
      x_NoChange := (He.exc_ok (x := "NoChange") (c.fact 68 rfl)).1,
      kk_NoChange := (He.exc_ok (x := "NoChange") (c.fact 68 rfl)).2.1,
      bb_NoChange := (He.exc_ok (x := "NoChange") (c.fact 68 rfl)).2.2.1,
      tt_NoChange := (He.exc_ok (x := "NoChange") (c.fact 68 rfl)).2.2.2,
      m_NoText := He.glo_ok (x := "NoText") X G (c.fact 71 rfl),
      x_NoText := (He.exc_ok (x := "NoText") (c.fact 70 rfl)).1,
      kk_NoText := (He.exc_ok (x := "NoText") (c.fact 70 rfl)).2.1,
      bb_NoText := (He.exc_ok (x := "NoText") (c.fact 70 rfl)).2.2.1,
      tt_NoText := (He.exc_ok (x := "NoText") (c.fact 70 rfl)).2.2.2,
      m_NoValue := He.glo_ok (x := "NoValue") X G (c.fact 73 rfl),
      x_NoValue := (He.exc_ok (x := "NoValue") (c.fact 72 rfl)).1,
      kk_NoValue := (He.exc_ok (x := "NoValue") (c.fact 72 rfl)).2.1,
      bb_NoValue := (He.exc_ok (x := "NoValue") (c.fact 72 rfl)).2.2.1,
      tt_NoValue := (He.exc_ok (x := "NoValue") (c.fact 72 rfl)).2.2.2,
      m_NoWish := He.glo_ok (x := "NoWish") X G (c.fact 75 rfl),
      x_NoWish := (He.exc_ok (x := "NoWish") (c.fact 74 rfl)).1,
      kk_NoWish := (He.exc_ok (x := "NoWish") (c.fact 74 rfl)).2.1,
      bb_NoWish := (He.exc_ok (x := "NoWish") (c.fact 74 rfl)).2.2.1,
      tt_NoWish := (He.exc_ok (x := "NoWish") (c.fact 74 rfl)).2.2.2,
      ne_num_box := of_decide_eq_true (c.fact 76 rfl),
      ne_num_cell := of_decide_eq_true (c.fact 77 rfl),
      ne_num_two := of_decide_eq_true (c.fact 78 rfl),
      ne_box_num := of_decide_eq_true (c.fact 79 rfl),
      ne_box_cell := of_decide_eq_true (c.fact 80 rfl),
      ne_box_two := of_decide_eq_true (c.fact 81 rfl),
      ne_cell_num := of_decide_eq_true (c.fact 82 rfl),
      ne_cell_box := of_decide_eq_true (c.fact 83 rfl),
      ne_cell_two := of_decide_eq_true (c.fact 84 rfl),
      ne_two_num := of_decide_eq_true (c.fact 85 rfl),
      ne_two_box := of_decide_eq_true (c.fact 86 rfl),
      ne_two_cell := of_decide_eq_true (c.fact 87 rfl),
      xg := of_decide_eq_true (c.fact 88 rfl),
      xk := of_decide_eq_true (c.fact 89 rfl),
      xd := of_decide_eq_true (c.fact 90 rfl),
      xa := of_decide_eq_true (c.fact 91 rfl),
      xn := of_decide_eq_true (c.fact 92 rfl),
      xt := of_decide_eq_true (c.fact 93 rfl),
      xm := of_decide_eq_true (c.fact 94 rfl),
      xh := of_decide_eq_true (c.fact 95 rfl),
      xo := of_decide_eq_true (c.fact 96 rfl),
      xv := of_decide_eq_true (c.fact 97 rfl),
      c_LETTERS := He.str_ok (x := "LETTERS") X G (c.fact 98 rfl),
      c_FIGURES := He.str_ok (x := "FIGURES") X G (c.fact 99 rfl),
      c_MOST_DEEP := He.int_ok (x := "MOST_DEEP") X G (c.fact 100 rfl),
      c_MOST_PARTS := He.int_ok (x := "MOST_PARTS") X G (c.fact 101 rfl),
      z_str := He.free_ok (x := "str") X G (c.fact 102 rfl),
      z_isinstance := He.free_ok (x := "isinstance") X G (c.fact 103 rfl),
      z_len := He.free_ok (x := "len") X G (c.fact 104 rfl),
      z_all := He.free_ok (x := "all") X G (c.fact 105 rfl),
      z_int := He.free_ok (x := "int") X G (c.fact 106 rfl),
      z_range := He.free_ok (x := "range") X G (c.fact 107 rfl),
      z_sum := He.free_ok (x := "sum") X G (c.fact 108 rfl),
      z_max := He.free_ok (x := "max") X G (c.fact 109 rfl),
      z_ValueError := He.free_ok (x := "ValueError") X G (c.fact 110 rfl) }
  exact ⟨d33, fun s v => (FunD.bindsA (ps := ["_law_script"]) F33 fun _ _ _ _ _ _ us hl => match us, hl with | [_], _ => rfl) s [v] rfl, fun base _ _ => ok_law T⟩
end K02
open PySem PySem.W PySem.Calls PyProof.Rows
set_option maxRecDepth 100000 in
set_option maxHeartbeats 0 in
theorem PySem.Challenge.cw_hadbeen_k02_no_expression_holds : PySem.Challenge.rw_hadbeen_k02_no_expression.Holds := by
  w_on; o_law
  refine HandSHeadRun.head_any (r := OpenLaw.row PySem.Challenge.rw_hadbeen_k02_no_expression) (q := view (OpenLaw.row PySem.Challenge.rw_hadbeen_k02_no_expression).prog [44]) (H := K02.hk) (ob := K02.ob) (M := 4000) (loose := K02.loose) (d := HandSHeadRun.topDef (OpenLaw.row PySem.Challenge.rw_hadbeen_k02_no_expression).prog 44) (kwd := []) K02.ob_eq
    (by kernel_rfl) (fun s => by kernel_rfl) K02.run (by kernel_rfl) (by kernel_rfl) (by kernel_rfl) (by rfl) (by first | assumption | decide +kernel) (by decide +kernel) ⟨rfl, rfl, rfl, rfl, rfl, by decide +kernel⟩ ?hw ?hc
  case hw => w_witness2
  case hc =>
    refine L2.walk_ofE (l := PySem.Challenge.rw_hadbeen_k02_no_expression) (n := 63) (k := 165) (x := "_law_script") (CX := L2.CX0) rfl (by decide) (by kernel_rfl) ⟨rfl, by decide, by decide⟩ ?F (fun _ _ _ _ z => z)
    intro w mg fa h Y G hmg0
    obtain ⟨K, KX, c⟩ := Y
    have hmg : mg ("law" : PySem.Str) = some (.ref fa) := by
      have e : (HandSHeadRun.topDef (OpenLaw.row PySem.Challenge.rw_hadbeen_k02_no_expression).prog 44).name = ("law" : PySem.Str) := by kernel_rfl
      rw [← e]
      exact hmg0
    obtain ⟨fd, hb, hF⟩ := K02.facts (P := (PySem.Challenge.rw_hadbeen_k02_no_expression).prog) (w := w) KX G hmg c
    exact ⟨K, fd, K02.spLaw K, KX, hb, fun H a ns hl _ hS => ⟨a, ns, rfl, hS, hl, fun _ => rfl⟩, hF⟩
