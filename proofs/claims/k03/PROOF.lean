import PyProof.Rows.All
import Wide.All
import OpenK.AllK
import Wide.FinOn
import HandS.ForMost
import HandS.IsInst
import HandS.NoneIn
import HandS.ForExc
import HandS.Walk
import HandS.RaiseMore
import PyProof.StrLawsChain
import KE.IntTextText
import HandS.Lambda
import HandS.Nested
import HandS.Replace
import HandS.EndTab
import HandS.HeadWalk
import HandS.HeadHook3
import HandS.HeadHook4
import HandS.Codes
import KE.KStateDown
import Lean
import HandS.More
import HandS.WordsExc
import HandS.Defaults
import HandS.Head0
import HandS.Head1
import HandS.Head2
import HandS.HeadEnd
import HandS.HeadHook1
import HandS.HeadHook2
import HandS.ExcIs
import HandS.IsInst
import HandS.Flow
import HandS.Dict
import PySem.Challenge.RW_hadbeen_k03_expressions_reckoned
set_option Elab.async false
set_option maxRecDepth 100000
set_option maxHeartbeats 4000000
set_option linter.all false
namespace K03
open PySem L2 TL
namespace KL
open PySem PySem.Spec PyProof.Rows L2
/-! functions that are handed on: what is called by a local name; cells told as they stand while a callee runs -/
abbrev Cs := List (Addr × Obj)
def anyO : HO := .ext fun _ => True
/-- the cells of cs told (as they stand) -/
def frzC (cs : Cs) (H : Hp) : Hp := fun b => match cs.lookup b with
  | some o => some (.frz o anyO)
  | none => H b
/-- .. no longer told -/
def thwC (cs : Cs) (H : Hp) : Hp := fun b => match cs.lookup b with
  | some _ => none
  | none => H b
theorem frz_some {cs : Cs} {H : Hp} {b : Addr} {o : Obj} (h : cs.lookup b = some o) : frzC cs H b = some (.frz o anyO) := by unfold frzC; rw [h]
theorem frz_none {cs : Cs} {H : Hp} {b : Addr} (h : cs.lookup b = none) : frzC cs H b = H b := by unfold frzC; rw [h]
theorem thw_some {cs : Cs} {H : Hp} {b : Addr} {o : Obj} (h : cs.lookup b = some o) : thwC cs H b = none := by unfold thwC; rw [h]
theorem thw_none {cs : Cs} {H : Hp} {b : Addr} (h : cs.lookup b = none) : thwC cs H b = H b := by unfold thwC; rw [h]
theorem any_ok {P : Program} {w : World} {H : Hp} {h : Heap} {a : Addr} {o : Obj} (e : h.get? a = some o) : ObjOk P w H h a (.frz o anyO) :=
  ⟨e, trivial, ⟨o, e⟩, fun _ _ _ _ => trivial⟩
/-- cs: cells that stand in h, not told of in H -/
def CsIn (cs : Cs) (h : Heap) (H : Hp) : Prop := ∀ c o, cs.lookup c = some o → H c = none ∧ h.get? c = some o
/-- cs: cells told of in H -/
def CsAt (cs : Cs) (H : Hp) : Prop := ∀ c o, cs.lookup c = some o → H c = some (.frz o anyO)
theorem csIn_none {cs : Cs} {h : Heap} {H : Hp} (c : CsIn cs h H) {b : Addr} {u : HO} (e : H b = some u) : cs.lookup b = none := by
  cases q : cs.lookup b with
  | none => rfl
  | some o => rw [(c b o q).1] at e; cases e
theorem csAt_none {cs : Cs} {H : Hp} (c : CsAt cs H) {b : Addr} {u : HO} (e : H b = some u) (n : ∀ o, u ≠ .frz o anyO) : cs.lookup b = none := by
  cases q : cs.lookup b with
  | none => rfl
  | some o => rw [c b o q] at e; cases e; exact absurd rfl (n o)
theorem csAt_frz (cs : Cs) (H : Hp) : CsAt cs (frzC cs H) := fun _ _ h => frz_some h
theorem frz_at {cs : Cs} {h : Heap} {H : Hp} (c : CsIn cs h H) {b : Addr} {u : HO} (e : H b = some u) : frzC cs H b = some u := (frz_none (csIn_none c e)).trans e
section
variable {P : Program} {w : World} {K : PySem.W.Frag} {mg : Str → Option Value} {base : Heap} {A : Around} {outer : List Env} {s : Shared} {H : Hp} {cs : Cs}
theorem env_frz (e0 : Env0 P w K mg base A outer s H) (c : CsIn cs s.heap H) (nb : ∀ a o, cs.lookup a = some o → base.get? a = none ∧ a ∉ frs outer) : Env0 P w K mg base A outer s (frzC cs H) := by
  refine ⟨e0.frames, e0.mod, fun b o e => ?_, e0.bsz, e0.funs, fun b hb => ?_, fun b u e => ?_, e0.bare⟩
  · obtain ⟨h1, h2⟩ := e0.bs b o e
    refine ⟨h1, ?_⟩
    cases q : cs.lookup b with
    | none => rw [frz_none q]; exact h2
    | some ob => rw [(nb b ob q).1] at e; cases e
  · cases q : cs.lookup b with
    | none => rw [frz_none q]; exact e0.frf b hb
    | some ob => exact absurd hb (nb b ob q).2
  · cases q : cs.lookup b with
    | some ob =>
      rw [frz_some q] at e
      cases e
      exact any_ok (c b ob q).2
    | none =>
      rw [frz_none q] at e
      refine (e0.hok b u e).stay (fun _ _ _ z => z) (fun d z => frz_at c z) fun d xs z => frz_at c z
theorem env_thw (e0 : Env0 P w K mg base A outer s H) (c : CsAt cs H) : Env0 P w K mg base A outer s (thwC cs H) := by
  refine ⟨e0.frames, e0.mod, fun b o e => ?_, e0.bsz, e0.funs, fun b hb => ?_, fun b u e => ?_, e0.bare⟩
  · obtain ⟨h1, h2⟩ := e0.bs b o e
    refine ⟨h1, ?_⟩
    cases q : cs.lookup b with
    | none => rw [thw_none q]; exact h2
    | some ob => exact thw_some q
  · cases q : cs.lookup b with
    | none => rw [thw_none q]; exact e0.frf b hb
    | some ob => exact thw_some q
  · cases q : cs.lookup b with
    | some ob => rw [thw_some q] at e; cases e
    | none =>
      rw [thw_none q] at e
      refine (e0.hok b u e).stay (fun _ _ _ z => z) (fun d z => ?_) fun d xs z => ?_
      · exact (thw_none (csAt_none c z fun o => by intro z; cases z)).trans z
      · exact (thw_none (csAt_none c z fun o => by intro z; cases z)).trans z
/-- behind a callee to which the cells were told -/
theorem ce_thw {Q : VK} {u : Value} {s' : Shared} (c : CsIn cs s.heap H) (nf : ∀ a o, cs.lookup a = some o → a ∉ frs outer) (h : CE outer P w (frzC cs H) s (fun v H' => Q v (thwC cs H')) u s') : CE outer P w H s Q u s' := by
  obtain ⟨v, H', os, bare, un, hok, r, q⟩ := h
  have atc : ∀ a o, cs.lookup a = some o → H' a = some (.frz o anyO) := fun a o e => un.frzs a o anyO (frz_some e)
  refine ⟨v, thwC cs H', os, bare, ⟨fun b o e n hb hx => ?_, fun b o e n hb hx => ?_, fun b o e n hx => ?_, fun b o e hx => un.there b o e hx, fun b xs e => ?_, fun b o x e => ?_, fun b ps e => ?_⟩, fun b x e => ?_, r, q⟩
  · cases z : cs.lookup b with
    | some ob =>
      have e2 := (c b ob z).2
      rw [e] at e2
      cases e2
      exact (hok b _ (atc b o z)).1
    | none => exact un.keep b o e ((frz_none z).trans n) hb hx
  · cases z : cs.lookup b with
    | some ob => exact absurd hb (nf b ob z)
    | none => exact un.slot b o e ((frz_none z).trans n) hb hx
  · cases z : cs.lookup b with
    | some ob => exact thw_some z
    | none => rw [thw_none z]; exact un.free b o e ((frz_none z).trans n) hx
  · have z := csIn_none c e
    rw [thw_none z]
    exact un.tups b xs ((frz_none z).trans e)
  · have z := csIn_none c e
    rw [thw_none z]
    exact un.frzs b o x ((frz_none z).trans e)
  · have z := csIn_none c e
    obtain ⟨m, e2⟩ := un.tbls b ps ((frz_none z).trans e)
    exact ⟨m, (thw_none z).trans e2⟩
  · cases z : cs.lookup b with
    | some ob => rw [thw_some z] at e; cases e
    | none =>
      rw [thw_none z] at e
      have ca : CsAt cs H' := atc
      refine (hok b x e).stay (fun _ _ _ k => k) (fun d k => ?_) fun d xs k => ?_
      · exact (thw_none (csAt_none ca k fun o => by intro y; cases y)).trans k
      · exact (thw_none (csAt_none ca k fun o => by intro y; cases y)).trans k
/-- behind a function's body in which the cells were its own -/
theorem ce_frz {Q : VK} {u : Value} {s' : Shared} (e0 : Env0 P w K mg base A outer s H) (c : CsAt cs H) (h : CE outer P w (thwC cs H) s (fun v H' => Q v (frzC cs H')) u s') : CE outer P w H s Q u s' := by
  obtain ⟨v, H', os, bare, un, hok, r, q⟩ := h
  have nn : ∀ {b : Addr}, H b = none → cs.lookup b = none := fun {b} n => by
    cases z : cs.lookup b with
    | none => rfl
    | some o => rw [c b o z] at n; cases n
  have nf : ∀ a o, cs.lookup a = some o → a ∉ frs outer := fun a o z hb => by
    have := e0.frf a hb
    rw [c a o z] at this; cases this
  have st : ∀ a o, cs.lookup a = some o → s'.heap.get? a = some o := fun a o z => by
    have e := (e0.hok a _ (c a o z)).1
    exact un.keep a o e (thw_some z) (nf a o z) (by simp)
  have fn : ∀ a o, cs.lookup a = some o → H' a = none := fun a o z => by
    have e := (e0.hok a _ (c a o z)).1
    exact un.free a o e (thw_some z) (by simp)
  refine ⟨v, frzC cs H', os, bare, ⟨fun b o e n hb hx => un.keep b o e ((thw_none (nn n)).trans n) hb hx, fun b o e n hb hx => un.slot b o e ((thw_none (nn n)).trans n) hb hx, fun b o e n hx => ?_, fun b o e hx => un.there b o e hx, fun b xs e => ?_, fun b o x e => ?_, fun b ps e => ?_⟩, fun b x e => ?_, r, q⟩
  · rw [frz_none (nn n)]
    exact un.free b o e ((thw_none (nn n)).trans n) hx
  · have z := csAt_none c e fun o => by intro y; cases y
    rw [frz_none z]
    exact un.tups b xs ((thw_none z).trans e)
  · cases z : cs.lookup b with
    | some ob =>
      rw [c b ob z] at e
      cases e
      exact frz_some z
    | none =>
      rw [frz_none z]
      exact un.frzs b o x ((thw_none z).trans e)
  · have z := csAt_none c e fun o => by intro y; cases y
    obtain ⟨m, e2⟩ := un.tbls b ps ((thw_none z).trans e)
    exact ⟨m, (frz_none z).trans e2⟩
  · cases z : cs.lookup b with
    | some ob =>
      rw [frz_some z] at e
      cases e
      exact any_ok (st b ob z)
    | none =>
      rw [frz_none z] at e
      have ca : ∀ {d : Addr} {y : HO}, H' d = some y → cs.lookup d = none := fun {d y} k => by
        cases z2 : cs.lookup d with
        | none => rfl
        | some o => rw [fn d o z2] at k; cases k
      exact (hok b x e).stay (fun _ _ _ k => k) (fun d k => (frz_none (ca k)).trans k) fun d xs k => (frz_none (ca k)).trans k
end
/-! ### what may be called -/
/-- the function at f may be called wherever G holds, and keeps the promise sp -/
structure LOk (P : Program) (w : World) (K : PySem.W.Frag) (mg : Str → Option Value) (base : Heap) (CX : CXT) (k : Nat) (f : Addr) (G : Hp → Prop) (sp : Sp) : Prop where
  fn : ∀ H h, HOk P w H h → G H → PySem.W.FnAt f h
  run : ∀ (A : Around) (outer : List Env) (s : Shared) (H : Hp) (us : List Value) (vs : List V) (Q : VK) (E : XK), Room k A → Env0 P w K mg base A outer s H → G H → Vals vs us → sp vs H Q E →
    codeAny (model P w) A (.call (.ref f) ⟨us, []⟩) (CR CX outer P w H s Q E) s
/-- x(e): x a local name that holds such a function -/
def tCallV (P : Program) (w : World) (K : PySem.W.Frag) (mg : Str → Option Value) (base : Heap) (CX : CXT) (k i : Nat) (E : XK) (t : TA) : TE := fun σ H Q => ∃ (f : Addr) (G : Hp → Prop) (sp : Sp), σ[i]? = some (some (.ref f)) ∧ LOk P w K mg base CX k f G sp ∧ G H ∧
  t σ H fun vs H1 => G H1 ∧ sp vs H1 Q E
section
variable {X : Cx} {CX : CXT} {i k : Nat} {x : Str} {E : XK} {t : TA} {e : Expr} {es : List Expr} {p pos : Pos}
theorem pe_callV (hr : Room k X.A) (hx : Passes CX X E) (hN : X.N[i]? = some x) (hv : Vis X.env.scope x) (ha : PA X (e :: es) t)
    (hd : (x == ("__debug__" : Str)) = false := by decide) (hcd : (x == ("__classdict__" : Str)) = false := by decide)
    (he : starEach (e :: es) X.env = (false, eval e X.env) :: starEach es X.env := by rfl) (hpl : (backTo pos (starEach es X.env)).any (·.1) = false := by rfl) :
    PE X (.Call (.Name x p) (e :: es) [] pos) (tCallV X.prog X.w X.K X.mg X.base CX k i E t) := by
  refine ⟨fun pins s σ H Q I h => ?_⟩
  obtain ⟨f, G, sp, hs, L, g0, ht⟩ := h
  refine wpAny_Call_Name_kw (thn ((pe_var (pos := p) hN hv hd hcd).run pins s σ H (fun v H1 => v = .ref f ∧ H1 = H) I ⟨.ref f, hs, rfl, rfl⟩) fun u s1 ⟨v, H1, I1, r1, q1⟩ => ?_)
  obtain ⟨ev, eH⟩ := q1
  subst ev
  rw [eH] at I1
  obtain rfl : u = Value.ref f := r1
  refine PySem.W.callWith_F (first := []) (L.fn _ _ I1.hok g0) (thn (ha.run pos pins s1 σ H _ I1 ht) fun us s2 ⟨vs, H2, I2, r, h1, q⟩ => ⟨L.fn _ _ I2.hok h1, ?_⟩) he hpl
  show wpAny _ _ (call (.ref f) us) _ _ _
  refine wpAny_call (codeAny_mono (L.run X.A X.stack s2 H2 us vs Q E hr I2.env0 h1 r q) fun r s' hq => ?_)
  cases r with
  | error e => exact hx pins σ H2 s2 e s' I2 hq
  | ok fl =>
    cases fl with
    | ret u => exact I2.after hq
    | next => exact False.elim hq
    | brk => exact False.elim hq
    | cont => exact False.elim hq
end
open NdefX LamX
/-- a nested function with its cells told of -/
def GN (f : Addr) (F : NF) (cs : Cs) (H : Hp) : Prop := H f = some (FnO f F) ∧ H F.c = some (CodeO F.c F.qual) ∧ CsAt cs H
/-- how the function's cells lie in cs -/
structure CsFn (cl : List (Str × Addr)) (fr : List Str) (ws : List (Option V)) (cs : Cs) : Prop where
  len : ws.length = fr.length
  all : ∀ y c, cl.lookup y = some c → ∃ o v, cs.lookup c = some o ∧ o.data = .cell v
  inj : ∀ x y c, cl.lookup x = some c → cl.lookup y = some c → x = y
  has : ∀ (i : Nat) (y : Str), fr[i]? = some y → ∃ c, cl.lookup y = some c ∧ ∀ v, ws[i]? = some (some v) → ∃ u o, L2.RelV v u ∧ cs.lookup c = some o ∧ o.data = .cell (some u)
section
variable {P : Program} {w : World} {K : PySem.W.Frag} {mg : Str → Option Value} {base : Heap} {k : Nat} {f : Addr} {F : NF} {ps fr : List Str} {sp : List (Option V) → Sp} {cs : Cs} {ws : List (Option V)}
theorem fnO_nf {f : Addr} {F : NF} (o : Obj) : FnO f F ≠ .frz o anyO := fun z => by unfold FnO at z; cases z
theorem codeO_nf {c : Addr} {q : Str} (o : Obj) : CodeO c q ≠ .frz o anyO := fun z => by unfold CodeO at z; cases z
theorem lok_of (Fn : NOk P w K mg base L2.CX0 k f F ps fr sp) (C : CsFn F.cl fr ws cs) :
    LOk P w K mg base L2.CX0 k f (GN f F cs) (fun vs H Q E => sp ws vs (thwC cs H) (fun v H' => Q v (frzC cs H')) E) := by
  refine ⟨fun H h hok g => ?_, fun A outer s H us vs Q E hr e0 g r hsp => ?_⟩
  · obtain ⟨od, sl, doc, pm, ctv, ho⟩ := fnO_at hok g.1
    exact ⟨_, od, _, sl, ho⟩
  obtain ⟨g1, g2, g3⟩ := g
  have e1 := env_thw e0 g3
  refine codeAny_mono (Fn.run A outer s (thwC cs H) us vs ws (fun v H' => Q v (frzC cs H')) E hr e1 ((thw_none (csAt_none g3 g1 fnO_nf)).trans g1) ((thw_none (csAt_none g3 g2 codeO_nf)).trans g2) ?_ r hsp) fun r s' hq => ?_
  · refine ⟨C.len, fun y c e => ?_, C.inj, fun i y e => ?_⟩
    · obtain ⟨o, v, h1, h2⟩ := C.all y c e
      exact ⟨thw_some h1, v, o, (e0.hok c _ (g3 c o h1)).1, h2⟩
    · obtain ⟨c, h1, h2⟩ := C.has i y e
      refine ⟨c, h1, fun v hv => ?_⟩
      obtain ⟨u, o, h3, h4, h5⟩ := h2 v hv
      exact ⟨u, h3, o, (e0.hok c _ (g3 c o h4)).1, h5⟩
  · cases r with
    | error e => exact hq
    | ok fl =>
      cases fl with
      | ret u => exact ce_frz e0 g3 hq
      | next => exact hq
      | brk => exact hq
      | cont => exact hq
end
end KL

end K03
namespace K03
open PySem L2 TL

theorem same_new {H : Hp} {p : Addr} {o : HO} (h : H p = none) : Same H (upd H p o) := fun b u q => by rw [upd_ne (ne_of_none q h)]; exact q
theorem iteDT {p A B : Prop} [Decidable p] (h : p) (a : A) : if decide p = true then A else B := by rw [decide_eq_true h]; exact iteT a
theorem iteDF {p A B : Prop} [Decidable p] (h : ¬ p) (b : B) : if decide p = true then A else B := by rw [decide_eq_false h]; exact iteF b
theorem iteNT {p A B : Prop} [Decidable p] (h : ¬ p) (a : A) : if (!decide p) = true then A else B := by rw [decide_eq_false h]; exact iteT a
theorem iteNF {p A B : Prop} [Decidable p] (h : p) (b : B) : if (!decide p) = true then A else B := by rw [decide_eq_true h]; exact iteF b
theorem iteD2 {p A B : Prop} [Decidable p] (h1 : p → A) (h2 : ¬ p → B) : if decide p = true then A else B := by
  by_cases h : p
  · exact iteDT h (h1 h)
  · exact iteDF h (h2 h)
theorem iteN2 {p A B : Prop} [Decidable p] (h1 : ¬ p → A) (h2 : p → B) : if (!decide p) = true then A else B := by
  by_cases h : p
  · exact iteNF h (h2 h)
  · exact iteNT h (h1 h)
theorem iteB2 {b : Bool} {A B : Prop} (h1 : b = true → A) (h2 : b = false → B) : if b = true then A else B := by
  cases b with
  | true => exact iteT (h1 rfl)
  | false => exact iteF (h2 rfl)
theorem vint_ne {i j : Int} (h : i ≠ j) : ¬ V.int i = V.int j := fun e => h (V.int.inj e)
theorem vstr_ne {i j : Str} (h : i ≠ j) : ¬ V.str i = V.str j := fun e => h (V.str.inj e)
/-- all that was tracked stands, but what is at p -/
def KeepX (p : Addr) (H H' : Hp) : Prop := ∀ q o, q ≠ p → H q = some o → H' q = some o
theorem KeepX.refl (p : Addr) (H : Hp) : KeepX p H H := fun _ _ _ h => h
theorem KeepX.trans {p : Addr} {H H1 H2 : Hp} (a : KeepX p H H1) (b : KeepX p H1 H2) : KeepX p H H2 := fun q o n h => b q o n (a q o n h)
theorem keepX_of {p : Addr} {H H' : Hp} (a : Same H H') : KeepX p H H' := fun q o _ h => a q o h
theorem keepX_upd {p : Addr} {H : Hp} {o : HO} : KeepX p H (upd H p o) := fun q u n h => by rw [upd_ne n]; exact h
theorem KeepX.seq {K : PySem.W.Frag} {H H' : Hp} {p a : Addr} {xs : List V} (e : KeepX p H H') (n : a ≠ p) (h : SqL K H a xs) : SqL K H' a xs := by
  rcases h with (h | ⟨o, h⟩) | h
  · exact .inl (.inl (e _ _ n h))
  · exact .inl (.inr ⟨o, e _ _ n h⟩)
  · exact .inr h
theorem same_tup {K : PySem.W.Frag} {H H' : Hp} {a : Addr} {xs : List V} (e : Same H H') (h : SqT K H a xs) : SqT K H' a xs := by
  rcases h with (h | ⟨o, h⟩) | h
  · exact .inl (.inl (e _ _ h))
  · exact .inl (.inr ⟨o, e _ _ h⟩)
  · exact .inr h
/-- what is new behind H -/
theorem KeepX.same {p : Addr} {H H' : Hp} (n : H p = none) (e : KeepX p H H') : Same H H' := fun q o h => e q o (ne_of_none h n) h
theorem none_before {H H' : Hp} {q : Addr} (s : Same H H') (h : H' q = none) : H q = none := by
  cases e : H q with
  | none => rfl
  | some o => have := s _ _ e; rw [h] at this; cases this
theorem none_keepX {p : Addr} {H H' : Hp} {q : Addr} (k : KeepX p H H') (n : q ≠ p) (h : H' q = none) : H q = none := by
  cases e : H q with
  | none => rfl
  | some o => have := k _ _ n e; rw [h] at this; cases this
/-- a def of which nothing is asked -/
theorem fn_none {P : Program} {w : World} {K : PySem.W.Frag} {mg : Str → Option Value} {base : Heap} {CX : CXT} {k : Nat} {f : Addr} {fd : FuncData} {ps : List Str} {sp : Sp} (no : ∀ vs H Q E, sp vs H Q E → False) : FnOk P w K mg base CX k f fd ps sp :=
  ⟨fun vs H Q E h => (no vs H Q E h).elim, fun A outer s H args us vs Q E _ _ _ _ h => (no vs H Q E h).elim⟩
theorem absV_rel {u : Value} {x : V} (h : absV u = some x) : RelV x u := by
  cases u <;> simp only [absV, Option.some.injEq, reduceCtorEq] at h <;> subst h <;> first | rfl | exact ⟨_, rfl⟩
theorem vals_of_absV : ∀ {us : List Value} {xs : List V}, us.map absV = xs.map some → Vals xs us
  | [], [], _ => .nil
  | [], _ :: _, h => by simp at h
  | _ :: _, [], h => by simp at h
  | u :: us, x :: xs, h => by
    rw [List.map_cons, List.map_cons, List.cons.injEq] at h
    exact .cons (absV_rel h.1) (vals_of_absV h.2)
theorem sqT_k {K : PySem.W.Frag} {H : Hp} {a : Addr} {xs : List V} {od : Option Addr} {its : Array Value} {n : Nat} {sl : Array (Option Value)} (l : K.lookup a = some ⟨.type "tuple", od, .seq its n, sl⟩) (w : its.toList.map absV = xs.map some) (z : xs.length ≤ sizeLine) : SqT K H a xs := by
  have v := vals_of_absV w
  have e := v.length
  refine .inr ⟨_, its, n, l, rfl, rfl, ?_, v⟩
  rw [← Array.length_toList, ← e]
  exact z
/-- the promise of one class's method -/
def Disp (P : Program) (w : World) (K : PySem.W.Frag) (mg : Str → Option Value) (base : Heap) (CX : CXT) (m : Str) (k : Nat) (C : Addr) (sp : Sp) : Prop :=
  ∃ f fd ps, Cls K C ∧ Meth K C m f ∧ FnOk P w K mg base CX k f fd ps sp ∧ Binds K fd ps []
/-- o.m(..) where o is an instance of one of some classes -/
def tMethP (Fam : Addr → Prop) (SP : Addr → Sp) (m : Str) (E : XK) (ta : TE) (t : TA) : TE := fun σ H Q => ta σ H fun x H1 => ∃ a C dx fs, x = .ref a ∧ H1 a = some (.ins C dx fs) ∧ fs.lookup m = none ∧ Fam C ∧
  t σ H1 fun vs H2 => SP C (x :: (vs ++ [])) H2 Q E
section
variable {X : Cx} {CX : CXT} {m : Str} {k : Nat} {Fam : Addr → Prop} {SP : Addr → Sp} {E : XK} {e o : Expr} {es : List Expr} {ta : TE} {t : TA} {pos apos : Pos}
theorem pe_methP {pl : Sem Bool} (he : PE X o ta) (D : ∀ C, Fam C → Disp X.prog X.w X.K X.mg X.base CX m k C (SP C)) (hr : Room k X.A) (hx : Passes CX X E) (ha : PA X (e :: es) t)
    (hst : starEach (e :: es) X.env = (false, eval e X.env) :: starEach es X.env := by rfl) (hpl : (backTo pos (starEach es X.env)).any (·.1) = false := by rfl)
    (ht : eval (.Call (.Attribute o m apos) (e :: es) [] pos) X.env = (do
      let ov ← eval o X.env
      standAt apos.atName
      let (f, first) ← holding [ov] (getMethod ov m pl)
      callWith pos f first (backTo pos (starEach (e :: es) X.env)) (backToKw pos (keywordEach [] X.env))) := by rfl) :
    PE X (.Call (.Attribute o m apos) (e :: es) [] pos) (tMethP Fam SP m E ta t) := by
  refine ⟨fun pins s σ H Q I h => ?_⟩
  refine PySem.W.methodCall_KW (pl := pl) (thn (he.run pins s σ H _ I h) fun u s1 ⟨x, H1, I1, rx, a, C, dx, fs, ex, ea, l, fam, q⟩ => ?_) ht
  subst ex
  obtain rfl : u = Value.ref a := rx
  obtain ⟨f, fd, ps, c, hm, F, hb⟩ := D C fam
  refine getmeth_ok I1 ea c hm l ?_
  refine PySem.W.callWith_K (first := [.ref a]) (h₀ := X.base) I.ok.mod.kin hm.kp (thn (ha.run pos pins s1 σ H1 _ I1 q) fun us s2 ⟨vs, H2, I2, r, q2⟩ => ⟨I2.kIn, ?_⟩) hst hpl
  exact run_fn (us := .ref a :: us) (vs := .ref a :: vs) F hr hb .nil hx I2 (.cons rfl r) q2
theorem pe_methP0 {pl : Sem Bool} (he : PE X o ta) (D : ∀ C, Fam C → Disp X.prog X.w X.K X.mg X.base CX m k C (SP C)) (hr : Room k X.A) (hx : Passes CX X E)
    (ht : eval (.Call (.Attribute o m apos) [] [] pos) X.env = (do
      let ov ← eval o X.env
      standAt apos.atName
      let (f, first) ← holding [ov] (getMethod ov m pl)
      callWith pos f first (backTo pos (starEach [] X.env)) (backToKw pos (keywordEach [] X.env))) := by rfl) :
    PE X (.Call (.Attribute o m apos) [] [] pos) (tMethP Fam SP m E ta tNil) := by
  refine ⟨fun pins s σ H Q I h => ?_⟩
  refine PySem.W.methodCall_KW (pl := pl) (thn (he.run pins s σ H _ I h) fun u s1 ⟨x, H1, I1, rx, a, C, dx, fs, ex, ea, l, fam, q⟩ => ?_) ht
  subst ex
  obtain rfl : u = Value.ref a := rx
  obtain ⟨f, fd, ps, c, hm, F, hb⟩ := D C fam
  refine getmeth_ok I1 ea c hm l ?_
  exact PySem.W.callWith_K0 (first := [.ref a]) I1.kIn hm.kp (run_fn (us := [.ref a]) (vs := [.ref a]) F hr hb .nil hx I1 (.cons rfl .nil) q)
end
theorem fresh_ne {H H' : Hp} {p q : Addr} {o : HO} (h : H p = some o) (n : H q = none) : q ≠ p := fun e => by rw [e, h] at n; cases n

def rTupOf (K : PySem.W.Frag) : List V → Hp → VK → Prop := fun xs H Q => ∃ p ys, xs = [.ref p] ∧ ((SqL K H p ys ∧ ∀ l, H l = none → Q (.ref l) (upd H l (.tup ys))) ∨ (SqT K H p ys ∧ Q (.ref p) H))
def rListOf (K : PySem.W.Frag) : List V → Hp → VK → Prop := fun xs H Q => ∃ p ys, xs = [.ref p] ∧ (SqL K H p ys ∨ SqT K H p ys) ∧ ∀ l, H l = none → Q (.ref l) (upd H l (.lst ys))
theorem call_tuple_ofK {X : Cx} : CallR X (.type "tuple") (rTupOf X.K) := call_tuple_of
theorem call_list_ofK {X : Cx} : CallR X (.type "list") (rListOf X.K) := call_list_of
theorem pi_tupK {X : Cx} {tg l : Expr} {tl : TE} (K : PySem.W.Frag) (hK : X.K = K) (hl : PE X l tl) : PI X tg l (iTup K tl) := by subst hK; exact pi_tup hl
theorem pi_listK {X : Cx} {tg l : Expr} {tl : TE} (K : PySem.W.Frag) (hK : X.K = K) (hl : PE X l tl) : PI X tg l (iList K tl) := by subst hK; exact pi_list hl
def rLenK (K : PySem.W.Frag) : List V → Hp → VK → Prop := fun xs H Q => ∃ p ys, xs = [.ref p] ∧ (SqL K H p ys ∨ SqT K H p ys) ∧ Q (.int ys.length) H
theorem call_lenK {X : Cx} : CallR X (.builtin "len") (rLenK X.K) := call_len_seq
/-- a choice whose test is reckoned ahead: b, and the heap behind it -/
def tIfC (c : TT) (t u : TS) : TS := fun D σ H => ∃ (b : Bool) (H1 : Hp), (∀ Z : Bool → Hp → Prop, Z b H1 → c σ H Z) ∧ (if b = true then t D σ H1 else u D σ H1)
theorem ps_ifC {X : Cx} {c : Expr} {a b : List Stmt} {tc : TT} {t u : TS} {pos : Pos} (hc : PT X c tc) (ha : PSs X a t) (hb : PSs X b u) : PS X (.If c a b pos) (tIfC tc t u) :=
  ⟨fun pins s σ H D I h => by
    obtain ⟨b, H1, h1, h2⟩ := h
    exact (ps_if hc ha hb).run pins s σ H D I (h1 _ h2)⟩
/-- a statement, then what it leaves, told by P -/
def tCut (t : TS) : TS := fun D σ H => ∃ Z : St → Hp → Prop, t { D with nx := Z } σ H ∧ ∀ σ' H', Z σ' H' → D.nx σ' H'
theorem ps_cut {X : Cx} {st : Stmt} {t : TS} (h : PS X st t) : PS X st (tCut t) := by
  refine ⟨fun pins s σ H D I hq => ?_⟩
  obtain ⟨Z, h1, h2⟩ := hq
  refine thn (h.run pins s σ H { D with nx := Z } I h1) fun f s1 hs => ?_
  cases f with
  | next =>
    obtain ⟨σ', H', I', z⟩ := hs
    exact ⟨σ', H', I', h2 _ _ z⟩
  | _ => exact hs
theorem zTrue {p : Prop} [Decidable p] {Z : Bool → Hp → Prop} {H : Hp} (h : Z (decide p) H) (q : p) : Z true H := by rw [decide_eq_true q] at h; exact h
theorem zFalse {p : Prop} [Decidable p] {Z : Bool → Hp → Prop} {H : Hp} (h : Z (decide p) H) (q : ¬ p) : Z false H := by rw [decide_eq_false q] at h; exact h

/-! ### a caught error of an own class, asked for its class -/
def rIsX (K : PySem.W.Frag) (cls : Value) (d : Option Addr) (a : Addr) : List V → Hp → VK → Prop := fun xs H Q => ∃ (D : Addr) (c : V) (cv : Value) (b : Bool), cls = .ref D ∧ d = none ∧ ExcC K D ∧ xs = [.ref a, c] ∧ (∀ u, RelV c u → u = cv) ∧ PySem.W.kitOne K (.ref D) cv = some b ∧ Q (.bl b) H
theorem call_isX {X : Cx} {a : Addr} {oe : Obj} {pn : List (Addr × Obj)} {cls : Value} {d : Option Addr} (hz : Zc cls d oe) (hf : ∃ vs, oe.data = .fields vs) : CallR (X.suite a ((a, oe) :: pn)) (.builtin "isinstance") (rIsX X.K cls d a) := by
  intro pins s σ H xs us Q I r h
  obtain ⟨D, c, cv, b, rfl, rfl, C, e, hcv, hk, q⟩ := h
  exact call_isE C hz hf pins s σ H xs us Q I r ⟨c, cv, b, e, hcv, hk, q⟩
def rIsXT (K : PySem.W.Frag) (cls : Value) (d : Option Addr) (a : Addr) : List V → Hp → VK → Prop := fun xs H Q => ∃ (D tp : Addr) (cs : List V) (us : List Value) (b : Bool), cls = .ref D ∧ d = none ∧ ExcC K D ∧ xs = [.ref a, .ref tp] ∧ H tp = some (.tup cs) ∧ Paired ClsV cs us ∧ PySem.W.kitAny K (.ref D) us = some b ∧ Q (.bl b) H
theorem call_isXT {X : Cx} {a : Addr} {oe : Obj} {pn : List (Addr × Obj)} {cls : Value} {d : Option Addr} (hz : Zc cls d oe) (hf : ∃ vs, oe.data = .fields vs) : CallR (X.suite a ((a, oe) :: pn)) (.builtin "isinstance") (rIsXT X.K cls d a) := by
  intro pins s σ H xs us Q I r h
  obtain ⟨D, tp, cs, ws, b, rfl, rfl, C, rfl, hT, k, e, q⟩ := h
  obtain ⟨u1, u2, rfl, r1, r2⟩ := vals2 r
  cases (show u1 = Value.ref a from r1)
  cases (show u2 = Value.ref tp from r2)
  obtain ⟨hget, _⟩ := I.pin (a, oe) (List.mem_append.mpr (.inl List.mem_cons_self))
  obtain ⟨vs, hv⟩ := hf
  have J : PySem.W.InstAt s.heap a oe D none := by
    obtain ⟨oc, od, oda, osl⟩ := oe
    obtain ⟨h1, h2⟩ := hz
    dsimp only at h1 h2 hv
    subst h1 h2 hv
    exact ⟨hget, rfl, rfl, trivial⟩
  obtain ⟨_, its, rv, o, h1, h2, n, h3⟩ := (show ObjOk X.prog X.w H s.heap tp (.tup cs) from I.hok tp _ hT)
  have e3 := ClsV.all k rv
  subst e3
  obtain ⟨oc, od, dt, sl⟩ := o
  simp only at h2 h3
  subst h2 h3
  exact PySem.W.kia_tup (PySem.W.handS_kitx_exc C.hg C.hk C.hs C.hd C.ha C.hn C.ht C.hm) I.kIn J h1 e (fun z => nomatch z) fun tk => ⟨.bl b, H, I.tok tk, rfl, q⟩

/-! the head's facts, by tests of one's own -/
abbrev FaM : Type := PySem.W.Frag → Bool
def obsM (fa : List FaM) (fn : List He.DefD) (K : PySem.W.Frag) : He.AlD := ((fa.all fun f => f K) && fn.all fun d => d.ok K, fn.map fun d => He.fnW K d.at_)
def SaysM (fa : List FaM) (fn : List He.DefD) (K : PySem.W.Frag) : Prop := obsM fa fn K = He.valD fn
def forceL {α : Type} : List Addr → (List Addr → α) → α
  | [], k => k []
  | a :: r, k => HandSHeadRun.frNat a fun a => forceL r fun r => k (a :: r)
theorem forceL_eq {α : Type} : ∀ (l : List Addr) (k : List Addr → α), forceL l k = k l
  | [], _ => rfl
  | a :: r, k => by
    show HandSHeadRun.frNat a (fun a => forceL r fun r => k (a :: r)) = _
    rw [HandSHeadRun.frNat_eq, forceL_eq r]
def nsOfM (g : Addr → Option Obj) (a : Addr) : List Addr := match g a with
  | some ⟨_, _, .cls cd, _⟩ => [cd.ns]
  | _ => []
def valsOfM (g : Addr → Option Obj) (a : Addr) : List Addr := match g a with
  | some ⟨_, _, .dict es _, _⟩ => es.toList.flatMap fun e => He.refV e.val
  | _ => []
def codeOfM (g : Addr → Option Obj) (a : Addr) : List Addr := match g a with
  | some ⟨_, _, .func fd, _⟩ => He.refV fd.code ++ (He.refV fd.defaults ++ He.refV fd.kwdefaults)
  | _ => []
/-- the module's names, the classes' own names, the functions' codes -/
def asM {α : Type} (names : List Str) (g : Addr → Option Obj) (k : List Addr → α) : α :=
  forceL (names.map (He.ga (He.frG g [mainGlobals]))) fun l1 => forceL (l1.flatMap (nsOfM g)) fun l2 => forceL (l2.flatMap (valsOfM g)) fun l3 => forceL ((l1 ++ l3).flatMap (codeOfM g)) fun l4 => k (mainGlobals :: cStatics :: (l1 ++ (l2 ++ (l3 ++ l4))))
def l1M (names : List Str) (g : Addr → Option Obj) : List Addr := names.map (He.ga (He.frG g [mainGlobals]))
def l2M (names : List Str) (g : Addr → Option Obj) : List Addr := (l1M names g).flatMap (nsOfM g)
def l3M (names : List Str) (g : Addr → Option Obj) : List Addr := (l2M names g).flatMap (valsOfM g)
def l4M (names : List Str) (g : Addr → Option Obj) : List Addr := (l1M names g ++ l3M names g).flatMap (codeOfM g)
theorem asM_eq {α : Type} (names : List Str) (g : Addr → Option Obj) : ∃ as : List Addr, ∀ k : List Addr → α, asM names g k = k as := by
  refine ⟨mainGlobals :: cStatics :: (l1M names g ++ (l2M names g ++ (l3M names g ++ l4M names g))), fun k => ?_⟩
  unfold asM
  rw [forceL_eq, forceL_eq, forceL_eq, forceL_eq]
  rfl
def obsMG (names : List Str) (fa : List FaM) (fn : List He.DefD) (g : Addr → Option Obj) : He.AlD := asM names g fun as => obsM fa fn (He.frG g as)
def hookM (names : List Str) (fa : List FaM) (fn : List He.DefD) : PySem.W.Hook where
  α := He.AlD
  obs := fun s => obsMG names fa fn s.heap.get?
  val := fun _ => He.valD fn
  says := fun _ h => ∃ K : PySem.W.Frag, K.In h ∧ SaysM fa fn K
  of := fun _ s e => by
    obtain ⟨as, ea⟩ := asM_eq (α := He.AlD) names s.heap.get?
    exact ⟨_, He.frG_in, (ea _).symm.trans e⟩
  keeps := fun _ _ _ ⟨K, hK, c⟩ k => ⟨K, PySem.W.Frag.In.keeps hK k, c⟩
theorem obsMG_eq {names : List Str} {fa : List FaM} {fn : List He.DefD} {g : Addr → Option Obj} {s : Shared} (h : ∀ a, g a = s.heap.get? a) : obsMG names fa fn g = (hookM names fa fn).obs s := by
  have e : g = s.heap.get? := funext h
  rw [e] <;> rfl
section
variable {fa : List FaM} {fn : List He.DefD} {K : PySem.W.Frag}
theorem SaysM.fact (c : SaysM fa fn K) (i : Nat) {f : FaM} (h : fa[i]? = some f) : f K = true := by
  have c1 := (He.ba (show ((fa.all fun f => f K) && fn.all fun d => d.ok K) = true from congrArg (fun z : He.AlD => z.1) c)).1
  exact List.all_eq_true.mp c1 f (List.mem_of_getElem? h)
theorem SaysM.def_ (c : SaysM fa fn K) (i : Nat) {d : He.DefD} (h : fn[i]? = some d) : ∃ fd, FunD K d.name d.qual d.params d.body d.scope (d.dvs K) (d.kws K) (He.fAd K d.at_) fd := by
  have c2 := (He.ba (show ((fa.all fun f => f K) && fn.all fun d => d.ok K) = true from congrArg (fun z : He.AlD => z.1) c)).2
  have e : fn.map (fun d => He.fnW K d.at_) = fn.map He.DefD.val := congrArg (fun z : He.AlD => z.2) c
  have e2 : (fn.map fun d => He.fnW K d.at_)[i]? = (fn.map He.DefD.val)[i]? := by rw [e]
  rw [List.getElem?_map, List.getElem?_map, h] at e2
  exact He.DefD.funD (Option.some.inj e2) (List.all_eq_true.mp c2 d (List.mem_of_getElem? h))
end
theorem fun_of {K : PySem.W.Frag} {x qual : Str} {st : Stmt} {f : Addr} {fd : FuncData} (F : FunD K x qual (defArgs st) (defBody st) (defScope st) [] [] f fd) : Fun K x qual st f fd := by
  obtain ⟨oc, od, dV, kV, doc, pm, an, cdv, ct, osl, rfl, lk, hcd, hD, hK⟩ := F.ex
  rcases hD with ⟨_, rfl⟩ | ⟨e, _⟩
  · exact ⟨⟨oc, od, kV, doc, pm, an, cdv, ct, osl, rfl, lk, hcd⟩, F.kp⟩
  · exact absurd rfl e

/-! defs that make functions: their code objects and the tables of these -/
def tabsM (g : Addr → Option Obj) (tf : List He.Defn) (K : PySem.W.Frag) : Bool := tf.all fun p => PySem.W.codeHdIn K (He.cT K p).1 (He.cT K p).2 && ((K.lookup (He.cT K p).2).isNone && (match g (He.cT K p).2 with
  | some o => He.emptyTab o
  | none => false))
def obsMC (names : List Str) (fa : List FaM) (fn : List He.DefD) (tf : List He.Defn) (g : Addr → Option Obj) : He.AlD × Bool := asM names g fun as => (obsM fa fn (He.frG g as), tabsM g tf (He.frG g as))
structure SaysMC (fa : List FaM) (fn : List He.DefD) (tf : List He.Defn) (h : Heap) (K : PySem.W.Frag) : Prop where
  m : SaysM fa fn K
  hd : ∀ p ∈ tf, PySem.W.codeHdIn K (He.cT K p).1 (He.cT K p).2 = true
  out : ∀ p ∈ tf, K.lookup (He.cT K p).2 = none
  empty : ∀ p ∈ tf, h.get? (He.cT K p).2 = some { cls := .none, data := .fields #[] }
def hookMC (names : List Str) (fa : List FaM) (fn : List He.DefD) (tf : List He.Defn) : PySem.W.Hook where
  α := He.AlD × Bool
  obs := fun s => obsMC names fa fn tf s.heap.get?
  val := fun _ => (He.valD fn, true)
  says := fun _ h => ∃ K : PySem.W.Frag, K.In h ∧ SaysMC fa fn tf h K
  of := fun _ s e => by
    obtain ⟨as, ea⟩ := asM_eq (α := He.AlD × Bool) names s.heap.get?
    have e1 : (obsM fa fn (He.frG s.heap.get? as), tabsM s.heap.get? tf (He.frG s.heap.get? as)) = (He.valD fn, true) := (ea _).symm.trans e
    have e2 : obsM fa fn (He.frG s.heap.get? as) = He.valD fn := congrArg (fun z : He.AlD × Bool => z.1) e1
    have e3 : tabsM s.heap.get? tf (He.frG s.heap.get? as) = true := congrArg (fun z : He.AlD × Bool => z.2) e1
    have key : ∀ p ∈ tf, PySem.W.codeHdIn (He.frG s.heap.get? as) (He.cT (He.frG s.heap.get? as) p).1 (He.cT (He.frG s.heap.get? as) p).2 = true ∧ (He.frG s.heap.get? as).lookup (He.cT (He.frG s.heap.get? as) p).2 = none ∧ s.heap.get? (He.cT (He.frG s.heap.get? as) p).2 = some { cls := .none, data := .fields #[] } := fun p hp => by
      obtain ⟨h1, h2⟩ := He.ba (List.all_eq_true.mp e3 p hp)
      obtain ⟨h3, h4⟩ := He.ba h2
      refine ⟨h1, Option.isNone_iff_eq_none.mp h3, ?_⟩
      cases q : s.heap.get? (He.cT (He.frG s.heap.get? as) p).2 with
      | none => rw [q] at h4; cases h4
      | some o => rw [q] at h4; rw [He.emptyTab_eq h4]
    exact ⟨_, He.frG_in, e2, fun p hp => (key p hp).1, fun p hp => (key p hp).2.1, fun p hp => (key p hp).2.2⟩
  keeps := fun _ _ _ ⟨K, hK, c⟩ k => ⟨K, PySem.W.Frag.In.keeps hK k, ⟨c.m, c.hd, c.out, fun p hp => k _ _ (c.empty p hp)⟩⟩
theorem obsMC_eq {names : List Str} {fa : List FaM} {fn : List He.DefD} {tf : List He.Defn} {g : Addr → Option Obj} {s : Shared} (h : ∀ a, g a = s.heap.get? a) : obsMC names fa fn tf g = (hookMC names fa fn tf).obs s := by
  have e : g = s.heap.get? := funext h
  rw [e] <;> rfl
theorem code_of {K : PySem.W.Frag} {x qual : Str} {st : Stmt} {p : Str × Option Str} {fd : FuncData} (F : FunD K x qual (defArgs st) (defBody st) (defScope st) [] [] (He.fAd K p) fd) : fd.code = .ref (He.codeOf K p) := by
  obtain ⟨oc, od, dV, kV, doc, pm, an, cdv, ct, osl, rfl, lk, hcd, hD, hK⟩ := F.ex
  obtain ⟨c, hc⟩ := He.codeIn_ref hcd
  subst hc
  rw [He.codeOf_eq lk rfl]
/-- a def that makes functions: its code object is known -/
theorem okC {P : Program} {w : World} {K : PySem.W.Frag} {mg : Str → Option Value} {base : Heap} {x qual : Str} {st : Stmt} {f c : Addr} {fd : FuncData} {N ps : List Str} {k : Nat} {sp : Sp} (F : Fun K x qual st f fd) (hc : fd.code = .ref c) (S : FnScope N ps (defScope st)) (len : ∀ vs H Q E, sp vs H Q E → vs.length = ps.length)
    (hbody : ∀ (A : Around) (outer : List Env) (s : Shared) (H : Hp) (vs : List V) (Q : VK) (E : XK), Room k (A.deeper (PyProof.Rows.envOfC qual (defScope st) s.heap.objs.size f (.ref c))) → sp vs H Q E →
      ∃ t, PSs (cxOf CX0 P w K mg base N qual (defScope st) f (.ref c) A outer s H E).nox (defBody st) t ∧ t { nx := fun _ H' => Q .non H', rt := Q } (start N vs) H) : FnOk P w K mg base CX0 (k + 1) f fd ps sp := by
  obtain ⟨oc, od, kV, doc, pm, an, cdv, ct, osl, rfl, lk, hcd⟩ := F.ex
  have e : cdv = .ref c := hc
  subst e
  refine fn_of lk hcd S len fun A outer s H vs Q E hr hsp => ?_
  obtain ⟨t, h, q⟩ := hbody A outer s H vs Q E hr hsp
  exact ⟨t, h.nox, q⟩

/-! ### words: values by their figures, names -/
def isLow (c : Nat) : Bool := decide (97 ≤ c) && decide (c ≤ 122)
def isDig (c : Nat) : Bool := decide (48 ≤ c) && decide (c ≤ 57)
theorem fig_mem (c : Nat) : decide (c ∈ (Str.ofString "0123456789").cps.toList) = isDig c := by
  have e : (Str.ofString "0123456789").cps.toList = [48, 49, 50, 51, 52, 53, 54, 55, 56, 57] := by decide +kernel
  rw [e]
  unfold isDig
  rw [Bool.eq_iff_iff]
  simp only [decide_eq_true_eq, Bool.and_eq_true, List.mem_cons, List.not_mem_nil, or_false]
  omega
theorem let_mem (c : Nat) : decide (c ∈ (Str.ofString "abcdefghijklmnopqrstuvwxyz").cps.toList) = isLow c := by
  have e : (Str.ofString "abcdefghijklmnopqrstuvwxyz").cps.toList = [97, 98, 99, 100, 101, 102, 103, 104, 105, 106, 107, 108, 109, 110, 111, 112, 113, 114, 115, 116, 117, 118, 119, 120, 121, 122] := by decide +kernel
  rw [e]
  unfold isLow
  rw [Bool.eq_iff_iff]
  simp only [decide_eq_true_eq, Bool.and_eq_true, List.mem_cons, List.not_mem_nil, or_false]
  omega
def PAIRW : List Str := ["plus", "minus", "times", "over", "rest", "less", "same"]
def ROWW : List Str := ["skip", "set", "put", "ask", "draw", "tell", "if", "while", "call"]
def OTHW : List Str := ["else", "end", "fun", "main", "give", "cell"]
def lenOk (s : Str) : Bool := decide (1 ≤ (tl s).length) && decide ((tl s).length ≤ 6)
def isValW (s : Str) : Bool := lenOk s && !((tl s).head? == some 48 && decide (s ≠ "0")) && (tl s).all isDig
def isNameW (s : Str) : Bool := lenOk s && !(decide (s ∈ PAIRW) || (decide (s ∈ ROWW) || decide (s ∈ OTHW))) && (tl s).all isLow
def valOf (s : Str) : Int := ((NumText.digitsVal (tl s) : Nat) : Int)
def numT (n : Int) : Str := Str.ofString (toString n)
theorem inV_str (s : Str) : ∀ l : List Str, inV (.str s) (l.map V.str) = decide (s ∈ l)
  | [] => by simp [inV]
  | x :: r => by
    have ih := inV_str s r
    unfold inV at ih ⊢
    rw [List.map_cons, List.any_cons, ih]
    have e : eqV (.str x) (.str s) = decide (s = x) := by
      show (x == s) = decide (s = x)
      by_cases h : s = x
      · subst h; simp
      · rw [decide_eq_false h]; exact beq_eq_false_iff_ne.mpr fun e => h e.symm
    rw [e]
    by_cases h : s = x <;> simp [h]
theorem digits_of_all {l : List Nat} (h : l.all isDig = true) : NumText.AllDigits l := fun c hc => by
  have := List.all_eq_true.mp h c hc
  unfold isDig at this
  simp only [Bool.and_eq_true, decide_eq_true_eq] at this
  exact this
theorem all_of_digits {l : List Nat} (h : NumText.AllDigits l) : l.all isDig = true := List.all_eq_true.mpr fun c hc => by
  have := h c hc
  unfold isDig
  simp only [Bool.and_eq_true, decide_eq_true_eq]
  exact this
theorem foldl_lt : ∀ (l : List Nat) (a : Nat), NumText.AllDigits l → l.foldl (fun acc c => acc * 10 + (c - 48)) a < (a + 1) * 10 ^ l.length
  | [], a, _ => by simp
  | c :: r, a, h => by
    have hc := h c List.mem_cons_self
    have ih := foldl_lt r (a * 10 + (c - 48)) fun d hd => h d (List.mem_cons_of_mem _ hd)
    have e : (a + 1) * 10 ^ (r.length + 1) = ((a + 1) * 10) * 10 ^ r.length := by rw [Nat.pow_succ, Nat.mul_comm (10 ^ r.length) 10, ← Nat.mul_assoc]
    rw [List.foldl_cons, List.length_cons, e]
    exact Nat.lt_of_lt_of_le ih (Nat.mul_le_mul_right _ (by omega))
theorem digitsVal_lt {l : List Nat} (h : NumText.AllDigits l) : NumText.digitsVal l < 10 ^ l.length := by
  have := foldl_lt l 0 h
  rw [Nat.zero_add, Nat.one_mul] at this
  exact this
theorem valW_parts {s : Str} (h : isValW s = true) : (1 ≤ (tl s).length ∧ (tl s).length ≤ 6) ∧ ((tl s).head? = some 48 → s = "0") ∧ NumText.AllDigits (tl s) := by
  unfold isValW lenOk at h
  simp only [Bool.and_eq_true, decide_eq_true_eq, Bool.not_eq_true', Bool.and_eq_false_iff, beq_eq_false_iff_ne, decide_eq_false_iff_not] at h
  obtain ⟨⟨⟨h1, h2⟩, h3⟩, h4⟩ := h
  refine ⟨⟨h1, h2⟩, fun e => ?_, digits_of_all h4⟩
  rcases h3 with h3 | h3
  · exact absurd e h3
  · exact Classical.not_not.mp h3
theorem valW_int {s : Str} (h : isValW s = true) : PySem.intText? s = some (valOf s) ∧ s.length ≤ 640 ∧ 0 ≤ valOf s ∧ valOf s < 1000000 := by
  obtain ⟨⟨h1, h2⟩, _, h4⟩ := valW_parts h
  have hl : s.length = (tl s).length := len_tl s
  refine ⟨PySem.intText_digits (x := s) h4 (fun e => ?_) (by omega), by omega, Int.natCast_nonneg _, ?_⟩
  · have e' : tl s = [] := e
    rw [e'] at h1; simp at h1
  · have := digitsVal_lt h4
    have p : 10 ^ (tl s).length ≤ 10 ^ 6 := Nat.pow_le_pow_right (by decide) h2
    unfold valOf
    omega
theorem numL_head : ∀ n : Nat, (numL n).head? = some 48 → n = 0 := by
  intro n
  induction n using Nat.strongRecOn with
  | _ n ih =>
    intro h
    by_cases c : n < 10
    · rw [numL_lt c] at h
      simp at h
      omega
    · rw [numL_step (by omega)] at h
      cases q : numL (n / 10) with
      | nil => exact absurd q (numL_ne _)
      | cons x r =>
        rw [q, List.cons_append, List.head?_cons] at h
        have := ih (n / 10) (by omega) (by rw [q, List.head?_cons]; exact h)
        omega
theorem tl_numT {n : Int} (h : 0 ≤ n) : tl (numT n) = numL n.toNat := by
  have e : n = ((n.toNat : Nat) : Int) := by omega
  unfold numT
  rw [e]
  exact tl_num _
theorem numT_valW {n : Int} (h0 : 0 ≤ n) (h1 : n < 1000000) : isValW (numT n) = true ∧ valOf (numT n) = n := by
  have et := tl_numT h0
  have hl : (numL n.toNat).length ≤ 6 := numL_len (by decide) (by omega)
  have hp : 1 ≤ (numL n.toNat).length := by
    cases q : numL n.toNat with
    | nil => exact absurd q (numL_ne _)
    | cons x r => simp
  refine ⟨?_, ?_⟩
  · unfold isValW lenOk
    rw [et]
    simp only [Bool.and_eq_true, decide_eq_true_eq, Bool.not_eq_true', Bool.and_eq_false_iff, beq_eq_false_iff_ne, decide_eq_false_iff_not]
    refine ⟨⟨⟨hp, hl⟩, ?_⟩, all_of_digits (numL_digits _)⟩
    by_cases c : (numL n.toNat).head? = some 48
    · have z := numL_head _ c
      right
      have : n = 0 := by omega
      subst this
      exact fun e => e (by decide +kernel)
    · exact .inl c
  · unfold valOf
    rw [et, numL_val]
    omega
theorem numT_inj {m n : Int} (hm : 0 ≤ m) (hn : 0 ≤ n) (e : numT m = numT n) : m = n := by
  have e' := congrArg tl e
  rw [tl_numT hm, tl_numT hn] at e'
  have := numL_inj e'
  omega
theorem toDigits_digitsVal' {l : List Nat} (h : NumText.AllDigits l) (h1 : 1 ≤ l.length) (c : ¬ l.head? = some 48) : numL (NumText.digitsVal l) = l := by
  unfold numL
  rw [NumText.toDigits_digitsVal (l.length - 1) l (by omega) h (Or.inr ?_), List.map_map]
  · conv => rhs; rw [← List.map_id l]
    refine List.map_congr_left fun d hd => ?_
    have hd' := h d hd
    show (Char.ofNat d).toNat = d
    obtain ⟨a, b⟩ := hd'
    have : ∀ k, k < 10 → (Char.ofNat (48 + k)).toNat = 48 + k := by decide
    have e : d = 48 + (d - 48) := by omega
    rw [e]
    exact this _ (by omega)
  · cases l with
    | nil => simp at h1
    | cons x r =>
      refine ⟨x, r, rfl, ?_⟩
      have := h x List.mem_cons_self
      have : x ≠ 48 := fun e => c (by rw [e]; rfl)
      omega
theorem valW_canon {s : Str} (h : isValW s = true) : numT (valOf s) = s := by
  obtain ⟨⟨h1, h2⟩, h3, h4⟩ := valW_parts h
  refine ext_tl ?_
  rw [tl_numT (valW_int h).2.2.1]
  show numL ((NumText.digitsVal (tl s) : Nat) : Int).toNat = tl s
  rw [Int.toNat_natCast]
  by_cases c : (tl s).head? = some 48
  · rw [h3 c]; decide +kernel
  · have key := toDigits_digitsVal' h4 h1 c
    exact key
theorem nameW_parts {s : Str} (h : isNameW s = true) : (1 ≤ (tl s).length ∧ (tl s).length ≤ 6) ∧ s ∉ PAIRW ∧ s ∉ ROWW ∧ s ∉ OTHW ∧ ∀ c ∈ tl s, 97 ≤ c ∧ c ≤ 122 := by
  unfold isNameW lenOk at h
  simp only [Bool.and_eq_true, decide_eq_true_eq, Bool.not_eq_true', Bool.or_eq_false_iff, decide_eq_false_iff_not] at h
  obtain ⟨⟨⟨h1, h2⟩, h3, h5, h6⟩, h4⟩ := h
  refine ⟨⟨h1, h2⟩, h3, h5, h6, fun c hc => ?_⟩
  have := List.all_eq_true.mp h4 c hc
  unfold isLow at this
  simp only [Bool.and_eq_true, decide_eq_true_eq] at this
  exact this
theorem name_not_val {s : Str} (h : isNameW s = true) : isValW s = false := by
  obtain ⟨⟨h1, _⟩, _, _, _, h4⟩ := nameW_parts h
  cases c : isValW s with
  | false => rfl
  | true =>
    obtain ⟨_, _, h5⟩ := valW_parts c
    cases q : tl s with
    | nil => rw [q] at h1; simp at h1
    | cons x r =>
      have a1 := h4 x (by rw [q]; exact List.mem_cons_self)
      have a2 := h5 x (by rw [q]; exact List.mem_cons_self)
      omega
theorem val_free {s : Str} {c : Nat} (h : isValW s = true) (hc : c < 48 ∨ 57 < c) : c ∉ tl s := fun hm => by
  obtain ⟨_, _, h5⟩ := valW_parts h
  have a2 := h5 c hm
  omega
theorem name_free {s : Str} {c : Nat} (h : isNameW s = true) (hc : c < 97 ∨ 122 < c) : c ∉ tl s := fun hm => by
  obtain ⟨_, _, _, _, h4⟩ := nameW_parts h
  have a1 := h4 c hm
  omega
theorem pair_free : ∀ s ∈ PAIRW, ∀ c ∈ tl s, 97 ≤ c ∧ c ≤ 122 := by decide +kernel
theorem pair_not_val : ∀ s ∈ PAIRW, isValW s = false ∧ isNameW s = false ∧ s ≠ "cell" ∧ (tl s).length ≤ 6 := by decide +kernel
theorem cell_not : isValW "cell" = false ∧ isNameW "cell" = false := by decide +kernel
/-! ### expressions -/
inductive Ex where
  | num (n : Int)
  | box (s : Str)
  | cell (e : Ex)
  | two (w : Str) (l r : Ex)
namespace Ex
def depth : Ex → Nat
  | num _ => 1
  | box _ => 1
  | cell e => e.depth + 1
  | two _ l r => max l.depth r.depth + 1
def parts : Ex → Nat
  | num _ => 1
  | box _ => 1
  | cell e => 1 + e.parts
  | two _ l r => 1 + l.parts + r.parts
def toks : Ex → List Str
  | num n => [numT n]
  | box s => [s]
  | cell e => "cell" :: e.toks
  | two w l r => w :: (l.toks ++ r.toks)
def Wf : Ex → Prop
  | num n => 0 ≤ n ∧ n < 1000000
  | box s => isNameW s = true
  | cell e => e.Wf
  | two w l r => w ∈ PAIRW ∧ l.Wf ∧ r.Wf
def told : Ex → PyData
  | num n => .tuple [.str "number", .int n]
  | box s => .tuple [.str "box", .str s]
  | cell e => .tuple [.str "cell", e.told]
  | two w l r => .tuple [.str w, l.told, r.told]
theorem depth_pos : ∀ e : Ex, 1 ≤ e.depth
  | num _ => Nat.le_refl 1
  | box _ => Nat.le_refl 1
  | cell _ => Nat.le_add_left _ _
  | two _ _ _ => Nat.le_add_left _ _
theorem parts_pos : ∀ e : Ex, 1 ≤ e.parts
  | num _ => Nat.le_refl 1
  | box _ => Nat.le_refl 1
  | cell _ => Nat.le_add_right _ _
  | two _ _ _ => Nat.le_trans (Nat.le_add_right 1 _) (Nat.le_add_right _ _)
theorem toks_len : ∀ e : Ex, e.toks.length = e.parts
  | num _ => rfl
  | box _ => rfl
  | cell e => by show e.toks.length + 1 = 1 + e.parts; rw [toks_len e]; omega
  | two w l r => by
    show (l.toks ++ r.toks).length + 1 = 1 + l.parts + r.parts
    rw [List.length_append, toks_len l, toks_len r]; omega
theorem parts_depth : ∀ e : Ex, e.depth ≤ e.parts
  | num _ => Nat.le_refl 1
  | box _ => Nat.le_refl 1
  | cell e => by have := parts_depth e; show e.depth + 1 ≤ 1 + e.parts; omega
  | two w l r => by have := parts_depth l; have := parts_depth r; show max l.depth r.depth + 1 ≤ 1 + l.parts + r.parts; omega
theorem toks_ok : ∀ {e : Ex}, e.Wf → ∀ s ∈ e.toks, (tl s).length ≤ 6 ∧ ∀ c ∈ tl s, (48 ≤ c ∧ c ≤ 57) ∨ (97 ≤ c ∧ c ≤ 122)
  | num n, h, s, hs => by
    rw [List.mem_singleton.mp hs]
    obtain ⟨⟨_, h2⟩, _, h4⟩ := valW_parts (numT_valW h.1 h.2).1
    exact ⟨h2, fun c hc => .inl (h4 c hc)⟩
  | box b, h, s, hs => by
    rw [List.mem_singleton.mp hs]
    obtain ⟨⟨_, h2⟩, _, _, _, h4⟩ := nameW_parts h
    exact ⟨h2, fun c hc => .inr (h4 c hc)⟩
  | cell e, h, s, hs => by
    rcases List.mem_cons.mp hs with rfl | hs
    · exact ⟨by decide +kernel, fun c hc => .inr ((by decide +kernel : ∀ c ∈ tl (Str.ofString "cell"), 97 ≤ c ∧ c ≤ 122) c hc)⟩
    · exact toks_ok (e := e) h s hs
  | two w l r, h, s, hs => by
    rcases List.mem_cons.mp hs with rfl | hs
    · exact ⟨(pair_not_val _ h.1).2.2.2, fun c hc => .inr (pair_free _ h.1 c hc)⟩
    · rcases List.mem_append.mp hs with hs | hs
      · exact toks_ok (e := l) h.2.1 s hs
      · exact toks_ok (e := r) h.2.2 s hs
end Ex
/-- the expression that begins the words, of at most so many parts within one another; what is behind it -/
def parseE : Nat → List Str → Option (Ex × List Str)
  | 0, _ => none
  | _ + 1, [] => none
  | d + 1, w :: r =>
    if isValW w = true then some (.num (valOf w), r)
    else if isNameW w = true then some (.box w, r)
    else if w = "cell" then (match parseE d r with
      | none => none
      | some (e, r1) => some (.cell e, r1))
    else if w ∈ PAIRW then (match parseE d r with
      | none => none
      | some (l, r1) => (match parseE d r1 with
        | none => none
        | some (e, r2) => some (.two w l e, r2)))
    else none
theorem parse_toks : ∀ {d : Nat} {e : Ex}, e.Wf → e.depth ≤ d → ∀ r, parseE d (e.toks ++ r) = some (e, r)
  | 0, e, _, hd, _ => absurd (e.depth_pos) (by omega)
  | d + 1, .num n, h, _, r => by
    have q := numT_valW h.1 h.2
    show parseE (d + 1) (numT n :: r) = _
    unfold parseE
    rw [if_pos q.1, q.2]
  | d + 1, .box s, h, _, r => by
    show parseE (d + 1) (s :: r) = _
    unfold parseE
    rw [if_neg (by rw [name_not_val h]; decide), if_pos (show isNameW s = true from h)]
  | d + 1, .cell e, h, hd, r => by
    show parseE (d + 1) ("cell" :: (e.toks ++ r)) = _
    unfold parseE
    rw [if_neg (by rw [cell_not.1]; decide), if_neg (by rw [cell_not.2]; decide), if_pos rfl, parse_toks (d := d) (e := e) h (by have : e.depth + 1 ≤ d + 1 := hd; omega) r]
  | d + 1, .two w l e, h, hd, r => by
    obtain ⟨hw, hl, he⟩ := h
    have hd' : max l.depth e.depth + 1 ≤ d + 1 := hd
    obtain ⟨q1, q2, q3, _⟩ := pair_not_val w hw
    show parseE (d + 1) (w :: ((l.toks ++ e.toks) ++ r)) = _
    unfold parseE
    rw [if_neg (by rw [q1]; decide), if_neg (by rw [q2]; decide), if_neg q3, if_pos hw, List.append_assoc, parse_toks (d := d) hl (by omega) (e.toks ++ r)]
    show (match parseE d (e.toks ++ r) with | none => none | some (e, r2) => some (Ex.two w l e, r2)) = _
    rw [parse_toks (d := d) he (by omega) r]
theorem parse_wf : ∀ {d : Nat} {ws : List Str} {e : Ex} {r : List Str}, parseE d ws = some (e, r) → e.Wf ∧ e.depth ≤ d ∧ ws = e.toks ++ r
  | 0, _, _, _, h => by simp [parseE] at h
  | _ + 1, [], _, _, h => by simp [parseE] at h
  | d + 1, w :: t, e, r, h => by
    unfold parseE at h
    by_cases c1 : isValW w = true
    · rw [if_pos c1] at h
      cases h
      obtain ⟨_, _, h3, h4⟩ := valW_int c1
      exact ⟨⟨h3, h4⟩, Nat.le_add_left _ _, by show w :: t = [numT (valOf w)] ++ t; rw [valW_canon c1]; rfl⟩
    rw [if_neg c1] at h
    by_cases c2 : isNameW w = true
    · rw [if_pos c2] at h
      cases h
      exact ⟨c2, Nat.le_add_left _ _, rfl⟩
    rw [if_neg c2] at h
    by_cases c3 : w = "cell"
    · rw [if_pos c3] at h
      cases q : parseE d t with
      | none => rw [q] at h; cases h
      | some p =>
        obtain ⟨e1, r1⟩ := p
        rw [q] at h
        cases h
        obtain ⟨a1, a2, a3⟩ := parse_wf q
        exact ⟨a1, Nat.succ_le_succ a2, by rw [c3, a3]; rfl⟩
    rw [if_neg c3] at h
    by_cases c4 : w ∈ PAIRW
    · rw [if_pos c4] at h
      cases q : parseE d t with
      | none => rw [q] at h; cases h
      | some p =>
        obtain ⟨e1, r1⟩ := p
        rw [q] at h
        simp only at h
        cases q2 : parseE d r1 with
        | none => rw [q2] at h; cases h
        | some p2 =>
          obtain ⟨e2, r2⟩ := p2
          rw [q2] at h
          cases h
          obtain ⟨a1, a2, a3⟩ := parse_wf q
          obtain ⟨b1, b2, b3⟩ := parse_wf q2
          exact ⟨⟨c4, a1, b1⟩, by show max e1.depth e2.depth + 1 ≤ d + 1; omega, by rw [a3, b3]; show _ = w :: (e1.toks ++ e2.toks) ++ r; rw [List.cons_append, List.append_assoc]⟩
    · rw [if_neg c4] at h; cases h
/-- all the expressions of a row of words -/
def parseAll : Nat → List Str → Option (List Ex)
  | _, [] => some []
  | 0, _ :: _ => none
  | n + 1, ws => match parseE 6 ws with
    | none => none
    | some (e, r) => if e.parts ≤ 15 then (match parseAll n r with
      | none => none
      | some es => some (e :: es)) else none

/-! ### objects -/
structure EC where
  num : Addr
  box : Addr
  cell : Addr
  two : Addr
def EC.Fam (c : EC) (C : Addr) : Prop := C = c.num ∨ C = c.box ∨ C = c.cell ∨ C = c.two
def EC.of (c : EC) : Ex → Addr
  | .num _ => c.num
  | .box _ => c.box
  | .cell _ => c.cell
  | .two _ _ _ => c.two
theorem EC.fam (c : EC) : ∀ e : Ex, c.Fam (c.of e)
  | .num _ => .inl rfl
  | .box _ => .inr (.inl rfl)
  | .cell _ => .inr (.inr (.inl rfl))
  | .two _ _ _ => .inr (.inr (.inr rfl))
def fNum (n : Int) : List (Str × V) := [("value", .int n)]
def fBox (s : Str) : List (Str × V) := [("name", .str s)]
def fCell (i : V) : List (Str × V) := [("inner", i)]
def fTwo (w : Str) (a b : V) : List (Str × V) := [("word", .str w), ("left", a), ("right", b)]
/-- v is an object of the expression e -/
def ObjE (c : EC) (H : Hp) : Ex → V → Prop
  | .num n, v => ∃ p dx, v = .ref p ∧ H p = some (.ins c.num dx (fNum n))
  | .box s, v => ∃ p dx, v = .ref p ∧ H p = some (.ins c.box dx (fBox s))
  | .cell e, v => ∃ p dx i, v = .ref p ∧ H p = some (.ins c.cell dx (fCell i)) ∧ ObjE c H e i
  | .two w l r, v => ∃ p dx a b, v = .ref p ∧ H p = some (.ins c.two dx (fTwo w a b)) ∧ ObjE c H l a ∧ ObjE c H r b
theorem ObjE.same {c : EC} {H H' : Hp} (s : Same H H') : ∀ {e : Ex} {v : V}, ObjE c H e v → ObjE c H' e v
  | .num n, v, ⟨p, dx, h1, h2⟩ => ⟨p, dx, h1, s _ _ h2⟩
  | .box n, v, ⟨p, dx, h1, h2⟩ => ⟨p, dx, h1, s _ _ h2⟩
  | .cell e, v, ⟨p, dx, i, h1, h2, h3⟩ => ⟨p, dx, i, h1, s _ _ h2, ObjE.same s h3⟩
  | .two w l r, v, ⟨p, dx, a, b, h1, h2, h3, h4⟩ => ⟨p, dx, a, b, h1, s _ _ h2, ObjE.same s h3, ObjE.same s h4⟩
abbrev exMeth (m : Str) : Prop := m ∈ (["told", "words", "parts", "levels", "reckon"] : List Str)
theorem look_none {m : Str} (h : exMeth m) : (∀ n, (fNum n).lookup m = none) ∧ (∀ s, (fBox s).lookup m = none) ∧ (∀ i, (fCell i).lookup m = none) ∧ (∀ w a b, (fTwo w a b).lookup m = none) := by
  have n : ∀ k ∈ (["value", "name", "inner", "word", "left", "right"] : List Str), (m == k) = false := by
    intro k hk
    have : ∀ x ∈ (["told", "words", "parts", "levels", "reckon"] : List Str), ∀ y ∈ (["value", "name", "inner", "word", "left", "right"] : List Str), (x == y) = false := by decide +kernel
    exact this m h k hk
  refine ⟨fun z => ?_, fun z => ?_, fun z => ?_, fun w a b => ?_⟩
  · show (match m == "value" with | true => some (V.int z) | false => none) = none
    rw [n "value" (by decide +kernel)]
  · show (match m == "name" with | true => some (V.str z) | false => none) = none
    rw [n "name" (by decide +kernel)]
  · show (match m == "inner" with | true => some z | false => none) = none
    rw [n "inner" (by decide +kernel)]
  · unfold fTwo
    rw [List.lookup_cons, n "word" (by decide +kernel)]
    simp only
    rw [List.lookup_cons, n "left" (by decide +kernel)]
    simp only
    rw [List.lookup_cons, n "right" (by decide +kernel)]
    rfl
theorem ObjE.at {c : EC} {H : Hp} {m : Str} (hm : exMeth m) : ∀ {e : Ex} {v : V}, ObjE c H e v → ∃ p dx fs, v = .ref p ∧ H p = some (.ins (c.of e) dx fs) ∧ fs.lookup m = none
  | .num n, v, ⟨p, dx, h1, h2⟩ => ⟨p, dx, _, h1, h2, (look_none hm).1 _⟩
  | .box n, v, ⟨p, dx, h1, h2⟩ => ⟨p, dx, _, h1, h2, (look_none hm).2.1 _⟩
  | .cell e, v, ⟨p, dx, i, h1, h2, h3⟩ => ⟨p, dx, _, h1, h2, (look_none hm).2.2.1 _⟩
  | .two w l r, v, ⟨p, dx, a, b, h1, h2, h3, h4⟩ => ⟨p, dx, _, h1, h2, (look_none hm).2.2.2 _ _ _⟩
/-! ### data told -/
theorem dp_same {K : PySem.W.Frag} {H H' : Hp} (s : Same H H') {v : V} {d : PyData} (h : Dp K H v d) : Dp K H' v d := by
  refine Dp.rec (motive_1 := fun v d _ => Dp K H' v d) (motive_2 := fun vs ds _ => DpAll K H' vs ds) ?_ ?_ ?_ ?_ ?_ ?_ ?_ ?_ h
  · exact .non
  · exact fun b => .bl b
  · exact fun i => .int i
  · exact fun x => .str x
  · exact fun h1 _ h2 => .lst (s.seq h1) h2
  · exact fun h1 _ h2 => .tup (same_tup s h1) h2
  · exact .nil
  · exact fun _ _ h1 h2 => .cons h1 h2
theorem dpAll_same {K : PySem.W.Frag} {H H' : Hp} (s : Same H H') : ∀ {vs : List V} {ds : List PyData}, DpAll K H vs ds → DpAll K H' vs ds
  | _, _, .nil => .nil
  | _, _, .cons a b => .cons (dp_same s a) (dpAll_same s b)
/-- v is told data, a tuple that stands by itself -/
def TupD (K : PySem.W.Frag) (H : Hp) (v : V) (ds : List PyData) : Prop := ∃ t xs, v = .ref t ∧ H t = some (.tup xs) ∧ DpAll K H xs ds
theorem TupD.dp {K : PySem.W.Frag} {H : Hp} {v : V} {ds : List PyData} (h : TupD K H v ds) : Dp K H v (.tuple ds) := by
  obtain ⟨t, xs, rfl, h1, h2⟩ := h
  exact .tup (SqT.of h1) h2
theorem TupD.same {K : PySem.W.Frag} {H H' : Hp} (s : Same H H') {v : V} {ds : List PyData} (h : TupD K H v ds) : TupD K H' v ds := by
  obtain ⟨t, xs, rfl, h1, h2⟩ := h
  exact ⟨t, xs, rfl, s _ _ h1, dpAll_same s h2⟩
def Ex.items : Ex → List PyData
  | .num n => [.str "number", .int n]
  | .box s => [.str "box", .str s]
  | .cell e => [.str "cell", e.told]
  | .two w l r => [.str w, l.told, r.told]
theorem Ex.told_items : ∀ e : Ex, e.told = .tuple e.items
  | .num _ => rfl
  | .box _ => rfl
  | .cell _ => rfl
  | .two _ _ _ => rfl
/-- v is the told tuple of e: each inner tuple stands by itself -/
def ToldE (K : PySem.W.Frag) (H : Hp) : Ex → V → Prop
  | .num n, v => ∃ t, v = .ref t ∧ H t = some (.tup [.str "number", .int n])
  | .box s, v => ∃ t, v = .ref t ∧ H t = some (.tup [.str "box", .str s])
  | .cell e, v => ∃ t i, v = .ref t ∧ H t = some (.tup [.str "cell", i]) ∧ ToldE K H e i
  | .two w l r, v => ∃ t a b, v = .ref t ∧ H t = some (.tup [.str w, a, b]) ∧ ToldE K H l a ∧ ToldE K H r b
theorem ToldE.same {K : PySem.W.Frag} {H H' : Hp} (s : Same H H') : ∀ {e : Ex} {v : V}, ToldE K H e v → ToldE K H' e v
  | .num n, v, ⟨p, h1, h2⟩ => ⟨p, h1, s _ _ h2⟩
  | .box n, v, ⟨p, h1, h2⟩ => ⟨p, h1, s _ _ h2⟩
  | .cell e, v, ⟨p, i, h1, h2, h3⟩ => ⟨p, i, h1, s _ _ h2, ToldE.same s h3⟩
  | .two w l r, v, ⟨p, a, b, h1, h2, h3, h4⟩ => ⟨p, a, b, h1, s _ _ h2, ToldE.same s h3, ToldE.same s h4⟩
theorem ToldE.dp {K : PySem.W.Frag} {H : Hp} : ∀ {e : Ex} {v : V}, ToldE K H e v → Dp K H v e.told
  | .num n, v, ⟨p, h1, h2⟩ => by rw [h1]; exact .tup (SqT.of h2) (.cons (.str _) (.cons (.int _) .nil))
  | .box n, v, ⟨p, h1, h2⟩ => by rw [h1]; exact .tup (SqT.of h2) (.cons (.str _) (.cons (.str _) .nil))
  | .cell e, v, ⟨p, i, h1, h2, h3⟩ => by rw [h1]; exact .tup (SqT.of h2) (.cons (.str _) (.cons (ToldE.dp h3) .nil))
  | .two w l r, v, ⟨p, a, b, h1, h2, h3, h4⟩ => by rw [h1]; exact .tup (SqT.of h2) (.cons (.str _) (.cons (ToldE.dp h3) (.cons (ToldE.dp h4) .nil)))
theorem ToldE.ref {K : PySem.W.Frag} {H : Hp} : ∀ {e : Ex} {v : V}, ToldE K H e v → ∃ t xs, v = .ref t ∧ H t = some (.tup xs)
  | .num n, v, ⟨p, h1, h2⟩ => ⟨p, _, h1, h2⟩
  | .box n, v, ⟨p, h1, h2⟩ => ⟨p, _, h1, h2⟩
  | .cell e, v, ⟨p, i, h1, h2, h3⟩ => ⟨p, _, h1, h2⟩
  | .two w l r, v, ⟨p, a, b, h1, h2, h3, h4⟩ => ⟨p, _, h1, h2⟩
theorem strOk_of {s : Str} (h : ∀ c ∈ tl s, c ≤ 122) : PyData.strOk s = true := by
  unfold PyData.strOk
  rw [← Array.all_toList]
  refine List.all_eq_true.mpr fun c hc => ?_
  have := h c hc
  simp only [decide_eq_true_eq]
  omega
theorem Ex.lay : ∀ {e : Ex}, e.Wf → e.told.canLay0 = true
  | .num n, _ => by
    show (PyData.strOk _ && (true && true)) = true
    rw [strOk_of (by decide +kernel)]; rfl
  | .box s, h => by
    obtain ⟨_, _, _, _, h4⟩ := nameW_parts (s := s) h
    show (PyData.strOk _ && (PyData.strOk s && true)) = true
    rw [strOk_of (by decide +kernel), strOk_of fun c hc => (h4 c hc).2]; rfl
  | .cell e, h => by
    have ih := Ex.lay (e := e) h
    show (PyData.strOk _ && (e.told.canLay0 && true)) = true
    rw [strOk_of (by decide +kernel), ih]; rfl
  | .two w l r, h => by
    have h1 := Ex.lay (e := l) h.2.1
    have h2 := Ex.lay (e := r) h.2.2
    show (PyData.strOk w && (l.told.canLay0 && (r.told.canLay0 && true))) = true
    rw [strOk_of fun c hc => (pair_free w h.1 c hc).2, h1, h2]; rfl
theorem Ex.told_depth : ∀ e : Ex, e.told.depth ≤ e.depth
  | .num _ => by show max 0 (max 0 0) + 1 ≤ 1; omega
  | .box _ => by show max 0 (max 0 0) + 1 ≤ 1; omega
  | .cell e => by
    have := Ex.told_depth e
    show max 0 (max e.told.depth 0) + 1 ≤ e.depth + 1; omega
  | .two w l r => by
    have := Ex.told_depth l
    have := Ex.told_depth r
    show max 0 (max l.told.depth (max r.told.depth 0)) + 1 ≤ max l.depth r.depth + 1; omega
theorem Ex.shaped {e : Ex} (h : e.Wf) (hd : e.depth ≤ 60) : SeqAt.shaped e.told = true := by
  have h1 := Ex.lay h
  have h2 := Ex.told_depth e
  show (e.told.canLay0 && decide (e.told.depth ≤ 64)) = true
  rw [h1, decide_eq_true (by omega)]; rfl
theorem Ex.eqv {e : Ex} (h : e.Wf) : PyData.eqv e.told e.told = true := SeqAt.eqv_refl _ (Ex.lay h)
/-! ### texts -/
def Ex.text : Ex → Str
  | .num n => numT n
  | .box s => s
  | .cell e => (Str.ofString "cell ") ++ e.text
  | .two w l r => Txt.join (Str.ofString " ") [w, l.text, r.text]
theorem Ex.text_len : ∀ {e : Ex}, e.Wf → e.text.length + 1 ≤ 7 * e.parts
  | .num n, h => by
    have := Ex.toks_ok (e := .num n) h (numT n) (List.mem_singleton.mpr rfl)
    show (numT n).length + 1 ≤ 7 * 1
    rw [len_tl]; omega
  | .box s, h => by
    have := Ex.toks_ok (e := .box s) h s (List.mem_singleton.mpr rfl)
    show s.length + 1 ≤ 7 * 1
    rw [len_tl]; omega
  | .cell e, h => by
    have ih := Ex.text_len (e := e) h
    show (Str.ofString "cell " ++ e.text).length + 1 ≤ 7 * (1 + e.parts)
    rw [len_tl, tl_append, List.length_append]
    have : (tl (Str.ofString "cell ")).length = 5 := by decide +kernel
    rw [len_tl] at ih
    omega
  | .two w l r, h => by
    have h1 := Ex.text_len (e := l) h.2.1
    have h2 := Ex.text_len (e := r) h.2.2
    have h3 := (pair_not_val w h.1).2.2.2
    have b : (tl (Str.ofString " ")).length = 1 := by decide +kernel
    show (Txt.join (Str.ofString " ") [w, l.text, r.text]).length + 1 ≤ 7 * (1 + l.parts + r.parts)
    rw [join_eq, len_tl, tl_join]
    rw [len_tl] at h1 h2
    simp only [List.map_cons, List.map_nil, joinL, List.length_append, b]
    omega
theorem Ex.text_toks : ∀ {e : Ex}, tl e.text = joinL [32] (e.toks.map tl)
  | .num n => rfl
  | .box s => rfl
  | .cell e => by
    have ih := Ex.text_toks (e := e)
    show tl (Str.ofString "cell " ++ e.text) = joinL [32] ((Str.ofString "cell" :: e.toks).map tl)
    rw [tl_append, ih]
    have c1 : tl (Str.ofString "cell ") = tl (Str.ofString "cell") ++ [32] := by decide +kernel
    rw [c1]
    cases q : e.toks with
    | nil => have := e.toks_len; rw [q] at this; have := e.parts_pos; simp at *; omega
    | cons x r =>
      show _ = tl (Str.ofString "cell") ++ ([32] ++ joinL [32] ((x :: r).map tl))
      rw [List.append_assoc]
  | .two w l r => by
    have h1 := Ex.text_toks (e := l)
    have h2 := Ex.text_toks (e := r)
    show tl (Txt.join (Str.ofString " ") [w, l.text, r.text]) = joinL [32] ((w :: (l.toks ++ r.toks)).map tl)
    have b : tl (Str.ofString " ") = [32] := by decide +kernel
    rw [join_eq, tl_join, b]
    show tl w ++ ([32] ++ (tl l.text ++ ([32] ++ tl r.text))) = _
    rw [h1, h2, List.map_cons, List.map_append]
    have key : ∀ (a b : List (List Nat)), a ≠ [] → b ≠ [] → joinL [32] a ++ ([32] ++ joinL [32] b) = joinL [32] (a ++ b) := by
      intro a
      induction a with
      | nil => intro b h; exact absurd rfl h
      | cons x a ih =>
        intro b _ hb
        cases a with
        | nil =>
          cases b with
          | nil => exact absurd rfl hb
          | cons y b => rfl
        | cons x2 a =>
          have := ih b (by simp) hb
          show (x ++ ([32] ++ joinL [32] (x2 :: a))) ++ _ = x ++ ([32] ++ joinL [32] ((x2 :: a) ++ b))
          rw [← this]
          simp only [List.append_assoc]
    have n1 : l.toks.map tl ≠ [] := fun e => by have := congrArg List.length e; rw [List.length_map, l.toks_len] at this; have := l.parts_pos; simp at *; omega
    have n2 : r.toks.map tl ≠ [] := fun e => by have := congrArg List.length e; rw [List.length_map, r.toks_len] at this; have := r.parts_pos; simp at *; omega
    rw [key _ _ n1 n2]
    cases q : (l.toks.map tl ++ r.toks.map tl) with
    | nil => exact absurd (List.append_eq_nil_iff.mp q).1 n1
    | cons x z => rfl
theorem Ex.split_text {e : Ex} (h : e.Wf) : Txt.split e.text (Str.ofString " ") = e.toks := by
  have b : tl (Str.ofString " ") = 32 :: [] := by decide +kernel
  have ej : e.text = Txt.join (Str.ofString " ") e.toks := by
    refine ext_tl ?_
    rw [join_eq, tl_join, b, Ex.text_toks]
  rw [ej]
  refine split_join b (by decide +kernel) (fun q => ?_) fun p hp => ?_
  · have := e.toks_len; rw [q] at this; have := e.parts_pos; simp at *; omega
  · intro hm
    rcases (Ex.toks_ok h p hp).2 32 hm with c | c <;> omega
/-! ### promises -/
/-- one text in, a truth out; nothing else is touched -/
def spTruthS (f : Str → Bool) : Sp := fun vs H Q _ => ∃ s : Str, vs = [.str s] ∧ s.length ≤ 100000 ∧ ∀ H', Same H H' → Q (.bl (f s)) H'
def spInit1 (C : Addr) (f : Str) : Sp := fun vs H Q _ => ∃ (p dx : Addr) (x : V), vs = [.ref p, x] ∧ H p = some (.ins C dx []) ∧ Q .non (upd H p (.ins C dx [(f, x)]))
def spTwoI (C : Addr) : Sp := fun vs H Q _ => ∃ (p dx : Addr) (w : Str) (a b : V), vs = [.ref p, .str w, a, b] ∧ H p = some (.ins C dx []) ∧ Q .non (upd H p (.ins C dx (fTwo w a b)))
def spTold (K : PySem.W.Frag) (c : EC) (n : Nat) (C : Addr) : Sp := fun vs H Q _ => ∃ (e : Ex) (v : V), vs = [v] ∧ ObjE c H e v ∧ c.of e = C ∧ e.depth ≤ n ∧ ∀ r H', Same H H' → ToldE K H' e r → Q r H'
def spWords (c : EC) (n : Nat) (C : Addr) : Sp := fun vs H Q _ => ∃ (e : Ex) (v : V), vs = [v] ∧ ObjE c H e v ∧ c.of e = C ∧ e.depth ≤ n ∧ e.Wf ∧ e.parts ≤ 1000 ∧ ∀ H', Same H H' → Q (.str e.text) H'
def spParts (c : EC) (n : Nat) (C : Addr) : Sp := fun vs H Q _ => ∃ (e : Ex) (v : V), vs = [v] ∧ ObjE c H e v ∧ c.of e = C ∧ e.depth ≤ n ∧ Q (.int e.parts) H
def spExprAt (K : PySem.W.Frag) (c : EC) (N : Addr) (n : Nat) : Sp := fun vs H Q E => ∃ (a : Addr) (ws : List Str) (i d : Nat), vs = [.ref a, .int i, .int (7 - (d : Int))] ∧ SqL K H a (ws.map V.str) ∧ ws.length ≤ 100000 ∧ (∀ s ∈ ws, s.length ≤ 100000) ∧ d < n ∧ d ≤ 7 ∧
  (∀ e r, parseE d (ws.drop i) = some (e, r) → ∀ t H' v, Same H H' → H' t = some (.tup [v, .int ((ws.length - r.length : Nat) : Int)]) → ObjE c H' e v → Q (.ref t) H') ∧
  (parseE d (ws.drop i) = none → ∀ H', Same H H' → E (.ref N) none H')
inductive AllE (c : EC) (H : Hp) : List Ex → List V → Prop where
  | nil : AllE c H [] []
  | cons {e : Ex} {v : V} {es : List Ex} {vs : List V} : ObjE c H e v → AllE c H es vs → AllE c H (e :: es) (v :: vs)
theorem AllE.same {c : EC} {H H' : Hp} (s : Same H H') : ∀ {es : List Ex} {vs : List V}, AllE c H es vs → AllE c H' es vs
  | _, _, .nil => .nil
  | _, _, .cons a b => .cons (a.same s) (b.same s)
theorem AllE.snoc {c : EC} {H : Hp} {e : Ex} {v : V} (h : ObjE c H e v) : ∀ {es : List Ex} {vs : List V}, AllE c H es vs → AllE c H (es ++ [e]) (vs ++ [v])
  | _, _, .nil => .cons h .nil
  | _, _, .cons a b => .cons a (b.snoc h)
theorem AllE.length {c : EC} {H : Hp} : ∀ {es : List Ex} {vs : List V}, AllE c H es vs → es.length = vs.length
  | _, _, .nil => rfl
  | _, _, .cons _ b => congrArg (· + 1) b.length
def spExprs (K : PySem.W.Frag) (c : EC) (N : Addr) : Sp := fun vs H Q E => ∃ (a : Addr) (ws : List Str), vs = [.ref a] ∧ SqL K H a (ws.map V.str) ∧ ws.length ≤ 100000 ∧ (∀ s ∈ ws, s.length ≤ 100000) ∧
  (∀ es, parseAll ws.length ws = some es → ∀ l H' os, Same H H' → H l = none → H' l = some (.lst os) → AllE c H' es os → Q (.ref l) H') ∧ (parseAll ws.length ws = none → ∀ H', Same H H' → E (.ref N) none H')
def spReadE (c : EC) (N : Addr) : Sp := fun vs H Q E => ∃ (s : Str), vs = [.str s] ∧ s.length ≤ 99999 ∧
  (∀ e, parseAll (Txt.split s " ").length (Txt.split s " ") = some [e] → ∀ v H', Same H H' → ObjE c H' e v → Q v H') ∧
  ((∀ e, parseAll (Txt.split s " ").length (Txt.split s " ") ≠ some [e]) → ∀ H', Same H H' → E (.ref N) none H')
def spReadAny (K : PySem.W.Frag) (c : EC) (N : Addr) : Sp := fun vs H Q E => ∃ x : V, vs = [x] ∧ ((∃ (s : Str), x = .str s ∧ s.length ≤ 99999 ∧
  (∀ e, parseAll (Txt.split s " ").length (Txt.split s " ") = some [e] → ∀ v H', Same H H' → ObjE c H' e v → Q v H') ∧
  ((∀ e, parseAll (Txt.split s " ").length (Txt.split s " ") ≠ some [e]) → ∀ H', Same H H' → E (.ref N) none H')) ∨
  (∃ t, TyX K H x t ∧ PySem.W.kitOne K t (.type "str") = some false ∧ E (.ref N) none H))

theorem valW_false1 {s : Str} (h : ¬ 1 ≤ (tl s).length ∨ ¬ (tl s).length ≤ 6) : isValW s = false := by
  unfold isValW lenOk
  rcases h with h | h
  · rw [decide_eq_false h]; rfl
  · rw [decide_eq_false h, Bool.and_false]; rfl
theorem valW_false2 {s : Str} (h : (tl s).head? = some 48) (h2 : s ≠ "0") : isValW s = false := by
  unfold isValW
  have e : ((tl s).head? == some 48) = true := by rw [h]; rfl
  rw [e, decide_eq_true h2]
  simp
theorem valW_true {s : Str} (h1 : 1 ≤ (tl s).length) (h2 : (tl s).length ≤ 6) (h3 : (tl s).head? = some 48 → s = "0") : isValW s = (tl s).all isDig := by
  unfold isValW lenOk
  rw [decide_eq_true h1, decide_eq_true h2]
  by_cases c : (tl s).head? = some 48
  · rw [h3 c, decide_eq_false (fun e => e rfl)]; simp
  · have e : ((tl s).head? == some 48) = false := beq_eq_false_iff_ne.mpr c
    rw [e]; simp
theorem nameW_false1 {s : Str} (h : ¬ 1 ≤ (tl s).length ∨ ¬ (tl s).length ≤ 6) : isNameW s = false := by
  unfold isNameW lenOk
  rcases h with h | h
  · rw [decide_eq_false h]; rfl
  · rw [decide_eq_false h, Bool.and_false]; rfl
theorem nameW_false2 {s : Str} (h : s ∈ PAIRW ∨ s ∈ ROWW ∨ s ∈ OTHW) : isNameW s = false := by
  unfold isNameW
  have e : (decide (s ∈ PAIRW) || (decide (s ∈ ROWW) || decide (s ∈ OTHW))) = true := by
    rcases h with h | h | h <;> simp [h]
  rw [e]; simp
theorem nameW_true {s : Str} (h1 : 1 ≤ (tl s).length) (h2 : (tl s).length ≤ 6) (h3 : s ∉ PAIRW) (h4 : s ∉ ROWW) (h5 : s ∉ OTHW) : isNameW s = (tl s).all isLow := by
  unfold isNameW lenOk
  rw [decide_eq_true h1, decide_eq_true h2, decide_eq_false h3, decide_eq_false h4, decide_eq_false h5]; simp
theorem len_line {s : Str} (h : s.length ≤ 100000) : s.length ≤ sizeLine := Nat.le_trans h (by decide)

theorem log_small {n : Nat} (h : n < 2 ^ 20) : n.log2 < 1920 := by
  by_cases h0 : n = 0
  · subst h0; decide
  · exact Nat.lt_of_lt_of_le ((Nat.log2_lt h0).mpr h) (by decide)

theorem while_m {c : TT} {tb : TS} {D : Ends} {σ : St} {H : Hp} (Pv : Nat → St → Hp → Prop) (m0 : Nat) (h0 : Pv m0 σ H)
    (hs : ∀ m σ H, Pv m σ H → c σ H fun b H1 => if b = true then ∃ N : St → Hp → Prop, (∀ σ' H', N σ' H' → ∃ m', m' < m ∧ Pv m' σ' H') ∧ tb { D with nx := N, ct := N, bk := D.nx } σ H1 else D.nx σ H1) : tWhile c tb D σ H := ⟨Pv, ⟨m0, h0⟩, hs⟩
theorem made_same {H : Hp} {x dx : Addr} {o o1 o2 : HO} (hx : H x = none) (hd : H dx = none) : Same H (upd (upd (upd H dx o) x o1) x o2) := fun b u e => by
  have n1 : b ≠ x := ne_of_none e hx
  rw [upd_ne n1, upd_ne n1, upd_ne (ne_of_none e hd)]
  exact e
theorem mk_init {C : Addr} {f : Str} {H : Hp} {v : V} {Q : Hp → Prop} {E : XK} {x dx : Addr} (hx : H x = none) (hd : H dx = none) (k : ∀ H', Same H H' → H' x = some (.ins C dx [(f, v)]) → Q H') :
    spInit1 C f [.ref x, v] (upd (upd H dx (.own x)) x (.ins C dx [])) (fun v H2 => v = .non ∧ Q H2) E :=
  ⟨x, dx, v, rfl, upd_same, rfl, k _ (made_same hx hd) upd_same⟩
theorem mk_two {C : Addr} {H : Hp} {wd : Str} {a b : V} {Q : Hp → Prop} {E : XK} {x dx : Addr} (hx : H x = none) (hd : H dx = none) (k : ∀ H', Same H H' → H' x = some (.ins C dx (fTwo wd a b)) → Q H') :
    spTwoI C [.ref x, .str wd, a, b] (upd (upd H dx (.own x)) x (.ins C dx [])) (fun v H2 => v = .non ∧ Q H2) E :=
  ⟨x, dx, wd, a, b, rfl, upd_same, rfl, k _ (made_same hx hd) upd_same⟩
theorem parse_len {d : Nat} {ws : List Str} {e : Ex} {r : List Str} (h : parseE d ws = some (e, r)) : r.length < ws.length ∧ ws.drop (ws.length - r.length) = r := by
  obtain ⟨_, _, h3⟩ := parse_wf h
  have n1 := e.toks_len
  have n2 := e.parts_pos
  have hl : ws.length = e.toks.length + r.length := by rw [h3, List.length_append]
  refine ⟨by omega, ?_⟩
  have e1 : ws.length - r.length = e.toks.length := by omega
  rw [e1, h3, List.drop_left]
theorem parse_at {d i : Nat} {ws : List Str} {e : Ex} {r : List Str} (h : parseE d (ws.drop i) = some (e, r)) : i < ws.length - r.length ∧ ws.length - r.length ≤ ws.length ∧ ws.drop (ws.length - r.length) = r := by
  obtain ⟨_, _, h3⟩ := parse_wf h
  have n1 := e.toks_len
  have n2 := e.parts_pos
  have hl : (ws.drop i).length = e.toks.length + r.length := by rw [h3, List.length_append]
  rw [List.length_drop] at hl
  refine ⟨by omega, Nat.sub_le _ _, ?_⟩
  have e1 : ws.length - r.length = i + e.toks.length := by omega
  rw [e1, ← List.drop_drop, h3, List.drop_left]
theorem at_str {ws : List Str} {i : Nat} {s : Str} {r : List Str} (h : ws.drop i = s :: r) : i < ws.length ∧ atI (ws.map V.str) (i : Int) = some (.str s) ∧ ws.drop (i + 1) = r ∧ r.length = ws.length - (i + 1) ∧ s ∈ ws := by
  have hl : (ws.drop i).length = r.length + 1 := by rw [h]; rfl
  rw [List.length_drop] at hl
  have hi : i < ws.length := by omega
  have e1 : ws.drop i = ws[i] :: ws.drop (i + 1) := List.drop_eq_getElem_cons hi
  rw [h, List.cons.injEq] at e1
  refine ⟨hi, atI_nat (by rw [List.getElem?_map, List.getElem?_eq_getElem hi, ← e1.1]; rfl), e1.2.symm, by omega, ?_⟩
  rw [e1.1]; exact List.getElem_mem hi
theorem parseE_cons {d : Nat} {w : Str} {r : List Str} : parseE (d + 1) (w :: r) = (if isValW w = true then some (.num (valOf w), r)
    else if isNameW w = true then some (.box w, r)
    else if w = "cell" then (match parseE d r with
      | none => none
      | some (e, r1) => some (.cell e, r1))
    else if w ∈ PAIRW then (match parseE d r with
      | none => none
      | some (l, r1) => (match parseE d r1 with
        | none => none
        | some (e, r2) => some (.two w l e, r2)))
    else none) := rfl
theorem parseAll_fuel : ∀ (n : Nat) (ws : List Str), ws.length ≤ n → parseAll n ws = parseAll ws.length ws := by
  intro n
  induction n using Nat.strongRecOn with
  | _ n ih =>
    intro ws h
    cases ws with
    | nil => cases n <;> rfl
    | cons x t =>
      cases n with
      | zero => simp at h
      | succ n =>
        show (match parseE 6 (x :: t) with | none => none | some (e, r) => if e.parts ≤ 15 then (match parseAll n r with | none => none | some es => some (e :: es)) else none) = parseAll (t.length + 1) (x :: t)
        show _ = (match parseE 6 (x :: t) with | none => none | some (e, r) => if e.parts ≤ 15 then (match parseAll t.length r with | none => none | some es => some (e :: es)) else none)
        cases q : parseE 6 (x :: t) with
        | none => rfl
        | some p =>
          obtain ⟨e, r⟩ := p
          have hr := (parse_len q).1
          have hr' : r.length < t.length + 1 := hr
          have ht : t.length + 1 ≤ n + 1 := h
          show (if e.parts ≤ 15 then (match parseAll n r with | none => none | some es => some (e :: es)) else none) = (if e.parts ≤ 15 then (match parseAll t.length r with | none => none | some es => some (e :: es)) else none)
          rw [ih n (by omega) r (by omega)]
          by_cases c : t.length = n
          · rw [c, ih n (by omega) r (by omega)]
          · rw [ih t.length (by omega) r (by omega)]
/-- the words from here on, in one step -/
theorem parseAll_step {x : Str} {t : List Str} : parseAll (x :: t).length (x :: t) = (match parseE 6 (x :: t) with | none => none | some (e, r) => if e.parts ≤ 15 then (match parseAll r.length r with | none => none | some es => some (e :: es)) else none) := by
  show (match parseE 6 (x :: t) with | none => none | some (e, r) => if e.parts ≤ 15 then (match parseAll t.length r with | none => none | some es => some (e :: es)) else none) = _
  cases q : parseE 6 (x :: t) with
  | none => rfl
  | some p =>
    obtain ⟨e, r⟩ := p
    have hr := (parse_len q).1
    have hr' : r.length < t.length + 1 := hr
    show (if e.parts ≤ 15 then (match parseAll t.length r with | none => none | some es => some (e :: es)) else none) = (if e.parts ≤ 15 then (match parseAll r.length r with | none => none | some es => some (e :: es)) else none)
    rw [parseAll_fuel t.length r (by omega)]
def after (es : List Ex) : Option (List Ex) → Option (List Ex)
  | none => none
  | some fs => some (es ++ fs)

theorem objE_upd {c : EC} {H : Hp} {l : Addr} {xs ys : List V} (h : H l = some (.lst xs)) : ∀ {e : Ex} {v : V}, ObjE c H e v → ObjE c (upd H l (.lst ys)) e v
  | .num n, v, ⟨p, dx, h1, h2⟩ => ⟨p, dx, h1, by rw [upd_ne (ne_of h2 h (by intro z; cases z))]; exact h2⟩
  | .box n, v, ⟨p, dx, h1, h2⟩ => ⟨p, dx, h1, by rw [upd_ne (ne_of h2 h (by intro z; cases z))]; exact h2⟩
  | .cell e, v, ⟨p, dx, i, h1, h2, h3⟩ => ⟨p, dx, i, h1, by rw [upd_ne (ne_of h2 h (by intro z; cases z))]; exact h2, objE_upd h h3⟩
  | .two w l r, v, ⟨p, dx, a, b, h1, h2, h3, h4⟩ => ⟨p, dx, a, b, h1, by rw [upd_ne (ne_of h2 h (by intro z; cases z))]; exact h2, objE_upd h h3, objE_upd h h4⟩
theorem allE_upd {c : EC} {H : Hp} {l : Addr} {xs ys : List V} (h : H l = some (.lst xs)) : ∀ {es : List Ex} {vs : List V}, AllE c H es vs → AllE c (upd H l (.lst ys)) es vs
  | _, _, .nil => .nil
  | _, _, .cons a b => .cons (objE_upd h a) (allE_upd h b)
theorem allE_snoc_upd {c : EC} {H : Hp} {l : Addr} {xs ys : List V} {e : Ex} {v : V} {es : List Ex} {vs : List V} (h : H l = some (.lst xs)) (a : AllE c H es vs) (o : ObjE c H e v) : AllE c (upd H l (.lst ys)) (es ++ [e]) (vs ++ [v]) := (allE_upd h a).snoc (objE_upd h o)

theorem joinL_len : ∀ L : List (List Nat), L.length ≤ (joinL [32] L).length + 1 ∧ ∀ p ∈ L, p.length ≤ (joinL [32] L).length
  | [] => ⟨Nat.zero_le _, fun _ h => by cases h⟩
  | [x] => ⟨by simp, fun p h => by rw [List.mem_singleton.mp h]; exact Nat.le_refl _⟩
  | x :: y :: r => by
    have ih := joinL_len (y :: r)
    have e : joinL [32] (x :: y :: r) = x ++ ([32] ++ joinL [32] (y :: r)) := rfl
    rw [e, List.length_append, List.length_append]
    refine ⟨by have := ih.1; simp only [List.length_cons, List.length_nil] at this ⊢; omega, fun p h => ?_⟩
    rcases List.mem_cons.mp h with rfl | h
    · omega
    · have := ih.2 p h; omega
theorem split_small {s : Str} (h : s.length ≤ 100000 - 1) : (Txt.split s " ").length ≤ 100000 ∧ ∀ p ∈ Txt.split s " ", p.length ≤ 100000 := by
  have e := PySem.StrLaws.join_split s (Str.ofString " ")
  have e2 := congrArg tl e
  have b : tl (Str.ofString " ") = [32] := by decide +kernel
  rw [tl_join, b] at e2
  have q := joinL_len ((Txt.split s (Str.ofString " ")).map tl)
  rw [e2, List.length_map, ← len_tl s] at q
  refine ⟨by have := q.1; omega, fun p hp => ?_⟩
  have := q.2 (tl p) (List.mem_map.mpr ⟨p, hp, rfl⟩)
  rw [← len_tl p] at this
  omega

/-- all([sign in F for sign in s]) -/
theorem rd_all {K : PySem.W.Frag} {σ : St} {H : Hp} {s F : Str} {f : Nat → Bool} {Q : VK} {i j : Nat} (hi : σ[i]? = some (some (.str s))) (hj : j < σ.length) (hn : j ≠ i) (hl : s.length ≤ 16000000) (hf : ∀ c, decide (c ∈ F.cps.toList) = f c)
    (q : ∀ H', Same H H' → Q (.bl ((tl s).all f)) H') :
    tCB (rAll K) (tCons (tLc (iStr (tVar i)) (gName j) tYes (tOp (fun x y H Q => ∃ (c : Nat) (z : Str), x = .str ⟨#[c]⟩ ∧ y = .str z ∧ Q (.bl (decide (c ∈ z.cps.toList))) H) (tVar j) (tC (.str F))) [j]) tNil) σ H Q := by
  refine ⟨_, hi, s, rfl, fun D hD => lc_it walk_str (fun k H' => H' D = some (.lst ((((tl s).take k).map f).map V.bl)) ∧ Same H H') ⟨by rw [upd_same]; rfl, same_new hD⟩ (fun _ _ _ _ => trivial) ?_ ?_⟩
  · rintro k x H1 H2 hk ⟨h1, h2⟩ ⟨rfl, c, hc, rfl⟩
    have hjl : (wipe σ [j]).length = σ.length := wipe_length _ _
    refine ⟨by show ((σ.set j none).set j _).set j none = _; simp [wipe], ?_⟩
    refine ⟨_, by rw [List.getElem?_set_self (by rw [hjl]; exact hj)], c, F, rfl, rfl, ?_⟩
    have hs : k < (tl s).length := by
      have : s.cps.size = (tl s).length := by simp [tl]
      omega
    refine ⟨_, h1, ?_, ?_⟩
    · rw [List.length_map, List.length_map]
      have : s.length = (tl s).length := len_tl s
      refine Nat.lt_of_le_of_lt (List.length_take_le _ _) (by show k < 16777216; omega)
    · refine ⟨?_, fun b o e => ?_⟩
      · rw [upd_same]
        have e1 : (tl s)[k]? = some c := by rw [← hc]; simp [tl]
        rw [List.take_add_one, e1, hf c]
        simp
      · rw [upd_ne (ne_of_none e hD)]
        exact h2 b o e
  · rintro H' ⟨h1, h2⟩
    have hs : s.cps.size = (tl s).length := by simp [tl]
    rw [hs, List.take_length] at h1
    refine ⟨D, _, rfl, SqL.of h1, ?_⟩
    have e : ((tl s).map f).all id = (tl s).all f := by rw [List.all_map]; rfl
    rw [e]
    exact q H' h2

def spCell (K : PySem.W.Frag) : Sp := fun vs H Q _ => ∃ (a : Addr) (ns : List Int) (k : Int), vs = [.ref a, .int k] ∧ SqL K H a (ns.map V.int) ∧ 0 ≤ k ∧ ∀ n : Int, Q (.int n) H
/-- two ints go in, some int comes out -/
def spI2 : Sp := fun vs H Q _ => ∃ (a b : Int), vs = [.int a, .int b] ∧ ∀ n : Int, Q (.int n) H
def WellAt (H : Hp) (p : Addr) : Prop := ∃ a b c d : Int, H p = some (.lst [.int a, .int b, .int c, .int d])
def spWell (K : PySem.W.Frag) : Sp := fun vs H Q _ => ∃ (a : Addr) (ns : List Int) (k : Int), vs = [.ref a, .int k] ∧ SqL K H a (ns.map V.int) ∧ 0 ≤ k ∧ ∀ p H', H p = none → Same H H' → WellAt H' p → Q (.ref p) H'
def spDraw : Sp := fun vs H Q _ => ∃ (p : Addr) (m : Int), vs = [.ref p, .int m] ∧ WellAt H p ∧ 0 < m ∧ m ≤ 1000000 ∧ ∀ (n : Int) H', 0 ≤ n → n < m → KeepX p H H' → WellAt H' p → Q (.int n) H'
theorem at_int {ns : List Int} {k : Int} (h0 : 0 ≤ k) (h : k < (ns.length : Int)) : ∃ v : Int, atI (ns.map V.int) k = some (.int v) := by
  have hk : k.toNat < ns.length := by omega
  have ek : k = ((k.toNat : Nat) : Int) := by omega
  have q : atI (ns.map V.int) ((k.toNat : Nat) : Int) = some (.int ns[k.toNat]) := atI_nat (by rw [List.getElem?_map, List.getElem?_eq_getElem hk] <;> rfl)
  rw [← ek] at q
  exact ⟨_, q⟩
theorem mod64 {x y : Int} : CMul (x % 2147483647) y := Or.inl ⟨by omega, by omega⟩
theorem WellAt.ne {H : Hp} {p t : Addr} (W : WellAt H p) {o : HO} (h : H t = some o) (no : ∀ xs, o ≠ .lst xs) : t ≠ p := fun e => by
  obtain ⟨a, b, c, d, w⟩ := W
  rw [e, w] at h
  exact no _ (Option.some.inj h).symm
theorem KeepX.tup {p : Addr} {H H' : Hp} (k : KeepX p H H') (W : WellAt H p) {t : Addr} {xs : List V} (h : H t = some (.tup xs)) : H' t = some (.tup xs) := k _ _ (W.ne h (by intro _ e; cases e)) h
theorem WellAt.fresh {H : Hp} {p q : Addr} (W : WellAt H p) (h : H q = none) : q ≠ p := fun e => by
  obtain ⟨_, _, _, _, w⟩ := W
  rw [← e, h] at w; cases w
theorem WellAt.same {H H' : Hp} {p : Addr} (s : Same H H') : WellAt H p → WellAt H' p := fun ⟨a, b, c, d, w⟩ => ⟨a, b, c, d, s _ _ w⟩
/-- f i for all i below n -/
def seqV (f : Nat → V) (n : Nat) : List V := (List.range n).map f
theorem seqV_succ (f : Nat → V) (n : Nat) : seqV f (n + 1) = seqV f n ++ [f n] := by
  unfold seqV
  rw [List.range_succ, List.map_append]; rfl
theorem seqV_length (f : Nat → V) (n : Nat) : (seqV f n).length = n := by unfold seqV; rw [List.length_map, List.length_range]
/-- [e(x) for x in w]: each e gives a value that is known ahead -/
theorem lc_map {J : It} {n : Nat} {G : Hp → Prop} {Y : Nat → Hp → V → Hp → Prop} (w : Walk J n G Y) (f : Nat → V) {j : Nat} {te : TE} {σ : St} {H1 : Hp} {D : Addr} {Qd : Hp → Prop} (hD : H1 D = none) (hn : n < 16777216) (hj : j < σ.length)
    (hG : ∀ H, Same H1 H → G H) (hY : ∀ i H x H', Y i H x H' → H' = H)
    (step : ∀ i x H (Z : VK), i < n → Same H1 H → Y i H x H → (∀ H', Same H H' → Z (f i) H') → te ((σ.set j none).set j (some x)) H Z)
    (hd : ∀ H, Same H1 H → H D = some (.lst (seqV f n)) → Qd H) :
    ∃ W : Nat → Nat → Hp → Prop, (∃ m, W 0 m (upd H1 D (.lst []))) ∧ ∀ i m H, W i m H →
      (J.stop i H ∧ Qd H) ∨ (J.go i H ∧ ∃ Nx : Hp → Prop, (∀ H', Nx H' → ∃ m', m' < m ∧ W (i + 1) m' H') ∧ ∀ x H', J.yld i H x H' → gName j x (wipe σ [j]) H' fun σ2 H2 => wipe σ2 [j] = wipe σ [j] ∧ tYes σ2 H2 fun b H3 =>
        if b = true then te σ2 H3 fun y H4 => ∃ acc, H4 D = some (.lst acc) ∧ acc.length < sizeLine ∧ Nx (upd H4 D (.lst (acc ++ [y]))) else Nx H3) := by
  refine lc_it w (fun i H => H D = some (.lst (seqV f i)) ∧ Same H1 H) ⟨upd_same, same_new hD⟩ (fun i H _ h => hG H h.2) ?_ fun H h => hd H h.2 h.1
  rintro i x H H2 hi ⟨h1, h2⟩ y
  have e := hY _ _ _ _ y
  subst e
  have hw : wipe ((wipe σ [j]).set j (some x)) [j] = wipe σ [j] := by
    show ((σ.set j none).set j (some x)).set j none = σ.set j none
    simp
  refine ⟨hw, ?_⟩
  refine step i x _ _ hi h2 y fun H3 s3 => ⟨_, s3 _ _ h1, ?_, ?_⟩
  · rw [seqV_length]; exact Nat.lt_of_lt_of_le (Nat.lt_trans hi hn) (by decide)
  · refine ⟨by rw [upd_same, seqV_succ], fun b o hb => ?_⟩
    rw [upd_ne (ne_of_none hb hD)]
    exact s3 _ _ (h2 b o hb)
theorem at_strs {ss : List Str} {n : Int} (h0 : 0 ≤ n) (h1 : n < (ss.length : Int)) : ∃ s ∈ ss, atI (ss.map V.str) n = some (.str s) := by
  have hk : n.toNat < ss.length := by omega
  have ek : n = ((n.toNat : Nat) : Int) := by omega
  have q : atI (ss.map V.str) ((n.toNat : Nat) : Int) = some (.str ss[n.toNat]) := atI_nat (by rw [List.getElem?_map, List.getElem?_eq_getElem hk] <;> rfl)
  rw [← ek] at q
  exact ⟨_, List.getElem_mem hk, q⟩
/-- one proof for a goal that is asked more than once -/
theorem twice_asked {A B : Prop} (b : B) (f : B → A) : A := f b
def spValue : Sp := fun vs H Q _ => ∃ (p : Addr), vs = [.ref p] ∧ WellAt H p ∧ ∀ (n : Int) H', 0 ≤ n → n < 1000000 → KeepX p H H' → WellAt H' p → Q (.int n) H'
def spName : Sp := fun vs H Q _ => ∃ (p : Addr), vs = [.ref p] ∧ WellAt H p ∧ ∀ (s : Str) H', isNameW s = true → KeepX p H H' → WellAt H' p → Q (.str s) H'

/-! ### lists that go together -/
inductive All2 {α β : Type} (R : α → β → Prop) : List α → List β → Prop where
  | nil : All2 R [] []
  | cons {a : α} {b : β} {as : List α} {bs : List β} : R a b → All2 R as bs → All2 R (a :: as) (b :: bs)
theorem All2.length {α β : Type} {R : α → β → Prop} : ∀ {as : List α} {bs : List β}, All2 R as bs → as.length = bs.length
  | _, _, .nil => rfl
  | _, _, .cons _ h => congrArg (· + 1) h.length
theorem All2.mono {α β : Type} {R S : α → β → Prop} (f : ∀ a b, R a b → S a b) : ∀ {as : List α} {bs : List β}, All2 R as bs → All2 S as bs
  | _, _, .nil => .nil
  | _, _, .cons h t => .cons (f _ _ h) (t.mono f)
theorem All2.mono_mem {α β : Type} {R S : α → β → Prop} : ∀ {as : List α} {bs : List β}, (∀ a b, a ∈ as → b ∈ bs → R a b → S a b) → All2 R as bs → All2 S as bs
  | _, _, _, .nil => .nil
  | _, _, f, .cons h t => .cons (f _ _ List.mem_cons_self List.mem_cons_self h) (t.mono_mem fun a b ha hb => f a b (List.mem_cons_of_mem _ ha) (List.mem_cons_of_mem _ hb))
theorem All2.snoc {α β : Type} {R : α → β → Prop} {a : α} {b : β} (h : R a b) : ∀ {as : List α} {bs : List β}, All2 R as bs → All2 R (as ++ [a]) (bs ++ [b])
  | _, _, .nil => .cons h .nil
  | _, _, .cons g t => .cons g (t.snoc h)
theorem All2.at {α β : Type} {R : α → β → Prop} : ∀ {as : List α} {bs : List β} {i : Nat} {b : β}, All2 R as bs → bs[i]? = some b → ∃ a, as[i]? = some a ∧ R a b
  | _, _, 0, _, .cons h _, e => ⟨_, rfl, by cases e; exact h⟩
  | _, _, i + 1, _, .cons _ t, e => t.at (i := i) e
  | _, _, _, _, .nil, e => by simp at e
theorem All2.at2 {α β : Type} {R : α → β → Prop} : ∀ {as : List α} {bs : List β} {i : Nat} {a : α}, All2 R as bs → as[i]? = some a → ∃ b, bs[i]? = some b ∧ R a b
  | _, _, 0, _, .cons h _, e => ⟨_, rfl, by cases e; exact h⟩
  | _, _, i + 1, _, .cons _ t, e => t.at2 (i := i) e
  | _, _, _, _, .nil, e => by simp at e
theorem ints_of : ∀ {ys : List V} {P : Int → Prop}, (∀ y ∈ ys, ∃ n, y = V.int n ∧ P n) → ∃ ns : List Int, ys = ns.map V.int ∧ (∀ n ∈ ns, P n) ∧ ns.length = ys.length
  | [], _, _ => ⟨[], rfl, (fun _ h => by cases h), rfl⟩
  | y :: r, P, h => by
    obtain ⟨n, e, hn⟩ := h y List.mem_cons_self
    obtain ⟨ns, e2, hs, hl⟩ := ints_of (ys := r) fun z hz => h z (List.mem_cons_of_mem _ hz)
    refine ⟨n :: ns, by rw [e, e2]; rfl, fun z hz => ?_, congrArg (· + 1) hl⟩
    rcases List.mem_cons.mp hz with rfl | hz
    · exact hn
    · exact hs z hz
theorem strs_of : ∀ {ys : List V} {P : Str → Prop}, (∀ y ∈ ys, ∃ n, y = V.str n ∧ P n) → ∃ ns : List Str, ys = ns.map V.str ∧ (∀ n ∈ ns, P n) ∧ ns.length = ys.length
  | [], _, _ => ⟨[], rfl, (fun _ h => by cases h), rfl⟩
  | y :: r, P, h => by
    obtain ⟨n, e, hn⟩ := h y List.mem_cons_self
    obtain ⟨ns, e2, hs, hl⟩ := strs_of (ys := r) fun z hz => h z (List.mem_cons_of_mem _ hz)
    refine ⟨n :: ns, by rw [e, e2]; rfl, fun z hz => ?_, congrArg (· + 1) hl⟩
    rcases List.mem_cons.mp hz with rfl | hz
    · exact hn
    · exact hs z hz
/-- where a list may go on being written: nothing else moves -/
def LcGoal (J : It) (D : Addr) (te : TE) (j : Nat) (σ : St) (H1 : Hp) (Qd : Hp → Prop) : Prop :=
    ∃ W : Nat → Nat → Hp → Prop, (∃ m, W 0 m (upd H1 D (.lst []))) ∧ ∀ i m H, W i m H →
      (J.stop i H ∧ Qd H) ∨ (J.go i H ∧ ∃ Nx : Hp → Prop, (∀ H', Nx H' → ∃ m', m' < m ∧ W (i + 1) m' H') ∧ ∀ x H', J.yld i H x H' → gName j x (wipe σ [j]) H' fun σ2 H2 => wipe σ2 [j] = wipe σ [j] ∧ tYes σ2 H2 fun b H3 =>
        if b = true then te σ2 H3 fun y H4 => ∃ acc, H4 D = some (.lst acc) ∧ acc.length < sizeLine ∧ Nx (upd H4 D (.lst (acc ++ [y]))) else Nx H3)
theorem seqV_map {α : Type} (f : α → V) (d : α) (xs : List α) : seqV (fun i => f (xs.getD i d)) xs.length = xs.map f := by
  unfold seqV
  refine List.ext_getElem (by rw [List.length_map, List.length_map, List.length_range]) fun i h1 h2 => ?_
  rw [List.getElem_map, List.getElem_map, List.getElem_range]
  have : i < xs.length := by rw [List.length_map] at h2; exact h2
  rw [List.getD_eq_getElem?_getD, List.getElem?_eq_getElem this]
  rfl
/-- [f(x) for x in xs], known ahead -/
theorem lc_mapA {α : Type} (xs : List α) (g f : α → V) (d : α) {J : It} {G : Hp → Prop} {j : Nat} {te : TE} {σ : St} {H1 : Hp} {D : Addr} {Qd : Hp → Prop} (w : Walk J (xs.map g).length G (YAt (xs.map g))) (hD : H1 D = none) (hn : xs.length < 16777216) (hj : j < σ.length)
    (hG : ∀ H, Same H1 H → G H)
    (step : ∀ a ∈ xs, ∀ H (Z : VK), Same H1 H → (∀ H', Same H H' → Z (f a) H') → te ((σ.set j none).set j (some (g a))) H Z)
    (hd : ∀ H, Same H1 H → H D = some (.lst (xs.map f)) → Qd H) : LcGoal J D te j σ H1 Qd := by
  refine lc_map w (fun i => f (xs.getD i d)) hD (by rw [List.length_map]; exact hn) hj hG (fun _ _ _ _ y => y.1) ?_ fun H s h => hd H s ?_
  · rintro i x H Z hi s ⟨_, hx⟩ z
    rw [List.length_map] at hi
    have e : xs[i]? = some (xs.getD i d) := by rw [List.getD_eq_getElem?_getD, List.getElem?_eq_getElem hi]; rfl
    rw [List.getElem?_map, e] at hx
    cases hx
    exact step _ (List.mem_of_getElem? e) H Z s z
  · rw [h, List.length_map, seqV_map]
/-- [e for x in xs]: what each gives stands in R to its x -/
theorem lc_rel {H1 : Hp} {D : Addr} {α : Type} (xs : List α) {β : α → V → Prop} (R : Hp → α → V → Prop) {ws : List V} (hw : All2 β xs ws) (mono : ∀ H H' a y, Same H H' → R H a y → R H' a y) (lst : ∀ H a y ys ys', R H a y → H D = some (.lst ys) → R (upd H D (.lst ys')) a y) {J : It} {G : Hp → Prop} {j : Nat} {te : TE} {σ : St} {Qd : Hp → Prop} (w : Walk J ws.length G (YAt ws)) (hD : H1 D = none) (hn : xs.length < 16777216) (hj : j < σ.length)
    (hG : ∀ H, Same H1 H → G H)
    (step : ∀ a v, a ∈ xs → v ∈ ws → β a v → ∀ H (Z : VK), Same H1 H → (∃ ys, H D = some (.lst ys)) → (∀ H' y, Same H H' → R H' a y → Z y H') → te ((σ.set j none).set j (some v)) H Z)
    (hd : ∀ H ys, Same H1 H → All2 (R H) xs ys → H D = some (.lst ys) → Qd H) : LcGoal J D te j σ H1 Qd := by
  refine lc_it w (fun i H => ∃ ys, H D = some (.lst ys) ∧ Same H1 H ∧ All2 (R H) (xs.take i) ys) ⟨[], upd_same, same_new hD, by rw [List.take_zero]; exact .nil⟩ (fun i H _ h => hG H h.choose_spec.2.1) ?_ fun H ⟨ys, h1, h2, h3⟩ => hd H ys h2 (by rw [← hw.length, List.take_length] at h3; exact h3) h1
  rintro i v H H2 hi ⟨ys, h1, h2, h3⟩ ⟨e, hv⟩
  subst e
  have hw2 : wipe ((wipe σ [j]).set j (some v)) [j] = wipe σ [j] := by
    show ((σ.set j none).set j (some v)).set j none = σ.set j none
    simp
  refine ⟨hw2, ?_⟩
  obtain ⟨a, ha, hb⟩ := hw.at hv
  have hl := h3.length
  have hi' : i < xs.length := by rw [hw.length]; exact hi
  rw [List.length_take] at hl
  refine step a v (List.mem_of_getElem? ha) (List.mem_of_getElem? hv) hb _ _ h2 ⟨ys, h1⟩ fun H3 y s3 r3 => ⟨ys, s3 _ _ h1, ?_, ?_⟩
  · exact Nat.lt_of_lt_of_le (show ys.length < 16777216 by omega) (by decide)
  · refine ⟨ys ++ [y], upd_same, fun b o hb => ?_, ?_⟩
    · rw [upd_ne (ne_of_none hb hD)]
      exact s3 _ _ (h2 b o hb)
    · rw [List.take_add_one, ha]
      show All2 _ (xs.take i ++ [a]) _
      exact (h3.mono fun a' y' h => lst _ _ _ _ _ (mono _ _ _ _ s3 h) (s3 _ _ h1)).snoc (lst _ _ _ _ _ r3 (s3 _ _ h1))
/-- [e for k in ..], each e drawn at the well p: what each gives is P -/
theorem lc_drawn {J : It} {n : Nat} {G : Hp → Prop} {Y : Nat → Hp → V → Hp → Prop} (w : Walk J n G Y) (P : V → Prop) {p : Addr} {j : Nat} {te : TE} {σ : St} {H1 : Hp} {D : Addr} {Qd : Hp → Prop} (W : WellAt H1 p) (hD : H1 D = none) (hn : n < 16777216) (hj : j < σ.length)
    (hG : ∀ H, G H) (hY : ∀ i H x H', Y i H x H' → H' = H)
    (step : ∀ i x H (Z : VK), i < n → KeepX p H1 H → WellAt H p → Y i H x H → (∀ H' y, KeepX p H H' → WellAt H' p → P y → Z y H') → te ((σ.set j none).set j (some x)) H Z)
    (hd : ∀ H ys, KeepX p H1 H → WellAt H p → ys.length = n → (∀ y ∈ ys, P y) → H D = some (.lst ys) → Qd H) : LcGoal J D te j σ H1 Qd := by
  have npD : D ≠ p := fun e => by obtain ⟨_, _, _, _, w⟩ := W; rw [← e, hD] at w; cases w
  refine lc_it w (fun i H => ∃ ys, H D = some (.lst ys) ∧ KeepX p H1 H ∧ WellAt H p ∧ ys.length = i ∧ ∀ y ∈ ys, P y) ⟨[], upd_same, keepX_of (same_new hD), W.same (same_new hD), rfl, fun _ h => by cases h⟩ (fun i H _ _ => hG H) ?_ fun H ⟨ys, h1, h2, h3, h4, h5⟩ => hd H ys h2 h3 h4 h5 h1
  rintro i v H H2 hi ⟨ys, h1, h2, h3, h4, h5⟩ y
  have e := hY _ _ _ _ y
  subst e
  have hw2 : wipe ((wipe σ [j]).set j (some v)) [j] = wipe σ [j] := by
    show ((σ.set j none).set j (some v)).set j none = σ.set j none
    simp
  refine ⟨hw2, ?_⟩
  refine step i v _ _ hi h2 h3 y fun H3 z k3 W3 pz => ⟨ys, k3 _ _ npD h1, ?_, ?_⟩
  · exact Nat.lt_of_lt_of_le (show ys.length < 16777216 by omega) (by decide)
  · refine ⟨ys ++ [z], upd_same, fun b o nb hb => ?_, ?_, by rw [List.length_append, h4]; rfl, fun y hy => ?_⟩
    · rw [upd_ne (ne_of_none hb hD)]
      exact k3 _ _ nb (h2 b o nb hb)
    · obtain ⟨a, b, c, d, w⟩ := W3
      exact ⟨a, b, c, d, by rw [upd_ne npD.symm]; exact w⟩
    · rcases List.mem_append.mp hy with h | h
      · exact h5 y h
      · rw [List.mem_singleton.mp h]; exact pz

def SOMEN : List Str := ["a", "b", "i", "zz", "iff", "en", "cells", "giver", "mainly", "lesss", "sets", "whil"]
def BAD1 : List Str := ["if", "end", "ask", "set", "put", "fun", "main", "else", "skip", "draw", "tell", "call", "give"]
def BAD2 : List Str := ["cell", "plus", "over", "rest", "less", "same", "while", "minus", "times"]
theorem someN_ok : ∀ s ∈ SOMEN, isNameW s = true := by decide +kernel
theorem bad1_ok : ∀ s ∈ BAD1, isNameW (s ++ Str.ofString "x") = true ∧ s.length ≤ 6 := by decide +kernel
theorem bad2_ok : ∀ s ∈ BAD2, isNameW (Str.ofString "x" ++ s) = true ∧ s.length ≤ 6 := by decide +kernel
theorem words_bad : ∀ s ∈ PAIRW ++ (ROWW ++ OTHW), s ∈ BAD1 ∨ s ∈ BAD2 := by decide +kernel
/-- the k-th letter -/
theorem letter_at {n : Int} (h0 : 0 ≤ n) (h1 : n < 26) : ∃ c : Nat, atI (tl (Str.ofString "abcdefghijklmnopqrstuvwxyz")) n = some c ∧ 97 ≤ c ∧ c ≤ 122 := by
  have e : tl (Str.ofString "abcdefghijklmnopqrstuvwxyz") = (List.range 26).map (97 + ·) := by decide +kernel
  have hk : n.toNat < 26 := by omega
  have ek : n = ((n.toNat : Nat) : Int) := by omega
  rw [e, ek]
  refine ⟨97 + n.toNat, atI_nat ?_, by omega, by omega⟩
  rw [List.getElem?_map, List.getElem?_range hk]
  rfl
theorem name_of {s : Str} (h1 : 1 ≤ (tl s).length) (h2 : (tl s).length ≤ 6) (h3 : ∀ c ∈ tl s, 97 ≤ c ∧ c ≤ 122) (h4 : s ∉ BAD1) (h5 : s ∉ BAD2) : isNameW s = true := by
  have no : ∀ l : List Str, (∀ x ∈ l, x ∈ PAIRW ++ (ROWW ++ OTHW)) → s ∉ l := fun l hl hs => by
    rcases words_bad s (hl s hs) with h | h
    · exact h4 h
    · exact h5 h
  rw [nameW_true h1 h2 (no _ fun x hx => List.mem_append_left _ hx) (no _ fun x hx => List.mem_append_right _ (List.mem_append_left _ hx)) (no _ fun x hx => List.mem_append_right _ (List.mem_append_right _ hx))]
  refine List.all_eq_true.mpr fun c hc => ?_
  have := h3 c hc
  unfold isLow
  simp only [Bool.and_eq_true, decide_eq_true_eq]
  exact this

/-! ### told tuples of the law -/
theorem ToldE.keep {K : PySem.W.Frag} {p : Addr} {H H' : Hp} (k : KeepX p H H') (W : WellAt H p) : ∀ {e : Ex} {v : V}, ToldE K H e v → ToldE K H' e v
  | .num n, v, ⟨t, h1, h2⟩ => ⟨t, h1, k.tup W h2⟩
  | .box n, v, ⟨t, h1, h2⟩ => ⟨t, h1, k.tup W h2⟩
  | .cell e, v, ⟨t, i, h1, h2, h3⟩ => ⟨t, i, h1, k.tup W h2, ToldE.keep k W h3⟩
  | .two w l r, v, ⟨t, a, b, h1, h2, h3, h4⟩ => ⟨t, a, b, h1, k.tup W h2, ToldE.keep k W h3, ToldE.keep k W h4⟩
theorem in_num : inV (.str "number") [.str "number", .str "box"] = true := by decide +kernel
theorem in_box : inV (.str "box") [.str "number", .str "box"] = true := by decide +kernel
theorem in_cell : inV (.str "cell") [.str "number", .str "box"] = false := by decide +kernel
theorem in_pair {w : Str} (h : w ∈ PAIRW) : inV (.str w) [.str "number", .str "box"] = false := by
  have : ∀ w ∈ PAIRW, inV (.str w) [.str "number", .str "box"] = false := by decide +kernel
  exact this w h
theorem pair_ne {w : Str} (h : w ∈ PAIRW) : w ≠ "number" ∧ w ≠ "box" ∧ w ≠ "cell" := by
  have : ∀ w ∈ PAIRW, w ≠ "number" ∧ w ≠ "box" ∧ w ≠ "cell" := by decide +kernel
  exact this w h
def rStrAny : List V → Hp → VK → Prop := fun xs H Q => (∃ i, xs = [.int i] ∧ i.natAbs.log2 < 1920 ∧ Q (.str (toString i)) H) ∨ (∃ a, xs = [.str a] ∧ Q (.str a) H)
theorem call_str_any {X : Cx} : CallR X (.type "str") rStrAny := by
  intro pins s σ H xs us Q I r h
  rcases h with h | h
  · exact call_str_int pins s σ H xs us Q I r h
  · exact SkE.call_str_str pins s σ H xs us Q I r h
theorem sizeL2 {n : Nat} (h : n ≤ 16777216) : n ≤ sizeLine := Nat.le_trans h (by decide)
def spLParts (K : PySem.W.Frag) (n : Nat) : Sp := fun vs H Q _ => ∃ (e : Ex) (v : V), vs = [v] ∧ ToldE K H e v ∧ e.Wf ∧ e.depth ≤ n ∧ ∀ H', Same H H' → Q (.int e.parts) H'
def spLWords (K : PySem.W.Frag) (n : Nat) : Sp := fun vs H Q _ => ∃ (e : Ex) (v : V), vs = [v] ∧ ToldE K H e v ∧ e.Wf ∧ e.parts ≤ 1000 ∧ e.depth ≤ n ∧ ∀ H', Same H H' → Q (.str e.text) H'
def spLExpr (K : PySem.W.Frag) (n : Nat) : Sp := fun vs H Q _ => ∃ (p : Addr) (d m : Int), vs = [.ref p, .int d, .int m] ∧ WellAt H p ∧ 1 ≤ d ∧ d ≤ n ∧ n ≤ 8 ∧ 1 ≤ m ∧ ∀ e v H', e.Wf → (e.depth : Int) ≤ d → (e.parts : Int) ≤ m → ToldE K H' e v → KeepX p H H' → WellAt H' p → Q v H'
theorem text_cell (e : Ex) : Txt.join (Str.ofString " ") [Str.ofString "cell", e.text] = (Ex.cell e).text := by
  refine ext_tl ?_
  have b : tl (Str.ofString " ") = [32] := by decide +kernel
  have c1 : tl (Str.ofString "cell ") = tl (Str.ofString "cell") ++ [32] := by decide +kernel
  show _ = tl (Str.ofString "cell " ++ e.text)
  rw [join_eq, tl_join, b, tl_append, c1, List.append_assoc]
  rfl

def spLMade (K : PySem.W.Frag) (c : EC) (n : Nat) : Sp := fun vs H Q _ => ∃ (e : Ex) (v : V), vs = [v] ∧ ToldE K H e v ∧ e.Wf ∧ e.depth ≤ n ∧ ∀ r H', Same H H' → ObjE c H' e r → Q r H'
def spLRight (K : PySem.W.Frag) (c : EC) (n : Nat) : Sp := fun vs H Q _ => ∃ (e : Ex) (v t : V), vs = [v, t] ∧ ObjE c H e v ∧ ToldE K H e t ∧ e.Wf ∧ e.depth ≤ n ∧ n ≤ 6 ∧ e.parts ≤ 1000 ∧ ∀ H', Same H H' → Q (.bl true) H'
theorem parse_all {e : Ex} (h : e.Wf) (hd : e.depth ≤ 6) (hp : e.parts ≤ 15) : parseAll e.toks.length e.toks = some [e] := by
  have q := parse_toks h hd []
  rw [List.append_nil] at q
  cases h2 : e.toks with
  | nil => have := e.toks_len; rw [h2] at this; have := e.parts_pos; simp at *; omega
  | cons x r =>
    rw [h2] at q
    rw [parseAll_step, q]
    show (if e.parts ≤ 15 then some [e] else none) = some [e]
    rw [if_pos hp]

def IsVal (n : Int) : Prop := 0 ≤ n ∧ n < 1000000
/-! ### what an expression comes to -/
/-- what the seven words come to -/
def bothV (w : Str) (a b : Int) : V :=
  if w = "plus" then .int ((a + b) % 1000000)
  else if w = "minus" then .int ((a - b) % 1000000)
  else if w = "times" then .int (a * b % 1000000)
  else if w = "less" then .int (if decide (a < b) then 1 else 0)
  else if w = "same" then .int (if decide (V.int a = V.int b) then 1 else 0)
  else if b = 0 then .non
  else if w = "over" then .int (a.fdiv b)
  else .int (a.fmod b)
def bothO (w : Str) (a b : Int) : Option Int :=
  if w = "plus" then some ((a + b) % 1000000)
  else if w = "minus" then some ((a - b) % 1000000)
  else if w = "times" then some (a * b % 1000000)
  else if w = "less" then some (if decide (a < b) then 1 else 0)
  else if w = "same" then some (if decide (V.int a = V.int b) then 1 else 0)
  else if b = 0 then none
  else if w = "over" then some (a.fdiv b)
  else some (a.fmod b)
def optV : Option Int → V
  | none => .non
  | some n => .int n
theorem both_eq (w : Str) (a b : Int) : bothV w a b = optV (bothO w a b) := by
  unfold bothV bothO
  by_cases h1 : w = "plus"
  · rw [if_pos h1, if_pos h1]; rfl
  rw [if_neg h1, if_neg h1]
  by_cases h2 : w = "minus"
  · rw [if_pos h2, if_pos h2]; rfl
  rw [if_neg h2, if_neg h2]
  by_cases h3 : w = "times"
  · rw [if_pos h3, if_pos h3]; rfl
  rw [if_neg h3, if_neg h3]
  by_cases h4 : w = "less"
  · rw [if_pos h4, if_pos h4]; rfl
  rw [if_neg h4, if_neg h4]
  by_cases h5 : w = "same"
  · rw [if_pos h5, if_pos h5]; rfl
  rw [if_neg h5, if_neg h5]
  by_cases h6 : b = 0
  · rw [if_pos h6, if_pos h6]; rfl
  rw [if_neg h6, if_neg h6]
  by_cases h7 : w = "over"
  · rw [if_pos h7, if_pos h7]; rfl
  · rw [if_neg h7, if_neg h7]; rfl
theorem both_val {w : Str} {a b n : Int} (ha : IsVal a) (hb : IsVal b) (h : bothO w a b = some n) : IsVal n := by
  have m : ∀ x : Int, IsVal (x % 1000000) := fun x => ⟨Int.emod_nonneg _ (by decide), Int.emod_lt_of_pos _ (by decide)⟩
  unfold bothO at h
  split at h
  · cases h; exact m _
  split at h
  · cases h; exact m _
  split at h
  · cases h; exact m _
  split at h
  · cases h; split <;> exact ⟨by decide, by decide⟩
  split at h
  · cases h; split <;> exact ⟨by decide, by decide⟩
  split at h
  · cases h
  rename_i hb0
  split at h
  · cases h
    rw [Int.fdiv_eq_ediv_of_nonneg _ hb.1]
    have h1 := Int.ediv_nonneg ha.1 hb.1
    have h2 := Int.ediv_le_self (a := a) b ha.1
    exact ⟨h1, by have := ha.2; omega⟩
  · cases h
    rw [Int.fmod_eq_emod_of_nonneg _ hb.1]
    have h1 := Int.emod_nonneg a (show b ≠ 0 from hb0)
    have h2 := Int.emod_lt_of_pos a (show 0 < b by have := hb.1; omega)
    exact ⟨h1, by have := hb.2; omega⟩
/-- what is looked at -/
inductive Th where
  | box (s : Str) | cell (n : Int)
deriving DecidableEq
def Th.Wf : Th → Prop
  | .box s => isNameW s = true
  | .cell n => IsVal n
def ThH (H : Hp) : Th → V → Prop
  | .box s, v => ∃ t, v = .ref t ∧ H t = some (.tup [.str "box", .str s])
  | .cell n, v => ∃ t, v = .ref t ∧ H t = some (.tup [.str "cell", .int n])
theorem ThH.same {H H' : Hp} (s : Same H H') {v : V} : ∀ {th : Th}, ThH H th v → ThH H' th v
  | .box _, ⟨t, h1, h2⟩ => ⟨t, h1, s _ _ h2⟩
  | .cell _, ⟨t, h1, h2⟩ => ⟨t, h1, s _ _ h2⟩
def evC {S : Type} (lk : Th → S → Int × S) : Option Int × S → Option Int × S
  | (none, s1) => (none, s1)
  | (some n, s1) => (some (lk (.cell n) s1).1, (lk (.cell n) s1).2)
def evB {S : Type} (w : Str) (a : Int) : Option Int × S → Option Int × S
  | (none, s2) => (none, s2)
  | (some b, s2) => (bothO w a b, s2)
def evA {S : Type} (w : Str) (k : S → Option Int × S) : Option Int × S → Option Int × S
  | (none, s1) => (none, s1)
  | (some a, s1) => evB w a (k s1)
def ev {S : Type} (lk : Th → S → Int × S) : Ex → S → Option Int × S
  | .num n, s => (some n, s)
  | .box z, s => (some (lk (.box z) s).1, (lk (.box z) s).2)
  | .cell e, s => evC lk (ev lk e s)
  | .two w l r, s => evA w (ev lk r) (ev lk l s)
theorem ev_val {S : Type} {lk : Th → S → Int × S} (hl : ∀ th s, IsVal (lk th s).1) : ∀ {e : Ex}, e.Wf → ∀ {s : S} {n : Int}, (ev lk e s).1 = some n → IsVal n
  | .num m, h, s, n, e1 => by cases e1; exact h
  | .box z, h, s, n, e1 => by cases e1; exact hl _ _
  | .cell e, h, s, n, e1 => by
    have e1 : (evC lk (ev lk e s)).1 = some n := e1
    generalize ev lk e s = x at e1
    obtain ⟨x1, x2⟩ := x
    cases x1 with
    | none => cases e1
    | some m => cases e1; exact hl _ _
  | .two w l r, h, s, n, e1 => by
    have e1 : (evA w (ev lk r) (ev lk l s)).1 = some n := e1
    have i1 := fun m (q : (ev lk l s).1 = some m) => ev_val hl (e := l) h.2.1 (s := s) q
    generalize ev lk l s = x at e1 i1
    obtain ⟨x1, x2⟩ := x
    cases x1 with
    | none => cases e1
    | some a =>
      have e1 : (evB w a (ev lk r x2)).1 = some n := e1
      have i2 := fun m (q : (ev lk r x2).1 = some m) => ev_val hl (e := r) h.2.2 (s := x2) q
      generalize ev lk r x2 = y at e1 i2
      obtain ⟨y1, y2⟩ := y
      cases y1 with
      | none => cases e1
      | some b => exact both_val (i1 a rfl) (i2 b rfl) e1
/-- how a look's promise lies to its plain mirror lk: R n s H, the heap H bears the state s, n looks are still free -/
structure LkOk {S : Type} (lk : Th → S → Int × S) (R : Nat → S → Hp → Prop) (HE : Hp) (G : Hp → Prop) (spL : Sp) : Prop where
  objs : ∀ n s H, R n s H → Same HE H
  g : ∀ n s H, R n s H → G H
  same : ∀ n s H H', R n s H → Same H H' → R n s H'
  down : ∀ m n s H, m ≤ n → R n s H → R m s H
  val : ∀ th s, IsVal (lk th s).1
  look : ∀ n s H th t (Q : VK), R (n + 1) s H → ThH H th t → th.Wf → (∀ H', R n (lk th s).2 H' → Q (.int (lk th s).1) H') → spL [t] H Q E0
def spBoth : Sp := fun vs H Q _ => ∃ (wd : Str) (a b : Int), vs = [.str wd, .int a, .int b] ∧ IsVal a ∧ IsVal b ∧ Q (bothV wd a b) H
def spReckon (P : Program) (w : World) (K : PySem.W.Frag) (mg : Str → Option Value) (base : Heap) (J : Nat) (c : EC) (n : Nat) (C : Addr) : Sp := fun vs H Q _ => ∃ (e : Ex) (v : V) (f : Addr) (S : Type) (lk : Th → S → Int × S) (R : Nat → S → Hp → Prop) (HE : Hp) (G : Hp → Prop) (spL : Sp) (s : S) (m : Nat),
  vs = [v, .ref f] ∧ ObjE c HE e v ∧ c.of e = C ∧ e.depth ≤ n ∧ e.Wf ∧ KL.LOk P w K mg base CX0 J f G spL ∧ LkOk lk R HE G spL ∧ R (e.parts + m) s H ∧ ∀ H', R m (ev lk e s).2 H' → Q (optV (ev lk e s).1) H'

/-! ### a method that gets a nested function -/
open NdefX LamX KL in
def tMethZ (P : Program) (w : World) (K : PySem.W.Frag) (mg : Str → Option Value) (base : Heap) (k : Nat) (Fam : Addr → Prop) (SP : Addr → Sp) (m : Str) (E : XK) (mk : Addr → NF) (js : List Nat) (spN : Addr → Addr → List (Option V) → Sp) (ta : TE) (t : TA) : TE := fun σ H Q => ta σ H fun x H1 => ∃ a C dx fs, x = .ref a ∧ H1 a = some (.ins C dx fs) ∧ fs.lookup m = none ∧ Fam C ∧
  t σ H1 fun vs H2 => ∃ f c', vs = [.ref f] ∧ H2 f = some (FnO f (mk c')) ∧ H2 (mk c').c = some (CodeO (mk c').c (mk c').qual) ∧ ∀ cs : Cs, (∀ c o, cs.lookup c = some o → H2 c = none) →
    LOk P w K mg base CX0 k f (GN f (mk c') cs) (fun vs H Q E => spN f c' (js.map (slotAt σ)) vs (thwC cs H) (fun v H' => Q v (frzC cs H')) E) → SP C [.ref a, .ref f] (frzC cs H2) (fun v H' => Q v (thwC cs H')) E
section
open NdefX LamX KL
theorem fm_lookup {fr : List Str} {g : Str → Option (Addr × Obj)} {c : Addr} {o : Obj} (h : (fr.filterMap g).lookup c = some o) : ∃ y ∈ fr, g y = some (c, o) := by
  have m := He.lookup_mem h
  obtain ⟨y, hy, e⟩ := List.mem_filterMap.mp m
  exact ⟨y, hy, e⟩
theorem lookup_has {c : Addr} {o : Obj} : ∀ {l : List (Addr × Obj)}, (c, o) ∈ l → (∀ o', (c, o') ∈ l → o' = o) → l.lookup c = some o
  | [], h, _ => by cases h
  | (b, u) :: r, h, all => by
    rw [List.lookup_cons]
    by_cases q : c = b
    · subst q
      rw [beq_self_eq_true]
      exact congrArg some (all u List.mem_cons_self)
    · rw [beq_false_of_ne q]
      rcases List.mem_cons.mp h with e | h
      · cases e; exact absurd rfl q
      · exact lookup_has h fun o' ho => all o' (List.mem_cons_of_mem _ ho)
variable {X : Cx} {pins : List (Addr × Obj)} {σ : St} {H : Hp} {s : Shared} {cl : List (Str × Addr)} {fr : List Str} {js : List Nat}
/-- the running frame's cells, as a list of what they hold -/
theorem cs_made (I : Inv X pins σ H s) (cp : Caps X cl fr js) (hcl : ∀ y c, cl.lookup y = some c → y ∈ fr) (hfn : ∀ y ∈ fr, X.fn y = true) :
    ∃ cs : Cs, CsIn cs s.heap H ∧ (∀ a o, cs.lookup a = some o → X.base.get? a = none ∧ a ∉ frs X.stack) ∧ CsFn cl fr (js.map (slotAt σ)) cs := by
  obtain ⟨g, hg⟩ : ∃ g : Str → Option (Addr × Obj), g = fun y => (cl.lookup y).bind fun c => (s.heap.get? c).map fun o => (c, o) := ⟨_, rfl⟩
  have gv : ∀ {y c o}, g y = some (c, o) → cl.lookup y = some c ∧ s.heap.get? c = some o := fun {y c o} h => by
    rw [hg] at h
    have h : (cl.lookup y).bind (fun c => (s.heap.get? c).map fun o => (c, o)) = some (c, o) := h
    cases e : cl.lookup y with
    | none => rw [e] at h; cases h
    | some c1 =>
      rw [e] at h
      have h : (s.heap.get? c1).map (fun o => (c1, o)) = some (c, o) := h
      cases e2 : s.heap.get? c1 with
      | none => rw [e2] at h; cases h
      | some o1 =>
        rw [e2] at h
        cases h
        exact ⟨rfl, e2⟩
  have gi : ∀ {y c o}, cl.lookup y = some c → s.heap.get? c = some o → g y = some (c, o) := fun {y c o} h1 h2 => by
    rw [hg]
    show (cl.lookup y).bind _ = _
    rw [h1]
    show (s.heap.get? c).map _ = _
    rw [h2]; rfl
  have at_ : ∀ {y c o}, cl.lookup y = some c → s.heap.get? c = some o → (fr.filterMap g).lookup c = some o := fun {y c o} h1 h2 => by
    refine lookup_has (List.mem_filterMap.mpr ⟨y, hcl y c h1, gi h1 h2⟩) fun o' ho => ?_
    obtain ⟨z, _, hz⟩ := List.mem_filterMap.mp ho
    have e := (gv hz).2
    rw [h2] at e
    exact (Option.some.inj e).symm
  have CA := cells_of I cp
  refine ⟨fr.filterMap g, fun c o h => ?_, fun c o h => ?_, ⟨CA.len, fun y c h => ?_, CA.inj, fun i y h => ?_⟩⟩
  · obtain ⟨y, _, hy⟩ := fm_lookup h
    obtain ⟨h1, h2⟩ := gv hy
    exact ⟨(CA.all y c h1).1, h2⟩
  · obtain ⟨y, my, hy⟩ := fm_lookup h
    obtain ⟨h1, h2⟩ := gv hy
    have hc := cp.sub y c h1
    have ge := I.ok.cab y c (hfn y my) hc
    refine ⟨?_, fun hb => ?_⟩
    · cases e : X.base.get? c with
      | none => rfl
      | some u => exact absurd (Nat.lt_of_lt_of_le (Heap.lt_size e) (Nat.le_trans I.ok.bsz ge)) (Nat.lt_irrefl _)
    · rcases List.mem_cons.mp (I.stkSub c hb) with e | e
      · exact I.cne y c hc e
      · obtain ⟨_, u, hu, _⟩ := I.ok.funs.mem e
        exact absurd (Nat.lt_of_lt_of_le (Heap.lt_size hu) ge) (Nat.lt_irrefl _)
  · obtain ⟨n, v, o, ho, hd⟩ := CA.all y c h
    exact ⟨o, v, at_ h ho, hd⟩
  · obtain ⟨c, hc, hv⟩ := CA.has i y h
    refine ⟨c, hc, fun v hw => ?_⟩
    obtain ⟨u, r, o, ho, hd⟩ := hv v hw
    exact ⟨u, o, r, at_ hc ho, hd⟩
variable {k j : Nat} {m : Str} {Fam : Addr → Prop} {SP : Addr → Sp} {E : XK} {e o : Expr} {es : List Expr} {ta : TE} {t : TA} {pos apos : Pos} {mk : Addr → NF} {ps : List Str} {spN : Addr → Addr → List (Option V) → Sp}
theorem pe_methZ {pl : Sem Bool} (he : PE X o ta) (D : ∀ C, Fam C → Disp X.prog X.w X.K X.mg X.base CX0 m j C (SP C)) (hr : Room j X.A) (Fn : ∀ f c', NOk X.prog X.w X.K X.mg X.base CX0 k f (mk c') ps fr (spN f c')) (hmk : ∀ c', (mk c').cl = cl)
    (cp : X.Ok → Caps X cl fr js) (hcl : ∀ y c, cl.lookup y = some c → y ∈ fr) (hfn : ∀ y ∈ fr, X.fn y = true) (ha : PA X (e :: es) t)
    (hst : starEach (e :: es) X.env = (false, eval e X.env) :: starEach es X.env := by rfl) (hpl : (backTo pos (starEach es X.env)).any (·.1) = false := by rfl)
    (ht : eval (.Call (.Attribute o m apos) (e :: es) [] pos) X.env = (do
      let ov ← eval o X.env
      standAt apos.atName
      let (f, first) ← holding [ov] (getMethod ov m pl)
      callWith pos f first (backTo pos (starEach (e :: es) X.env)) (backToKw pos (keywordEach [] X.env))) := by rfl) :
    PE X (.Call (.Attribute o m apos) (e :: es) [] pos) (tMethZ X.prog X.w X.K X.mg X.base k Fam SP m E mk js spN ta t) := by
  refine ⟨fun pins s σ H Q I h => ?_⟩
  refine PySem.W.methodCall_KW (pl := pl) (thn (he.run pins s σ H _ I h) fun u s1 ⟨x, H1, I1, rx, a, C, dx, fs, ex, ea, l, fam, q⟩ => ?_) ht
  subst ex
  obtain rfl : u = Value.ref a := rx
  obtain ⟨f, fd, pz, c, hm, F, hb⟩ := D C fam
  refine getmeth_ok I1 ea c hm l ?_
  refine PySem.W.callWith_K (first := [.ref a]) (h₀ := X.base) I1.ok.mod.kin hm.kp (thn (ha.run pos pins s1 σ H1 _ I1 q) fun us s2 ⟨vs, H2, I2, r, g, c', ev, g1, g2, q2⟩ => ⟨I2.kIn, ?_⟩) hst hpl
  subst ev
  obtain ⟨cs, c1, c2, c3⟩ := cs_made I2 (cp I2.ok) hcl hfn
  have L := lok_of (Fn g c') (cs := cs) (ws := js.map (slotAt σ)) (by rw [hmk c']; exact c3)
  have q3 := q2 cs (fun c o h => (c1 c o h).1) L
  have r2 : Vals [V.ref a, V.ref g] (.ref a :: us) := .cons rfl r
  have hl : (Value.ref a :: us).length = pz.length := by rw [← r2.length]; exact F.len _ _ _ _ q3
  have hbb := hb s2 (.ref a :: us) I2.kIn (by rw [List.append_nil]; exact hl)
  rw [List.append_nil] at hbb
  refine wpAny_call (codeAny_mono (F.run X.A X.stack s2 (frzC cs H2) ⟨.ref a :: us, []⟩ (.ref a :: us) _ _ E hr (env_frz I2.env0 c1 c2) hbb r2 q3) fun r s' hq => ?_)
  cases r with
  | error e => exact (show False from hq).elim
  | ok fl =>
    cases fl with
    | ret u => exact I2.after (ce_thw c1 (fun a o h => (c2 a o h).2) hq)
    | next => exact False.elim hq
    | brk => exact False.elim hq
    | cont => exact False.elim hq
end

/-! ### what the law's look tells -/
def AZ : Str := Str.ofString "abcdefghijklmnopqrstuvwxyz0123456789"
def idxN (c : Nat) : Nat := match Builtin.Str.occurrences AZ ⟨#[c]⟩ 0 AZ.length 1 with
  | i :: _ => i
  | [] => 0
theorem idx_some : ∀ c ∈ tl AZ, ∃ r, Builtin.Str.occurrences AZ ⟨#[c]⟩ 0 AZ.length 1 = idxN c :: r := by
  have h : ∀ c ∈ tl AZ, (Builtin.Str.occurrences AZ ⟨#[c]⟩ 0 AZ.length 1).isEmpty = false := by decide +kernel
  intro c hc
  have := h c hc
  unfold idxN
  cases q : Builtin.Str.occurrences AZ ⟨#[c]⟩ 0 AZ.length 1 with
  | nil => rw [q] at this; cases this
  | cons i r => exact ⟨r, rfl⟩
theorem az_low {c : Nat} (h : 97 ≤ c ∧ c ≤ 122) : c ∈ tl AZ := by
  have e : tl AZ = [97, 98, 99, 100, 101, 102, 103, 104, 105, 106, 107, 108, 109, 110, 111, 112, 113, 114, 115, 116, 117, 118, 119, 120, 121, 122, 48, 49, 50, 51, 52, 53, 54, 55, 56, 57] := by decide +kernel
  rw [e]
  simp only [List.mem_cons, List.not_mem_nil, or_false]
  omega
theorem az_dig {c : Nat} (h : 48 ≤ c ∧ c ≤ 57) : c ∈ tl AZ := by
  have e : tl AZ = [97, 98, 99, 100, 101, 102, 103, 104, 105, 106, 107, 108, 109, 110, 111, 112, 113, 114, 115, 116, 117, 118, 119, 120, 121, 122, 48, 49, 50, 51, 52, 53, 54, 55, 56, 57] := by decide +kernel
  rw [e]
  simp only [List.mem_cons, List.not_mem_nil, or_false]
  omega
def heldN (cs : List Nat) (n : Int) : Int := cs.foldl (fun n c => (n * 131 + (idxN c : Int) + 1) % 1000003) n
def heldV (n : Int) : Int := if n / 7 % 4 = 0 then 0 else if n / 7 % 4 = 1 then n % 3 else if n / 7 % 4 = 2 then n % 1000 else n % 1000000
theorem heldV_ok {n : Int} : IsVal (heldV n) := by
  have h1 : 0 ≤ n % 3 ∧ n % 3 < 3 := by omega
  have h2 : 0 ≤ n % 1000 ∧ n % 1000 < 1000 := by omega
  have h3 : 0 ≤ n % 1000000 ∧ n % 1000000 < 1000000 := by omega
  unfold heldV IsVal
  split
  · omega
  split
  · omega
  split
  · omega
  · omega
def Th.text : Th → Str
  | .box s => Str.ofString "box" ++ s
  | .cell n => Str.ofString "cell" ++ numT n
def heldF (th : Th) (salt : Int) : Int := heldV (heldN (tl th.text) salt)
theorem th_signs {th : Th} (h : th.Wf) : ∀ c ∈ tl th.text, c ∈ tl AZ := by
  cases th with
  | box s =>
    intro c hc
    have hc : c ∈ tl (Str.ofString "box" ++ s) := hc
    rw [tl_append] at hc
    rcases List.mem_append.mp hc with hc | hc
    · exact az_low ((by decide +kernel : ∀ c ∈ tl (Str.ofString "box"), 97 ≤ c ∧ c ≤ 122) c hc)
    · exact az_low ((nameW_parts h).2.2.2.2 c hc)
  | cell n =>
    intro c hc
    have hc : c ∈ tl (Str.ofString "cell" ++ numT n) := hc
    rw [tl_append] at hc
    rcases List.mem_append.mp hc with hc | hc
    · exact az_low ((by decide +kernel : ∀ c ∈ tl (Str.ofString "cell"), 97 ≤ c ∧ c ≤ 122) c hc)
    · exact az_dig ((valW_parts (numT_valW h.1 h.2).1).2.2 c hc)
theorem held_step (cs : List Nat) (k : Nat) (c : Nat) (n : Int) (h : cs[k]? = some c) : heldN (cs.take (k + 1)) n = (heldN (cs.take k) n * 131 + (idxN c : Int) + 1) % 1000003 := by
  unfold heldN
  rw [List.take_add_one, h]
  show List.foldl _ n (cs.take k ++ [c]) = _
  rw [List.foldl_append]; rfl
/-- the things told, in order -/
inductive SeenH (H : Hp) : List Th → List V → Prop where
  | nil : SeenH H [] []
  | cons {th : Th} {v : V} {ths : List Th} {vs : List V} : ThH H th v → SeenH H ths vs → SeenH H (th :: ths) (v :: vs)
def TupK (H H' : Hp) : Prop := ∀ t xs, H t = some (.tup xs) → H' t = some (.tup xs)
theorem ThH.keep {H H' : Hp} (k : TupK H H') {v : V} : ∀ {th : Th}, ThH H th v → ThH H' th v
  | .box _, ⟨t, h1, h2⟩ => ⟨t, h1, k _ _ h2⟩
  | .cell _, ⟨t, h1, h2⟩ => ⟨t, h1, k _ _ h2⟩
theorem SeenH.keep {H H' : Hp} (k : TupK H H') : ∀ {ths : List Th} {vs : List V}, SeenH H ths vs → SeenH H' ths vs
  | _, _, .nil => .nil
  | _, _, .cons a b => .cons (a.keep k) (b.keep k)
theorem SeenH.snoc {H : Hp} {th : Th} {v : V} (h : ThH H th v) : ∀ {ths : List Th} {vs : List V}, SeenH H ths vs → SeenH H (ths ++ [th]) (vs ++ [v])
  | _, _, .nil => .cons h .nil
  | _, _, .cons a b => .cons a (b.snoc h)
theorem SeenH.length {H : Hp} : ∀ {ths : List Th} {vs : List V}, SeenH H ths vs → vs.length = ths.length
  | _, _, .nil => rfl
  | _, _, .cons _ b => congrArg (· + 1) b.length
theorem tupK_same {H H' : Hp} (s : Same H H') : TupK H H' := fun _ _ h => s _ _ h
theorem tupK_put {H : Hp} {a : Addr} {xs : List V} {o : HO} (h : H a = some (.lst xs)) : TupK H (upd H a o) := fun t ys e => by
  rw [upd_ne (fun q => by rw [q, h] at e; cases e)]
  exact e
theorem TupK.trans {H H1 H2 : Hp} (a : TupK H H1) (b : TupK H1 H2) : TupK H H2 := fun t xs h => b t xs (a t xs h)
theorem ToldE.keepT {K : PySem.W.Frag} {H H' : Hp} (k : TupK H H') : ∀ {e : Ex} {v : V}, ToldE K H e v → ToldE K H' e v
  | .num n, v, ⟨t, h1, h2⟩ => ⟨t, h1, k _ _ h2⟩
  | .box n, v, ⟨t, h1, h2⟩ => ⟨t, h1, k _ _ h2⟩
  | .cell e, v, ⟨t, i, h1, h2, h3⟩ => ⟨t, i, h1, k _ _ h2, ToldE.keepT k h3⟩
  | .two w l r, v, ⟨t, a, b, h1, h2, h3, h4⟩ => ⟨t, a, b, h1, k _ _ h2, ToldE.keepT k h3, ToldE.keepT k h4⟩
def Th.data : Th → PyData
  | .box s => .tuple [.str "box", .str s]
  | .cell n => .tuple [.str "cell", .int n]
theorem ThH.dp {K : PySem.W.Frag} {H : Hp} {v : V} : ∀ {th : Th}, ThH H th v → Dp K H v th.data
  | .box _, ⟨t, h1, h2⟩ => by rw [h1]; exact .tup (SqT.of h2) (.cons (.str _) (.cons (.str _) .nil))
  | .cell _, ⟨t, h1, h2⟩ => by rw [h1]; exact .tup (SqT.of h2) (.cons (.str _) (.cons (.int _) .nil))
theorem SeenH.dp {K : PySem.W.Frag} {H : Hp} : ∀ {ths : List Th} {vs : List V}, SeenH H ths vs → DpAll K H vs (ths.map Th.data)
  | _, _, .nil => .nil
  | _, _, .cons a b => .cons a.dp b.dp
theorem Th.lay {th : Th} (h : th.Wf) : th.data.canLay0 = true := by
  cases th with
  | box s =>
    show (PyData.strOk _ && (PyData.strOk s && true)) = true
    rw [strOk_of (by decide +kernel), strOk_of fun c hc => ((nameW_parts h).2.2.2.2 c hc).2]; rfl
  | cell n =>
    show (PyData.strOk _ && (true && true)) = true
    rw [strOk_of (by decide +kernel)]; rfl
theorem ths_lay : ∀ {ths : List Th}, (∀ th ∈ ths, th.Wf) → PyData.canLayAll0 (ths.map Th.data) = true
  | [], _ => rfl
  | th :: r, h => by
    show (th.data.canLay0 && PyData.canLayAll0 (r.map Th.data)) = true
    rw [Th.lay (h th List.mem_cons_self), ths_lay fun x hx => h x (List.mem_cons_of_mem _ hx)]; rfl
theorem ths_deep (ths : List Th) : PyData.depthAll (ths.map Th.data) ≤ 1 := by
  induction ths with
  | nil => exact Nat.zero_le _
  | cons th r ih =>
    show max th.data.depth (PyData.depthAll (r.map Th.data)) ≤ 1
    have : th.data.depth ≤ 1 := by cases th <;> (show max 0 (max 0 0) + 1 ≤ 1; omega)
    omega
theorem ths_shaped {ths : List Th} (h : ∀ th ∈ ths, th.Wf) : SeqAt.shaped (.list (ths.map Th.data)) = true := by
  have hd := ths_deep ths
  show (PyData.canLayAll0 _ && decide (PyData.depthAll (ths.map Th.data) + 1 ≤ 64)) = true
  rw [ths_lay h, decide_eq_true (by omega)]; rfl
theorem ths_eqv {ths : List Th} (h : ∀ th ∈ ths, th.Wf) : PyData.eqv (.list (ths.map Th.data)) (.list (ths.map Th.data)) = true := SeqAt.eqv_refl _ (ths_lay h)
/-- the law's look, plainly -/
def lkS (salt : Int) (th : Th) (s : List Th) : Int × List Th := (heldF th salt, s ++ [th])
theorem lkS_val (salt : Int) (th : Th) (s : List Th) : IsVal (lkS salt th s).1 := heldV_ok
theorem ev_wf {salt : Int} : ∀ {e : Ex}, e.Wf → ∀ {s : List Th}, (∀ th ∈ s, th.Wf) → ∀ th ∈ (ev (lkS salt) e s).2, th.Wf
  | .num m, h, s, hs => hs
  | .box z, h, s, hs => fun th ht => by
    have ht : th ∈ s ++ [Th.box z] := ht
    rcases List.mem_append.mp ht with ht | ht
    · exact hs th ht
    · rw [List.mem_singleton.mp ht]; exact h
  | .cell e, h, s, hs => by
    have ih := ev_wf (salt := salt) (e := e) h hs
    have hv := fun m (q : (ev (lkS salt) e s).1 = some m) => ev_val (lkS_val salt) (e := e) h q
    show ∀ th ∈ (evC (lkS salt) (ev (lkS salt) e s)).2, th.Wf
    generalize ev (lkS salt) e s = x at ih hv
    obtain ⟨x1, x2⟩ := x
    cases x1 with
    | none => exact ih
    | some n =>
      intro th ht
      have ht : th ∈ x2 ++ [Th.cell n] := ht
      rcases List.mem_append.mp ht with ht | ht
      · exact ih th ht
      · rw [List.mem_singleton.mp ht]; exact hv n rfl
  | .two w l r, h, s, hs => by
    have ih := ev_wf (salt := salt) (e := l) h.2.1 hs
    show ∀ th ∈ (evA w (ev (lkS salt) r) (ev (lkS salt) l s)).2, th.Wf
    generalize ev (lkS salt) l s = x at ih
    obtain ⟨x1, x2⟩ := x
    cases x1 with
    | none => exact ih
    | some a =>
      have ih2 := ev_wf (salt := salt) (e := r) h.2.2 ih
      show ∀ th ∈ (evB w a (ev (lkS salt) r x2)).2, th.Wf
      generalize ev (lkS salt) r x2 = y at ih2
      obtain ⟨y1, y2⟩ := y
      cases y1 with
      | none => exact ih2
      | some b => exact ih2
theorem ev_len {salt : Int} : ∀ {e : Ex} {s : List Th}, (ev (lkS salt) e s).2.length ≤ s.length + e.parts
  | .num m, s => by show s.length ≤ s.length + 1; omega
  | .box z, s => by show (s ++ [Th.box z]).length ≤ s.length + 1; rw [List.length_append]; exact Nat.le_refl _
  | .cell e, s => by
    have ih := ev_len (salt := salt) (e := e) (s := s)
    show (evC (lkS salt) (ev (lkS salt) e s)).2.length ≤ s.length + (1 + e.parts)
    generalize ev (lkS salt) e s = x at ih
    obtain ⟨x1, x2⟩ := x
    cases x1 with
    | none => have ih : x2.length ≤ _ := ih; show x2.length ≤ _; omega
    | some n => have ih : x2.length ≤ _ := ih; show (x2 ++ [Th.cell n]).length ≤ _; rw [List.length_append]; show x2.length + 1 ≤ _; omega
  | .two w l r, s => by
    have ih := ev_len (salt := salt) (e := l) (s := s)
    show (evA w (ev (lkS salt) r) (ev (lkS salt) l s)).2.length ≤ s.length + (1 + l.parts + r.parts)
    generalize ev (lkS salt) l s = x at ih
    obtain ⟨x1, x2⟩ := x
    cases x1 with
    | none => have ih : x2.length ≤ _ := ih; show x2.length ≤ _; omega
    | some a =>
      have ih : x2.length ≤ _ := ih
      have ih2 := ev_len (salt := salt) (e := r) (s := x2)
      show (evB w a (ev (lkS salt) r x2)).2.length ≤ _
      generalize ev (lkS salt) r x2 = y at ih2
      obtain ⟨y1, y2⟩ := y
      cases y1 with
      | none => have ih2 : y2.length ≤ _ := ih2; show y2.length ≤ _; omega
      | some b => have ih2 : y2.length ≤ _ := ih2; show y2.length ≤ _; omega
/-- few names, small values -/
def Ex.few : Ex → Ex
  | .num n => .num (n % 5)
  | .box s => .box (if s.length % 3 = 0 then "a" else if s.length % 3 = 1 then "b" else "c")
  | .cell e => .cell e.few
  | .two w l r => .two w l.few r.few
theorem Ex.few_ok : ∀ {e : Ex}, e.Wf → e.few.Wf ∧ e.few.depth = e.depth ∧ e.few.parts = e.parts
  | .num n, h => ⟨⟨by show 0 ≤ n % 5; omega, by show n % 5 < 1000000; omega⟩, rfl, rfl⟩
  | .box s, h => by
    refine ⟨?_, rfl, rfl⟩
    show isNameW (if s.length % 3 = 0 then "a" else if s.length % 3 = 1 then "b" else "c") = true
    split
    · decide +kernel
    split <;> decide +kernel
  | .cell e, h => by
    obtain ⟨a, b, c⟩ := Ex.few_ok (e := e) h
    exact ⟨a, by show e.few.depth + 1 = e.depth + 1; rw [b], by show 1 + e.few.parts = 1 + e.parts; rw [c]⟩
  | .two w l r, h => by
    obtain ⟨a1, b1, c1⟩ := Ex.few_ok (e := l) h.2.1
    obtain ⟨a2, b2, c2⟩ := Ex.few_ok (e := r) h.2.2
    exact ⟨⟨h.1, a1, a2⟩, by show max l.few.depth r.few.depth + 1 = max l.depth r.depth + 1; rw [b1, b2], by show 1 + l.few.parts + r.few.parts = 1 + l.parts + r.parts; rw [c1, c2]⟩
theorem abc_at (n : Nat) : ∃ c, atI (Str.ofString "abc").cps.toList ((n : Int) % 3) = some c ∧ (⟨#[c]⟩ : Str) = (if n % 3 = 0 then Str.ofString "a" else if n % 3 = 1 then Str.ofString "b" else Str.ofString "c") := by
  have h : n % 3 = 0 ∨ n % 3 = 1 ∨ n % 3 = 2 := by omega
  rcases h with h | h | h
  · rw [show (n : Int) % 3 = 0 by omega, h]; exact ⟨97, by decide +kernel, by decide +kernel⟩
  · rw [show (n : Int) % 3 = 1 by omega, h]; exact ⟨98, by decide +kernel, by decide +kernel⟩
  · rw [show (n : Int) % 3 = 2 by omega, h]; exact ⟨99, by decide +kernel, by decide +kernel⟩
theorem pair_not_few : ∀ w ∈ PAIRW, w ≠ "number" ∧ w ≠ "box" := by decide +kernel
theorem pair_not_cell : ∀ w ∈ PAIRW, w ≠ "cell" := by decide +kernel
theorem keepX_put {H : Hp} {a : Addr} (o : HO) : KeepX a H (upd H a o) := fun b u nb h => by rw [upd_ne nb]; exact h
theorem tupK_keep {H H' : Hp} {a : Addr} {xs : List V} (h : H a = some (.lst xs)) (k : KeepX a H H') : TupK H H' := fun t ys e => k _ _ (fun q => by rw [q, h] at e; cases e) e
theorem TabN_keep {T : List NdefX.NTab} {H H' : Hp} {a : Addr} {xs : List V} (t : NdefX.TabsN T H) (k : KeepX a H H') (ha : H a = some (.lst xs)) : NdefX.TabsN T H' := fun p hp => by
  obtain ⟨ps, h1, h2, h3⟩ := t p hp
  refine ⟨ps, k _ _ (fun e => by rw [e, ha] at h1; cases h1) h1, h2, fun pos cv hc => ?_⟩
  obtain ⟨c, e1, e2⟩ := h3 pos cv hc
  exact ⟨c, e1, k _ _ (fun e => by rw [e, ha] at e2; cases e2) e2⟩
def InsK (H H' : Hp) : Prop := ∀ t C dx fs, H t = some (.ins C dx fs) → H' t = some (.ins C dx fs)
theorem InsK.trans {H H1 H2 : Hp} (a : InsK H H1) (b : InsK H1 H2) : InsK H H2 := fun t C dx fs h => b _ _ _ _ (a _ _ _ _ h)
theorem insK_keep {H H' : Hp} {a : Addr} {xs : List V} (h : H a = some (.lst xs)) (k : KeepX a H H') : InsK H H' := fun t C dx fs e => k _ _ (fun q => by rw [q, h] at e; cases e) e
theorem ObjE.keepI {c : EC} {H H' : Hp} (s : InsK H H') : ∀ {e : Ex} {v : V}, ObjE c H e v → ObjE c H' e v
  | .num n, v, ⟨p, dx, h1, h2⟩ => ⟨p, dx, h1, s _ _ _ _ h2⟩
  | .box n, v, ⟨p, dx, h1, h2⟩ => ⟨p, dx, h1, s _ _ _ _ h2⟩
  | .cell e, v, ⟨p, dx, i, h1, h2, h3⟩ => ⟨p, dx, i, h1, s _ _ _ _ h2, ObjE.keepI s h3⟩
  | .two w l r, v, ⟨p, dx, a, b, h1, h2, h3, h4⟩ => ⟨p, dx, a, b, h1, s _ _ _ _ h2, ObjE.keepI s h3, ObjE.keepI s h4⟩
/-- all that was tracked stands, but what is at p, and tables (they may grow) -/
def KeepN (p : Addr) (H H' : Hp) : Prop := ∀ b o, b ≠ p → H b = some o → (∀ ps, o ≠ .tbl ps) → H' b = some o
theorem KeepN.trans {p : Addr} {H H1 H2 : Hp} (a : KeepN p H H1) (b : KeepN p H1 H2) : KeepN p H H2 := fun c o n h t => b c o n (a c o n h t) t
theorem keepN_x {p : Addr} {H H' : Hp} (k : KeepX p H H') : KeepN p H H' := fun b o n h _ => k b o n h
theorem keepN_e {p : Addr} {H H' : Hp} (k : LamX.ExtN H H') : KeepN p H H' := fun b o _ h t => k b o h t
theorem KeepN.seq {K : PySem.W.Frag} {H H' : Hp} {p a : Addr} {xs : List V} (k : KeepN p H H') (n : H p = none) (h : SqL K H a xs) : SqL K H' a xs := by
  rcases h with (h | ⟨o, h⟩) | h
  · exact .inl (.inl (k _ _ (ne_of_none h n) h fun _ q => by cases q))
  · exact .inl (.inr ⟨o, k _ _ (ne_of_none h n) h fun _ q => by cases q⟩)
  · exact .inr h
/-! ### promises -/
def spLFew (K : PySem.W.Frag) (n : Nat) : Sp := fun vs H Q _ => ∃ (e : Ex) (v : V), vs = [v] ∧ ToldE K H e v ∧ e.Wf ∧ e.depth ≤ n ∧ ∀ r H', Same H H' → ToldE K H' e.few r → Q r H'
def SaltOk (s : Int) : Prop := 0 ≤ s ∧ s < 1000003
theorem tl_at (s : Str) (i : Nat) : (tl s)[i]? = s.cps[i]? := by simp [tl]
theorem tl_size (s : Str) : (tl s).length = s.cps.size := by simp [tl]
theorem heldV_at (n : Int) : atI [V.int 0, .int (n % 3), .int (n % 1000), .int (n % 1000000)] (n / 7 % 4) = some (.int (heldV n)) := by
  have h : n / 7 % 4 = 0 ∨ n / 7 % 4 = 1 ∨ n / 7 % 4 = 2 ∨ n / 7 % 4 = 3 := by omega
  unfold heldV
  rcases h with h | h | h | h <;> rw [h] <;> rfl
theorem bit_at (b : Bool) : atI [V.int 0, .int 1] (if b = true then 1 else 0) = some (.int (if b = true then 1 else 0)) := by cases b <;> rfl
theorem held_low {n : Int} (h : SaltOk n) : ∀ {cs : List Nat}, 0 ≤ heldN cs n ∧ heldN cs n < 1000003 := by
  intro cs
  induction cs generalizing n with
  | nil => exact h
  | cons c r ih => exact ih (n := (n * 131 + (idxN c : Int) + 1) % 1000003) ⟨Int.emod_nonneg _ (by decide), Int.emod_lt_of_pos _ (by decide)⟩
def spLHeld : Sp := fun vs H Q _ => ∃ (th : Th) (v : V) (salt : Int), vs = [v, .int salt] ∧ ThH H th v ∧ th.Wf ∧ SaltOk salt ∧ ∀ H', Same H H' → Q (.int (heldF th salt)) H'
def spLPair : Sp := fun vs H Q _ => ∃ (wd : Str) (a b : Int), vs = [.str wd, .int a, .int b] ∧ wd ∈ PAIRW ∧ IsVal a ∧ IsVal b ∧ ∀ H', Same H H' → Q (optV (bothO wd a b)) H'
def spLDue3 (K : PySem.W.Frag) (n : Nat) : Sp := fun vs H Q _ => ∃ (e : Ex) (v : V) (salt : Int) (a : Addr) (ths : List Th) (xs : List V), vs = [v, .int salt, .ref a] ∧ ToldE K H e v ∧ e.Wf ∧ e.depth ≤ n ∧ e.parts + ths.length ≤ 1000 ∧ SaltOk salt ∧ H a = some (.lst xs) ∧ SeenH H ths xs ∧
  ∀ ys H', KeepX a H H' → H' a = some (.lst ys) → SeenH H' (ev (lkS salt) e ths).2 ys → Q (optV (ev (lkS salt) e ths).1) H'
def spLook (_ _ : Addr) (ws : List (Option V)) : Sp := fun vs H Q _ => ∃ (al : Addr) (salt : Int) (th : Th) (t : V) (xs : List V), ws = [some (.ref al), some (.int salt)] ∧ vs = [t] ∧ ThH H th t ∧ th.Wf ∧ SaltOk salt ∧ H al = some (.lst xs) ∧ xs.length < 100000 ∧
  ∀ H', KeepX al H H' → H' al = some (.lst (xs ++ [t])) → Q (.int (heldF th salt)) H'
/-- the list looked at, as it stands while reckon runs -/
def RL (al : Addr) (HB : Hp) (n : Nat) (ths : List Th) (H : Hp) : Prop := KeepX al HB H ∧ ∃ xs, H al = some (.lst xs) ∧ SeenH H ths xs ∧ ths.length + n ≤ 1000
def HLess (al : Addr) (H : Hp) : Hp := fun b => if b = al then none else H b
section
open NdefX LamX KL
variable {f al c1 c2 : Addr} {F : NF} {cs : Cs} {H2 : Hp} {salt : Int} {xs0 : List V}
theorem gn_of (hal : H2 al = some (.lst xs0)) (hf : H2 f = some (FnO f F)) (hc : H2 F.c = some (CodeO F.c F.qual)) (hcs : ∀ c o, cs.lookup c = some o → H2 c = none) {H : Hp} (k : KeepX al (frzC cs H2) H) : GN f F cs H := by
  have nn : ∀ {b : Addr} {u : HO}, H2 b = some u → cs.lookup b = none := fun {b u} e => by
    cases q : cs.lookup b with
    | none => rfl
    | some o => rw [hcs b o q] at e; cases e
  refine ⟨k _ _ (fun e => ?_) ((frz_none (nn hf)).trans hf), k _ _ (fun e => ?_) ((frz_none (nn hc)).trans hc), fun c o h => k _ _ (fun e => ?_) (frz_some h)⟩
  · rw [e, hal] at hf; unfold FnO at hf; cases hf
  · rw [e, hal] at hc; unfold CodeO at hc; cases hc
  · rw [e] at h
    rw [nn hal] at h; cases h
theorem tupK_thw {H : Hp} (c : CsAt cs H) : TupK H (thwC cs H) := fun t xs e => (thw_none (csAt_none c e (fun o q => by cases q))).trans e
theorem lkS_ok (hal : H2 al = some (.lst xs0)) (hf : H2 f = some (FnO f F)) (hc : H2 F.c = some (CodeO F.c F.qual)) (hcs : ∀ c o, cs.lookup c = some o → H2 c = none) (hs : SaltOk salt) :
    LkOk (lkS salt) (RL al (frzC cs H2)) (HLess al (frzC cs H2)) (GN f F cs) (fun vs H Q E => spLook c1 c2 [some (.ref al), some (.int salt)] vs (thwC cs H) (fun v H' => Q v (frzC cs H')) E) := by
  have nal : cs.lookup al = none := by
    cases q : cs.lookup al with
    | none => rfl
    | some o => rw [hcs al o q] at hal; cases hal
  refine ⟨fun n s H r b o h => ?_, fun n s H r => gn_of hal hf hc hcs r.1, fun n s H H' r k => ?_, fun m n s H hm r => ?_, fun th s => lkS_val salt th s, fun n s H th t Q r ht hw q => ?_⟩
  · unfold HLess at h
    by_cases e : b = al
    · rw [if_pos e] at h; cases h
    · rw [if_neg e] at h; exact r.1 _ _ e h
  · obtain ⟨k1, xs, h1, h2, h3⟩ := r
    exact ⟨k1.trans (keepX_of k), xs, k _ _ h1, h2.keep (tupK_same k), h3⟩
  · obtain ⟨k1, xs, h1, h2, h3⟩ := r
    exact ⟨k1, xs, h1, h2, by omega⟩
  · obtain ⟨k1, xs, h1, h2, h3⟩ := r
    have g := gn_of hal hf hc hcs k1
    have ca : CsAt cs H := g.2.2
    have kt := tupK_thw ca
    have ha1 : thwC cs H al = some (.lst xs) := (thw_none nal).trans h1
    have hl := h2.length
    refine ⟨al, salt, th, t, xs, rfl, rfl, ht.keep kt, hw, hs, ha1, by omega, fun H' k' ha' => q _ ?_⟩
    have kt2 : TupK (thwC cs H) (frzC cs H') := fun b ys e => by
      cases z : cs.lookup b with
      | some o => rw [thw_some z] at e; cases e
      | none => rw [frz_none z]; exact k' _ _ (fun u => by rw [u, ha1] at e; cases e) e
    refine ⟨fun b o nb h => ?_, _, (frz_none nal).trans ha', ((h2.keep kt).keep kt2).snoc ((ht.keep kt).keep kt2), ?_⟩
    · cases z : cs.lookup b with
      | some oc => rw [frz_some z] at h ⊢; exact h
      | none =>
        rw [frz_none z]
        have := k1 _ _ nb h
        exact k' _ _ nb ((thw_none z).trans this)
    · show (s ++ [th]).length + n ≤ 1000
      rw [List.length_append]
      show s.length + 1 + n ≤ 1000
      omega
end
theorem clo_fr {cells : List (Str × Addr)} {names : List (Str × NameKind)} {fr : List Str} (h : (names.all fun y => !decide (y.2 = .free) || decide (y.1 ∈ fr)) = true) : ∀ y c, (cloFrom cells names []).lookup y = some c → y ∈ fr := fun y c e => by
  rcases cloFrom_mem (PySem.mem_of_lookup e) with hm | ⟨h1, _⟩
  · cases hm
  · have := List.all_eq_true.mp h _ h1
    simpa using this
def spLRight3 (K : PySem.W.Frag) (c : EC) (T : List NdefX.NTab) : Sp := fun vs H Q _ => ∃ (e : Ex) (x v : V) (salt : Int), vs = [x, v, .int salt] ∧ ObjE c H e x ∧ ToldE K H e v ∧ e.Wf ∧ e.depth ≤ 6 ∧ e.parts ≤ 15 ∧ 0 ≤ salt ∧ salt < 1000 ∧ NdefX.TabsN T H ∧
  ∀ H', LamX.ExtN H H' → NdefX.TabsN T H' → Q (.bl true) H'

def spLaw (K : PySem.W.Frag) (T : List NdefX.NTab) : Sp := fun vs H Q _ => ∃ (a : Addr) (ns : List Int), vs = [.ref a] ∧ SqL K H a (ns.map V.int) ∧ ns.length ≤ 63 ∧ NdefX.TabsN T H ∧ ∀ H', Q (.bl true) H'

end K03
namespace K03
open PySem L2 TL
def top (i : Nat) : Stmt := PySem.Challenge.pw_hadbeen_k03_expressions_reckoned.main.body.getD i (.Pass ⟨0, 0, 0, 0⟩)
abbrev s_is_name : Stmt := top 13
abbrev s_is_value_word : Stmt := top 14
abbrev s_Number_init : Stmt := inClass (top 16) 0
abbrev s_Box_init : Stmt := inClass (top 17) 0
abbrev s_Cell_init : Stmt := inClass (top 18) 0
abbrev s_Two_init : Stmt := inClass (top 20) 0
abbrev s_both : Stmt := top 19
abbrev s_Number_reckon : Stmt := inClass (top 16) 3
abbrev s_Box_reckon : Stmt := inClass (top 17) 3
abbrev s_Cell_reckon : Stmt := inClass (top 18) 3
abbrev s_Two_reckon : Stmt := inClass (top 20) 3
abbrev s_Expr_parts : Stmt := inClass (top 15) 3
abbrev s_Cell_parts : Stmt := inClass (top 18) 4
abbrev s_Two_parts : Stmt := inClass (top 20) 4
abbrev s_expr_at : Stmt := top 21
abbrev s_exprs_of : Stmt := top 22
abbrev s_read_expr : Stmt := top 23
abbrev s_l_cell : Stmt := top 25
abbrev s_l_mixed : Stmt := top 26
abbrev s_l_twice : Stmt := top 27
abbrev s_l_well : Stmt := top 28
abbrev s_l_draw : Stmt := top 29
abbrev s_l_value : Stmt := top 30
abbrev s_l_name : Stmt := top 31
abbrev s_l_parts : Stmt := top 32
abbrev s_l_expr : Stmt := top 33
abbrev s_l_words_of : Stmt := top 34
abbrev s_l_few : Stmt := top 35
abbrev s_l_held : Stmt := top 36
abbrev s_l_pair : Stmt := top 37
abbrev s_l_due : Stmt := top 38
abbrev s_l_right : Stmt := top 39
abbrev s_law : Stmt := top 40
abbrev N_is_name : List Str := ["thing", "sign"]
theorem sc_is_name : FnScope ["thing", "sign"] ["thing"] (defScope s_is_name) := ⟨rfl, rfl, rfl, by decide +kernel, rfl, by decide +kernel, by decide +kernel⟩
abbrev N_is_value_word : List Str := ["word", "sign"]
theorem sc_is_value_word : FnScope ["word", "sign"] ["word"] (defScope s_is_value_word) := ⟨rfl, rfl, rfl, by decide +kernel, rfl, by decide +kernel, by decide +kernel⟩
abbrev N_Number_init : List Str := ["self", "value"]
theorem sc_Number_init : FnScope ["self", "value"] ["self", "value"] (defScope s_Number_init) := ⟨rfl, rfl, rfl, by decide +kernel, rfl, by decide +kernel, by decide +kernel⟩
abbrev N_Box_init : List Str := ["self", "name"]
theorem sc_Box_init : FnScope ["self", "name"] ["self", "name"] (defScope s_Box_init) := ⟨rfl, rfl, rfl, by decide +kernel, rfl, by decide +kernel, by decide +kernel⟩
abbrev N_Cell_init : List Str := ["self", "inner"]
theorem sc_Cell_init : FnScope ["self", "inner"] ["self", "inner"] (defScope s_Cell_init) := ⟨rfl, rfl, rfl, by decide +kernel, rfl, by decide +kernel, by decide +kernel⟩
abbrev N_Two_init : List Str := ["self", "word", "left", "right"]
theorem sc_Two_init : FnScope ["self", "word", "left", "right"] ["self", "word", "left", "right"] (defScope s_Two_init) := ⟨rfl, rfl, rfl, by decide +kernel, rfl, by decide +kernel, by decide +kernel⟩
abbrev N_both : List Str := ["word", "one", "other"]
theorem sc_both : FnScope ["word", "one", "other"] ["word", "one", "other"] (defScope s_both) := ⟨rfl, rfl, rfl, by decide +kernel, rfl, by decide +kernel, by decide +kernel⟩
abbrev N_Number_reckon : List Str := ["self", "look"]
theorem sc_Number_reckon : FnScope ["self", "look"] ["self", "look"] (defScope s_Number_reckon) := ⟨rfl, rfl, rfl, by decide +kernel, rfl, by decide +kernel, by decide +kernel⟩
abbrev N_Box_reckon : List Str := ["self", "look"]
theorem sc_Box_reckon : FnScope ["self", "look"] ["self", "look"] (defScope s_Box_reckon) := ⟨rfl, rfl, rfl, by decide +kernel, rfl, by decide +kernel, by decide +kernel⟩
abbrev N_Cell_reckon : List Str := ["self", "look", "number"]
theorem sc_Cell_reckon : FnScope ["self", "look", "number"] ["self", "look"] (defScope s_Cell_reckon) := ⟨rfl, rfl, rfl, by decide +kernel, rfl, by decide +kernel, by decide +kernel⟩
abbrev N_Two_reckon : List Str := ["self", "look", "one", "other"]
theorem sc_Two_reckon : FnScope ["self", "look", "one", "other"] ["self", "look"] (defScope s_Two_reckon) := ⟨rfl, rfl, rfl, by decide +kernel, rfl, by decide +kernel, by decide +kernel⟩
abbrev N_Expr_parts : List Str := ["self"]
theorem sc_Expr_parts : FnScope ["self"] ["self"] (defScope s_Expr_parts) := ⟨rfl, rfl, rfl, by decide +kernel, rfl, by decide +kernel, by decide +kernel⟩
abbrev N_Cell_parts : List Str := ["self"]
theorem sc_Cell_parts : FnScope ["self"] ["self"] (defScope s_Cell_parts) := ⟨rfl, rfl, rfl, by decide +kernel, rfl, by decide +kernel, by decide +kernel⟩
abbrev N_Two_parts : List Str := ["self"]
theorem sc_Two_parts : FnScope ["self"] ["self"] (defScope s_Two_parts) := ⟨rfl, rfl, rfl, by decide +kernel, rfl, by decide +kernel, by decide +kernel⟩
abbrev N_expr_at : List Str := ["row", "at", "deep", "word", "inner", "behind", "left", "middle", "right"]
theorem sc_expr_at : FnScope ["row", "at", "deep", "word", "inner", "behind", "left", "middle", "right"] ["row", "at", "deep"] (defScope s_expr_at) := ⟨rfl, rfl, rfl, by decide +kernel, rfl, by decide +kernel, by decide +kernel⟩
abbrev N_exprs_of : List Str := ["row", "found", "at", "one"]
theorem sc_exprs_of : FnScope ["row", "found", "at", "one"] ["row"] (defScope s_exprs_of) := ⟨rfl, rfl, rfl, by decide +kernel, rfl, by decide +kernel, by decide +kernel⟩
abbrev N_read_expr : List Str := ["text", "found"]
theorem sc_read_expr : FnScope ["text", "found"] ["text"] (defScope s_read_expr) := ⟨rfl, rfl, rfl, by decide +kernel, rfl, by decide +kernel, by decide +kernel⟩
abbrev N_l_cell : List Str := ["_law_script", "_law_k"]
theorem sc_l_cell : FnScope ["_law_script", "_law_k"] ["_law_script", "_law_k"] (defScope s_l_cell) := ⟨rfl, rfl, rfl, by decide +kernel, rfl, by decide +kernel, by decide +kernel⟩
abbrev N_l_mixed : List Str := ["_law_cell_here", "_law_k", "_law_number"]
theorem sc_l_mixed : FnScope ["_law_cell_here", "_law_k", "_law_number"] ["_law_cell_here", "_law_k"] (defScope s_l_mixed) := ⟨rfl, rfl, rfl, by decide +kernel, rfl, by decide +kernel, by decide +kernel⟩
abbrev N_l_twice : List Str := ["_law_cell_here", "_law_k", "_law_number"]
theorem sc_l_twice : FnScope ["_law_cell_here", "_law_k", "_law_number"] ["_law_cell_here", "_law_k"] (defScope s_l_twice) := ⟨rfl, rfl, rfl, by decide +kernel, rfl, by decide +kernel, by decide +kernel⟩
abbrev N_l_well : List Str := ["_law_script", "_law_k"]
theorem sc_l_well : FnScope ["_law_script", "_law_k"] ["_law_script", "_law_k"] (defScope s_l_well) := ⟨rfl, rfl, rfl, by decide +kernel, rfl, by decide +kernel, by decide +kernel⟩
abbrev N_l_draw : List Str := ["_law_well_here", "_law_most", "_law_number"]
theorem sc_l_draw : FnScope ["_law_well_here", "_law_most", "_law_number"] ["_law_well_here", "_law_most"] (defScope s_l_draw) := ⟨rfl, rfl, rfl, by decide +kernel, rfl, by decide +kernel, by decide +kernel⟩
abbrev N_l_value : List Str := ["_law_well_here", "_law_way"]
theorem sc_l_value : FnScope ["_law_well_here", "_law_way"] ["_law_well_here"] (defScope s_l_value) := ⟨rfl, rfl, rfl, by decide +kernel, rfl, by decide +kernel, by decide +kernel⟩
abbrev N_l_name : List Str := ["_law_well_here", "_law_some", "_law_name_here", "_law_k"]
theorem sc_l_name : FnScope ["_law_well_here", "_law_some", "_law_name_here", "_law_k"] ["_law_well_here"] (defScope s_l_name) := ⟨rfl, rfl, rfl, by decide +kernel, rfl, by decide +kernel, by decide +kernel⟩
abbrev N_l_parts : List Str := ["_law_told", "_law_one"]
theorem sc_l_parts : FnScope ["_law_told", "_law_one"] ["_law_told"] (defScope s_l_parts) := ⟨rfl, rfl, rfl, by decide +kernel, rfl, by decide +kernel, by decide +kernel⟩
abbrev N_l_expr : List Str := ["_law_well_here", "_law_deep", "_law_most", "_law_way", "_law_word", "_law_left"]
theorem sc_l_expr : FnScope ["_law_well_here", "_law_deep", "_law_most", "_law_way", "_law_word", "_law_left"] ["_law_well_here", "_law_deep", "_law_most"] (defScope s_l_expr) := ⟨rfl, rfl, rfl, by decide +kernel, rfl, by decide +kernel, by decide +kernel⟩
abbrev N_l_words_of : List Str := ["_law_told", "_law_one"]
theorem sc_l_words_of : FnScope ["_law_told", "_law_one"] ["_law_told"] (defScope s_l_words_of) := ⟨rfl, rfl, rfl, by decide +kernel, rfl, by decide +kernel, by decide +kernel⟩
abbrev N_l_few : List Str := ["_law_told", "_law_one"]
theorem sc_l_few : FnScope ["_law_told", "_law_one"] ["_law_told"] (defScope s_l_few) := ⟨rfl, rfl, rfl, by decide +kernel, rfl, by decide +kernel, by decide +kernel⟩
abbrev N_l_held : List Str := ["_law_thing", "_law_salt", "_law_number", "_law_sign"]
theorem sc_l_held : FnScope ["_law_thing", "_law_salt", "_law_number", "_law_sign"] ["_law_thing", "_law_salt"] (defScope s_l_held) := ⟨rfl, rfl, rfl, by decide +kernel, rfl, by decide +kernel, by decide +kernel⟩
abbrev N_l_pair : List Str := ["_law_word", "_law_one", "_law_other"]
theorem sc_l_pair : FnScope ["_law_word", "_law_one", "_law_other"] ["_law_word", "_law_one", "_law_other"] (defScope s_l_pair) := ⟨rfl, rfl, rfl, by decide +kernel, rfl, by decide +kernel, by decide +kernel⟩
abbrev N_l_due : List Str := ["_law_told", "_law_salt", "_law_seen", "_law_one", "_law_other"]
theorem sc_l_due : FnScope ["_law_told", "_law_salt", "_law_seen", "_law_one", "_law_other"] ["_law_told", "_law_salt", "_law_seen"] (defScope s_l_due) := ⟨rfl, rfl, rfl, by decide +kernel, rfl, by decide +kernel, by decide +kernel⟩
abbrev N_l_right : List Str := ["_law_expr_here", "_law_told", "_law_salt", "_law_seen", "_law_look", "_law_due_here", "_law_found", "_law_looked"]
theorem sc_l_right : FnScope ["_law_expr_here", "_law_told", "_law_salt", "_law_seen", "_law_look", "_law_due_here", "_law_found", "_law_looked"] ["_law_expr_here", "_law_told", "_law_salt"] (defScope s_l_right) := ⟨rfl, rfl, rfl, by decide +kernel, rfl, by decide +kernel, by decide +kernel⟩
abbrev N_law : List Str := ["_law_script", "_law_well_here", "_law_k", "_law_told", "_law_expr_here", "_law_salts", "_law_salt"]
theorem sc_law : FnScope ["_law_script", "_law_well_here", "_law_k", "_law_told", "_law_expr_here", "_law_salts", "_law_salt"] ["_law_script"] (defScope s_law) := ⟨rfl, rfl, rfl, by decide +kernel, rfl, by decide +kernel, by decide +kernel⟩
abbrev sN_l_right_l_look : Stmt := (defBody s_l_right).getD 2 (.Pass ⟨0, 0, 0, 0⟩)
abbrev N_l_right_l_look : List Str := ["_law_thing", "_law_looked", "_law_salt"]
abbrev Q_l_right_l_look : Str := "_law_right" ++ ".<locals>." ++ "_law_look"
theorem sc_l_right_l_look : NdefX.NScope ["_law_thing", "_law_looked", "_law_salt"] ["_law_thing"] ["_law_looked", "_law_salt"] (C8.fnScope sN_l_right_l_look) := NdefX.nscope_by (by decide +kernel)
structure Ads where
  is_name : Addr
  is_name_d : FuncData
  is_value_word : Addr
  is_value_word_d : FuncData
  Number_init : Addr
  Number_init_d : FuncData
  Box_init : Addr
  Box_init_d : FuncData
  Cell_init : Addr
  Cell_init_d : FuncData
  Two_init : Addr
  Two_init_d : FuncData
  both : Addr
  both_d : FuncData
  Number_reckon : Addr
  Number_reckon_d : FuncData
  Box_reckon : Addr
  Box_reckon_d : FuncData
  Cell_reckon : Addr
  Cell_reckon_d : FuncData
  Two_reckon : Addr
  Two_reckon_d : FuncData
  Expr_parts : Addr
  Expr_parts_d : FuncData
  Cell_parts : Addr
  Cell_parts_d : FuncData
  Two_parts : Addr
  Two_parts_d : FuncData
  expr_at : Addr
  expr_at_d : FuncData
  exprs_of : Addr
  exprs_of_d : FuncData
  read_expr : Addr
  read_expr_d : FuncData
  l_cell : Addr
  l_cell_d : FuncData
  l_mixed : Addr
  l_mixed_d : FuncData
  l_twice : Addr
  l_twice_d : FuncData
  l_well : Addr
  l_well_d : FuncData
  l_draw : Addr
  l_draw_d : FuncData
  l_value : Addr
  l_value_d : FuncData
  l_name : Addr
  l_name_d : FuncData
  l_parts : Addr
  l_parts_d : FuncData
  l_expr : Addr
  l_expr_d : FuncData
  l_words_of : Addr
  l_words_of_d : FuncData
  l_few : Addr
  l_few_d : FuncData
  l_held : Addr
  l_held_d : FuncData
  l_pair : Addr
  l_pair_d : FuncData
  l_due : Addr
  l_due_d : FuncData
  l_right : Addr
  l_right_d : FuncData
  law : Addr
  law_d : FuncData
  c_l_right : Addr
  t_l_right : Addr
  Number : Addr
  Box : Addr
  Cell : Addr
  Two : Addr
  Expr : Addr
  PAIRS : Addr
  ROWS : Addr
  OTHERS : Addr
  NoProgram : Addr
structure Txt (K : PySem.W.Frag) (mg : Str → Option Value) (A : Ads) : Prop where
  F_is_name : Fun K "is_name" "is_name" s_is_name A.is_name A.is_name_d
  b_is_name : Binds K A.is_name_d ["thing"] []
  m_is_name : mg "is_name" = some (.ref A.is_name)
  F_is_value_word : Fun K "is_value_word" "is_value_word" s_is_value_word A.is_value_word A.is_value_word_d
  b_is_value_word : Binds K A.is_value_word_d ["word"] []
  m_is_value_word : mg "is_value_word" = some (.ref A.is_value_word)
  F_Number_init : Fun K "__init__" "Number.__init__" s_Number_init A.Number_init A.Number_init_d
  b_Number_init : Binds K A.Number_init_d ["self", "value"] []
  F_Box_init : Fun K "__init__" "Box.__init__" s_Box_init A.Box_init A.Box_init_d
  b_Box_init : Binds K A.Box_init_d ["self", "name"] []
  F_Cell_init : Fun K "__init__" "Cell.__init__" s_Cell_init A.Cell_init A.Cell_init_d
  b_Cell_init : Binds K A.Cell_init_d ["self", "inner"] []
  F_Two_init : Fun K "__init__" "Two.__init__" s_Two_init A.Two_init A.Two_init_d
  b_Two_init : Binds K A.Two_init_d ["self", "word", "left", "right"] []
  F_both : Fun K "both" "both" s_both A.both A.both_d
  b_both : Binds K A.both_d ["word", "one", "other"] []
  m_both : mg "both" = some (.ref A.both)
  F_Number_reckon : Fun K "reckon" "Number.reckon" s_Number_reckon A.Number_reckon A.Number_reckon_d
  b_Number_reckon : Binds K A.Number_reckon_d ["self", "look"] []
  F_Box_reckon : Fun K "reckon" "Box.reckon" s_Box_reckon A.Box_reckon A.Box_reckon_d
  b_Box_reckon : Binds K A.Box_reckon_d ["self", "look"] []
  F_Cell_reckon : Fun K "reckon" "Cell.reckon" s_Cell_reckon A.Cell_reckon A.Cell_reckon_d
  b_Cell_reckon : Binds K A.Cell_reckon_d ["self", "look"] []
  F_Two_reckon : Fun K "reckon" "Two.reckon" s_Two_reckon A.Two_reckon A.Two_reckon_d
  b_Two_reckon : Binds K A.Two_reckon_d ["self", "look"] []
  F_Expr_parts : Fun K "parts" "Expr.parts" s_Expr_parts A.Expr_parts A.Expr_parts_d
  b_Expr_parts : Binds K A.Expr_parts_d ["self"] []
  F_Cell_parts : Fun K "parts" "Cell.parts" s_Cell_parts A.Cell_parts A.Cell_parts_d
  b_Cell_parts : Binds K A.Cell_parts_d ["self"] []
  F_Two_parts : Fun K "parts" "Two.parts" s_Two_parts A.Two_parts A.Two_parts_d
  b_Two_parts : Binds K A.Two_parts_d ["self"] []
  F_expr_at : Fun K "expr_at" "expr_at" s_expr_at A.expr_at A.expr_at_d
  b_expr_at : Binds K A.expr_at_d ["row", "at", "deep"] []
  m_expr_at : mg "expr_at" = some (.ref A.expr_at)
  F_exprs_of : Fun K "exprs_of" "exprs_of" s_exprs_of A.exprs_of A.exprs_of_d
  b_exprs_of : Binds K A.exprs_of_d ["row"] []
  m_exprs_of : mg "exprs_of" = some (.ref A.exprs_of)
  F_read_expr : Fun K "read_expr" "read_expr" s_read_expr A.read_expr A.read_expr_d
  b_read_expr : Binds K A.read_expr_d ["text"] []
  m_read_expr : mg "read_expr" = some (.ref A.read_expr)
  F_l_cell : Fun K "_law_cell" "_law_cell" s_l_cell A.l_cell A.l_cell_d
  b_l_cell : Binds K A.l_cell_d ["_law_script", "_law_k"] []
  m_l_cell : mg "_law_cell" = some (.ref A.l_cell)
  F_l_mixed : Fun K "_law_mixed" "_law_mixed" s_l_mixed A.l_mixed A.l_mixed_d
  b_l_mixed : Binds K A.l_mixed_d ["_law_cell_here", "_law_k"] []
  m_l_mixed : mg "_law_mixed" = some (.ref A.l_mixed)
  F_l_twice : Fun K "_law_twice" "_law_twice" s_l_twice A.l_twice A.l_twice_d
  b_l_twice : Binds K A.l_twice_d ["_law_cell_here", "_law_k"] []
  m_l_twice : mg "_law_twice" = some (.ref A.l_twice)
  F_l_well : Fun K "_law_well" "_law_well" s_l_well A.l_well A.l_well_d
  b_l_well : Binds K A.l_well_d ["_law_script", "_law_k"] []
  m_l_well : mg "_law_well" = some (.ref A.l_well)
  F_l_draw : Fun K "_law_draw" "_law_draw" s_l_draw A.l_draw A.l_draw_d
  b_l_draw : Binds K A.l_draw_d ["_law_well_here", "_law_most"] []
  m_l_draw : mg "_law_draw" = some (.ref A.l_draw)
  F_l_value : Fun K "_law_value" "_law_value" s_l_value A.l_value A.l_value_d
  b_l_value : Binds K A.l_value_d ["_law_well_here"] []
  m_l_value : mg "_law_value" = some (.ref A.l_value)
  F_l_name : Fun K "_law_name" "_law_name" s_l_name A.l_name A.l_name_d
  b_l_name : Binds K A.l_name_d ["_law_well_here"] []
  m_l_name : mg "_law_name" = some (.ref A.l_name)
  F_l_parts : Fun K "_law_parts" "_law_parts" s_l_parts A.l_parts A.l_parts_d
  b_l_parts : Binds K A.l_parts_d ["_law_told"] []
  m_l_parts : mg "_law_parts" = some (.ref A.l_parts)
  F_l_expr : Fun K "_law_expr" "_law_expr" s_l_expr A.l_expr A.l_expr_d
  b_l_expr : Binds K A.l_expr_d ["_law_well_here", "_law_deep", "_law_most"] []
  m_l_expr : mg "_law_expr" = some (.ref A.l_expr)
  F_l_words_of : Fun K "_law_words_of" "_law_words_of" s_l_words_of A.l_words_of A.l_words_of_d
  b_l_words_of : Binds K A.l_words_of_d ["_law_told"] []
  m_l_words_of : mg "_law_words_of" = some (.ref A.l_words_of)
  F_l_few : Fun K "_law_few" "_law_few" s_l_few A.l_few A.l_few_d
  b_l_few : Binds K A.l_few_d ["_law_told"] []
  m_l_few : mg "_law_few" = some (.ref A.l_few)
  F_l_held : Fun K "_law_held" "_law_held" s_l_held A.l_held A.l_held_d
  b_l_held : Binds K A.l_held_d ["_law_thing", "_law_salt"] []
  m_l_held : mg "_law_held" = some (.ref A.l_held)
  F_l_pair : Fun K "_law_pair" "_law_pair" s_l_pair A.l_pair A.l_pair_d
  b_l_pair : Binds K A.l_pair_d ["_law_word", "_law_one", "_law_other"] []
  m_l_pair : mg "_law_pair" = some (.ref A.l_pair)
  F_l_due : Fun K "_law_due" "_law_due" s_l_due A.l_due A.l_due_d
  b_l_due : Binds K A.l_due_d ["_law_told", "_law_salt", "_law_seen"] []
  m_l_due : mg "_law_due" = some (.ref A.l_due)
  F_l_right : Fun K "_law_right" "_law_right" s_l_right A.l_right A.l_right_d
  b_l_right : Binds K A.l_right_d ["_law_expr_here", "_law_told", "_law_salt"] []
  m_l_right : mg "_law_right" = some (.ref A.l_right)
  F_law : Fun K "law" "law" s_law A.law A.law_d
  b_law : Binds K A.law_d ["_law_script"] []
  m_law : mg "law" = some (.ref A.law)
  cd_l_right : A.l_right_d.code = .ref A.c_l_right
  m_Number : mg "Number" = some (.ref A.Number)
  cl_Number : Cls K A.Number
  mk_Number : PySem.W.makesIn K A.Number = true
  n_Number_value : NoAttr K A.Number "value"
  k_Number : Mk K A.Number A.Number_init
  m_Box : mg "Box" = some (.ref A.Box)
  cl_Box : Cls K A.Box
  mk_Box : PySem.W.makesIn K A.Box = true
  n_Box_name : NoAttr K A.Box "name"
  k_Box : Mk K A.Box A.Box_init
  m_Cell : mg "Cell" = some (.ref A.Cell)
  cl_Cell : Cls K A.Cell
  mk_Cell : PySem.W.makesIn K A.Cell = true
  n_Cell_inner : NoAttr K A.Cell "inner"
  k_Cell : Mk K A.Cell A.Cell_init
  m_Two : mg "Two" = some (.ref A.Two)
  cl_Two : Cls K A.Two
  mk_Two : PySem.W.makesIn K A.Two = true
  n_Two_word : NoAttr K A.Two "word"
  n_Two_left : NoAttr K A.Two "left"
  n_Two_right : NoAttr K A.Two "right"
  k_Two : Mk K A.Two A.Two_init
  m_Expr : mg "Expr" = some (.ref A.Expr)
  cl_Expr : Cls K A.Expr
  mk_Expr : PySem.W.makesIn K A.Expr = true
  me_Number_reckon : Meth K A.Number "reckon" A.Number_reckon
  me_Box_reckon : Meth K A.Box "reckon" A.Box_reckon
  me_Cell_reckon : Meth K A.Cell "reckon" A.Cell_reckon
  me_Two_reckon : Meth K A.Two "reckon" A.Two_reckon
  me_Number_parts : Meth K A.Number "parts" A.Expr_parts
  me_Box_parts : Meth K A.Box "parts" A.Expr_parts
  me_Cell_parts : Meth K A.Cell "parts" A.Cell_parts
  me_Two_parts : Meth K A.Two "parts" A.Two_parts
  m_PAIRS : mg "PAIRS" = some (.ref A.PAIRS)
  q_PAIRS : ∀ H, SqT K H A.PAIRS [V.str "plus", V.str "minus", V.str "times", V.str "over", V.str "rest", V.str "less", V.str "same"]
  m_ROWS : mg "ROWS" = some (.ref A.ROWS)
  q_ROWS : ∀ H, SqT K H A.ROWS [V.str "skip", V.str "set", V.str "put", V.str "ask", V.str "draw", V.str "tell", V.str "if", V.str "while", V.str "call"]
  m_OTHERS : mg "OTHERS" = some (.ref A.OTHERS)
  q_OTHERS : ∀ H, SqT K H A.OTHERS [V.str "else", V.str "end", V.str "fun", V.str "main", V.str "give", V.str "cell"]
  m_NoProgram : mg "NoProgram" = some (.ref A.NoProgram)
  x_NoProgram : PySem.W.excIn K A.NoProgram [.type "ValueError", .type "Exception", .type "BaseException", .type "object"] "ValueError.__new__" = true
  kk_NoProgram : PySem.W.keepIn K (.ref A.NoProgram) = true
  bb_NoProgram : PySem.W.subIn K (.ref A.NoProgram) (.type "BaseException") = some true
  tt_NoProgram : PySem.W.typeIn K (.ref A.NoProgram) = some (.type "type")
  ne_num_box : A.Number ≠ A.Box
  ne_num_cell : A.Number ≠ A.Cell
  ne_num_two : A.Number ≠ A.Two
  ne_box_num : A.Box ≠ A.Number
  ne_box_cell : A.Box ≠ A.Cell
  ne_box_two : A.Box ≠ A.Two
  ne_cell_num : A.Cell ≠ A.Number
  ne_cell_box : A.Cell ≠ A.Box
  ne_cell_two : A.Cell ≠ A.Two
  ne_two_num : A.Two ≠ A.Number
  ne_two_box : A.Two ≠ A.Box
  ne_two_cell : A.Two ≠ A.Cell
  c_LETTERS : ∃ t, mg "LETTERS" = some (.str "abcdefghijklmnopqrstuvwxyz" t)
  c_FIGURES : ∃ t, mg "FIGURES" = some (.str "0123456789" t)
  c_LIMIT : ∃ t, mg "LIMIT" = some (.int 1000000 t)
  c_MOST_DEEP : ∃ t, mg "MOST_DEEP" = some (.int 6 t)
  c_MOST_PARTS : ∃ t, mg "MOST_PARTS" = some (.int 15 t)
  z_str : mg "str" = none
  z_isinstance : mg "isinstance" = none
  z_len : mg "len" = none
  z_all : mg "all" = none
  z_int : mg "int" = none
  z_range : mg "range" = none
  z_sum : mg "sum" = none
  z_tuple : mg "tuple" = none
  z_bool : mg "bool" = none
structure Cod (base : Heap) (mg : Str → Option Value) (A : Ads) : Prop where
  tb_l_right : LamX.TabB base mg A.c_l_right A.t_l_right
abbrev Ads.ec (A : Ads) : EC := ⟨A.Number, A.Box, A.Cell, A.Two⟩
end K03
open PySem L2 TL

local macro_rules | `(tactic| walk_at "rd") => `(tactic| repeat (first
  | refine ⟨_, rfl, ?_⟩
  | refine ⟨_, _, rfl, rfl, ?_⟩
  | refine ⟨Or.inl ⟨by decide, by decide⟩, ?_⟩
  | refine ⟨Or.inr ⟨by decide, by decide⟩, ?_⟩
  | refine ⟨(⟨by decide, by decide⟩ : CDiv _ _), ?_⟩
  | refine ⟨(⟨by decide, by decide, by decide⟩ : CPow _ _), ?_⟩
  | refine ⟨(by show (0 : Int) < _; decide), ?_⟩
  | refine ⟨K03.mod64, ?_⟩))
namespace K03
open PySem L2 TL
section
variable {P : Program} {w : World} {K : PySem.W.Frag} {mg : Str → Option Value} {base : Heap} {A : Ads}
theorem ok_is_name (T : Txt K mg A) : FnOk P w K mg base CX0 1 A.is_name A.is_name_d ["thing"] (spTruthS isNameW) := by
  refine T.F_is_name.ok sc_is_name (fun vs H Q E h => ?_) (fun cdv A0 outer s H vs Q E hr h => ?_)
  · obtain ⟨s, rfl, hl, q⟩ := h
    rfl
  obtain ⟨s, rfl, hl, q⟩ := h
  refine ⟨_, (pss_cons (ps_if (PW.pt (pw_or (pt_not (pt_val (pe_callB call_isi (by rfl) T.z_isinstance (by decide +kernel) (pa_cons (pv 0) (pa_cons (pe_bltn (v := .ty "str") (by rfl) T.z_str (by decide +kernel) rfl) pa_nil))))) (pw_or1 (pt_not (pt_chain op_le op_le pe_int (pe_callB call_len_str (by rfl) T.z_len (by decide +kernel) (pa_cons (pv 0) pa_nil)) pe_int)))))
    (pss_one (ps_ret pe_bl))
    pss_nil)
   (pss_cons (ps_if (PW.pt (pw_or (pt_cmpR op_in_seq (pv 0) (pe_glob (v := .ref A.PAIRS) (by rfl) T.m_PAIRS rfl) (by rfl)) (pw_or (pt_cmpR op_in_seq (pv 0) (pe_glob (v := .ref A.ROWS) (by rfl) T.m_ROWS rfl) (by rfl)) (pw_or1 (pt_cmpR op_in_seq (pv 0) (pe_glob (v := .ref A.OTHERS) (by rfl) T.m_OTHERS rfl) (by rfl))))))
    (pss_one (ps_ret pe_bl))
    pss_nil)
   (pss_one (ps_ret (pe_callB (cr_all rfl) (by rfl) T.z_all (by decide +kernel) (pa_cons (pe_lc (own := [("sign", 1)]) (g := gName 1) (tt := tYes) rfl sc_is_name.nd (pi_str (pv 0)) (blkOk_by (own := [("sign", 1)]) (N := N_is_name) (sc := defScope s_is_name) (by decide +kernel)) (fun _ _ _ _ _ => pg_name (i := 1) sc_is_name.nd rfl (Or.inl rfl)) (fun _ _ _ _ _ => pts_nil) (fun _ _ _ _ _ => (pe_cmpR op_in_sign (pv 1) (pe_glob (v := .str "abcdefghijklmnopqrstuvwxyz") (by rfl) T.c_LETTERS.choose_spec ⟨_, rfl⟩) rfl))) pa_nil)))))), ?_⟩
  have hs : s.length = (tl s).length := len_tl s
  refine ⟨_, rfl, _, _, _, _, true, rfl, .ty _, .base (.str _), kit_ty (by decide +kernel), _, rfl, iteF ?_⟩
  refine ⟨_, rfl, _, rfl, len_line hl, _, _, rfl, rfl, _, rfl, ?_⟩
  refine iteD2 (fun c1 => ?_) (fun c1 => ?_)
  · refine ⟨_, _, rfl, rfl, _, rfl, iteN2 (fun c2 => ?_) (fun c2 => ?_)⟩
    · refine (nameW_false1 (s := s) (Or.inr ?_)) ▸ q _ (Same.refl H)
      omega
    · refine ⟨_, rfl, A.PAIRS, PAIRW.map V.str, rfl, .inr (T.q_PAIRS _), rfl, rfl, _, rfl, ?_⟩
      rw [if_neg Bool.false_ne_true, inV_str]
      refine iteD2 (fun c3 => (nameW_false2 (s := s) (.inl c3)) ▸ q _ (Same.refl H)) (fun c3 => ?_)
      refine ⟨_, rfl, A.ROWS, ROWW.map V.str, rfl, .inr (T.q_ROWS _), rfl, rfl, _, rfl, ?_⟩
      rw [if_neg Bool.false_ne_true, inV_str]
      refine iteD2 (fun c4 => (nameW_false2 (s := s) (.inr (.inl c4))) ▸ q _ (Same.refl H)) (fun c4 => ?_)
      refine ⟨_, rfl, A.OTHERS, OTHW.map V.str, rfl, .inr (T.q_OTHERS _), rfl, rfl, _, rfl, ?_⟩
      rw [if_neg Bool.false_ne_true, inV_str]
      refine iteD2 (fun c5 => (nameW_false2 (s := s) (.inr (.inr c5))) ▸ q _ (Same.refl H)) (fun c5 => ?_)
      exact rd_all (f := isLow) rfl (by show 1 < 2; decide) (by decide) (by omega) let_mem fun H' s' => (nameW_true (s := s) (by omega) (by omega) c3 c4 c5) ▸ q H' s'
  · refine ⟨_, rfl, iteT ?_⟩
    refine (nameW_false1 (s := s) (Or.inl ?_)) ▸ q _ (Same.refl H)
    omega

theorem ok_is_value_word (T : Txt K mg A) : FnOk P w K mg base CX0 1 A.is_value_word A.is_value_word_d ["word"] (spTruthS isValW) := by
  refine T.F_is_value_word.ok sc_is_value_word (fun vs H Q E h => ?_) (fun cdv A0 outer s H vs Q E hr h => ?_)
  · obtain ⟨s, rfl, hl, q⟩ := h
    rfl
  obtain ⟨s, rfl, hl, q⟩ := h
  refine ⟨_, (pss_cons (ps_if (PW.pt (pw_or (pt_not (pt_chain op_le op_le pe_int (pe_callB call_len_str (by rfl) T.z_len (by decide +kernel) (pa_cons (pv 0) pa_nil)) pe_int)) (pw_or1 (PW.pt (pw_and (pt_cmpR op_eq (pe_ix ix_str (pv 0) pe_int (fun _ _ => rfl)) pe_str (nomark _)) (pw_and1 (pt_cmpR op_ne (pv 0) pe_str (nomark _))))))))
    (pss_one (ps_ret pe_bl))
    pss_nil)
   (pss_one (ps_ret (pe_callB (cr_all rfl) (by rfl) T.z_all (by decide +kernel) (pa_cons (pe_lc (own := [("sign", 1)]) (g := gName 1) (tt := tYes) rfl sc_is_value_word.nd (pi_str (pv 0)) (blkOk_by (own := [("sign", 1)]) (N := N_is_value_word) (sc := defScope s_is_value_word) (by decide +kernel)) (fun _ _ _ _ _ => pg_name (i := 1) sc_is_value_word.nd rfl (Or.inl rfl)) (fun _ _ _ _ _ => pts_nil) (fun _ _ _ _ _ => (pe_cmpR op_in_sign (pv 1) (pe_glob (v := .str "0123456789") (by rfl) T.c_FIGURES.choose_spec ⟨_, rfl⟩) rfl))) pa_nil))))), ?_⟩
  have hs : s.length = (tl s).length := len_tl s
  refine ⟨_, rfl, _, rfl, len_line hl, _, _, rfl, rfl, _, rfl, ?_⟩
  refine iteD2 (fun c1 => ?_) (fun c1 => ?_)
  · refine ⟨_, _, rfl, rfl, _, rfl, iteN2 (fun c2 => ?_) (fun c2 => ?_)⟩
    · refine (valW_false1 (s := s) (Or.inr ?_)) ▸ q _ (Same.refl H)
      omega
    · have h6 : (tl s).length ≤ 6 ∧ 1 ≤ (tl s).length := by omega
      obtain ⟨c, r, hc⟩ : ∃ c r, tl s = c :: r := by
        cases e : tl s with
        | nil => rw [e] at h6; simp at h6
        | cons c r => exact ⟨c, r, rfl⟩
      refine ⟨_, rfl, s, 0, c, rfl, rfl, len_line hl, (by show atI (tl s) ((0 : Nat) : Int) = some c; rw [hc]; exact atI_nat rfl), rfl, _, rfl, ?_⟩
      refine iteD2 (fun c3 => ?_) (fun c3 => ?_)
      · refine ⟨_, rfl, rfl, _, rfl, iteN2 (fun c4 => ?_) (fun c4 => ?_)⟩
        · refine (valW_false2 (s := s) ?_ (fun e => c4 (congrArg V.str e))) ▸ q _ (Same.refl H)
          rw [hc]
          have := congrArg tl (V.str.inj c3)
          have z : tl (Str.ofString "0") = [48] := by decide +kernel
          rw [z] at this
          have e2 : [c] = [48] := this
          rw [List.cons.injEq] at e2
          rw [e2.1]; rfl
        · exact rd_all (f := isDig) rfl (by show 1 < 2; decide) (by decide) (by omega) fig_mem fun H' s' => (valW_true (s := s) h6.2 h6.1 (fun _ => V.str.inj c4)) ▸ q H' s'
      · refine rd_all (f := isDig) rfl (by show 1 < 2; decide) (by decide) (by omega) fig_mem fun H' s' => (valW_true (s := s) h6.2 h6.1 (fun e => ?_)) ▸ q H' s'
        rw [hc, List.head?_cons] at e
        refine absurd (congrArg V.str ?_) c3
        refine ext_tl ?_
        have z : tl (Str.ofString "0") = [48] := by decide +kernel
        rw [z, Option.some.inj e]
  · refine ⟨_, rfl, iteT ?_⟩
    refine (valW_false1 (s := s) (Or.inl ?_)) ▸ q _ (Same.refl H)
    omega

end
end K03
namespace K03
open PySem L2 TL
section
variable {P : Program} {w : World} {K : PySem.W.Frag} {mg : Str → Option Value} {base : Heap} {A : Ads}
theorem ok_Number_init (T : Txt K mg A) : FnOk P w K mg base CX0 1 A.Number_init A.Number_init_d ["self", "value"] (spInit1 A.Number "value") := by
  refine T.F_Number_init.ok sc_Number_init (fun vs H Q E h => ?_) (fun cdv A0 outer s H vs Q E hr h => ?_)
  · obtain ⟨p, dx, x, rfl, hp, q⟩ := h
    rfl
  obtain ⟨p, dx, x, rfl, hp, q⟩ := h
  refine ⟨_, (pss_one (ps_fld (pv 0) (pv 1) rfl)), ?_⟩
  exact ⟨_, rfl, _, rfl, p, A.Number, dx, [], rfl, hp, T.cl_Number, T.n_Number_value, (by show 0 < 1000; decide), q⟩

theorem ok_Box_init (T : Txt K mg A) : FnOk P w K mg base CX0 1 A.Box_init A.Box_init_d ["self", "name"] (spInit1 A.Box "name") := by
  refine T.F_Box_init.ok sc_Box_init (fun vs H Q E h => ?_) (fun cdv A0 outer s H vs Q E hr h => ?_)
  · obtain ⟨p, dx, x, rfl, hp, q⟩ := h
    rfl
  obtain ⟨p, dx, x, rfl, hp, q⟩ := h
  refine ⟨_, (pss_one (ps_fld (pv 0) (pv 1) rfl)), ?_⟩
  exact ⟨_, rfl, _, rfl, p, A.Box, dx, [], rfl, hp, T.cl_Box, T.n_Box_name, (by show 0 < 1000; decide), q⟩

theorem ok_Cell_init (T : Txt K mg A) : FnOk P w K mg base CX0 1 A.Cell_init A.Cell_init_d ["self", "inner"] (spInit1 A.Cell "inner") := by
  refine T.F_Cell_init.ok sc_Cell_init (fun vs H Q E h => ?_) (fun cdv A0 outer s H vs Q E hr h => ?_)
  · obtain ⟨p, dx, x, rfl, hp, q⟩ := h
    rfl
  obtain ⟨p, dx, x, rfl, hp, q⟩ := h
  refine ⟨_, (pss_one (ps_fld (pv 0) (pv 1) rfl)), ?_⟩
  exact ⟨_, rfl, _, rfl, p, A.Cell, dx, [], rfl, hp, T.cl_Cell, T.n_Cell_inner, (by show 0 < 1000; decide), q⟩

theorem ok_Two_init (T : Txt K mg A) : FnOk P w K mg base CX0 1 A.Two_init A.Two_init_d ["self", "word", "left", "right"] (spTwoI A.Two) := by
  refine T.F_Two_init.ok sc_Two_init (fun vs H Q E h => ?_) (fun cdv A0 outer s H vs Q E hr h => ?_)
  · obtain ⟨p, dx, wd, l, r, rfl, hp, q⟩ := h
    rfl
  obtain ⟨p, dx, wd, l, r, rfl, hp, q⟩ := h
  refine ⟨_, (pss_cons (ps_fld (pv 0) (pv 1) rfl)
   (pss_cons (ps_fld (pv 0) (pv 2) rfl)
   (pss_one (ps_fld (pv 0) (pv 3) rfl)))), ?_⟩
  refine ⟨_, rfl, _, rfl, p, A.Two, dx, [], rfl, hp, T.cl_Two, T.n_Two_word, (by show 0 < 1000; decide), ?_⟩
  refine ⟨_, rfl, _, rfl, p, A.Two, dx, _, rfl, upd_same, T.cl_Two, T.n_Two_left, (by show 1 < 1000; decide), ?_⟩
  refine ⟨_, rfl, _, rfl, p, A.Two, dx, _, rfl, upd_same, T.cl_Two, T.n_Two_right, (by show 2 < 1000; decide), ?_⟩
  rw [upd_upd, upd_upd]
  exact q

end
end K03
namespace K03
open PySem L2 TL
section
variable {P : Program} {w : World} {K : PySem.W.Frag} {mg : Str → Option Value} {base : Heap} {A : Ads}
theorem ok_both (T : Txt K mg A) : FnOk P w K mg base CX0 1 A.both A.both_d ["word", "one", "other"] spBoth := by
  refine T.F_both.ok sc_both (fun vs H Q E h => ?_) (fun cdv A0 outer s H vs Q E hr h => ?_)
  · obtain ⟨wd, a, b, rfl, ha, hb, q⟩ := h
    rfl
  obtain ⟨wd, a, b, rfl, ha, hb, q⟩ := h
  refine ⟨_, (pss_cons (ps_if (pt_cmpR op_eq (pv 0) pe_str (nomark _))
    (pss_one (ps_ret (pe_op op_mod (pe_op op_add (pv 1) (pv 2)) (pe_glob (v := .int 1000000) (by rfl) T.c_LIMIT.choose_spec ⟨_, rfl⟩))))
    pss_nil)
   (pss_cons (ps_if (pt_cmpR op_eq (pv 0) pe_str (nomark _))
    (pss_one (ps_ret (pe_op op_mod (pe_op op_sub (pv 1) (pv 2)) (pe_glob (v := .int 1000000) (by rfl) T.c_LIMIT.choose_spec ⟨_, rfl⟩))))
    pss_nil)
   (pss_cons (ps_if (pt_cmpR op_eq (pv 0) pe_str (nomark _))
    (pss_one (ps_ret (pe_op op_mod (pe_op op_mul (pv 1) (pv 2)) (pe_glob (v := .int 1000000) (by rfl) T.c_LIMIT.choose_spec ⟨_, rfl⟩))))
    pss_nil)
   (pss_cons (ps_if (pt_cmpR op_eq (pv 0) pe_str (nomark _))
    (pss_one (ps_ret (pe_callTy call_int1 (by rfl) T.z_int (by decide +kernel) (pa_cons (pe_cmpR op_lt (pv 1) (pv 2) (nomark _)) pa_nil))))
    pss_nil)
   (pss_cons (ps_if (pt_cmpR op_eq (pv 0) pe_str (nomark _))
    (pss_one (ps_ret (pe_callTy call_int1 (by rfl) T.z_int (by decide +kernel) (pa_cons (pe_cmpR op_eq (pv 1) (pv 2) (nomark _)) pa_nil))))
    pss_nil)
   (pss_cons (ps_if (pt_cmpR op_eq (pv 2) pe_int (nomark _))
    (pss_one (ps_ret pe_non))
    pss_nil)
   (pss_cons (ps_if (pt_cmpR op_eq (pv 0) pe_str (nomark _))
    (pss_one (ps_ret (pe_op op_fdivN (pv 1) (pv 2))))
    pss_nil)
   (pss_one (ps_ret (pe_op op_modN (pv 1) (pv 2))))))))))), ?_⟩
  unfold bothV at q
  refine ⟨_, rfl, rfl, _, rfl, ?_⟩
  refine iteD2 (fun c1 => ?_) (fun c1 => ?_)
  · rw [if_pos (V.str.inj c1)] at q
    walk_at "rd"
    exact q
  rw [if_neg (fun e => c1 (congrArg V.str e))] at q
  refine ⟨_, rfl, rfl, _, rfl, ?_⟩
  refine iteD2 (fun c2 => ?_) (fun c2 => ?_)
  · rw [if_pos (V.str.inj c2)] at q
    walk_at "rd"
    exact q
  rw [if_neg (fun e => c2 (congrArg V.str e))] at q
  refine ⟨_, rfl, rfl, _, rfl, ?_⟩
  refine iteD2 (fun c3 => ?_) (fun c3 => ?_)
  · rw [if_pos (V.str.inj c3)] at q
    refine ⟨_, rfl, _, rfl, _, _, rfl, rfl, Or.inl ⟨by have := ha.1; omega, by have := ha.2; omega⟩, ?_⟩
    walk_at "rd"
    exact q
  rw [if_neg (fun e => c3 (congrArg V.str e))] at q
  refine ⟨_, rfl, rfl, _, rfl, ?_⟩
  refine iteD2 (fun c4 => ?_) (fun c4 => ?_)
  · rw [if_pos (V.str.inj c4)] at q
    walk_at "rd"
    exact .inr ⟨_, rfl, q⟩
  rw [if_neg (fun e => c4 (congrArg V.str e))] at q
  refine ⟨_, rfl, rfl, _, rfl, ?_⟩
  refine iteD2 (fun c5 => ?_) (fun c5 => ?_)
  · rw [if_pos (V.str.inj c5)] at q
    refine ⟨_, rfl, _, rfl, rfl, ?_⟩
    exact .inr ⟨_, rfl, q⟩
  rw [if_neg (fun e => c5 (congrArg V.str e))] at q
  refine ⟨_, rfl, rfl, _, rfl, ?_⟩
  refine iteD2 (fun c6 => ?_) (fun c6 => ?_)
  · rw [if_pos (V.int.inj c6)] at q
    exact q
  have hb0 : b ≠ 0 := fun e => c6 (congrArg V.int e)
  rw [if_neg hb0] at q
  refine ⟨_, rfl, rfl, _, rfl, ?_⟩
  refine iteD2 (fun c7 => ?_) (fun c7 => ?_)
  · rw [if_pos (V.str.inj c7)] at q
    exact ⟨_, rfl, _, rfl, _, _, rfl, rfl, ⟨hb0, by have := hb.1; have := hb.2; omega⟩, q⟩
  rw [if_neg (fun e => c7 (congrArg V.str e))] at q
  exact ⟨_, rfl, _, rfl, _, _, rfl, rfl, hb0, q⟩

end
end K03
namespace K03
open PySem L2 TL
section
variable {P : Program} {w : World} {K : PySem.W.Frag} {mg : Str → Option Value} {base : Heap} {A : Ads}
theorem ok_Number_reckon (T : Txt K mg A) {J n : Nat} : FnOk P w K mg base CX0 (J + n + 2) A.Number_reckon A.Number_reckon_d ["self", "look"] (spReckon P w K mg base J A.ec (n + 1) A.Number) := by
  refine T.F_Number_reckon.ok sc_Number_reckon (fun vs H Q E h => ?_) (fun cdv A0 outer s H vs Q E hr h => ?_)
  · obtain ⟨e, v, f, S, lk, R, HE, G, spL, s0, mm, rfl, ho, hc, hd, hw, L, lo, r0, q⟩ := h
    rfl
  obtain ⟨e, v, f, S, lk, R, HE, G, spL, s0, mm, rfl, ho, hc, hd, hw, L, lo, r0, q⟩ := h
  refine ⟨_, (pss_one (ps_ret (pe_fld (pv 0) rfl))), ?_⟩
  cases e with
  | num n =>
    obtain ⟨p, dx, rfl, h1⟩ := ho
    exact ⟨_, rfl, p, A.Number, dx, _, _, rfl, lo.objs _ _ _ r0 _ _ h1, T.cl_Number, T.n_Number_value, rfl, q H (lo.down _ _ _ _ (by show mm ≤ 1 + mm; omega) r0)⟩
  | box z => exact (T.ne_box_num hc).elim
  | cell e => exact (T.ne_cell_num hc).elim
  | two wd l r => exact (T.ne_two_num hc).elim

theorem ok_Box_reckon (T : Txt K mg A) {J n : Nat} : FnOk P w K mg base CX0 (J + n + 2) A.Box_reckon A.Box_reckon_d ["self", "look"] (spReckon P w K mg base J A.ec (n + 1) A.Box) := by
  refine T.F_Box_reckon.ok sc_Box_reckon (fun vs H Q E h => ?_) (fun cdv A0 outer s H vs Q E hr h => ?_)
  · obtain ⟨e, v, f, S, lk, R, HE, G, spL, s0, mm, rfl, ho, hc, hd, hw, L, lo, r0, q⟩ := h
    rfl
  obtain ⟨e, v, f, S, lk, R, HE, G, spL, s0, mm, rfl, ho, hc, hd, hw, L, lo, r0, q⟩ := h
  refine ⟨_, (pss_one (ps_ret (KL.pe_callV (k := J) (i := 1) (E := E0) (hr.mono (by omega)) pass0 rfl (.inl rfl) (pa_cons (pe_tup (pa_cons pe_str (pa_cons (pe_fld (pv 0) rfl) pa_nil))) pa_nil)))), ?_⟩
  cases e with
  | num n => exact (T.ne_num_box hc).elim
  | box z =>
    obtain ⟨p, dx, rfl, h1⟩ := ho
    refine ⟨f, G, spL, rfl, L, lo.g _ _ _ r0, _, rfl, p, A.Box, dx, _, _, rfl, lo.objs _ _ _ r0 _ _ h1, T.cl_Box, T.n_Box_name, rfl, by show 2 ≤ sizeLine; decide, fun t ht => ?_⟩
    have s1 := same_new (o := .tup [.str "box", .str z]) ht
    have r1 : R (mm + 1) s0 _ := lo.down _ _ _ _ (by show mm + 1 ≤ 1 + mm; omega) (lo.same _ _ _ _ r0 s1)
    exact ⟨lo.g _ _ _ r1, lo.look _ _ _ (.box z) _ _ r1 ⟨t, rfl, upd_same⟩ hw q⟩
  | cell e => exact (T.ne_cell_box hc).elim
  | two wd l r => exact (T.ne_two_box hc).elim

theorem ok_Cell_reckon (T : Txt K mg A) {J n : Nat} (D_reckon : ∀ C, A.ec.Fam C → Disp P w K mg base CX0 "reckon" (J + n + 1) C (spReckon P w K mg base J A.ec n C)) : FnOk P w K mg base CX0 (J + n + 2) A.Cell_reckon A.Cell_reckon_d ["self", "look"] (spReckon P w K mg base J A.ec (n + 1) A.Cell) := by
  refine T.F_Cell_reckon.ok sc_Cell_reckon (fun vs H Q E h => ?_) (fun cdv A0 outer s H vs Q E hr h => ?_)
  · obtain ⟨e, v, f, S, lk, R, HE, G, spL, s0, mm, rfl, ho, hc, hd, hw, L, lo, r0, q⟩ := h
    rfl
  obtain ⟨e, v, f, S, lk, R, HE, G, spL, s0, mm, rfl, ho, hc, hd, hw, L, lo, r0, q⟩ := h
  refine ⟨_, (pss_cons (ps_set (i := 2) sc_Cell_reckon.nd rfl (Or.inl rfl) (pe_methP (pe_fld (pv 0) rfl) D_reckon (hr.mono (by omega)) pass0 (pa_cons (pv 1) pa_nil)))
   (pss_cons (ps_if (pt_cmpR op_isN (pv 2) pe_non (nomark _))
    (pss_one (ps_ret pe_non))
    pss_nil)
   (pss_one (ps_ret (KL.pe_callV (k := J) (i := 1) (E := E0) (hr.mono (by omega)) pass0 rfl (.inl rfl) (pa_cons (pe_tup (pa_cons pe_str (pa_cons (pv 2) pa_nil))) pa_nil)))))), ?_⟩
  cases e with
  | num n => exact (T.ne_num_cell hc).elim
  | box z => exact (T.ne_box_cell hc).elim
  | cell e =>
    obtain ⟨p, dx, i, rfl, h1, h2⟩ := ho
    have hd' : e.depth ≤ n := Nat.le_of_succ_le_succ hd
    have hw' : e.Wf := hw
    obtain ⟨p2, d2, f2, e2, g1, g2⟩ := h2.at (m := "reckon") (by decide +kernel)
    refine ⟨_, rfl, p, A.Cell, dx, _, _, rfl, lo.objs _ _ _ r0 _ _ h1, T.cl_Cell, T.n_Cell_inner, rfl, p2, _, d2, f2, e2, lo.objs _ _ _ r0 _ _ g1, g2, A.ec.fam e, _, rfl, e, i, f, S, lk, R, HE, G, spL, s0, mm + 1, rfl, h2, rfl, hd', hw', L, lo, lo.down _ _ _ _ (by show e.parts + (mm + 1) ≤ 1 + e.parts + mm; omega) r0, fun H1 r1 => ?_⟩
    have hv := fun m (h : (ev lk e s0).1 = some m) => ev_val lo.val hw' h
    have eq : ev lk (.cell e) s0 = evC lk (ev lk e s0) := rfl
    rw [eq] at q
    clear eq
    generalize ev lk e s0 = x at r1 q hv ⊢
    obtain ⟨x1, x2⟩ := x
    cases x1 with
    | none => exact ⟨_, rfl, rfl, _, rfl, iteDT rfl (q H1 (lo.down _ _ _ _ (by omega) r1))⟩
    | some m =>
      refine ⟨_, rfl, rfl, _, rfl, iteDF (fun h => by cases h) ?_⟩
      refine ⟨f, G, spL, rfl, L, lo.g _ _ _ r1, _, rfl, by show 2 ≤ sizeLine; decide, fun t ht => ?_⟩
      have s1 := same_new (o := .tup [.str "cell", .int m]) ht
      have r2 := lo.same _ _ _ _ r1 s1
      exact ⟨lo.g _ _ _ r2, lo.look _ _ _ (.cell m) _ _ r2 ⟨t, rfl, upd_same⟩ (hv m rfl) q⟩
  | two wd l r => exact (T.ne_two_cell hc).elim

theorem ok_Two_reckon (T : Txt K mg A) {J n : Nat} (D_reckon : ∀ C, A.ec.Fam C → Disp P w K mg base CX0 "reckon" (J + n + 1) C (spReckon P w K mg base J A.ec n C)) : FnOk P w K mg base CX0 (J + n + 2) A.Two_reckon A.Two_reckon_d ["self", "look"] (spReckon P w K mg base J A.ec (n + 1) A.Two) := by
  have G_both := ok_both (P := P) (w := w) (base := base) T
  refine T.F_Two_reckon.ok sc_Two_reckon (fun vs H Q E h => ?_) (fun cdv A0 outer s H vs Q E hr h => ?_)
  · obtain ⟨e, v, f, S, lk, R, HE, G, spL, s0, mm, rfl, ho, hc, hd, hw, L, lo, r0, q⟩ := h
    rfl
  obtain ⟨e, v, f, S, lk, R, HE, G, spL, s0, mm, rfl, ho, hc, hd, hw, L, lo, r0, q⟩ := h
  refine ⟨_, (pss_cons (ps_set (i := 2) sc_Two_reckon.nd rfl (Or.inl rfl) (pe_methP (pe_fld (pv 0) rfl) D_reckon (hr.mono (by omega)) pass0 (pa_cons (pv 1) pa_nil)))
   (pss_cons (ps_if (pt_cmpR op_isN (pv 2) pe_non (nomark _))
    (pss_one (ps_ret pe_non))
    pss_nil)
   (pss_cons (ps_set (i := 3) sc_Two_reckon.nd rfl (Or.inl rfl) (pe_methP (pe_fld (pv 0) rfl) D_reckon (hr.mono (by omega)) pass0 (pa_cons (pv 1) pa_nil)))
   (pss_cons (ps_if (pt_cmpR op_isN (pv 3) pe_non (nomark _))
    (pss_one (ps_ret pe_non))
    pss_nil)
   (pss_one (ps_ret (pe_call G_both (hr.mono (by omega)) rfl T.m_both T.F_both.kp T.b_both .nil pass0 (pa_cons (pe_fld (pv 0) rfl) (pa_cons (pv 2) (pa_cons (pv 3) pa_nil)))))))))), ?_⟩
  cases e with
  | num n => exact (T.ne_num_two hc).elim
  | box z => exact (T.ne_box_two hc).elim
  | cell e => exact (T.ne_cell_two hc).elim
  | two wd l r =>
    obtain ⟨p, dx, a, b, rfl, h1, h2, h3⟩ := ho
    have hd' : max l.depth r.depth ≤ n := Nat.le_of_succ_le_succ hd
    obtain ⟨hw0, hw1, hw2⟩ : wd ∈ PAIRW ∧ l.Wf ∧ r.Wf := hw
    obtain ⟨p2, d2, f2, e2, g1, g2⟩ := h2.at (m := "reckon") (by decide +kernel)
    obtain ⟨p3, d3, f3, e3, k1, k2⟩ := h3.at (m := "reckon") (by decide +kernel)
    refine ⟨_, rfl, p, A.Two, dx, _, _, rfl, lo.objs _ _ _ r0 _ _ h1, T.cl_Two, T.n_Two_left, rfl, p2, _, d2, f2, e2, lo.objs _ _ _ r0 _ _ g1, g2, A.ec.fam l, _, rfl, l, a, f, S, lk, R, HE, G, spL, s0, r.parts + mm, rfl, h2, rfl, by omega, hw1, L, lo, lo.down _ _ _ _ (by show l.parts + (r.parts + mm) ≤ 1 + l.parts + r.parts + mm; omega) r0, fun H1 r1 => ?_⟩
    have hv := fun m (h : (ev lk l s0).1 = some m) => ev_val lo.val hw1 h
    have eq : ev lk (.two wd l r) s0 = evA wd (ev lk r) (ev lk l s0) := rfl
    rw [eq] at q
    clear eq
    generalize ev lk l s0 = x at r1 q hv ⊢
    obtain ⟨x1, x2⟩ := x
    cases x1 with
    | none => exact ⟨_, rfl, rfl, _, rfl, iteDT rfl (q H1 (lo.down _ _ _ _ (by omega) r1))⟩
    | some m =>
      refine ⟨_, rfl, rfl, _, rfl, iteDF (fun h => by cases h) ?_⟩
      refine ⟨_, rfl, p, A.Two, dx, _, _, rfl, lo.objs _ _ _ r1 _ _ h1, T.cl_Two, T.n_Two_right, rfl, p3, _, d3, f3, e3, lo.objs _ _ _ r1 _ _ k1, k2, A.ec.fam r, _, rfl, r, b, f, S, lk, R, HE, G, spL, x2, mm, rfl, h3, rfl, by omega, hw2, L, lo, r1, fun H2 r2 => ?_⟩
      have hv2 := fun m (h : (ev lk r x2).1 = some m) => ev_val lo.val hw2 h
      have q : ∀ H', R mm (evB wd m (ev lk r x2)).2 H' → Q (optV (evB wd m (ev lk r x2)).1) H' := q
      generalize ev lk r x2 = y at r2 q hv2 ⊢
      obtain ⟨y1, y2⟩ := y
      cases y1 with
      | none => exact ⟨_, rfl, rfl, _, rfl, iteDT rfl (q H2 r2)⟩
      | some m2 =>
        refine ⟨_, rfl, rfl, _, rfl, iteDF (fun h => by cases h) ?_⟩
        refine ⟨_, rfl, p, A.Two, dx, _, _, rfl, lo.objs _ _ _ r2 _ _ h1, T.cl_Two, T.n_Two_word, rfl, _, rfl, _, rfl, wd, m, m2, rfl, hv m rfl, hv2 m2 rfl, ?_⟩
        rw [both_eq]
        exact q H2 r2

theorem disp_reckon {J : Nat} (T : Txt K mg A) : ∀ (n : Nat) (C : Addr), A.ec.Fam C → Disp P w K mg base CX0 "reckon" (J + n + 1) C (spReckon P w K mg base J A.ec n C)
  | 0, C, h => by
    have no : ∀ vs H Q E, spReckon P w K mg base J A.ec 0 C vs H Q E → False := fun vs H Q E ⟨e, v, _, _, _, _, _, _, _, _, _, _, _, hd, _⟩ => by have := e.depth_pos; omega
    rcases h with rfl | rfl | rfl | rfl
    · exact ⟨_, A.Number_reckon_d, _, T.cl_Number, T.me_Number_reckon, fn_none (ps := ["self", "look"]) no, T.b_Number_reckon⟩
    · exact ⟨_, A.Box_reckon_d, _, T.cl_Box, T.me_Box_reckon, fn_none (ps := ["self", "look"]) no, T.b_Box_reckon⟩
    · exact ⟨_, A.Cell_reckon_d, _, T.cl_Cell, T.me_Cell_reckon, fn_none (ps := ["self", "look"]) no, T.b_Cell_reckon⟩
    · exact ⟨_, A.Two_reckon_d, _, T.cl_Two, T.me_Two_reckon, fn_none (ps := ["self", "look"]) no, T.b_Two_reckon⟩
  | n + 1, C, h => by
    have D := disp_reckon (J := J) T n
    rcases h with rfl | rfl | rfl | rfl
    · exact ⟨_, _, _, T.cl_Number, T.me_Number_reckon, ok_Number_reckon T, T.b_Number_reckon⟩
    · exact ⟨_, _, _, T.cl_Box, T.me_Box_reckon, ok_Box_reckon T, T.b_Box_reckon⟩
    · exact ⟨_, _, _, T.cl_Cell, T.me_Cell_reckon, ok_Cell_reckon T D, T.b_Cell_reckon⟩
    · exact ⟨_, _, _, T.cl_Two, T.me_Two_reckon, ok_Two_reckon T D, T.b_Two_reckon⟩

end
end K03
namespace K03
open PySem L2 TL
section
variable {P : Program} {w : World} {K : PySem.W.Frag} {mg : Str → Option Value} {base : Heap} {A : Ads}
theorem ok_Expr_parts (T : Txt K mg A) {n : Nat} {C : Addr} (hC : C = A.Number ∨ C = A.Box) : FnOk P w K mg base CX0 (n + 2) A.Expr_parts A.Expr_parts_d ["self"] (spParts A.ec (n + 1) C) := by
  refine T.F_Expr_parts.ok sc_Expr_parts (fun vs H Q E h => ?_) (fun cdv A0 outer s H vs Q E hr h => ?_)
  · obtain ⟨e, v, rfl, ho, hc, hd, q⟩ := h
    rfl
  obtain ⟨e, v, rfl, ho, hc, hd, q⟩ := h
  refine ⟨_, (pss_one (ps_ret pe_int)), ?_⟩
  cases e with
  | num n => exact q
  | box s => exact q
  | cell e =>
    rcases hC with h | h
    · exact (T.ne_cell_num (hc.trans h)).elim
    · exact (T.ne_cell_box (hc.trans h)).elim
  | two w l r =>
    rcases hC with h | h
    · exact (T.ne_two_num (hc.trans h)).elim
    · exact (T.ne_two_box (hc.trans h)).elim

theorem ok_Cell_parts (T : Txt K mg A) {n : Nat} (D_parts : ∀ C, A.ec.Fam C → Disp P w K mg base CX0 "parts" (n + 1) C (spParts A.ec n C)) : FnOk P w K mg base CX0 (n + 2) A.Cell_parts A.Cell_parts_d ["self"] (spParts A.ec (n + 1) A.Cell) := by
  refine T.F_Cell_parts.ok sc_Cell_parts (fun vs H Q E h => ?_) (fun cdv A0 outer s H vs Q E hr h => ?_)
  · obtain ⟨e, v, rfl, ho, hc, hd, q⟩ := h
    rfl
  obtain ⟨e, v, rfl, ho, hc, hd, q⟩ := h
  refine ⟨_, (pss_one (ps_ret (pe_op op_add pe_int (pe_methP0 (pe_fld (pv 0) rfl) D_parts (hr.mono (by omega)) pass0)))), ?_⟩
  cases e with
  | num n => exact (T.ne_num_cell hc).elim
  | box z => exact (T.ne_box_cell hc).elim
  | cell e =>
    obtain ⟨p, dx, i, rfl, h1, h2⟩ := ho
    have hd' : e.depth ≤ n := Nat.le_of_succ_le_succ hd
    obtain ⟨p2, d2, f2, e2, g1, g2⟩ := h2.at (m := "parts") (by decide +kernel)
    refine ⟨_, rfl, p, A.Cell, dx, _, _, rfl, h1, T.cl_Cell, T.n_Cell_inner, rfl, p2, _, d2, f2, e2, g1, g2, A.ec.fam e, e, i, rfl, h2, rfl, hd', ?_⟩
    refine ⟨_, _, rfl, rfl, ?_⟩
    have e1 : (1 : Int) + (e.parts : Int) = ((Ex.cell e).parts : Int) := by show (1 : Int) + (e.parts : Int) = ((1 + e.parts : Nat) : Int); omega
    show Q (.int ((1 : Int) + (e.parts : Int))) H
    rw [e1]
    exact q
  | two wd l r => exact (T.ne_two_cell hc).elim

theorem ok_Two_parts (T : Txt K mg A) {n : Nat} (D_parts : ∀ C, A.ec.Fam C → Disp P w K mg base CX0 "parts" (n + 1) C (spParts A.ec n C)) : FnOk P w K mg base CX0 (n + 2) A.Two_parts A.Two_parts_d ["self"] (spParts A.ec (n + 1) A.Two) := by
  refine T.F_Two_parts.ok sc_Two_parts (fun vs H Q E h => ?_) (fun cdv A0 outer s H vs Q E hr h => ?_)
  · obtain ⟨e, v, rfl, ho, hc, hd, q⟩ := h
    rfl
  obtain ⟨e, v, rfl, ho, hc, hd, q⟩ := h
  refine ⟨_, (pss_one (ps_ret (pe_op op_add (pe_op op_add pe_int (pe_methP0 (pe_fld (pv 0) rfl) D_parts (hr.mono (by omega)) pass0)) (pe_methP0 (pe_fld (pv 0) rfl) D_parts (hr.mono (by omega)) pass0)))), ?_⟩
  cases e with
  | num n => exact (T.ne_num_two hc).elim
  | box z => exact (T.ne_box_two hc).elim
  | cell e => exact (T.ne_cell_two hc).elim
  | two wd l r =>
    obtain ⟨p, dx, a, b, rfl, h1, h2, h3⟩ := ho
    have hd' : max l.depth r.depth ≤ n := Nat.le_of_succ_le_succ hd
    obtain ⟨p2, d2, f2, e2, g1, g2⟩ := h2.at (m := "parts") (by decide +kernel)
    obtain ⟨p3, d3, f3, e3, k1, k2⟩ := h3.at (m := "parts") (by decide +kernel)
    refine ⟨_, rfl, p, A.Two, dx, _, _, rfl, h1, T.cl_Two, T.n_Two_left, rfl, p2, _, d2, f2, e2, g1, g2, A.ec.fam l, l, a, rfl, h2, rfl, by omega, ?_⟩
    refine ⟨_, _, rfl, rfl, ?_⟩
    refine ⟨_, rfl, p, A.Two, dx, _, _, rfl, h1, T.cl_Two, T.n_Two_right, rfl, p3, _, d3, f3, e3, k1, k2, A.ec.fam r, r, b, rfl, h3, rfl, by omega, ?_⟩
    refine ⟨_, _, rfl, rfl, ?_⟩
    have e1 : (1 : Int) + (l.parts : Int) + (r.parts : Int) = ((Ex.two wd l r).parts : Int) := by show (1 : Int) + (l.parts : Int) + (r.parts : Int) = ((1 + l.parts + r.parts : Nat) : Int); omega
    show Q (.int ((1 : Int) + (l.parts : Int) + (r.parts : Int))) H
    rw [e1]
    exact q

theorem disp_parts (T : Txt K mg A) : ∀ (n : Nat) (C : Addr), A.ec.Fam C → Disp P w K mg base CX0 "parts" (n + 1) C (spParts A.ec n C)
  | 0, C, h => by
    have no : ∀ vs H Q E, spParts A.ec 0 C vs H Q E → False := fun vs H Q E ⟨e, v, _, _, _, hd, _⟩ => by have := e.depth_pos; omega
    rcases h with rfl | rfl | rfl | rfl
    · exact ⟨_, A.Expr_parts_d, _, T.cl_Number, T.me_Number_parts, fn_none (ps := ["self"]) no, T.b_Expr_parts⟩
    · exact ⟨_, A.Expr_parts_d, _, T.cl_Box, T.me_Box_parts, fn_none (ps := ["self"]) no, T.b_Expr_parts⟩
    · exact ⟨_, A.Cell_parts_d, _, T.cl_Cell, T.me_Cell_parts, fn_none (ps := ["self"]) no, T.b_Cell_parts⟩
    · exact ⟨_, A.Two_parts_d, _, T.cl_Two, T.me_Two_parts, fn_none (ps := ["self"]) no, T.b_Two_parts⟩
  | n + 1, C, h => by
    have D := disp_parts T n
    rcases h with rfl | rfl | rfl | rfl
    · exact ⟨_, _, _, T.cl_Number, T.me_Number_parts, ok_Expr_parts T (.inl rfl), T.b_Expr_parts⟩
    · exact ⟨_, _, _, T.cl_Box, T.me_Box_parts, ok_Expr_parts T (.inr rfl), T.b_Expr_parts⟩
    · exact ⟨_, _, _, T.cl_Cell, T.me_Cell_parts, ok_Cell_parts T D, T.b_Cell_parts⟩
    · exact ⟨_, _, _, T.cl_Two, T.me_Two_parts, ok_Two_parts T D, T.b_Two_parts⟩

end
end K03
namespace K03
open PySem L2 TL
section
variable {P : Program} {w : World} {K : PySem.W.Frag} {mg : Str → Option Value} {base : Heap} {A : Ads}
theorem ok_l_cell (T : Txt K mg A) : FnOk P w K mg base CX0 1 A.l_cell A.l_cell_d ["_law_script", "_law_k"] (spCell K) := by
  refine T.F_l_cell.ok sc_l_cell (fun vs H Q E h => ?_) (fun cdv A0 outer s H vs Q E hr h => ?_)
  · obtain ⟨a, ns, k, rfl, hS, hk, q⟩ := h
    rfl
  obtain ⟨a, ns, k, rfl, hS, hk, q⟩ := h
  refine ⟨_, (pss_cons (ps_if (pt_cmpR op_lt (pv 1) (pe_callB call_lenK (by rfl) T.z_len (by decide +kernel) (pa_cons (pv 0) pa_nil)) (nomark _))
    (pss_one (ps_ret (pe_ix ix_list (pv 0) (pv 1) (fun _ _ => rfl))))
    pss_nil)
   (pss_one (ps_ret pe_int))), ?_⟩
  refine ⟨_, rfl, _, rfl, a, _, rfl, .inl hS, _, _, rfl, rfl, _, rfl, ?_⟩
  refine iteD2 (fun c => ?_) (fun c => ?_)
  · obtain ⟨v, hv⟩ := at_int (ns := ns) hk (by rw [List.length_map] at c; exact c)
    exact ⟨_, rfl, _, rfl, a, _, _, _, rfl, rfl, hS, hv, q v⟩
  · exact q 0

theorem ok_l_mixed (T : Txt K mg A) : FnOk P w K mg base CX0 1 A.l_mixed A.l_mixed_d ["_law_cell_here", "_law_k"] spI2 := by
  refine T.F_l_mixed.ok sc_l_mixed (fun vs H Q E h => ?_) (fun cdv A0 outer s H vs Q E hr h => ?_)
  · obtain ⟨a, b, rfl, q⟩ := h
    rfl
  obtain ⟨a, b, rfl, q⟩ := h
  refine ⟨_, (pss_cons (ps_set (i := 2) sc_l_mixed.nd rfl (Or.inl rfl) (pe_op op_mod (pe_op op_mul (pe_op op_add (pe_op op_add (pv 0) (pe_op op_mul pe_int (pv 1))) pe_int) pe_int) pe_int))
   (pss_one (ps_ret (pe_op op_mod (pe_op op_mul (pv 2) (pe_op op_add (pe_op op_fdiv (pv 2) pe_int) pe_int)) pe_int)))), ?_⟩
  walk_at "rd"
  exact q _

theorem ok_l_twice (T : Txt K mg A) : FnOk P w K mg base CX0 2 A.l_twice A.l_twice_d ["_law_cell_here", "_law_k"] spI2 := by
  have G_l_mixed := ok_l_mixed (P := P) (w := w) (base := base) T
  refine T.F_l_twice.ok sc_l_twice (fun vs H Q E h => ?_) (fun cdv A0 outer s H vs Q E hr h => ?_)
  · obtain ⟨a, b, rfl, q⟩ := h
    rfl
  obtain ⟨a, b, rfl, q⟩ := h
  refine ⟨_, (pss_cons (ps_set (i := 2) sc_l_twice.nd rfl (Or.inl rfl) (pe_op op_mod (pe_op op_mul (pe_op op_add (pe_op op_add (pe_call G_l_mixed (hr.mono (by decide)) rfl T.m_l_mixed T.F_l_mixed.kp T.b_l_mixed .nil pass0 (pa_cons (pv 0) (pa_cons (pv 1) pa_nil))) (pe_op op_mul pe_int (pv 1))) pe_int) pe_int) pe_int))
   (pss_one (ps_ret (pe_op op_mod (pe_op op_mul (pv 2) (pe_op op_add (pe_op op_fdiv (pv 2) pe_int) pe_int)) pe_int)))), ?_⟩
  walk_at "rd"
  refine ⟨_, _, rfl, fun n => ?_⟩
  walk_at "rd"
  exact q _

theorem ok_l_well (T : Txt K mg A) : FnOk P w K mg base CX0 2 A.l_well A.l_well_d ["_law_script", "_law_k"] (spWell K) := by
  have G_l_cell := ok_l_cell (P := P) (w := w) (base := base) T
  refine T.F_l_well.ok sc_l_well (fun vs H Q E h => ?_) (fun cdv A0 outer s H vs Q E hr h => ?_)
  · obtain ⟨a, ns, k, rfl, hS, hk, q⟩ := h
    rfl
  obtain ⟨a, ns, k, rfl, hS, hk, q⟩ := h
  refine ⟨_, (pss_one (ps_ret (pe_lst (pa_cons (pe_op op_mod (pe_call G_l_cell (hr.mono (by decide)) rfl T.m_l_cell T.F_l_cell.kp T.b_l_cell .nil pass0 (pa_cons (pv 0) (pa_cons pe_int pa_nil))) pe_int) (pa_cons (pe_call G_l_cell (hr.mono (by decide)) rfl T.m_l_cell T.F_l_cell.kp T.b_l_cell .nil pass0 (pa_cons (pv 0) (pa_cons (pv 1) pa_nil))) (pa_cons pe_int (pa_cons (pe_op op_add (pe_call G_l_cell (hr.mono (by decide)) rfl T.m_l_cell T.F_l_cell.kp T.b_l_cell .nil pass0 (pa_cons (pv 0) (pa_cons (pv 1) pa_nil))) (pv 1)) pa_nil))))))), ?_⟩
  refine ⟨_, rfl, a, ns, 0, rfl, hS, Int.le_refl 0, fun n1 => ?_⟩
  walk_at "rd"
  refine ⟨a, ns, k, rfl, hS, hk, fun n2 => ?_⟩
  walk_at "rd"
  refine ⟨a, ns, k, rfl, hS, hk, fun n3 => ?_⟩
  walk_at "rd"
  exact ⟨by show 4 ≤ sizeLine; decide, fun p hp => q p _ hp (same_new hp) ⟨_, _, _, _, upd_same⟩⟩

theorem ok_l_draw (T : Txt K mg A) : FnOk P w K mg base CX0 3 A.l_draw A.l_draw_d ["_law_well_here", "_law_most"] spDraw := by
  have G_l_twice := ok_l_twice (P := P) (w := w) (base := base) T
  refine T.F_l_draw.ok sc_l_draw (fun vs H Q E h => ?_) (fun cdv A0 outer s H vs Q E hr h => ?_)
  · obtain ⟨p, m, rfl, ⟨a, b, c, d, h⟩, hm0, hm1, q⟩ := h
    rfl
  obtain ⟨p, m, rfl, ⟨a, b, c, d, h⟩, hm0, hm1, q⟩ := h
  refine ⟨_, (pss_cons (ps_if (PW.pt (pw_and (pt_cmpR op_eq (pe_ix ix_list (pv 0) pe_int (fun _ _ => rfl)) pe_int (nomark _)) (pw_and1 (pt_cmpR op_notIn_seq (pe_ix ix_list (pv 0) pe_int (fun _ _ => rfl)) (pe_tup (pa_cons pe_int (pa_cons (pe_un un_neg pe_int) pa_nil))) (by rfl)))))
    (pss_cons (ps_set (i := 2) sc_l_draw.nd rfl (Or.inl rfl) (pe_op op_modN (pe_ix ix_list (pv 0) pe_int (fun _ _ => rfl)) (pv 1)))
   (pss_cons (ps_asg (pe_op op_fdivN (pe_ix ix_list (pv 0) pe_int (fun _ _ => rfl)) (pv 1)) (pg_sub (pv 0) pe_int set_list))
   (pss_one (ps_ret (pv 2)))))
    pss_nil)
   (pss_cons (ps_asg (pe_op op_add (pe_ix ix_list (pv 0) pe_int (fun _ _ => rfl)) pe_int) (pg_sub (pv 0) pe_int set_list))
   (pss_one (ps_ret (pe_op op_modN (pe_call G_l_twice (hr.mono (by decide)) rfl T.m_l_twice T.F_l_twice.kp T.b_l_twice .nil pass0 (pa_cons (pe_ix ix_list (pv 0) pe_int (fun _ _ => rfl)) (pa_cons (pe_ix ix_list (pv 0) pe_int (fun _ _ => rfl)) pa_nil))) (pv 1)))))), ?_⟩
  have hm : m ≠ 0 := by omega
  refine ⟨_, rfl, p, _, _, _, rfl, rfl, SqL.of h, rfl, rfl, _, rfl, ?_⟩
  refine iteD2 (fun c1 => ?_) (fun c1 => ?_)
  · refine ⟨_, rfl, p, _, _, _, rfl, rfl, SqL.of h, rfl, _, rfl, by show 2 ≤ sizeLine; decide, fun t ht => ?_⟩
    have npt : p ≠ t := ne_of_none h ht
    have h1 : ∀ o, upd H t o p = some (.lst [.int a, .int b, .int c, .int d]) := fun o => by rw [upd_ne npt]; exact h
    refine ⟨t, _, rfl, .inr (SqT.of upd_same), rfl, rfl, _, rfl, ?_⟩
    refine iteB2 (fun c2 => ?_) (fun c2 => ?_)
    · refine ⟨_, rfl, p, _, _, _, rfl, rfl, SqL.of (h1 _), rfl, _, rfl, _, _, rfl, rfl, hm, ?_⟩
      refine ⟨_, rfl, p, _, _, _, rfl, rfl, SqL.of (h1 _), rfl, _, rfl, _, _, rfl, rfl, ⟨hm, by omega⟩, ?_⟩
      refine ⟨_, rfl, p, _, _, 1, rfl, rfl, h1 _, rfl, _, rfl, ?_⟩
      exact q _ _ (Int.fmod_nonneg_of_pos _ hm0) (Int.fmod_lt_of_pos _ hm0) ((keepX_of (same_new ht)).trans keepX_upd) ⟨_, _, _, _, upd_same⟩
    · refine ⟨_, rfl, p, _, _, _, rfl, rfl, SqL.of (h1 _), rfl, _, _, rfl, rfl, _, rfl, p, _, _, 2, rfl, rfl, h1 _, rfl, ?_⟩
      refine ⟨_, rfl, p, _, _, _, rfl, rfl, SqL.of upd_same, rfl, _, rfl, p, _, _, _, rfl, rfl, SqL.of upd_same, rfl, _, _, rfl, fun n => ?_⟩
      refine ⟨_, rfl, _, _, rfl, rfl, hm, ?_⟩
      exact q _ _ (Int.fmod_nonneg_of_pos _ hm0) (Int.fmod_lt_of_pos _ hm0) ((keepX_of (same_new ht)).trans keepX_upd) ⟨_, _, _, _, upd_same⟩
  · refine ⟨_, rfl, p, _, _, _, rfl, rfl, SqL.of h, rfl, _, _, rfl, rfl, _, rfl, p, _, _, 2, rfl, rfl, h, rfl, ?_⟩
    refine ⟨_, rfl, p, _, _, _, rfl, rfl, SqL.of upd_same, rfl, _, rfl, p, _, _, _, rfl, rfl, SqL.of upd_same, rfl, _, _, rfl, fun n => ?_⟩
    refine ⟨_, rfl, _, _, rfl, rfl, hm, ?_⟩
    exact q _ _ (Int.fmod_nonneg_of_pos _ hm0) (Int.fmod_lt_of_pos _ hm0) keepX_upd ⟨_, _, _, _, upd_same⟩

end
end K03
namespace K03
open PySem L2 TL
section
variable {P : Program} {w : World} {K : PySem.W.Frag} {mg : Str → Option Value} {base : Heap} {A : Ads}
theorem ok_l_value (T : Txt K mg A) : FnOk P w K mg base CX0 4 A.l_value A.l_value_d ["_law_well_here"] spValue := by
  have G_l_draw := ok_l_draw (P := P) (w := w) (base := base) T
  refine T.F_l_value.ok sc_l_value (fun vs H Q E h => ?_) (fun cdv A0 outer s H vs Q E hr h => ?_)
  · obtain ⟨p, rfl, W, q⟩ := h
    rfl
  obtain ⟨p, rfl, W, q⟩ := h
  refine ⟨_, (pss_cons (ps_set (i := 1) sc_l_value.nd rfl (Or.inl rfl) (pe_call G_l_draw (hr.mono (by decide)) rfl T.m_l_draw T.F_l_draw.kp T.b_l_draw .nil pass0 (pa_cons (pv 0) (pa_cons pe_int pa_nil))))
   (pss_cons (ps_if (pt_cmpR op_eq (pv 1) pe_int (nomark _))
    (pss_one (ps_ret (pe_call G_l_draw (hr.mono (by decide)) rfl T.m_l_draw T.F_l_draw.kp T.b_l_draw .nil pass0 (pa_cons (pv 0) (pa_cons (pe_op op_pow pe_int pe_int) pa_nil)))))
    pss_nil)
   (pss_cons (ps_if (pt_cmpR op_eq (pv 1) pe_int (nomark _))
    (pss_one (ps_ret (pe_op op_sub pe_int (pe_call G_l_draw (hr.mono (by decide)) rfl T.m_l_draw T.F_l_draw.kp T.b_l_draw .nil pass0 (pa_cons (pv 0) (pa_cons pe_int pa_nil))))))
    pss_nil)
   (pss_one (ps_ret (pe_call G_l_draw (hr.mono (by decide)) rfl T.m_l_draw T.F_l_draw.kp T.b_l_draw .nil pass0 (pa_cons (pv 0) (pa_cons pe_int pa_nil)))))))), ?_⟩
  refine ⟨_, rfl, p, 4, rfl, W, by decide, by decide, fun n H1 hn0 hn1 k1 W1 => ?_⟩
  refine ⟨_, rfl, rfl, _, rfl, ?_⟩
  refine iteD2 (fun c1 => ?_) (fun c1 => ?_)
  · refine ⟨_, rfl, _, _, rfl, rfl, ⟨by decide, by decide, by decide⟩, p, _, rfl, W1, by decide, by decide, fun m H2 hm0 hm1 k2 W2 => ?_⟩
    have e6 : (10 : Int) ^ ((6 : Int).toNat) = 1000000 := by decide
    rw [e6] at hm1
    exact q m H2 hm0 hm1 (k1.trans k2) W2
  refine ⟨_, rfl, rfl, _, rfl, ?_⟩
  refine iteD2 (fun c2 => ?_) (fun c2 => ?_)
  · refine ⟨_, rfl, p, 3, rfl, W1, by decide, by decide, fun m H2 hm0 hm1 k2 W2 => ?_⟩
    exact ⟨_, _, rfl, rfl, q _ H2 (by omega) (by omega) (k1.trans k2) W2⟩
  · refine ⟨_, rfl, p, 4, rfl, W1, by decide, by decide, fun m H2 hm0 hm1 k2 W2 => ?_⟩
    exact q m H2 hm0 (by omega) (k1.trans k2) W2

theorem ok_l_name (T : Txt K mg A) : FnOk P w K mg base CX0 4 A.l_name A.l_name_d ["_law_well_here"] spName := by
  have G_l_draw := ok_l_draw (P := P) (w := w) (base := base) T
  refine T.F_l_name.ok sc_l_name (fun vs H Q E h => ?_) (fun cdv A0 outer s H vs Q E hr h => ?_)
  · obtain ⟨p, rfl, W, q⟩ := h
    rfl
  obtain ⟨p, rfl, W, q⟩ := h
  refine ⟨_, (pss_cons (ps_if (pt_cmpR op_eq (pe_call G_l_draw (hr.mono (by decide)) rfl T.m_l_draw T.F_l_draw.kp T.b_l_draw .nil pass0 (pa_cons (pv 0) (pa_cons pe_int pa_nil))) pe_int (nomark _))
    (pss_cons (ps_set (i := 1) sc_l_name.nd rfl (Or.inl rfl) (pe_lst (pa_cons pe_str (pa_cons pe_str (pa_cons pe_str (pa_cons pe_str (pa_cons pe_str (pa_cons pe_str (pa_cons pe_str (pa_cons pe_str (pa_cons pe_str (pa_cons pe_str (pa_cons pe_str (pa_cons pe_str pa_nil))))))))))))))
   (pss_one (ps_ret (pe_ix ix_list (pv 1) (pe_call G_l_draw (hr.mono (by decide)) rfl T.m_l_draw T.F_l_draw.kp T.b_l_draw .nil pass0 (pa_cons (pv 0) (pa_cons pe_int pa_nil))) (fun _ _ => rfl)))))
    pss_nil)
   (pss_cons (ps_set (i := 2) sc_l_name.nd rfl (Or.inl rfl) pe_str)
   (pss_cons (ps_for PassesOwn.never rfl (pi_range1 (by rfl) T.z_range (pa_cons (pe_op op_add pe_int (pe_call G_l_draw (hr.mono (by decide)) rfl T.m_l_draw T.F_l_draw.kp T.b_l_draw .nil pass0 (pa_cons (pv 0) (pa_cons pe_int pa_nil)))) pa_nil)) (pg_name (i := 3) sc_l_name.nd rfl (Or.inl rfl))
    (pss_one (ps_set (i := 2) sc_l_name.nd rfl (Or.inl rfl) (pe_op op_add_str (pv 2) (pe_ix ix_str pe_str (pe_call G_l_draw (hr.mono (by decide)) rfl T.m_l_draw T.F_l_draw.kp T.b_l_draw .nil pass0 (pa_cons (pv 0) (pa_cons pe_int pa_nil))) (fun _ _ => rfl))))))
   (pss_cons (ps_if (pt_cmpR op_in_seq (pv 2) (pe_lst (pa_cons pe_str (pa_cons pe_str (pa_cons pe_str (pa_cons pe_str (pa_cons pe_str (pa_cons pe_str (pa_cons pe_str (pa_cons pe_str (pa_cons pe_str (pa_cons pe_str (pa_cons pe_str (pa_cons pe_str (pa_cons pe_str pa_nil)))))))))))))) (by rfl))
    (pss_one (ps_ret (pe_op op_add_str (pv 2) pe_str)))
    pss_nil)
   (pss_cons (ps_if (pt_cmpR op_in_seq (pv 2) (pe_lst (pa_cons pe_str (pa_cons pe_str (pa_cons pe_str (pa_cons pe_str (pa_cons pe_str (pa_cons pe_str (pa_cons pe_str (pa_cons pe_str (pa_cons pe_str pa_nil)))))))))) (by rfl))
    (pss_one (ps_ret (pe_op op_add_str pe_str (pv 2))))
    pss_nil)
   (pss_one (ps_ret (pv 2)))))))), ?_⟩
  refine ⟨_, rfl, p, 2, rfl, W, by decide, by decide, fun n H1 hn0 hn1 k1 W1 => ?_⟩
  refine ⟨rfl, _, rfl, ?_⟩
  refine iteD2 (fun c1 => ?_) (fun c1 => ?_)
  · refine ⟨by show 12 ≤ sizeLine; decide, fun l hl => ?_⟩
    refine ⟨_, rfl, _, rfl, p, 12, rfl, W1.same (same_new hl), by decide, by decide, fun m H2 hm0 hm1 k2 W2 => ?_⟩
    have npl : l ≠ p := fun e => by obtain ⟨_, _, _, _, w⟩ := W1; rw [← e, hl] at w; cases w
    have hl2 := k2 _ _ npl upd_same
    obtain ⟨s, hs, es⟩ := at_strs (ss := SOMEN) hm0 hm1
    refine ⟨l, SOMEN.map V.str, _, _, rfl, rfl, SqL.of hl2, es, ?_⟩
    exact q s H2 (someN_ok s hs) (k1.trans ((keepX_of (same_new hl)).trans k2)) W2
  · refine ⟨_, rfl, p, 6, rfl, W1, by decide, by decide, fun m H2 hm0 hm1 k2 W2 => ?_⟩
    refine ⟨_, _, rfl, rfl, ?_⟩
    refine ⟨1 + m, rfl, by omega, by omega, for_range (n := (1 + m).toNat) (fun i σ H' => ∃ (s : Str) (v1 v2 : Option V), σ = [some (.ref p), v1, some (.str s), v2] ∧ (tl s).length = i ∧ (∀ c ∈ tl s, 97 ≤ c ∧ c ≤ 122) ∧ KeepX p H H' ∧ WellAt H' p)
      ⟨"", none, none, rfl, rfl, (fun c hc => by have : tl (Str.ofString "") = [] := by decide +kernel
                                                 rw [this] at hc; cases hc), k1.trans k2, W2⟩ ?_ ?_⟩
    · rintro i σ H3 hi ⟨s, v1, v2, rfl, hl, hc, k3, W3⟩
      refine ⟨_, rfl, _, rfl, p, 26, rfl, W3, by decide, by decide, fun z H4 hz0 hz1 k4 W4 => ?_⟩
      obtain ⟨c, hat, hc1, hc2⟩ := letter_at hz0 hz1
      have et : tl (s ++ (⟨#[c]⟩ : Str)) = tl s ++ [c] := by rw [tl_append]
      refine ⟨_, _, c, rfl, rfl, by decide +kernel, hat, ?_⟩
      refine ⟨_, _, rfl, rfl, ?_, s ++ (⟨#[c]⟩ : Str), _, _, rfl, by rw [et, List.length_append, hl]; rfl, fun x hx => ?_, k3.trans k4, W4⟩
      · have : s.length = (tl s).length := len_tl s
        show s.length + 1 ≤ 16777216
        omega
      · rw [et] at hx
        rcases List.mem_append.mp hx with h | h
        · exact hc x h
        · rw [List.mem_singleton.mp h]; exact ⟨hc1, hc2⟩
    · rintro σ H3 ⟨s, v1, v2, rfl, hl, hc, k3, W3⟩
      have hl1 : 1 ≤ (tl s).length := by omega
      have hl6 : (tl s).length ≤ 6 := by omega
      have hls : s.length = (tl s).length := len_tl s
      refine ⟨_, rfl, by show 13 ≤ sizeLine; decide, fun l1 hl1' => ?_⟩
      refine ⟨l1, BAD1.map V.str, rfl, .inl (SqL.of upd_same), rfl, rfl, _, rfl, ?_⟩
      rw [if_neg Bool.false_ne_true, inV_str]
      have k4 := k3.trans (keepX_of (same_new (o := .lst (BAD1.map V.str)) hl1'))
      refine iteD2 (fun c2 => ?_) (fun c2 => ?_)
      · refine ⟨_, rfl, _, _, rfl, rfl, by show s.length + 1 ≤ 16777216; omega, ?_⟩
        exact q _ _ (bad1_ok s c2).1 k4 (W3.same (same_new hl1'))
      refine ⟨_, rfl, by show 9 ≤ sizeLine; decide, fun l2 hl2 => ?_⟩
      refine ⟨l2, BAD2.map V.str, rfl, .inl (SqL.of upd_same), rfl, rfl, _, rfl, ?_⟩
      rw [if_neg Bool.false_ne_true, inV_str]
      have k5 := k4.trans (keepX_of (same_new (o := .lst (BAD2.map V.str)) hl2))
      have W5 := (W3.same (same_new (o := .lst (BAD1.map V.str)) hl1')).same (same_new (o := .lst (BAD2.map V.str)) hl2)
      refine iteD2 (fun c3 => ?_) (fun c3 => ?_)
      · refine ⟨_, rfl, _, _, rfl, rfl, by show 1 + s.length ≤ 16777216; omega, ?_⟩
        exact q _ _ (bad2_ok s c3).1 k5 W5
      · exact ⟨_, rfl, q _ _ (name_of hl1 hl6 hc c2 c3) k5 W5⟩

end
end K03
namespace K03
open PySem L2 TL
section
variable {P : Program} {w : World} {K : PySem.W.Frag} {mg : Str → Option Value} {base : Heap} {A : Ads}
theorem ok_expr_at (T : Txt K mg A) : ∀ n : Nat, FnOk P w K mg base (L2.CX P w) (n + 2) A.expr_at A.expr_at_d ["row", "at", "deep"] (spExprAt K A.ec A.NoProgram n)
| 0 => fn_none fun vs H Q E h => by
    obtain ⟨_, _, _, d, _, _, _, _, hd, _⟩ := h; omega
| n + 1 => by
  have G_expr_at := ok_expr_at T n
  have G_is_value_word := ok_is_value_word (P := P) (w := w) (base := base) T
  have G_Number_init := ok_Number_init (P := P) (w := w) (base := base) T
  have G_is_name := ok_is_name (P := P) (w := w) (base := base) T
  have G_Box_init := ok_Box_init (P := P) (w := w) (base := base) T
  have G_Cell_init := ok_Cell_init (P := P) (w := w) (base := base) T
  have G_Two_init := ok_Two_init (P := P) (w := w) (base := base) T
  refine T.F_expr_at.okX sc_expr_at (fun vs H Q E h => ?_) (fun cdv A0 outer s H vs Q E hr h => ?_)
  · obtain ⟨a, ws, i, d, rfl, hS, hlen, hws, hdn, hd7, q1, q2⟩ := h
    rfl
  obtain ⟨a, ws, i, d, rfl, hS, hlen, hws, hdn, hd7, q1, q2⟩ := h
  refine ⟨_, (pss_cons (ps_if (PW.pt (pw_or (pt_cmpR op_gt (pv 2) (pe_glob (v := .int 6) (by rfl) T.c_MOST_DEEP.choose_spec ⟨_, rfl⟩) (nomark _)) (pw_or1 (pt_cmpR op_ge (pv 1) (pe_callB call_lenK (by rfl) T.z_len (by decide +kernel) (pa_cons (pv 0) pa_nil)) (nomark _)))))
    (pss_one (ps_raise rfl (takes_of rfl rfl rfl rfl) (pmk_own PySem.F.excBase_ValueError T.x_NoProgram T.m_NoProgram T.kk_NoProgram (raises_own T.bb_NoProgram T.tt_NoProgram) (by exact rfl))))
    pss_nil)
   (pss_cons (ps_set (i := 3) sc_expr_at.nd rfl (Or.inl rfl) (pe_ix ix_list (pv 0) (pv 1) (fun _ _ => rfl)))
   (pss_cons (ps_if (pt_val (pe_call G_is_value_word (hr.mono (by omega)) rfl T.m_is_value_word T.F_is_value_word.kp T.b_is_value_word .nil pass0 (pa_cons (pv 3) pa_nil)))
    (pss_one (ps_ret (pe_tup (pa_cons (pe_make T.k_Number G_Number_init (hr.mono (by omega)) rfl T.m_Number T.b_Number_init .nil pass0 (pa_cons (pe_callTy call_int_str (by rfl) T.z_int (by decide +kernel) (pa_cons (pv 3) pa_nil)) pa_nil)) (pa_cons (pe_op op_add (pv 1) pe_int) pa_nil)))))
    pss_nil)
   (pss_cons (ps_if (pt_val (pe_call G_is_name (hr.mono (by omega)) rfl T.m_is_name T.F_is_name.kp T.b_is_name .nil pass0 (pa_cons (pv 3) pa_nil)))
    (pss_one (ps_ret (pe_tup (pa_cons (pe_make T.k_Box G_Box_init (hr.mono (by omega)) rfl T.m_Box T.b_Box_init .nil pass0 (pa_cons (pv 3) pa_nil)) (pa_cons (pe_op op_add (pv 1) pe_int) pa_nil)))))
    pss_nil)
   (pss_cons (ps_if (pt_cmpR op_eq (pv 3) pe_str (nomark _))
    (pss_cons (ps_asg (pe_call G_expr_at (hr.mono (by omega)) rfl T.m_expr_at T.F_expr_at.kp T.b_expr_at .nil (passes_call (takes_of rfl rfl rfl rfl) (fun _ _ _ _ h => h)) (pa_cons (pv 0) (pa_cons (pe_op op_add (pv 1) pe_int) (pa_cons (pe_op op_add (pv 2) pe_int) pa_nil)))) (pg_tup (by rfl) (pgs_cons (pg_name (i := 4) sc_expr_at.nd rfl (Or.inl rfl)) (pgs_cons (pg_name (i := 5) sc_expr_at.nd rfl (Or.inl rfl)) pgs_nil))))
   (pss_one (ps_ret (pe_tup (pa_cons (pe_make T.k_Cell G_Cell_init (hr.mono (by omega)) rfl T.m_Cell T.b_Cell_init .nil pass0 (pa_cons (pv 4) pa_nil)) (pa_cons (pv 5) pa_nil))))))
    pss_nil)
   (pss_cons (ps_if (pt_cmpR op_notIn_seq (pv 3) (pe_glob (v := .ref A.PAIRS) (by rfl) T.m_PAIRS rfl) (by rfl))
    (pss_one (ps_raise rfl (takes_of rfl rfl rfl rfl) (pmk_own PySem.F.excBase_ValueError T.x_NoProgram T.m_NoProgram T.kk_NoProgram (raises_own T.bb_NoProgram T.tt_NoProgram) (by exact rfl))))
    pss_nil)
   (pss_cons (ps_asg (pe_call G_expr_at (hr.mono (by omega)) rfl T.m_expr_at T.F_expr_at.kp T.b_expr_at .nil (passes_call (takes_of rfl rfl rfl rfl) (fun _ _ _ _ h => h)) (pa_cons (pv 0) (pa_cons (pe_op op_add (pv 1) pe_int) (pa_cons (pe_op op_add (pv 2) pe_int) pa_nil)))) (pg_tup (by rfl) (pgs_cons (pg_name (i := 6) sc_expr_at.nd rfl (Or.inl rfl)) (pgs_cons (pg_name (i := 7) sc_expr_at.nd rfl (Or.inl rfl)) pgs_nil))))
   (pss_cons (ps_asg (pe_call G_expr_at (hr.mono (by omega)) rfl T.m_expr_at T.F_expr_at.kp T.b_expr_at .nil (passes_call (takes_of rfl rfl rfl rfl) (fun _ _ _ _ h => h)) (pa_cons (pv 0) (pa_cons (pv 7) (pa_cons (pe_op op_add (pv 2) pe_int) pa_nil)))) (pg_tup (by rfl) (pgs_cons (pg_name (i := 8) sc_expr_at.nd rfl (Or.inl rfl)) (pgs_cons (pg_name (i := 5) sc_expr_at.nd rfl (Or.inl rfl)) pgs_nil))))
   (pss_one (ps_ret (pe_tup (pa_cons (pe_make T.k_Two G_Two_init (hr.mono (by omega)) rfl T.m_Two T.b_Two_init .nil pass0 (pa_cons (pv 3) (pa_cons (pv 6) (pa_cons (pv 8) pa_nil)))) (pa_cons (pv 5) pa_nil))))))))))))), ?_⟩
  refine ⟨_, rfl, _, _, rfl, rfl, _, rfl, ?_⟩
  refine iteD2 (fun c1 => ?_) (fun c1 => ?_)
  · have d0 : d = 0 := by omega
    subst d0
    exact q2 rfl H (Same.refl H)
  obtain ⟨d', rfl⟩ : ∃ d', d = d' + 1 := ⟨d - 1, by omega⟩
  refine ⟨_, rfl, _, rfl, a, _, rfl, .inl hS, _, _, rfl, rfl, _, rfl, ?_⟩
  rw [List.length_map]
  refine iteD2 (fun c2 => ?_) (fun c2 => ?_)
  · refine q2 ?_ H (Same.refl H)
    rw [List.drop_eq_nil_of_le (by omega)]
    rfl
  obtain ⟨w1, r1, hw⟩ : ∃ w1 r1, ws.drop i = w1 :: r1 := ⟨_, _, List.drop_eq_getElem_cons (by omega)⟩
  obtain ⟨hi, hat, hdr, hrl, hmem⟩ := at_str hw
  rw [hw, parseE_cons] at q1 q2
  have hl1 := hws _ hmem
  refine ⟨_, rfl, _, rfl, a, _, _, _, rfl, rfl, hS, hat, ?_⟩
  refine ⟨_, rfl, w1, rfl, hl1, fun H1 s1 => ⟨_, rfl, iteB2 (fun c3 => ?_) (fun c3 => ?_)⟩⟩
  · rw [if_pos c3] at q1
    have hv := valW_int c3
    refine ⟨_, rfl, w1, valOf w1, rfl, hv.1, hv.2.1, fun x dx hx hdx _ => mk_init hx hdx fun H2 s2 h2 => ?_⟩
    refine ⟨_, rfl, _, _, rfl, rfl, by show 2 ≤ sizeLine; decide, fun t ht => ?_⟩
    refine q1 _ _ rfl t _ (.ref x) (s1.trans (s2.trans (same_new ht))) ?_ ⟨x, dx, rfl, (same_new ht) _ _ h2⟩
    rw [upd_same, hrl]
    have : ((ws.length - (ws.length - (i + 1)) : Nat) : Int) = (i : Int) + 1 := by omega
    rw [this]
  rw [if_neg (by rw [c3]; decide)] at q1 q2
  refine ⟨_, rfl, w1, rfl, hl1, fun H2 s2 => ⟨_, rfl, iteB2 (fun c4 => ?_) (fun c4 => ?_)⟩⟩
  · rw [if_pos c4] at q1
    refine ⟨_, rfl, fun x dx hx hdx _ => mk_init hx hdx fun H3 s3 h3 => ?_⟩
    refine ⟨_, rfl, _, _, rfl, rfl, by show 2 ≤ sizeLine; decide, fun t ht => ?_⟩
    refine q1 _ _ rfl t _ (.ref x) (s1.trans (s2.trans (s3.trans (same_new ht)))) ?_ ⟨x, dx, rfl, (same_new ht) _ _ h3⟩
    rw [upd_same, hrl]
    have : ((ws.length - (ws.length - (i + 1)) : Nat) : Int) = (i : Int) + 1 := by omega
    rw [this]
  rw [if_neg (by rw [c4]; decide)] at q1 q2
  have s12 := s1.trans s2
  have e1 : (i : Int) + 1 = ((i + 1 : Nat) : Int) := by omega
  have e2 : (7 : Int) - ((d' + 1 : Nat) : Int) + 1 = 7 - (d' : Int) := by omega
  refine ⟨_, rfl, rfl, _, rfl, ?_⟩
  refine iteD2 (fun c5 => ?_) (fun c5 => ?_)
  · rw [if_pos (V.str.inj c5)] at q1 q2
    refine ⟨_, rfl, _, rfl, _, _, rfl, rfl, _, rfl, _, _, rfl, rfl, a, ws, i + 1, d', (by show [V.ref a, V.int ((i : Int) + 1), V.int ((7 : Int) - ((d' + 1 : Nat) : Int) + 1)] = _; rw [e1, e2]), s12.seq hS, hlen, hws, by omega, by omega, fun e3 r3 p3 t H3 v s3 ht ho => ?_, fun p3 H3 s3 => ?_⟩
    · rw [hdr] at p3
      rw [p3] at q1
      refine ⟨t, _, rfl, SqT.of ht, rfl, _, _, rfl, _, _, rfl, rfl, ?_⟩
      refine ⟨_, rfl, fun x dx hx hdx _ => mk_init hx hdx fun H4 s4 h4 => ?_⟩
      refine ⟨_, rfl, by show 2 ≤ sizeLine; decide, fun t2 ht2 => ?_⟩
      exact q1 _ _ rfl t2 _ (.ref x) (s12.trans (s3.trans (s4.trans (same_new ht2)))) upd_same ⟨x, dx, v, rfl, (same_new ht2) _ _ h4, ho.same (s4.trans (same_new ht2))⟩
    · rw [hdr] at p3
      rw [p3] at q2
      exact q2 rfl H3 (s12.trans s3)
  rw [if_neg (fun e => c5 (congrArg V.str e))] at q1 q2
  refine ⟨_, rfl, A.PAIRS, PAIRW.map V.str, rfl, .inr (T.q_PAIRS _), rfl, rfl, _, rfl, ?_⟩
  rw [if_pos rfl, inV_str]
  refine iteN2 (fun c6 => ?_) (fun c6 => ?_)
  · rw [if_neg c6] at q2
    exact q2 rfl H2 s12
  rw [if_pos c6] at q1 q2
  refine ⟨_, rfl, _, rfl, _, _, rfl, rfl, _, rfl, _, _, rfl, rfl, a, ws, i + 1, d', (by show [V.ref a, V.int ((i : Int) + 1), V.int ((7 : Int) - ((d' + 1 : Nat) : Int) + 1)] = _; rw [e1, e2]), s12.seq hS, hlen, hws, by omega, by omega, fun e3 r3 p3 t H3 v s3 ht ho => ?_, fun p3 H3 s3 => ?_⟩
  · rw [hdr] at p3
    rw [p3] at q1 q2
    have pa := parse_at (i := i + 1) (d := d') (ws := ws) (by rw [hdr]; exact p3)
    refine ⟨t, _, rfl, SqT.of ht, rfl, _, _, rfl, _, _, rfl, rfl, ?_⟩
    refine ⟨_, rfl, _, rfl, _, rfl, _, _, rfl, rfl, a, ws, ws.length - r3.length, d', (by show [V.ref a, V.int _, V.int ((7 : Int) - ((d' + 1 : Nat) : Int) + 1)] = _; rw [e2]), s3.seq (s12.seq hS), hlen, hws, by omega, by omega, fun e4 r4 p4 t2 H4 v2 s4 ht2 ho2 => ?_, fun p4 H4 s4 => ?_⟩
    · rw [pa.2.2] at p4
      simp only at q1
      rw [p4] at q1
      refine ⟨t2, _, rfl, SqT.of ht2, rfl, _, _, rfl, _, _, rfl, rfl, ?_⟩
      refine ⟨_, rfl, _, rfl, _, rfl, fun x dx hx hdx _ => mk_two hx hdx fun H5 s5 h5 => ?_⟩
      refine ⟨_, rfl, by show 2 ≤ sizeLine; decide, fun t3 ht3 => ?_⟩
      exact q1 _ _ rfl t3 _ (.ref x) (s12.trans (s3.trans (s4.trans (s5.trans (same_new ht3))))) upd_same ⟨x, dx, v, v2, rfl, (same_new ht3) _ _ h5, ho.same (s4.trans (s5.trans (same_new ht3))), ho2.same (s5.trans (same_new ht3))⟩
    · rw [pa.2.2] at p4
      simp only at q2
      rw [p4] at q2
      exact q2 rfl H4 (s12.trans (s3.trans s4))
  · rw [hdr] at p3
    rw [p3] at q2
    exact q2 rfl H3 (s12.trans s3)

end
end K03
namespace K03
open PySem L2 TL
section
variable {P : Program} {w : World} {K : PySem.W.Frag} {mg : Str → Option Value} {base : Heap} {A : Ads}
theorem ok_exprs_of (T : Txt K mg A) : FnOk P w K mg base (L2.CX P w) 11 A.exprs_of A.exprs_of_d ["row"] (spExprs K A.ec A.NoProgram) := by
  have G_expr_at := ok_expr_at (P := P) (w := w) (base := base) T 8
  have D_parts := disp_parts (P := P) (w := w) (base := base) T 7
  refine T.F_exprs_of.okX sc_exprs_of (fun vs H Q E h => ?_) (fun cdv A0 outer s H vs Q E hr h => ?_)
  · obtain ⟨a, ws, rfl, hS, hlen, hws, q1, q2⟩ := h
    rfl
  obtain ⟨a, ws, rfl, hS, hlen, hws, q1, q2⟩ := h
  refine ⟨_, (pss_cons (ps_set (i := 1) sc_exprs_of.nd rfl (Or.inl rfl) (pe_lst pa_nil))
   (pss_cons (ps_set (i := 2) sc_exprs_of.nd rfl (Or.inl rfl) pe_int)
   (pss_cons (ps_while (passes_of rfl) (pt_cmpR op_lt (pv 2) (pe_callB call_lenK (by rfl) T.z_len (by decide +kernel) (pa_cons (pv 0) pa_nil)) (nomark _))
    (pss_cons (ps_asg (pe_call G_expr_at (hr.mono (by decide)) rfl T.m_expr_at T.F_expr_at.kp T.b_expr_at .nil (passes_call (takes_of rfl rfl rfl rfl) (fun _ _ _ _ h => h)) (pa_cons (pv 0) (pa_cons (pv 2) (pa_cons pe_int pa_nil)))) (pg_tup (by rfl) (pgs_cons (pg_name (i := 3) sc_exprs_of.nd rfl (Or.inl rfl)) (pgs_cons (pg_name (i := 2) sc_exprs_of.nd rfl (Or.inl rfl)) pgs_nil))))
   (pss_cons (ps_if (pt_cmpR op_gt (pe_methP0 (pv 3) D_parts (hr.mono (by decide)) pass0) (pe_glob (v := .int 15) (by rfl) T.c_MOST_PARTS.choose_spec ⟨_, rfl⟩) (nomark _))
    (pss_one (ps_raise rfl (takes_of rfl rfl rfl rfl) (pmk_own PySem.F.excBase_ValueError T.x_NoProgram T.m_NoProgram T.kk_NoProgram (raises_own T.bb_NoProgram T.tt_NoProgram) (by exact rfl))))
    pss_nil)
   (pss_one (ps_expr (pe_bm PySem.F.plainAttrs_list PySem.F.slot_list_append PySem.F.type_list_append mt_append (pv 1) (pa_cons (pv 3) pa_nil)))))))
   (pss_one (ps_ret (pv 1)))))), ?_⟩
  refine ⟨by show 0 ≤ sizeLine; decide, fun l hl => ?_⟩
  refine while_m (fun m σ H' => ∃ (i : Nat) (es : List Ex) (os : List V) (z : Option V), σ = [some (.ref a), some (.ref l), some (.int i), z] ∧ m = ws.length - i ∧ i ≤ ws.length ∧ Same H H' ∧ H' l = some (.lst os) ∧ os.length ≤ i ∧ AllE A.ec H' es os ∧ after es (parseAll (ws.drop i).length (ws.drop i)) = parseAll ws.length ws) ws.length
    ⟨0, [], [], none, rfl, rfl, Nat.zero_le _, same_new hl, upd_same, Nat.le_refl _, .nil, by rw [List.drop_zero]; cases parseAll ws.length ws <;> rfl⟩ ?_
  rintro m σ H1 ⟨i, es, os, z, rfl, rfl, hi, s1, h1, hos, ha, hp⟩
  refine ⟨_, rfl, _, rfl, a, _, rfl, .inl (s1.seq hS), _, _, rfl, rfl, _, rfl, ?_⟩
  rw [List.length_map]
  refine iteD2 (fun c1 => ?_) (fun c1 => ?_)
  · refine ⟨fun σ' H' => ∃ (i' : Nat) (es : List Ex) (os : List V) (z : Option V), i < i' ∧ σ' = [some (.ref a), some (.ref l), some (.int i'), z] ∧ i' ≤ ws.length ∧ Same H H' ∧ H' l = some (.lst os) ∧ os.length ≤ i' ∧ AllE A.ec H' es os ∧ after es (parseAll (ws.drop i').length (ws.drop i')) = parseAll ws.length ws,
      fun σ' H' ⟨i', es, os, z, hi', hσ, k⟩ => ⟨ws.length - i', by omega, i', es, os, z, hσ, rfl, k⟩, ?_⟩
    obtain ⟨w1, r1, hw⟩ : ∃ w1 r1, ws.drop i = w1 :: r1 := ⟨_, _, List.drop_eq_getElem_cons (by omega)⟩
    rw [hw, parseAll_step, ← hw] at hp
    refine ⟨_, rfl, _, rfl, a, ws, i, 6, rfl, s1.seq hS, hlen, hws, by decide, by decide, fun e r p t H2 v s2 ht ho => ?_, fun p H2 s2 => ?_⟩
    · rw [p] at hp
      have pa := parse_at p
      simp only at hp
      refine ⟨t, _, rfl, SqT.of ht, rfl, _, _, rfl, _, _, rfl, rfl, ?_⟩
      obtain ⟨p2, d2, f2, e2, g1, g2⟩ := ho.at (m := "parts") (by decide +kernel)
      refine ⟨_, rfl, p2, _, d2, f2, e2, g1, g2, A.ec.fam e, e, v, by rw [e2]; rfl, ho, rfl, by have := (parse_wf p).2.1; omega, ?_⟩
      refine ⟨_, _, rfl, rfl, _, rfl, ?_⟩
      refine iteD2 (fun c2 => ?_) (fun c2 => ?_)
      · rw [if_neg (by omega)] at hp
        exact q2 hp.symm H2 (s1.trans s2)
      · rw [if_pos (by omega)] at hp
        have h2 := s2 _ _ h1
        refine ⟨_, rfl, .inl ⟨rfl, _, SqL.of h2⟩, _, rfl, l, _, _, rfl, rfl, h2, Nat.lt_of_le_of_lt (Nat.le_trans hos (Nat.le_trans hi hlen)) (by decide), ?_⟩
        have kx : ∀ b o, H b = some o → upd H2 l (.lst (os ++ [v])) b = some o := fun b o hb => by rw [upd_ne (ne_of_none hb hl)]; exact (s1.trans s2) b o hb
        have hol : ∀ {e : Ex} {v : V} {X : Hp}, Same X H2 → ObjE A.ec X e v → ObjE A.ec (upd H2 l (.lst (os ++ [v]))) e v := fun sx hx => objE_upd h2 (hx.same sx)
        refine ⟨ws.length - r.length, es ++ [e], os ++ [v], _, pa.1, rfl, pa.2.1, kx, upd_same, by rw [List.length_append, List.length_singleton]; omega, allE_snoc_upd h2 (ha.same s2) ho, ?_⟩
        rw [pa.2.2, ← hp]
        cases q : parseAll r.length r with
        | none => rfl
        | some fs => show some ((es ++ [e]) ++ fs) = some (es ++ (e :: fs)); rw [List.append_assoc]; rfl
    · rw [p] at hp
      exact q2 hp.symm H2 (s1.trans s2)
  · have ei : i = ws.length := by omega
    subst ei
    rw [List.drop_length] at hp
    have hp' : some es = parseAll ws.length ws := by
      rw [← hp]; show _ = some (es ++ []); rw [List.append_nil]
    exact ⟨_, rfl, q1 es hp'.symm l H1 os s1 hl h1 ha⟩

end
end K03
namespace K03
open PySem L2 TL
section
variable {P : Program} {w : World} {K : PySem.W.Frag} {mg : Str → Option Value} {base : Heap} {A : Ads}
theorem ok_read_expr (T : Txt K mg A) : FnOk P w K mg base (L2.CX P w) 12 A.read_expr A.read_expr_d ["text"] (spReadE A.ec A.NoProgram) := by
  have G_exprs_of := ok_exprs_of (P := P) (w := w) (base := base) T
  refine T.F_read_expr.okX sc_read_expr (fun vs H Q E h => ?_) (fun cdv A0 outer s H vs Q E hr h => ?_)
  · obtain ⟨s, rfl, hl, q1, q2⟩ := h
    rfl
  obtain ⟨s, rfl, hl, q1, q2⟩ := h
  refine ⟨_, (pss_cons (ps_if (pt_not (pt_val (pe_callB call_isi (by rfl) T.z_isinstance (by decide +kernel) (pa_cons (pv 0) (pa_cons (pe_bltn (v := .ty "str") (by rfl) T.z_str (by decide +kernel) rfl) pa_nil)))))
    (pss_one (ps_raise rfl (takes_of rfl rfl rfl rfl) (pmk_own PySem.F.excBase_ValueError T.x_NoProgram T.m_NoProgram T.kk_NoProgram (raises_own T.bb_NoProgram T.tt_NoProgram) (by exact rfl))))
    pss_nil)
   (pss_cons (ps_set (i := 1) sc_read_expr.nd rfl (Or.inl rfl) (pe_call G_exprs_of (hr.mono (by decide)) rfl T.m_exprs_of T.F_exprs_of.kp T.b_exprs_of .nil (passes_call (takes_of rfl rfl rfl rfl) (fun _ _ _ _ h => h)) (pa_cons (pe_split (pv 0) pe_str) pa_nil)))
   (pss_cons (ps_if (pt_cmpR op_ne (pe_callB call_lenK (by rfl) T.z_len (by decide +kernel) (pa_cons (pv 1) pa_nil)) pe_int (nomark _))
    (pss_one (ps_raise rfl (takes_of rfl rfl rfl rfl) (pmk_own PySem.F.excBase_ValueError T.x_NoProgram T.m_NoProgram T.kk_NoProgram (raises_own T.bb_NoProgram T.tt_NoProgram) (by exact rfl))))
    pss_nil)
   (pss_one (ps_ret (pe_ix ix_list (pv 1) pe_int (fun _ _ => rfl))))))), ?_⟩
  refine ⟨_, rfl, _, _, _, _, true, rfl, .ty _, .base (.str _), kit_ty (by decide +kernel), _, rfl, iteF ?_⟩
  have hs := split_small (s := s) hl
  refine ⟨_, rfl, ⟨_, rfl⟩, s, _, rfl, rfl, (by decide +kernel), Nat.le_trans (Nat.add_le_add_right hl 2) (by decide), fun l hn => ?_⟩
  refine ⟨l, Txt.split s " ", rfl, SqL.of upd_same, hs.1, hs.2, fun es p t H1 os s1 _ h1 ha => ?_, fun p H1 s1 => ?_⟩
  · refine ⟨_, rfl, t, _, rfl, .inl (SqL.of h1), rfl, _, rfl, ?_⟩
    have hlen := ha.length
    refine iteN2 (fun c => ?_) (fun c => ?_)
    · refine q2 (fun e pe => ?_) H1 ((same_new hn).trans s1)
      rw [p] at pe
      have : es = [e] := Option.some.inj pe
      rw [this] at hlen
      exact c (congrArg V.int (by rw [← hlen]; rfl))
    · have c' := V.int.inj c
      cases ha with
      | nil => simp at c'
      | cons o r =>
        cases r with
        | cons o2 r2 => simp at c'; omega
        | nil => exact ⟨_, rfl, t, _, _, _, rfl, rfl, SqL.of h1, rfl, q1 _ p _ H1 ((same_new hn).trans s1) o⟩
  · exact q2 (fun e pe => by rw [p] at pe; cases pe) H1 ((same_new hn).trans s1)

end
end K03
namespace K03
open PySem L2 TL
section
variable {P : Program} {w : World} {K : PySem.W.Frag} {mg : Str → Option Value} {base : Heap} {A : Ads}
theorem ok_l_parts (T : Txt K mg A) : ∀ n : Nat, FnOk P w K mg base CX0 (n + 2) A.l_parts A.l_parts_d ["_law_told"] (spLParts K n)
| 0 => fn_none fun vs H Q E h => by
    obtain ⟨e, _, _, _, _, hd, _⟩ := h; have := e.depth_pos; omega
| n + 1 => by
  have G_l_parts := ok_l_parts T n
  refine T.F_l_parts.ok sc_l_parts (fun vs H Q E h => ?_) (fun cdv A0 outer s H vs Q E hr h => ?_)
  · obtain ⟨e, v, rfl, ht, hw, hd, q⟩ := h
    rfl
  obtain ⟨e, v, rfl, ht, hw, hd, q⟩ := h
  refine ⟨_, (pss_cons (ps_if (pt_cmpR op_in_seq (pe_ix ix_tup (pv 0) pe_int (fun _ _ => rfl)) (pe_tup (pa_cons pe_str (pa_cons pe_str pa_nil))) (by rfl))
    (pss_one (ps_ret pe_int))
    pss_nil)
   (pss_one (ps_ret (pe_op op_add pe_int (pe_callB (cr_sum rfl) (by rfl) T.z_sum (by decide +kernel) (pa_cons (pe_lc (own := [("_law_one", 1)]) (g := gName 1) (tt := tYes) rfl sc_l_parts.nd (pi_tup (pe_slice sl_tup (pv 0) (po_some pe_int) po_none)) (blkOk_by (own := [("_law_one", 1)]) (N := N_l_parts) (sc := defScope s_l_parts) (by decide +kernel)) (fun _ _ _ _ _ => pg_name (i := 1) sc_l_parts.nd rfl (Or.inl rfl)) (fun _ _ _ _ _ => pts_nil) (fun _ _ _ _ _ => (pe_call G_l_parts (hr.mono (by omega)) rfl T.m_l_parts T.F_l_parts.kp T.b_l_parts .nil pass0 (pa_cons (pv 1) pa_nil)))) pa_nil)))))), ?_⟩
  cases e with
  | num z =>
    obtain ⟨t, rfl, h1⟩ := ht
    refine ⟨_, rfl, t, _, _, _, rfl, rfl, SqT.of h1, rfl, by show 2 ≤ sizeLine; decide, fun u hu => ?_⟩
    refine ⟨u, [.str "number", .str "box"], rfl, .inr (SqT.of upd_same), rfl, rfl, _, rfl, ?_⟩
    rw [if_neg Bool.false_ne_true, in_num]
    exact iteT (q _ (same_new hu))
  | box z =>
    obtain ⟨t, rfl, h1⟩ := ht
    refine ⟨_, rfl, t, _, _, _, rfl, rfl, SqT.of h1, rfl, by show 2 ≤ sizeLine; decide, fun u hu => ?_⟩
    refine ⟨u, [.str "number", .str "box"], rfl, .inr (SqT.of upd_same), rfl, rfl, _, rfl, ?_⟩
    rw [if_neg Bool.false_ne_true, in_box]
    exact iteT (q _ (same_new hu))
  | cell e =>
    obtain ⟨t, i, rfl, h1, h2⟩ := ht
    have hd' : e.depth ≤ n := Nat.le_of_succ_le_succ hd
    refine ⟨_, rfl, t, _, _, _, rfl, rfl, SqT.of h1, rfl, by show 2 ≤ sizeLine; decide, fun u hu => ?_⟩
    refine ⟨u, [.str "number", .str "box"], rfl, .inr (SqT.of upd_same), rfl, rfl, _, rfl, ?_⟩
    rw [if_neg Bool.false_ne_true, in_cell]
    refine iteF ?_
    have s1 := same_new (o := .tup [.str "number", .str "box"]) hu
    refine ⟨_, rfl, 1, rfl, t, [.str "cell", i], rfl, SqT.of (s1 _ _ h1), (by show ¬(HT.sIx 2 0 (some 1) = 0 ∧ HT.sIx 2 2 none = 2); decide), fun p hp => ?_⟩
    have s2 := s1.trans (same_new (o := .tup [i]) hp)
    refine ⟨p, rfl, ⟨_, SqT.of upd_same⟩, fun D hD => lc_map (walk_tup (xs := [i])) (fun _ => .int e.parts) hD (by show 1 < 16777216; decide) (by show 1 < 2; decide) (fun H' s' => SqT.of (s' _ _ upd_same)) (fun _ _ _ _ y => y.1) ?_ ?_⟩
    · rintro k x H' Z hk s' ⟨_, hx⟩ z
      obtain rfl : k = 0 := by have : k < 1 := hk; omega
      cases hx
      exact ⟨_, rfl, e, i, rfl, h2.same (s2.trans s'), hw, hd', z⟩
    · intro H' s' hD'
      refine ⟨D, [(e.parts : Int)], rfl, SqL.of hD', ?_⟩
      refine ⟨_, _, rfl, rfl, ?_⟩
      have e1 : (1 : Int) + ([(e.parts : Int)].sum) = ((Ex.cell e).parts : Int) := by show (1 : Int) + ((e.parts : Int) + 0) = ((1 + e.parts : Nat) : Int); omega
      show Q (.int ((1 : Int) + ([(e.parts : Int)].sum))) H'
      rw [e1]
      exact q H' (s2.trans s')
  | two wd l r =>
    obtain ⟨t, a, b, rfl, h1, h2, h3⟩ := ht
    have hd' : max l.depth r.depth ≤ n := Nat.le_of_succ_le_succ hd
    obtain ⟨hw0, hw1, hw2⟩ : wd ∈ PAIRW ∧ l.Wf ∧ r.Wf := hw
    refine ⟨_, rfl, t, _, _, _, rfl, rfl, SqT.of h1, rfl, by show 2 ≤ sizeLine; decide, fun u hu => ?_⟩
    refine ⟨u, [.str "number", .str "box"], rfl, .inr (SqT.of upd_same), rfl, rfl, _, rfl, ?_⟩
    rw [if_neg Bool.false_ne_true, in_pair hw0]
    refine iteF ?_
    have s1 := same_new (o := .tup [.str "number", .str "box"]) hu
    refine ⟨_, rfl, 1, rfl, t, [.str wd, a, b], rfl, SqT.of (s1 _ _ h1), (by show ¬(HT.sIx 3 0 (some 1) = 0 ∧ HT.sIx 3 3 none = 3); decide), fun p hp => ?_⟩
    have s2 := s1.trans (same_new (o := .tup [a, b]) hp)
    refine ⟨p, rfl, ⟨_, SqT.of upd_same⟩, fun D hD => lc_map (walk_tup (xs := [a, b])) (fun k => if k = 0 then .int l.parts else .int r.parts) hD (by show 2 < 16777216; decide) (by show 1 < 2; decide) (fun H' s' => SqT.of (s' _ _ upd_same)) (fun _ _ _ _ y => y.1) ?_ ?_⟩
    · rintro k x H' Z hk s' ⟨_, hx⟩ z
      have : k = 0 ∨ k = 1 := by have : k < 2 := hk; omega
      rcases this with rfl | rfl
      · cases hx
        exact ⟨_, rfl, l, a, rfl, h2.same (s2.trans s'), hw1, by omega, z⟩
      · cases hx
        exact ⟨_, rfl, r, b, rfl, h3.same (s2.trans s'), hw2, by omega, z⟩
    · intro H' s' hD'
      refine ⟨D, [(l.parts : Int), (r.parts : Int)], rfl, SqL.of hD', ?_⟩
      refine ⟨_, _, rfl, rfl, ?_⟩
      have e1 : (1 : Int) + ([(l.parts : Int), (r.parts : Int)].sum) = ((Ex.two wd l r).parts : Int) := by show (1 : Int) + ((l.parts : Int) + ((r.parts : Int) + 0)) = ((1 + l.parts + r.parts : Nat) : Int); omega
      show Q (.int ((1 : Int) + ([(l.parts : Int), (r.parts : Int)].sum))) H'
      rw [e1]
      exact q H' (s2.trans s')

end
end K03
namespace K03
open PySem L2 TL
section
variable {P : Program} {w : World} {K : PySem.W.Frag} {mg : Str → Option Value} {base : Heap} {A : Ads}
theorem ok_l_expr (T : Txt K mg A) : ∀ n : Nat, FnOk P w K mg base CX0 (n + 9) A.l_expr A.l_expr_d ["_law_well_here", "_law_deep", "_law_most"] (spLExpr K n)
| 0 => fn_none fun vs H Q E h => by
    obtain ⟨_, _, _, _, _, h1, h2, _⟩ := h; omega
| n + 1 => by
  have G_l_expr := ok_l_expr T n
  have G_l_draw := ok_l_draw (P := P) (w := w) (base := base) T
  have G_l_parts := ok_l_parts (P := P) (w := w) (base := base) T 7
  have G_l_value := ok_l_value (P := P) (w := w) (base := base) T
  have G_l_name := ok_l_name (P := P) (w := w) (base := base) T
  refine T.F_l_expr.ok sc_l_expr (fun vs H Q E h => ?_) (fun cdv A0 outer s H vs Q E hr h => ?_)
  · obtain ⟨p, d, m, rfl, W, hd1, hdn, hn8, hm1, q⟩ := h
    rfl
  obtain ⟨p, d, m, rfl, W, hd1, hdn, hn8, hm1, q⟩ := h
  refine ⟨_, (pss_cons (ps_set (i := 3) sc_l_expr.nd rfl (Or.inl rfl) (pe_call G_l_draw (hr.mono (by omega)) rfl T.m_l_draw T.F_l_draw.kp T.b_l_draw .nil pass0 (pa_cons (pv 0) (pa_cons pe_int pa_nil))))
   (pss_cons (ps_ifC (PW.pt (pw_and (pt_cmpR op_eq (pv 3) pe_int (nomark _)) (pw_and (pt_cmpR op_gt (pv 1) pe_int (nomark _)) (pw_and1 (pt_cmpR op_gt (pv 2) pe_int (nomark _))))))
    (pss_one (ps_ret (pe_tup (pa_cons pe_str (pa_cons (pe_call G_l_expr (hr.mono (by omega)) rfl T.m_l_expr T.F_l_expr.kp T.b_l_expr .nil pass0 (pa_cons (pv 0) (pa_cons (pe_op op_sub (pv 1) pe_int) (pa_cons (pe_op op_sub (pv 2) pe_int) pa_nil)))) pa_nil)))))
    pss_nil)
   (pss_cons (ps_ifC (PW.pt (pw_and (pt_cmpR op_gt (pv 3) pe_int (nomark _)) (pw_and (pt_cmpR op_gt (pv 1) pe_int (nomark _)) (pw_and1 (pt_cmpR op_gt (pv 2) pe_int (nomark _))))))
    (pss_cons (ps_set (i := 4) sc_l_expr.nd rfl (Or.inl rfl) (pe_ix ix_list (pe_lst (pa_cons pe_str (pa_cons pe_str (pa_cons pe_str (pa_cons pe_str (pa_cons pe_str (pa_cons pe_str (pa_cons pe_str pa_nil)))))))) (pe_call G_l_draw (hr.mono (by omega)) rfl T.m_l_draw T.F_l_draw.kp T.b_l_draw .nil pass0 (pa_cons (pv 0) (pa_cons pe_int pa_nil))) (fun _ _ => rfl)))
   (pss_cons (ps_set (i := 5) sc_l_expr.nd rfl (Or.inl rfl) (pe_call G_l_expr (hr.mono (by omega)) rfl T.m_l_expr T.F_l_expr.kp T.b_l_expr .nil pass0 (pa_cons (pv 0) (pa_cons (pe_op op_sub (pv 1) pe_int) (pa_cons (pe_op op_sub (pv 2) pe_int) pa_nil)))))
   (pss_one (ps_ret (pe_tup (pa_cons (pv 4) (pa_cons (pv 5) (pa_cons (pe_call G_l_expr (hr.mono (by omega)) rfl T.m_l_expr T.F_l_expr.kp T.b_l_expr .nil pass0 (pa_cons (pv 0) (pa_cons (pe_op op_sub (pv 1) pe_int) (pa_cons (pe_op op_sub (pe_op op_sub (pv 2) pe_int) (pe_call G_l_parts (hr.mono (by omega)) rfl T.m_l_parts T.F_l_parts.kp T.b_l_parts .nil pass0 (pa_cons (pv 5) pa_nil))) pa_nil)))) pa_nil))))))))
    pss_nil)
   (pss_cons (ps_if (pt_cmpR op_eq (pe_call G_l_draw (hr.mono (by omega)) rfl T.m_l_draw T.F_l_draw.kp T.b_l_draw .nil pass0 (pa_cons (pv 0) (pa_cons pe_int pa_nil))) pe_int (nomark _))
    (pss_one (ps_ret (pe_tup (pa_cons pe_str (pa_cons (pe_call G_l_value (hr.mono (by omega)) rfl T.m_l_value T.F_l_value.kp T.b_l_value .nil pass0 (pa_cons (pv 0) pa_nil)) pa_nil)))))
    pss_nil)
   (pss_one (ps_ret (pe_tup (pa_cons pe_str (pa_cons (pe_call G_l_name (hr.mono (by omega)) rfl T.m_l_name T.F_l_name.kp T.b_l_name .nil pass0 (pa_cons (pv 0) pa_nil)) pa_nil))))))))), ?_⟩
  refine ⟨_, rfl, p, 4, rfl, W, by decide, by decide, fun way H1 hw0 hw1 k1 W1 => ?_⟩
  refine ⟨decide (way = 1 ∧ 1 < d ∧ 1 < m), H1, fun Z hZ => ?_, ?_⟩
  · refine ⟨_, rfl, rfl, _, rfl, iteD2 (fun c1 => ?_) (fun c1 => zFalse hZ fun h => c1 (congrArg V.int h.1))⟩
    refine ⟨_, rfl, _, _, rfl, rfl, _, rfl, iteD2 (fun c2 => ?_) (fun c2 => zFalse hZ fun h => c2 h.2.1)⟩
    refine ⟨_, rfl, _, _, rfl, rfl, _, rfl, ?_⟩
    by_cases c3 : 1 < m
    · rw [decide_eq_true c3]; exact zTrue hZ ⟨V.int.inj c1, c2, c3⟩
    · rw [decide_eq_false c3]; exact zFalse hZ fun h => c3 h.2.2
  refine iteD2 (fun c => ?_) (fun c => ?_)
  · obtain ⟨c1, c2, c3⟩ := c
    refine ⟨_, rfl, _, rfl, _, _, rfl, rfl, _, rfl, _, _, rfl, rfl, p, d - 1, m - 1, rfl, W1, by omega, by omega, by omega, by omega, fun e v H2 a1 a2 a3 a4 k2 W2 => ?_⟩
    refine ⟨by show 2 ≤ sizeLine; decide, fun t ht => ?_⟩
    have s := same_new (o := .tup [.str "cell", v]) ht
    exact q (.cell e) _ _ a1 (by show ((e.depth + 1 : Nat) : Int) ≤ d; omega) (by show ((1 + e.parts : Nat) : Int) ≤ m; omega) ⟨t, v, rfl, upd_same, a4.same s⟩ (k1.trans (k2.trans (keepX_of s))) (W2.same s)
  refine ⟨decide (1 < way ∧ 1 < d ∧ 2 < m), H1, fun Z hZ => ?_, ?_⟩
  · refine ⟨_, rfl, _, _, rfl, rfl, _, rfl, iteD2 (fun c1 => ?_) (fun c1 => zFalse hZ fun h => c1 h.1)⟩
    refine ⟨_, rfl, _, _, rfl, rfl, _, rfl, iteD2 (fun c2 => ?_) (fun c2 => zFalse hZ fun h => c2 h.2.1)⟩
    refine ⟨_, rfl, _, _, rfl, rfl, _, rfl, ?_⟩
    by_cases c3 : 2 < m
    · rw [decide_eq_true c3]; exact zTrue hZ ⟨c1, c2, c3⟩
    · rw [decide_eq_false c3]; exact zFalse hZ fun h => c3 h.2.2
  refine iteD2 (fun c => ?_) (fun c => ?_)
  · obtain ⟨c1, c2, c3⟩ := c
    refine ⟨by show 7 ≤ sizeLine; decide, fun l hl => ?_⟩
    have s0 := same_new (o := .lst (PAIRW.map V.str)) hl
    refine ⟨_, rfl, p, 7, rfl, W1.same s0, by decide, by decide, fun z H2 hz0 hz1 k2 W2 => ?_⟩
    have npl : l ≠ p := fun e => by obtain ⟨_, _, _, _, w⟩ := W1; rw [← e, hl] at w; cases w
    have hl2 := k2 _ _ npl (upd_same (H := H1) (o := .lst (PAIRW.map V.str)))
    obtain ⟨wd, hs, es⟩ := at_strs (ss := PAIRW) hz0 hz1
    refine ⟨l, PAIRW.map V.str, _, _, rfl, rfl, SqL.of hl2, es, ?_⟩
    have k12 := k1.trans ((keepX_of s0).trans k2)
    refine ⟨_, rfl, _, rfl, _, _, rfl, rfl, _, rfl, _, _, rfl, rfl, p, d - 1, m - 2, rfl, W2, by omega, by omega, by omega, by omega, fun e v H3 a1 a2 a3 a4 k3 W3 => ?_⟩
    refine ⟨_, rfl, _, rfl, _, rfl, _, rfl, _, _, rfl, rfl, _, rfl, _, _, rfl, rfl, _, rfl, e, v, rfl, a4, a1, by omega, fun H4 s4 => ?_⟩
    refine ⟨_, _, rfl, rfl, ?_⟩
    refine ⟨p, d - 1, m - 1 - e.parts, rfl, W3.same s4, by omega, by omega, by omega, by omega, fun e2 v2 H5 b1 b2 b3 b4 k5 W5 => ?_⟩
    refine ⟨by show 3 ≤ sizeLine; decide, fun t ht => ?_⟩
    have s := same_new (o := .tup [.str wd, v, v2]) ht
    exact q (.two wd e e2) _ _ ⟨hs, a1, b1⟩ (by show ((max e.depth e2.depth + 1 : Nat) : Int) ≤ d; omega) (by show ((1 + e.parts + e2.parts : Nat) : Int) ≤ m; omega)
      ⟨t, v, v2, rfl, upd_same, ((a4.same s4).keep k5 (W3.same s4)).same s, b4.same s⟩ (k12.trans (k3.trans ((keepX_of s4).trans (k5.trans (keepX_of s))))) (W5.same s)
  refine ⟨_, rfl, p, 2, rfl, W1, by decide, by decide, fun z H2 hz0 hz1 k2 W2 => ?_⟩
  refine ⟨rfl, _, rfl, ?_⟩
  refine iteD2 (fun c1 => ?_) (fun c1 => ?_)
  · refine ⟨_, rfl, p, rfl, W2, fun x H3 hx0 hx1 k3 W3 => ?_⟩
    refine ⟨by show 2 ≤ sizeLine; decide, fun t ht => ?_⟩
    have s := same_new (o := .tup [.str "number", .int x]) ht
    exact q (.num x) _ _ ⟨hx0, hx1⟩ (by show ((1 : Nat) : Int) ≤ d; omega) (by show ((1 : Nat) : Int) ≤ m; omega) ⟨t, rfl, upd_same⟩ (k1.trans (k2.trans (k3.trans (keepX_of s)))) (W3.same s)
  · refine ⟨_, rfl, p, rfl, W2, fun x H3 hx k3 W3 => ?_⟩
    refine ⟨by show 2 ≤ sizeLine; decide, fun t ht => ?_⟩
    have s := same_new (o := .tup [.str "box", .str x]) ht
    exact q (.box x) _ _ hx (by show ((1 : Nat) : Int) ≤ d; omega) (by show ((1 : Nat) : Int) ≤ m; omega) ⟨t, rfl, upd_same⟩ (k1.trans (k2.trans (k3.trans (keepX_of s)))) (W3.same s)

end
end K03
namespace K03
open PySem L2 TL
section
variable {P : Program} {w : World} {K : PySem.W.Frag} {mg : Str → Option Value} {base : Heap} {A : Ads}
theorem ok_l_words_of (T : Txt K mg A) : ∀ n : Nat, FnOk P w K mg base CX0 (n + 2) A.l_words_of A.l_words_of_d ["_law_told"] (spLWords K n)
| 0 => fn_none fun vs H Q E h => by
    obtain ⟨e, _, _, _, _, _, hd, _⟩ := h; have := e.depth_pos; omega
| n + 1 => by
  have G_l_words_of := ok_l_words_of T n
  refine T.F_l_words_of.ok sc_l_words_of (fun vs H Q E h => ?_) (fun cdv A0 outer s H vs Q E hr h => ?_)
  · obtain ⟨e, v, rfl, ht, hw, hpp, hd, q⟩ := h
    rfl
  obtain ⟨e, v, rfl, ht, hw, hpp, hd, q⟩ := h
  refine ⟨_, (pss_cons (ps_if (pt_cmpR op_in_seq (pe_ix ix_tup (pv 0) pe_int (fun _ _ => rfl)) (pe_tup (pa_cons pe_str (pa_cons pe_str pa_nil))) (by rfl))
    (pss_one (ps_ret (pe_callTy call_str_any (by rfl) T.z_str (by decide +kernel) (pa_cons (pe_ix ix_tup (pv 0) pe_int (fun _ _ => rfl)) pa_nil))))
    pss_nil)
   (pss_one (ps_ret (pe_join pe_str (pe_op op_cat (pe_lst (pa_cons (pe_ix ix_tup (pv 0) pe_int (fun _ _ => rfl)) pa_nil)) (pe_lc (own := [("_law_one", 1)]) (g := gName 1) (tt := tYes) rfl sc_l_words_of.nd (pi_tup (pe_slice sl_tup (pv 0) (po_some pe_int) po_none)) (blkOk_by (own := [("_law_one", 1)]) (N := N_l_words_of) (sc := defScope s_l_words_of) (by decide +kernel)) (fun _ _ _ _ _ => pg_name (i := 1) sc_l_words_of.nd rfl (Or.inl rfl)) (fun _ _ _ _ _ => pts_nil) (fun _ _ _ _ _ => (pe_call G_l_words_of (hr.mono (by omega)) rfl T.m_l_words_of T.F_l_words_of.kp T.b_l_words_of .nil pass0 (pa_cons (pv 1) pa_nil))))))))), ?_⟩
  cases e with
  | num z =>
    obtain ⟨t, rfl, h1⟩ := ht
    refine ⟨_, rfl, t, _, _, _, rfl, rfl, SqT.of h1, rfl, by show 2 ≤ sizeLine; decide, fun u hu => ?_⟩
    refine ⟨u, [.str "number", .str "box"], rfl, .inr (SqT.of upd_same), rfl, rfl, _, rfl, ?_⟩
    rw [if_neg Bool.false_ne_true, in_num]
    have hl : z.natAbs < 2 ^ 20 := by have := hw.1; have := hw.2; omega
    refine iteT ⟨_, rfl, t, _, _, _, rfl, rfl, SqT.of ((same_new hu) _ _ h1), rfl, .inl ⟨z, rfl, log_small hl, ?_⟩⟩
    exact q _ (same_new hu)
  | box z =>
    obtain ⟨t, rfl, h1⟩ := ht
    refine ⟨_, rfl, t, _, _, _, rfl, rfl, SqT.of h1, rfl, by show 2 ≤ sizeLine; decide, fun u hu => ?_⟩
    refine ⟨u, [.str "number", .str "box"], rfl, .inr (SqT.of upd_same), rfl, rfl, _, rfl, ?_⟩
    rw [if_neg Bool.false_ne_true, in_box]
    refine iteT ⟨_, rfl, t, _, _, _, rfl, rfl, SqT.of ((same_new hu) _ _ h1), rfl, .inr ⟨z, rfl, ?_⟩⟩
    exact q _ (same_new hu)
  | cell e =>
    obtain ⟨t, i, rfl, h1, h2⟩ := ht
    have hd' : e.depth ≤ n := Nat.le_of_succ_le_succ hd
    have hp' : 1 + e.parts ≤ 1000 := hpp
    refine ⟨_, rfl, t, _, _, _, rfl, rfl, SqT.of h1, rfl, by show 2 ≤ sizeLine; decide, fun u hu => ?_⟩
    refine ⟨u, [.str "number", .str "box"], rfl, .inr (SqT.of upd_same), rfl, rfl, _, rfl, ?_⟩
    rw [if_neg Bool.false_ne_true, in_cell]
    refine iteF ?_
    have s1 := same_new (o := .tup [.str "number", .str "box"]) hu
    refine ⟨⟨_, rfl⟩, _, rfl, t, _, _, _, rfl, rfl, SqT.of (s1 _ _ h1), rfl, by show 1 ≤ sizeLine; decide, fun l1 hl1 => ?_⟩
    have s3 := s1.trans (same_new (o := .lst [.str "cell"]) hl1)
    refine ⟨_, rfl, 1, rfl, t, [.str "cell", i], rfl, SqT.of (s3 _ _ h1), (by show ¬(HT.sIx 2 0 (some 1) = 0 ∧ HT.sIx 2 2 none = 2); decide), fun p hp => ?_⟩
    have s2 := s3.trans (same_new (o := .tup [i]) hp)
    refine ⟨p, rfl, ⟨_, SqT.of upd_same⟩, fun D hD => lc_map (walk_tup (xs := [i])) (fun _ => .str e.text) hD (by show 1 < 16777216; decide) (by show 1 < 2; decide) (fun H' s' => SqT.of (s' _ _ upd_same)) (fun _ _ _ _ y => y.1) ?_ ?_⟩
    · rintro k x H' Z hk s' ⟨_, hx⟩ z
      obtain rfl : k = 0 := by have : k < 1 := hk; omega
      cases hx
      exact ⟨_, rfl, e, i, rfl, h2.same (s2.trans s'), hw, by omega, hd', z⟩
    · intro H' s' hD'
      have g1 := s' _ _ ((same_new (o := .tup [i]) hp) _ _ upd_same)
      refine ⟨l1, D, [.str "cell"], [.str e.text], rfl, rfl, g1, hD', by show 2 ≤ sizeLine; decide, fun l2 hl2 => ?_⟩
      have q1 := Ex.text_len (e := e) hw
      refine ⟨_, l2, [Str.ofString "cell", e.text], rfl, rfl, .inl (SqL.of upd_same), ?_, ?_⟩
      · show 4 + (e.text.length + 0) + 2 * 1 ≤ 16777216
        omega
      · rw [text_cell]
        exact q _ (s2.trans (s'.trans (same_new hl2)))
  | two wd l r =>
    obtain ⟨t, a, b, rfl, h1, h2, h3⟩ := ht
    have hd' : max l.depth r.depth ≤ n := Nat.le_of_succ_le_succ hd
    have hp' : 1 + l.parts + r.parts ≤ 1000 := hpp
    obtain ⟨hw0, hw1, hw2⟩ : wd ∈ PAIRW ∧ l.Wf ∧ r.Wf := hw
    refine ⟨_, rfl, t, _, _, _, rfl, rfl, SqT.of h1, rfl, by show 2 ≤ sizeLine; decide, fun u hu => ?_⟩
    refine ⟨u, [.str "number", .str "box"], rfl, .inr (SqT.of upd_same), rfl, rfl, _, rfl, ?_⟩
    rw [if_neg Bool.false_ne_true, in_pair hw0]
    refine iteF ?_
    have s1 := same_new (o := .tup [.str "number", .str "box"]) hu
    refine ⟨⟨_, rfl⟩, _, rfl, t, _, _, _, rfl, rfl, SqT.of (s1 _ _ h1), rfl, by show 1 ≤ sizeLine; decide, fun l1 hl1 => ?_⟩
    have s3 := s1.trans (same_new (o := .lst [.str wd]) hl1)
    refine ⟨_, rfl, 1, rfl, t, [.str wd, a, b], rfl, SqT.of (s3 _ _ h1), (by show ¬(HT.sIx 3 0 (some 1) = 0 ∧ HT.sIx 3 3 none = 3); decide), fun p hp => ?_⟩
    have s2 := s3.trans (same_new (o := .tup [a, b]) hp)
    refine ⟨p, rfl, ⟨_, SqT.of upd_same⟩, fun D hD => lc_map (walk_tup (xs := [a, b])) (fun k => if k = 0 then .str l.text else .str r.text) hD (by show 2 < 16777216; decide) (by show 1 < 2; decide) (fun H' s' => SqT.of (s' _ _ upd_same)) (fun _ _ _ _ y => y.1) ?_ ?_⟩
    · rintro k x H' Z hk s' ⟨_, hx⟩ z
      have : k = 0 ∨ k = 1 := by have : k < 2 := hk; omega
      rcases this with rfl | rfl
      · cases hx
        exact ⟨_, rfl, l, a, rfl, h2.same (s2.trans s'), hw1, by omega, by omega, z⟩
      · cases hx
        exact ⟨_, rfl, r, b, rfl, h3.same (s2.trans s'), hw2, by omega, by omega, z⟩
    · intro H' s' hD'
      have g1 := s' _ _ ((same_new (o := .tup [a, b]) hp) _ _ upd_same)
      refine ⟨l1, D, [.str wd], [.str l.text, .str r.text], rfl, rfl, g1, hD', by show 3 ≤ sizeLine; decide, fun l2 hl2 => ?_⟩
      have q1 := Ex.text_len hw1
      have q2 := Ex.text_len hw2
      have q3 := (pair_not_val wd hw0).2.2.2
      refine ⟨_, l2, [wd, l.text, r.text], rfl, rfl, .inl (SqL.of upd_same), ?_, ?_⟩
      · have : wd.length = (tl wd).length := len_tl wd
        show wd.length + (l.text.length + (r.text.length + 0)) + 3 * 1 ≤ 16777216
        omega
      · exact q _ (s2.trans (s'.trans (same_new hl2)))

end
end K03
namespace K03
open PySem L2 TL
section
variable {P : Program} {w : World} {K : PySem.W.Frag} {mg : Str → Option Value} {base : Heap} {A : Ads}
theorem ok_l_few (T : Txt K mg A) : ∀ n : Nat, FnOk P w K mg base CX0 (n + 2) A.l_few A.l_few_d ["_law_told"] (spLFew K n)
| 0 => fn_none fun vs H Q E h => by
    obtain ⟨e, _, _, _, _, hd, _⟩ := h; have := e.depth_pos; omega
| n + 1 => by
  have G_l_few := ok_l_few T n
  refine T.F_l_few.ok sc_l_few (fun vs H Q E h => ?_) (fun cdv A0 outer s H vs Q E hr h => ?_)
  · obtain ⟨e, v, rfl, ht, hw, hd, q⟩ := h
    rfl
  obtain ⟨e, v, rfl, ht, hw, hd, q⟩ := h
  refine ⟨_, (pss_cons (ps_if (pt_cmpR op_eq (pe_ix ix_tup (pv 0) pe_int (fun _ _ => rfl)) pe_str (nomark _))
    (pss_one (ps_ret (pe_tup (pa_cons pe_str (pa_cons (pe_op op_mod (pe_ix ix_tup (pv 0) pe_int (fun _ _ => rfl)) pe_int) pa_nil)))))
    pss_nil)
   (pss_cons (ps_if (pt_cmpR op_eq (pe_ix ix_tup (pv 0) pe_int (fun _ _ => rfl)) pe_str (nomark _))
    (pss_one (ps_ret (pe_tup (pa_cons pe_str (pa_cons (pe_ix ix_str pe_str (pe_op op_mod (pe_callB call_len_str (by rfl) T.z_len (by decide +kernel) (pa_cons (pe_ix ix_tup (pv 0) pe_int (fun _ _ => rfl)) pa_nil)) pe_int) (fun _ _ => rfl)) pa_nil)))))
    pss_nil)
   (pss_one (ps_ret (pe_op op_catT (pe_slice sl_tup (pv 0) po_none (po_some pe_int)) (pe_callTy call_tuple_ofK (by rfl) T.z_tuple (by decide +kernel) (pa_cons (pe_lc (own := [("_law_one", 1)]) (g := gName 1) (tt := tYes) rfl sc_l_few.nd (pi_tup (pe_slice sl_tup (pv 0) (po_some pe_int) po_none)) (blkOk_by (own := [("_law_one", 1)]) (N := N_l_few) (sc := defScope s_l_few) (by decide +kernel)) (fun _ _ _ _ _ => pg_name (i := 1) sc_l_few.nd rfl (Or.inl rfl)) (fun _ _ _ _ _ => pts_nil) (fun _ _ _ _ _ => (pe_call G_l_few (hr.mono (by omega)) rfl T.m_l_few T.F_l_few.kp T.b_l_few .nil pass0 (pa_cons (pv 1) pa_nil)))) pa_nil))))))), ?_⟩
  cases e with
  | num z =>
    obtain ⟨t, rfl, h1⟩ := ht
    refine ⟨_, rfl, t, _, _, _, rfl, rfl, SqT.of h1, rfl, rfl, _, rfl, iteDT rfl ?_⟩
    refine ⟨_, rfl, t, _, _, _, rfl, rfl, SqT.of h1, rfl, ?_⟩
    refine ⟨_, _, rfl, rfl, by show (0 : Int) < 5; decide, by show 2 ≤ sizeLine; decide, fun p hp => ?_⟩
    exact q _ _ (same_new hp) ⟨p, rfl, upd_same⟩
  | box z =>
    obtain ⟨t, rfl, h1⟩ := ht
    refine ⟨_, rfl, t, _, _, _, rfl, rfl, SqT.of h1, rfl, rfl, _, rfl, iteDF (fun h => by cases h) ?_⟩
    refine ⟨_, rfl, t, _, _, _, rfl, rfl, SqT.of h1, rfl, rfl, _, rfl, iteDT rfl ?_⟩
    have hl : z.length ≤ sizeLine := by
      have := (nameW_parts hw).1.2
      rw [← len_tl] at this
      exact Nat.le_trans this (by decide)
    obtain ⟨c, hc1, hc2⟩ := abc_at z.length
    refine ⟨_, rfl, t, _, _, _, rfl, rfl, SqT.of h1, rfl, z, rfl, hl, ?_⟩
    refine ⟨_, _, rfl, rfl, by show (0 : Int) < 3; decide, ?_⟩
    refine ⟨"abc", _, c, rfl, rfl, by decide +kernel, hc1, by show 2 ≤ sizeLine; decide, fun p hp => ?_⟩
    refine q _ _ (same_new hp) ⟨p, rfl, ?_⟩
    rw [hc2]
    exact upd_same
  | cell e =>
    obtain ⟨t, i, rfl, h1, h2⟩ := ht
    have hd' : e.depth ≤ n := Nat.le_of_succ_le_succ hd
    refine ⟨_, rfl, t, _, _, _, rfl, rfl, SqT.of h1, rfl, rfl, _, rfl, iteDF (fun h => by cases h) ?_⟩
    refine ⟨_, rfl, t, _, _, _, rfl, rfl, SqT.of h1, rfl, rfl, _, rfl, iteDF (fun h => by cases h) ?_⟩
    refine ⟨_, rfl, 1, rfl, t, [.str "cell", i], rfl, SqT.of h1, (by show ¬(HT.sIx 2 0 none = 0 ∧ HT.sIx 2 2 (some 1) = 2); decide), fun p1 hp1 => ?_⟩
    have s1 := same_new (o := .tup [.str "cell"]) hp1
    refine ⟨_, rfl, 1, rfl, t, [.str "cell", i], rfl, SqT.of (s1 _ _ h1), (by show ¬(HT.sIx 2 0 (some 1) = 0 ∧ HT.sIx 2 2 none = 2); decide), fun p hp => ?_⟩
    have s2 := s1.trans (same_new (o := .tup [i]) hp)
    refine ⟨p, rfl, ⟨_, SqT.of upd_same⟩, fun D hD => lc_rel [e] (fun H e y => ToldE K H e.few y) (β := fun e v => ToldE K H e v) (ws := [i]) (.cons h2 .nil) (fun _ _ _ _ s h => h.same s) (fun _ _ _ _ _ h g => h.keepT (tupK_put g)) (walk_tup (xs := [i])) hD (by show 1 < 16777216; decide) (by show 1 < 2; decide) (fun H' s' => SqT.of (s' _ _ upd_same)) ?_ ?_⟩
    · intro a x ha hx hb H' Z s' _ z
      obtain rfl := List.mem_singleton.mp ha
      exact ⟨_, rfl, _, x, rfl, hb.same (s2.trans s'), hw, hd', fun r H2 sr tr => z H2 r sr tr⟩
    · intro H' ys s' all hDl
      cases all with
      | cons r1 all =>
      rename_i y ys
      cases all
      refine ⟨D, [y], rfl, .inl ⟨SqL.of hDl, fun u hu => ?_⟩⟩
      have s3 := same_new (o := .tup [y]) hu
      have g1 := s3 _ _ (s' _ _ ((same_new (o := .tup [i]) hp) _ _ (upd_same (H := H) (a := p1) (o := .tup [.str "cell"]))))
      refine ⟨p1, u, [.str "cell"], [y], rfl, rfl, SqT.of g1, SqT.of upd_same, by simp, by show 2 ≤ sizeLine; decide, ⟨fun h => (by cases h), fun _ p2 hp2 => ?_⟩⟩
      have s4 := same_new (o := .tup [.str "cell", y]) hp2
      exact q _ _ (s2.trans (s'.trans (s3.trans s4))) ⟨p2, y, rfl, upd_same, r1.same (s3.trans s4)⟩
  | two wd l r =>
    obtain ⟨t, a, b, rfl, h1, h2, h3⟩ := ht
    have hd' : max l.depth r.depth ≤ n := Nat.le_of_succ_le_succ hd
    obtain ⟨hw0, hw1, hw2⟩ : wd ∈ PAIRW ∧ l.Wf ∧ r.Wf := hw
    obtain ⟨hn1, hn2⟩ := pair_not_few wd hw0
    refine ⟨_, rfl, t, _, _, _, rfl, rfl, SqT.of h1, rfl, rfl, _, rfl, iteDF (fun h => hn1 (V.str.inj h)) ?_⟩
    refine ⟨_, rfl, t, _, _, _, rfl, rfl, SqT.of h1, rfl, rfl, _, rfl, iteDF (fun h => hn2 (V.str.inj h)) ?_⟩
    refine ⟨_, rfl, 1, rfl, t, [.str wd, a, b], rfl, SqT.of h1, (by show ¬(HT.sIx 3 0 none = 0 ∧ HT.sIx 3 3 (some 1) = 3); decide), fun p1 hp1 => ?_⟩
    have s1 := same_new (o := .tup [.str wd]) hp1
    refine ⟨_, rfl, 1, rfl, t, [.str wd, a, b], rfl, SqT.of (s1 _ _ h1), (by show ¬(HT.sIx 3 0 (some 1) = 0 ∧ HT.sIx 3 3 none = 3); decide), fun p hp => ?_⟩
    have s2 := s1.trans (same_new (o := .tup [a, b]) hp)
    refine ⟨p, rfl, ⟨_, SqT.of upd_same⟩, fun D hD => lc_rel [l, r] (fun H e y => ToldE K H e.few y) (β := fun e v => ToldE K H e v) (ws := [a, b]) (.cons h2 (.cons h3 .nil)) (fun _ _ _ _ s h => h.same s) (fun _ _ _ _ _ h g => h.keepT (tupK_put g)) (walk_tup (xs := [a, b])) hD (by show 2 < 16777216; decide) (by show 1 < 2; decide) (fun H' s' => SqT.of (s' _ _ upd_same)) ?_ ?_⟩
    · intro e x he hx hb H' Z s' _ z
      have he2 : e.Wf ∧ e.depth ≤ n := by
        rcases List.mem_cons.mp he with h | h
        · rw [h]; exact ⟨hw1, by omega⟩
        · rw [List.mem_singleton.mp h]; exact ⟨hw2, by omega⟩
      exact ⟨_, rfl, e, x, rfl, hb.same (s2.trans s'), he2.1, he2.2, fun r H2 sr tr => z H2 r sr tr⟩
    · intro H' ys s' all hDl
      cases all with
      | cons r1 all =>
      rename_i y ys
      cases all with
      | cons r2 all =>
      rename_i y2 ys
      cases all
      refine ⟨D, [y, y2], rfl, .inl ⟨SqL.of hDl, fun u hu => ?_⟩⟩
      have s3 := same_new (o := .tup [y, y2]) hu
      have g1 := s3 _ _ (s' _ _ ((same_new (o := .tup [a, b]) hp) _ _ (upd_same (H := H) (a := p1) (o := .tup [.str wd]))))
      refine ⟨p1, u, [.str wd], [y, y2], rfl, rfl, SqT.of g1, SqT.of upd_same, by simp, by show 3 ≤ sizeLine; decide, ⟨fun h => (by cases h), fun _ p2 hp2 => ?_⟩⟩
      have s4 := same_new (o := .tup [.str wd, y, y2]) hp2
      exact q _ _ (s2.trans (s'.trans (s3.trans s4))) ⟨p2, y, y2, rfl, upd_same, r1.same (s3.trans s4), r2.same (s3.trans s4)⟩

end
end K03
namespace K03
open PySem L2 TL
section
variable {P : Program} {w : World} {K : PySem.W.Frag} {mg : Str → Option Value} {base : Heap} {A : Ads}
theorem ok_l_held (T : Txt K mg A) : FnOk P w K mg base CX0 1 A.l_held A.l_held_d ["_law_thing", "_law_salt"] spLHeld := by
  refine T.F_l_held.ok sc_l_held (fun vs H Q E h => ?_) (fun cdv A0 outer s H vs Q E hr h => ?_)
  · obtain ⟨th, v, salt, rfl, ht, hw, hs, q⟩ := h
    rfl
  obtain ⟨th, v, salt, rfl, ht, hw, hs, q⟩ := h
  refine ⟨_, (pss_cons (ps_set (i := 2) sc_l_held.nd rfl (Or.inl rfl) (pv 1))
   (pss_cons (ps_for PassesOwn.never rfl (pi_str (pe_op op_add_str (pe_ix ix_tup (pv 0) pe_int (fun _ _ => rfl)) (pe_callTy call_str_any (by rfl) T.z_str (by decide +kernel) (pa_cons (pe_ix ix_tup (pv 0) pe_int (fun _ _ => rfl)) pa_nil)))) (pg_name (i := 3) sc_l_held.nd rfl (Or.inl rfl))
    (pss_one (ps_set (i := 2) sc_l_held.nd rfl (Or.inl rfl) (pe_op op_mod (pe_op op_add (pe_op op_add (pe_op op_mul (pv 2) pe_int) (pe_m1 PySem.F.slot_str_index PySem.F.type_str_index mt_sindex pe_str (pv 3))) pe_int) pe_int))))
   (pss_one (ps_ret (pe_ix ix_list (pe_lst (pa_cons pe_int (pa_cons (pe_op op_mod (pv 2) pe_int) (pa_cons (pe_op op_mod (pv 2) pe_int) (pa_cons (pe_op op_mod (pv 2) pe_int) pa_nil))))) (pe_op op_mod (pe_op op_fdiv (pv 2) pe_int) pe_int) (fun _ _ => rfl)))))), ?_⟩
  cases th with
  | box z =>
    obtain ⟨t, rfl, h1⟩ := ht
    have hl : z.length ≤ 6 := by
      have := (nameW_parts hw).1.2
      rwa [← len_tl] at this
    refine ⟨_, rfl, _, rfl, t, _, _, _, rfl, rfl, SqT.of h1, rfl, _, rfl, t, _, _, _, rfl, rfl, SqT.of h1, rfl, .inr ⟨z, rfl, ?_⟩⟩
    refine ⟨_, _, rfl, rfl, by show 3 + z.length ≤ 16777216; omega, ?_⟩

    have hsg := th_signs (th := Th.box z) hw
    refine ⟨_, rfl, for_it walk_str (fun i σ H' => H' = H ∧ ∃ o, σ = [some (.ref t), some (.int salt), some (.int (heldN ((tl (Th.box z).text).take i) salt)), o]) ⟨rfl, none, rfl⟩ (fun _ _ _ _ _ => trivial) ?_ ?_⟩
    · rintro i x σ H1 H2 hi ⟨rfl, o, rfl⟩ ⟨rfl, c, hc, rfl⟩
      have e1 : (tl (Th.box z).text)[i]? = some c := (tl_at _ _).trans hc
      obtain ⟨r, hr⟩ := idx_some c (hsg c (List.mem_of_getElem? e1))
      have hb := held_low (cs := (tl (Th.box z).text).take i) hs
      refine ⟨_, rfl, _, _, rfl, rfl, .inl ⟨by omega, by omega⟩, ?_⟩
      refine ⟨⟨_, rfl⟩, _, rfl, AZ, _, _, r, rfl, rfl, hr, _, _, rfl, rfl, ?_⟩
      refine ⟨_, _, rfl, rfl, ?_⟩
      refine ⟨_, _, rfl, rfl, by show (0 : Int) < 1000003; decide, ?_⟩
      refine ⟨rfl, some (.str ⟨#[c]⟩), ?_⟩
      rw [held_step _ _ _ _ e1]
      rfl
    · rintro σ H1 ⟨rfl, o, rfl⟩
      rw [List.take_of_length_le (l := tl (Th.box z).text)]
      · refine ⟨_, rfl, _, _, rfl, rfl, by show (0 : Int) < 3; decide, _, rfl, _, _, rfl, rfl, by show (0 : Int) < 1000; decide, _, rfl, _, _, rfl, rfl, by show (0 : Int) < 1000000; decide, by show 4 ≤ sizeLine; decide, fun l hl => ?_⟩
        refine ⟨_, rfl, _, _, rfl, rfl, ⟨by decide, by decide⟩, _, _, rfl, rfl, by show (0 : Int) < 4; decide, ?_⟩
        refine ⟨l, _, _, _, rfl, rfl, SqL.of upd_same, heldV_at _, ?_⟩
        exact q _ (same_new hl)
      · exact Nat.le_of_eq (tl_size _)
  | cell z =>
    obtain ⟨t, rfl, h1⟩ := ht
    have hl : z.natAbs < 2 ^ 20 := by have := hw.1; have := hw.2; omega
    have hl2 : (numT z).length ≤ 6 := by
      have := (valW_parts (numT_valW hw.1 hw.2).1).1.2
      rwa [← len_tl] at this
    refine ⟨_, rfl, _, rfl, t, _, _, _, rfl, rfl, SqT.of h1, rfl, _, rfl, t, _, _, _, rfl, rfl, SqT.of h1, rfl, .inl ⟨z, rfl, log_small hl, ?_⟩⟩
    refine ⟨_, _, rfl, rfl, by show 4 + (numT z).length ≤ 16777216; omega, ?_⟩

    have hsg := th_signs (th := Th.cell z) hw
    refine ⟨_, rfl, for_it walk_str (fun i σ H' => H' = H ∧ ∃ o, σ = [some (.ref t), some (.int salt), some (.int (heldN ((tl (Th.cell z).text).take i) salt)), o]) ⟨rfl, none, rfl⟩ (fun _ _ _ _ _ => trivial) ?_ ?_⟩
    · rintro i x σ H1 H2 hi ⟨rfl, o, rfl⟩ ⟨rfl, c, hc, rfl⟩
      have e1 : (tl (Th.cell z).text)[i]? = some c := (tl_at _ _).trans hc
      obtain ⟨r, hr⟩ := idx_some c (hsg c (List.mem_of_getElem? e1))
      have hb := held_low (cs := (tl (Th.cell z).text).take i) hs
      refine ⟨_, rfl, _, _, rfl, rfl, .inl ⟨by omega, by omega⟩, ?_⟩
      refine ⟨⟨_, rfl⟩, _, rfl, AZ, _, _, r, rfl, rfl, hr, _, _, rfl, rfl, ?_⟩
      refine ⟨_, _, rfl, rfl, ?_⟩
      refine ⟨_, _, rfl, rfl, by show (0 : Int) < 1000003; decide, ?_⟩
      refine ⟨rfl, some (.str ⟨#[c]⟩), ?_⟩
      rw [held_step _ _ _ _ e1]
      rfl
    · rintro σ H1 ⟨rfl, o, rfl⟩
      rw [List.take_of_length_le (l := tl (Th.cell z).text)]
      · refine ⟨_, rfl, _, _, rfl, rfl, by show (0 : Int) < 3; decide, _, rfl, _, _, rfl, rfl, by show (0 : Int) < 1000; decide, _, rfl, _, _, rfl, rfl, by show (0 : Int) < 1000000; decide, by show 4 ≤ sizeLine; decide, fun l hl => ?_⟩
        refine ⟨_, rfl, _, _, rfl, rfl, ⟨by decide, by decide⟩, _, _, rfl, rfl, by show (0 : Int) < 4; decide, ?_⟩
        refine ⟨l, _, _, _, rfl, rfl, SqL.of upd_same, heldV_at _, ?_⟩
        exact q _ (same_new hl)
      · exact Nat.le_of_eq (tl_size _)

end
end K03
namespace K03
open PySem L2 TL
section
variable {P : Program} {w : World} {K : PySem.W.Frag} {mg : Str → Option Value} {base : Heap} {A : Ads}
theorem ok_l_pair (T : Txt K mg A) : FnOk P w K mg base CX0 1 A.l_pair A.l_pair_d ["_law_word", "_law_one", "_law_other"] spLPair := by
  refine T.F_l_pair.ok sc_l_pair (fun vs H Q E h => ?_) (fun cdv A0 outer s H vs Q E hr h => ?_)
  · obtain ⟨wd, x, y, rfl, hwd, hx, hy, q⟩ := h
    rfl
  obtain ⟨wd, x, y, rfl, hwd, hx, hy, q⟩ := h
  refine ⟨_, (pss_cons (ps_if (pt_cmpR op_eq (pv 0) pe_str (nomark _))
    (pss_one (ps_ret (pe_op op_mod (pe_op op_add (pv 1) (pv 2)) (pe_op op_pow pe_int pe_int))))
    pss_nil)
   (pss_cons (ps_if (pt_cmpR op_eq (pv 0) pe_str (nomark _))
    (pss_one (ps_ret (pe_op op_mod (pe_op op_sub (pe_op op_add (pv 1) (pe_op op_pow pe_int pe_int)) (pv 2)) (pe_op op_pow pe_int pe_int))))
    pss_nil)
   (pss_cons (ps_if (pt_cmpR op_eq (pv 0) pe_str (nomark _))
    (pss_one (ps_ret (pe_op op_mod (pe_op op_mul (pv 1) (pv 2)) (pe_op op_pow pe_int pe_int))))
    pss_nil)
   (pss_cons (ps_if (pt_cmpR op_eq (pv 0) pe_str (nomark _))
    (pss_one (ps_ret (pe_ix ix_list (pe_lst (pa_cons pe_int (pa_cons pe_int pa_nil))) (pe_callTy call_int1 (by rfl) T.z_int (by decide +kernel) (pa_cons (pe_cmpR op_lt (pv 1) (pv 2) (nomark _)) pa_nil)) (fun _ _ => rfl))))
    pss_nil)
   (pss_cons (ps_if (pt_cmpR op_eq (pv 0) pe_str (nomark _))
    (pss_one (ps_ret (pe_ix ix_list (pe_lst (pa_cons pe_int (pa_cons pe_int pa_nil))) (pe_callTy call_int1 (by rfl) T.z_int (by decide +kernel) (pa_cons (pe_cmpR op_eq (pv 1) (pv 2) (nomark _)) pa_nil)) (fun _ _ => rfl))))
    pss_nil)
   (pss_cons (ps_if (pt_cmpR op_eq (pv 2) pe_int (nomark _))
    (pss_one (ps_ret pe_non))
    pss_nil)
   (pss_one (ps_ret (pe_ix ix_list (pe_lst (pa_cons (pe_op op_fdivN (pv 1) (pv 2)) (pa_cons (pe_op op_modN (pv 1) (pv 2)) pa_nil))) (pe_callTy call_int1 (by rfl) T.z_int (by decide +kernel) (pa_cons (pe_cmpR op_eq (pv 0) pe_str (nomark _)) pa_nil)) (fun _ _ => rfl)))))))))), ?_⟩
  unfold bothO at q
  refine ⟨_, rfl, rfl, _, rfl, iteD2 (fun c1 => ?_) (fun c1 => ?_)⟩
  · rw [if_pos (V.str.inj c1)] at q
    refine ⟨_, rfl, _, rfl, _, _, rfl, rfl, ?_⟩
    refine ⟨_, _, rfl, rfl, ⟨by decide, by decide, by decide⟩, _, _, rfl, rfl, by show (0 : Int) < 1000000; decide, q H (Same.refl H)⟩
  rw [if_neg fun e => c1 (congrArg V.str e)] at q
  refine ⟨_, rfl, rfl, _, rfl, iteD2 (fun c2 => ?_) (fun c2 => ?_)⟩
  · rw [if_pos (V.str.inj c2)] at q
    refine ⟨_, rfl, _, _, rfl, rfl, ⟨by decide, by decide, by decide⟩, _, _, rfl, rfl, _, rfl, _, _, rfl, rfl, ?_⟩
    refine ⟨_, _, rfl, rfl, ⟨by decide, by decide, by decide⟩, _, _, rfl, rfl, by show (0 : Int) < 1000000; decide, ?_⟩
    show Q (.int ((x + 1000000 - y) % 1000000)) H
    rw [show (x + 1000000 - y) % 1000000 = (x - y) % 1000000 by omega]
    exact q H (Same.refl H)
  rw [if_neg fun e => c2 (congrArg V.str e)] at q
  refine ⟨_, rfl, rfl, _, rfl, iteD2 (fun c3 => ?_) (fun c3 => ?_)⟩
  · rw [if_pos (V.str.inj c3)] at q
    refine ⟨_, rfl, _, rfl, _, _, rfl, rfl, .inl ⟨by have := hx.1; omega, by have := hx.2; omega⟩, ?_⟩
    refine ⟨_, _, rfl, rfl, ⟨by decide, by decide, by decide⟩, _, _, rfl, rfl, by show (0 : Int) < 1000000; decide, q H (Same.refl H)⟩
  rw [if_neg fun e => c3 (congrArg V.str e)] at q
  refine ⟨_, rfl, rfl, _, rfl, iteD2 (fun c4 => ?_) (fun c4 => ?_)⟩
  · rw [if_pos (V.str.inj c4)] at q
    refine ⟨by show 2 ≤ sizeLine; decide, fun l hl => ?_⟩
    refine ⟨_, rfl, _, rfl, _, _, rfl, rfl, .inr ⟨_, rfl, l, _, _, _, rfl, rfl, SqL.of upd_same, bit_at _, ?_⟩⟩
    exact q _ (same_new hl)
  rw [if_neg fun e => c4 (congrArg V.str e)] at q
  refine ⟨_, rfl, rfl, _, rfl, iteD2 (fun c5 => ?_) (fun c5 => ?_)⟩
  · rw [if_pos (V.str.inj c5)] at q
    refine ⟨by show 2 ≤ sizeLine; decide, fun l hl => ?_⟩
    refine ⟨_, rfl, _, rfl, rfl, .inr ⟨_, rfl, l, _, _, _, rfl, rfl, SqL.of upd_same, bit_at _, ?_⟩⟩
    exact q _ (same_new hl)
  rw [if_neg fun e => c5 (congrArg V.str e)] at q
  refine ⟨_, rfl, rfl, _, rfl, iteD2 (fun c6 => ?_) (fun c6 => ?_)⟩
  · rw [if_pos (V.int.inj c6)] at q
    exact q H (Same.refl H)
  have c6' : y ≠ 0 := fun e => c6 (congrArg V.int e)
  rw [if_neg c6'] at q
  refine ⟨_, rfl, _, rfl, _, _, rfl, rfl, ⟨c6', by have := hy.1; have := hy.2; omega⟩, _, rfl, _, rfl, _, _, rfl, rfl, c6', by show 2 ≤ sizeLine; decide, fun l hl => ?_⟩
  by_cases c7 : wd = "over"
  · rw [if_pos c7] at q
    subst c7
    exact ⟨_, rfl, rfl, .inr ⟨_, rfl, l, _, 0, _, rfl, rfl, SqL.of upd_same, rfl, q _ (same_new hl)⟩⟩
  · rw [if_neg c7] at q
    have c8 : wd = "rest" := by
      have e : ∀ w ∈ PAIRW, w = "plus" ∨ w = "minus" ∨ w = "times" ∨ w = "less" ∨ w = "same" ∨ w = "over" ∨ w = "rest" := by decide +kernel
      rcases e wd hwd with e | e | e | e | e | e | e
      · exact absurd (congrArg V.str e) c1
      · exact absurd (congrArg V.str e) c2
      · exact absurd (congrArg V.str e) c3
      · exact absurd (congrArg V.str e) c4
      · exact absurd (congrArg V.str e) c5
      · exact absurd e c7
      · exact e
    subst c8
    exact ⟨_, rfl, rfl, .inr ⟨_, rfl, l, _, 1, _, rfl, rfl, SqL.of upd_same, rfl, q _ (same_new hl)⟩⟩

end
end K03
namespace K03
open PySem L2 TL
section
variable {P : Program} {w : World} {K : PySem.W.Frag} {mg : Str → Option Value} {base : Heap} {A : Ads}
theorem ok_l_due (T : Txt K mg A) : ∀ n : Nat, FnOk P w K mg base CX0 (n + 2) A.l_due A.l_due_d ["_law_told", "_law_salt", "_law_seen"] (spLDue3 K n)
| 0 => fn_none fun vs H Q E h => by
    obtain ⟨e, _, _, _, _, _, _, _, _, hd, _⟩ := h; have := e.depth_pos; omega
| n + 1 => by
  have G_l_due := ok_l_due T n
  have G_l_held := ok_l_held (P := P) (w := w) (base := base) T
  have G_l_pair := ok_l_pair (P := P) (w := w) (base := base) T
  refine T.F_l_due.ok sc_l_due (fun vs H Q E h => ?_) (fun cdv A0 outer s H vs Q E hr h => ?_)
  · obtain ⟨e, v, salt, a, ths, xs, rfl, ht, hw, hd, hpl, hs, ha, hsn, q⟩ := h
    rfl
  obtain ⟨e, v, salt, a, ths, xs, rfl, ht, hw, hd, hpl, hs, ha, hsn, q⟩ := h
  refine ⟨_, (pss_cons (ps_if (pt_cmpR op_eq (pe_ix ix_tup (pv 0) pe_int (fun _ _ => rfl)) pe_str (nomark _))
    (pss_one (ps_ret (pe_ix ix_tup (pv 0) pe_int (fun _ _ => rfl))))
    pss_nil)
   (pss_cons (ps_if (pt_cmpR op_eq (pe_ix ix_tup (pv 0) pe_int (fun _ _ => rfl)) pe_str (nomark _))
    (pss_cons (ps_expr (pe_bm PySem.F.plainAttrs_list PySem.F.slot_list_append PySem.F.type_list_append mt_append (pv 2) (pa_cons (pv 0) pa_nil)))
   (pss_one (ps_ret (pe_call G_l_held (hr.mono (by omega)) rfl T.m_l_held T.F_l_held.kp T.b_l_held .nil pass0 (pa_cons (pv 0) (pa_cons (pv 1) pa_nil))))))
    pss_nil)
   (pss_cons (ps_set (i := 3) sc_l_due.nd rfl (Or.inl rfl) (pe_call G_l_due (hr.mono (by omega)) rfl T.m_l_due T.F_l_due.kp T.b_l_due .nil pass0 (pa_cons (pe_ix ix_tup (pv 0) pe_int (fun _ _ => rfl)) (pa_cons (pv 1) (pa_cons (pv 2) pa_nil)))))
   (pss_cons (ps_if (pt_cmpR op_isN (pv 3) pe_non (nomark _))
    (pss_one (ps_ret pe_non))
    pss_nil)
   (pss_cons (ps_if (pt_cmpR op_eq (pe_ix ix_tup (pv 0) pe_int (fun _ _ => rfl)) pe_str (nomark _))
    (pss_cons (ps_expr (pe_bm PySem.F.plainAttrs_list PySem.F.slot_list_append PySem.F.type_list_append mt_append (pv 2) (pa_cons (pe_tup (pa_cons pe_str (pa_cons (pv 3) pa_nil))) pa_nil)))
   (pss_one (ps_ret (pe_call G_l_held (hr.mono (by omega)) rfl T.m_l_held T.F_l_held.kp T.b_l_held .nil pass0 (pa_cons (pe_tup (pa_cons pe_str (pa_cons (pv 3) pa_nil))) (pa_cons (pv 1) pa_nil))))))
    pss_nil)
   (pss_cons (ps_set (i := 4) sc_l_due.nd rfl (Or.inl rfl) (pe_call G_l_due (hr.mono (by omega)) rfl T.m_l_due T.F_l_due.kp T.b_l_due .nil pass0 (pa_cons (pe_ix ix_tup (pv 0) pe_int (fun _ _ => rfl)) (pa_cons (pv 1) (pa_cons (pv 2) pa_nil)))))
   (pss_cons (ps_if (pt_cmpR op_isN (pv 4) pe_non (nomark _))
    (pss_one (ps_ret pe_non))
    pss_nil)
   (pss_one (ps_ret (pe_call G_l_pair (hr.mono (by omega)) rfl T.m_l_pair T.F_l_pair.kp T.b_l_pair .nil pass0 (pa_cons (pe_ix ix_tup (pv 0) pe_int (fun _ _ => rfl)) (pa_cons (pv 3) (pa_cons (pv 4) pa_nil))))))))))))), ?_⟩
  have hxl := hsn.length
  cases e with
  | num z =>
    obtain ⟨t, rfl, h1⟩ := ht
    refine ⟨_, rfl, t, _, _, _, rfl, rfl, SqT.of h1, rfl, rfl, _, rfl, iteDT rfl ?_⟩
    exact ⟨_, rfl, t, _, _, _, rfl, rfl, SqT.of h1, rfl, q xs H (keepX_of (Same.refl H)) ha hsn⟩
  | box z =>
    obtain ⟨t, rfl, h1⟩ := ht
    have hpl' : 1 + ths.length ≤ 1000 := hpl
    refine ⟨_, rfl, t, _, _, _, rfl, rfl, SqT.of h1, rfl, rfl, _, rfl, iteDF (fun h => by cases h) ?_⟩
    refine ⟨_, rfl, t, _, _, _, rfl, rfl, SqT.of h1, rfl, rfl, _, rfl, iteDT rfl ?_⟩
    have k0 := tupK_put (o := .lst (xs ++ [.ref t])) ha
    have tk : ThH (upd H a (.lst (xs ++ [.ref t]))) (.box z) (.ref t) := ⟨t, rfl, k0 _ _ h1⟩
    refine ⟨_, rfl, .inl ⟨rfl, _, SqL.of ha⟩, _, rfl, a, xs, .ref t, rfl, rfl, ha, ?_, ?_⟩
    · exact Nat.lt_of_lt_of_le (show xs.length < 1001 by omega) (by decide)
    refine ⟨_, rfl, _, rfl, .box z, _, salt, rfl, tk, hw, hs, fun H2 s2 => ?_⟩
    exact q _ H2 ((keepX_put _).trans (keepX_of s2)) (s2 _ _ upd_same) (((hsn.keep k0).snoc tk).keep (tupK_same s2))
  | cell e =>
    obtain ⟨t, i, rfl, h1, h2⟩ := ht
    have hd' : e.depth ≤ n := Nat.le_of_succ_le_succ hd
    have hpl' : 1 + e.parts + ths.length ≤ 1000 := hpl
    have hw' : e.Wf := hw
    have hta : t ≠ a := fun e => by rw [e, ha] at h1; cases h1
    refine ⟨_, rfl, t, _, _, _, rfl, rfl, SqT.of h1, rfl, rfl, _, rfl, iteDF (fun h => by cases h) ?_⟩
    refine ⟨_, rfl, t, _, _, _, rfl, rfl, SqT.of h1, rfl, rfl, _, rfl, iteDF (fun h => by cases h) ?_⟩
    refine ⟨_, rfl, t, _, _, _, rfl, rfl, SqT.of h1, rfl, _, rfl, _, rfl, e, i, salt, a, ths, xs, rfl, h2, hw', hd', by omega, hs, ha, hsn, fun ys H1 k1 ha1 sn1 => ?_⟩
    have hv := fun m (h : (ev (lkS salt) e ths).1 = some m) => ev_val (lkS_val salt) hw' h
    have hlen := ev_len (salt := salt) (e := e) (s := ths)
    have hyl := sn1.length
    have eq : ev (lkS salt) (.cell e) ths = evC (lkS salt) (ev (lkS salt) e ths) := rfl
    rw [eq] at q
    clear eq
    generalize ev (lkS salt) e ths = x at sn1 q hv hlen hyl ⊢
    obtain ⟨x1, x2⟩ := x
    have hlen : x2.length ≤ ths.length + e.parts := hlen
    have hyl : ys.length = x2.length := hyl
    have h1' := k1 _ _ hta h1
    cases x1 with
    | none => exact ⟨_, rfl, rfl, _, rfl, iteDT rfl (q ys H1 k1 ha1 sn1)⟩
    | some m =>
      refine ⟨_, rfl, rfl, _, rfl, iteDF (fun h => by cases h) ?_⟩
      refine ⟨_, rfl, t, _, _, _, rfl, rfl, SqT.of h1', rfl, rfl, _, rfl, iteDT rfl ?_⟩
      refine ⟨_, rfl, .inl ⟨rfl, _, SqL.of ha1⟩, _, rfl, by show 2 ≤ sizeLine; decide, fun p hp => ?_⟩
      have s2 := same_new (o := .tup [.str "cell", .int m]) hp
      have ha2 := s2 _ _ ha1
      refine ⟨a, ys, .ref p, rfl, rfl, ha2, ?_, ?_⟩
      · exact Nat.lt_of_lt_of_le (show ys.length < 1001 by omega) (by decide)
      have k3 := tupK_put (o := .lst (ys ++ [.ref p])) ha2
      have tk : ThH (upd (upd H1 p (.tup [.str "cell", .int m])) a (.lst (ys ++ [.ref p]))) (.cell m) (.ref p) := ⟨p, rfl, k3 _ _ upd_same⟩
      refine ⟨_, rfl, by show 2 ≤ sizeLine; decide, fun p2 hp2 => ?_⟩
      have s4 := same_new (o := .tup [.str "cell", .int m]) hp2
      refine ⟨_, rfl, .cell m, _, salt, rfl, ⟨p2, rfl, upd_same⟩, hv m rfl, hs, fun H2 s5 => ?_⟩
      have s6 := s4.trans s5
      exact q _ H2 (k1.trans ((keepX_of s2).trans ((keepX_put _).trans (keepX_of s6)))) (s6 _ _ upd_same) ((((sn1.keep (tupK_same s2)).keep k3).snoc tk).keep (tupK_same s6))
  | two wd l r =>
    obtain ⟨t, u, b, rfl, h1, h2, h3⟩ := ht
    have hd' : max l.depth r.depth ≤ n := Nat.le_of_succ_le_succ hd
    obtain ⟨hw0, hw1, hw2⟩ : wd ∈ PAIRW ∧ l.Wf ∧ r.Wf := hw
    obtain ⟨hn1, hn2⟩ := pair_not_few wd hw0
    have hn3 := pair_not_cell wd hw0
    have hpl' : 1 + l.parts + r.parts + ths.length ≤ 1000 := hpl
    have hta : t ≠ a := fun e => by rw [e, ha] at h1; cases h1
    refine ⟨_, rfl, t, _, _, _, rfl, rfl, SqT.of h1, rfl, rfl, _, rfl, iteDF (fun h => hn1 (V.str.inj h)) ?_⟩
    refine ⟨_, rfl, t, _, _, _, rfl, rfl, SqT.of h1, rfl, rfl, _, rfl, iteDF (fun h => hn2 (V.str.inj h)) ?_⟩
    refine ⟨_, rfl, t, _, _, _, rfl, rfl, SqT.of h1, rfl, _, rfl, _, rfl, l, u, salt, a, ths, xs, rfl, h2, hw1, by omega, by omega, hs, ha, hsn, fun ys H1 k1 ha1 sn1 => ?_⟩
    have hv := fun m (h : (ev (lkS salt) l ths).1 = some m) => ev_val (lkS_val salt) hw1 h
    have hlen := ev_len (salt := salt) (e := l) (s := ths)
    have eq : ev (lkS salt) (.two wd l r) ths = evA wd (ev (lkS salt) r) (ev (lkS salt) l ths) := rfl
    rw [eq] at q
    clear eq
    generalize ev (lkS salt) l ths = x at sn1 q hv hlen ⊢
    obtain ⟨x1, x2⟩ := x
    have hlen : x2.length ≤ ths.length + l.parts := hlen
    have h1' := k1 _ _ hta h1
    cases x1 with
    | none => exact ⟨_, rfl, rfl, _, rfl, iteDT rfl (q ys H1 k1 ha1 sn1)⟩
    | some m =>
      have sn1 : SeenH H1 x2 ys := sn1
      refine ⟨_, rfl, rfl, _, rfl, iteDF (fun h => by cases h) ?_⟩
      refine ⟨_, rfl, t, _, _, _, rfl, rfl, SqT.of h1', rfl, rfl, _, rfl, iteDF (fun h => hn3 (V.str.inj h)) ?_⟩
      refine ⟨_, rfl, t, _, _, _, rfl, rfl, SqT.of h1', rfl, _, rfl, _, rfl, r, b, salt, a, x2, ys, rfl, h3.keepT (tupK_keep ha k1), hw2, by omega, by omega, hs, ha1, sn1, fun zs H2 k2 ha2 sn2 => ?_⟩
      have hv2 := fun m (h : (ev (lkS salt) r x2).1 = some m) => ev_val (lkS_val salt) hw2 h
      have q : ∀ ys H', KeepX a H H' → H' a = some (.lst ys) → SeenH H' (evB wd m (ev (lkS salt) r x2)).2 ys → Q (optV (evB wd m (ev (lkS salt) r x2)).1) H' := q
      generalize ev (lkS salt) r x2 = y at sn2 q hv2 ⊢
      obtain ⟨y1, y2⟩ := y
      have h1'' := k2 _ _ hta h1'
      cases y1 with
      | none => exact ⟨_, rfl, rfl, _, rfl, iteDT rfl (q zs H2 (k1.trans k2) ha2 sn2)⟩
      | some m2 =>
        refine ⟨_, rfl, rfl, _, rfl, iteDF (fun h => by cases h) ?_⟩
        refine ⟨_, rfl, t, _, _, _, rfl, rfl, SqT.of h1'', rfl, _, rfl, _, rfl, wd, m, m2, rfl, hw0, hv m rfl, hv2 m2 rfl, fun H3 s3 => ?_⟩
        exact q zs H3 (k1.trans (k2.trans (keepX_of s3))) (s3 _ _ ha2) (sn2.keep (tupK_same s3))

end
end K03
namespace K03
open PySem L2 TL
section
variable {P : Program} {w : World} {K : PySem.W.Frag} {mg : Str → Option Value} {base : Heap} {A : Ads}
theorem Fn_l_right_l_look (T : Txt K mg A) (cl : List (Str × Addr)) : ∀ f c' : Addr, NdefX.NOk P w K mg base CX0 2 f (NdefX.NF.of sN_l_right_l_look "_law_look" Q_l_right_l_look cl c') ["_law_thing"] ["_law_looked", "_law_salt"] (spLook f c') := by
  have G_l_held := ok_l_held (P := P) (w := w) (base := base) T
  intro f c'
  refine NdefX.nok_of sc_l_right_l_look (fun doc pm ctv us hl => match us, hl with | [_], _ => rfl) (fun ws vs H Q E h => ?_) (fun A0 outer s H vs ws Q E hr _ _ _ h => ?_)
  · obtain ⟨al, salt, th, t, xs, rfl, rfl, ht, hw, hs, ha, hl, q⟩ := h
    rfl
  obtain ⟨al, salt, th, t, xs, rfl, rfl, ht, hw, hs, ha, hl, q⟩ := h
  refine ⟨_, (pss_cons (ps_expr (pe_bm PySem.F.plainAttrs_list PySem.F.slot_list_append PySem.F.type_list_append mt_append (pv 1) (pa_cons (pv 0) pa_nil)))
   (pss_one (ps_ret (pe_call G_l_held (hr.mono (by decide)) rfl T.m_l_held T.F_l_held.kp T.b_l_held .nil pass0 (pa_cons (pv 0) (pa_cons (pv 2) pa_nil)))))), ?_⟩
  refine ⟨_, rfl, .inl ⟨rfl, _, SqL.of ha⟩, _, rfl, al, xs, t, rfl, rfl, ha, Nat.lt_of_lt_of_le hl (by decide), ?_⟩
  have k0 := tupK_put (o := .lst (xs ++ [t])) ha
  refine ⟨_, rfl, _, rfl, th, t, salt, rfl, ht.keep k0, hw, hs, fun H2 s2 => ?_⟩
  exact q H2 ((keepX_put _).trans (keepX_of s2)) (s2 _ _ upd_same)

end
end K03
namespace K03
open PySem L2 TL
section
variable {P : Program} {w : World} {K : PySem.W.Frag} {mg : Str → Option Value} {base : Heap} {A : Ads}
theorem ok_l_right (T : Txt K mg A) (B : Cod base mg A) : FnOk P w K mg base CX0 11 A.l_right A.l_right_d ["_law_expr_here", "_law_told", "_law_salt"] (spLRight3 K A.ec [(A.t_l_right, fun _ _ => Q_l_right_l_look)]) := by
  have G_l_due := ok_l_due (P := P) (w := w) (base := base) T 7
  have D_reckon := disp_reckon (P := P) (w := w) (base := base) (J := 2) T 6
  refine okC T.F_l_right T.cd_l_right sc_l_right (fun vs H Q E h => ?_) (fun A0 outer s H vs Q E hr h => ?_)
  · obtain ⟨e, x, v, salt, rfl, ho, ht, hw, hd, hp, hs0, hs1, tb, q⟩ := h
    rfl
  obtain ⟨e, x, v, salt, rfl, ho, ht, hw, hd, hp, hs0, hs1, tb, q⟩ := h
  refine ⟨_, (pss_cons (ps_set (i := 3) sc_l_right.nd rfl (Or.inl rfl) (pe_lst pa_nil))
   (pss_cons (ps_set (i := 7) sc_l_right.nd rfl (Or.inr rfl) (pe_lst pa_nil))
   (pss_cons (NdefX.ps_ndefMS (st := sN_l_right_l_look) (T := [(A.t_l_right, fun _ _ => Q_l_right_l_look)]) (nm := fun _ _ => Q_l_right_l_look) (i := 4) rfl B.tb_l_right rfl (List.mem_singleton.mpr rfl) rfl (fun p hp _ => by rw [List.mem_singleton.mp hp]) (NdefX.ndef_free (sc := defScope s_l_right) (nsc := C8.fnScope sN_l_right_l_look) (fr := ["_law_looked", "_law_salt"]) (by decide +kernel)) rfl rfl rfl sc_l_right.nd rfl (Or.inl rfl) (.inl rfl))
   (pss_cons (ps_set (i := 5) sc_l_right.nd rfl (Or.inl rfl) (pe_call G_l_due (hr.mono (by omega)) rfl T.m_l_due T.F_l_due.kp T.b_l_due .nil pass0 (pa_cons (pv 1) (pa_cons (pv 2) (pa_cons (pv 3) pa_nil)))))
   (pss_cons (ps_set (i := 6) sc_l_right.nd rfl (Or.inl rfl) (pe_methZ (E := E0) (pv 0) D_reckon (hr.mono (by decide)) (Fn_l_right_l_look T _) (fun _ => rfl) (fun ok => NdefX.Caps.made (js := [7, 2]) ok (NdefX.ndef_free (sc := defScope s_l_right) (nsc := C8.fnScope sN_l_right_l_look) (fr := ["_law_looked", "_law_salt"]) (by decide +kernel)) (NdefX.ndef_fr (sc := defScope s_l_right) (by decide +kernel)) rfl) (clo_fr (by decide +kernel)) (fun _ _ => rfl) (pa_cons (pv 4) pa_nil)))
   (pss_cons (ps_if (PW.pt (pw_or (pt_cmpR (op_neD hr.units) (pv 7) (pv 3) (nomark _)) (pw_or1 (pt_val (pe_callB call_isi (by rfl) T.z_isinstance (by decide +kernel) (pa_cons (pv 6) (pa_cons (pe_bltn (v := .ty "bool") (by rfl) T.z_bool (by decide +kernel) rfl) pa_nil)))))))
    (pss_one (ps_ret pe_bl))
    pss_nil)
   (pss_cons (ps_if (pt_cmpR op_isN (pv 5) pe_non (nomark _))
    (pss_one (ps_ret (pe_cmpR op_isN (pv 6) pe_non (nomark _))))
    pss_nil)
   (pss_one (ps_ret (pe_and (pe_callB call_isi (by rfl) T.z_isinstance (by decide +kernel) (pa_cons (pv 6) (pa_cons (pe_bltn (v := .ty "int") (by rfl) T.z_int (by decide +kernel) rfl) pa_nil))) (pe_and (pe_cmpR op_eq (pv 6) (pv 5) (nomark _)) (pe_one (pe_chain op_le op_lt pe_int (pv 6) (pe_op op_pow pe_int pe_int)))))))))))))), ?_⟩
  have hs : SaltOk salt := ⟨hs0, by omega⟩
  refine ⟨by show 0 ≤ sizeLine; decide, fun a hna => ?_⟩
  have s1 := same_new (o := .lst []) hna
  refine ⟨by show 0 ≤ sizeLine; decide, fun al hnl => ?_⟩
  have s2 := same_new (o := .lst []) hnl
  have s12 := s1.trans s2
  have ha2 := s2 _ _ (upd_same (H := H) (a := a) (o := .lst []))
  have tb2 := NdefX.TabsN.ext tb s12
  have nal : al ≠ a := fun e => by rw [e, upd_same] at hnl; cases hnl
  have hla : H al = none := by rw [upd_ne nal] at hnl; exact hnl
  generalize hH2 : upd (upd H a (.lst [])) al (.lst []) = H2 at ha2 s12 tb2 ⊢
  have hal2 : H2 al = some (.lst []) := by rw [← hH2]; exact upd_same
  clear hH2 s1 s2 hnl
  refine ⟨tb2, fun f c' H3 e3 nn tb3 hf h3f h3c => ?_⟩
  have e13 : LamX.ExtN H H3 := (LamX.ExtN.of s12).trans e3
  have ha3 := e3 _ _ ha2 (fun _ q => by cases q)
  have hal3 := e3 _ _ hal2 (fun _ q => by cases q)
  have kT : TupK H H3 := fun t xs h => e13 _ _ h (fun _ q => by cases q)
  have kI : InsK H H3 := fun t C dx fs h => e13 _ _ h (fun _ q => by cases q)
  refine ⟨_, rfl, _, rfl, _, rfl, e, v, salt, a, [], [], rfl, ht.keepT kT, hw, by omega, by show e.parts + 0 ≤ 1000; omega, hs, ha3, .nil, fun ys H4 k4 ha4 sn4 => ?_⟩
  have hal4 := k4 _ _ nal hal3
  have h4f := k4 _ _ (fun e => by rw [e, ha3] at h3f; cases h3f) h3f
  have h4c := k4 _ _ (fun e => by rw [e, ha3] at h3c; cases h3c) h3c
  have kI4 : InsK H H4 := kI.trans (insK_keep ha3 k4)
  have ho4 : ObjE A.ec H4 e x := ho.keepI kI4
  obtain ⟨p2, d2, f2, e2, g1, g2⟩ := ho4.at (m := "reckon") (by decide +kernel)
  subst e2
  refine ⟨_, rfl, p2, _, d2, f2, rfl, g1, g2, A.ec.fam e, _, rfl, f, c', rfl, h4f, h4c, fun cs hcs L => ?_⟩
  have lo := lkS_ok (c1 := f) (c2 := c') hal4 h4f h4c hcs hs
  have nn : ∀ {b : Addr} {u : HO}, H4 b = some u → cs.lookup b = none := fun {b u} e => by
    cases q : cs.lookup b with
    | none => rfl
    | some o => rw [hcs b o q] at e; cases e
  have eal := nn hal4
  have hoL : ObjE A.ec (HLess al (KL.frzC cs H4)) e (.ref p2) := ho4.keepI fun t C dx fs h => by
    unfold HLess
    rw [if_neg (fun q => by rw [q, hal4] at h; cases h), KL.frz_none (nn h)]
    exact h
  refine ⟨e, _, f, List Th, lkS salt, RL al (KL.frzC cs H4), HLess al (KL.frzC cs H4), KL.GN f _ cs, _, [], 0, rfl, hoL, rfl, hd, hw, L, lo, ⟨KeepX.refl _ _, [], (KL.frz_none eal).trans hal4, .nil, by show 0 + (e.parts + 0) ≤ 1000; omega⟩, fun H5 r5 => ?_⟩
  obtain ⟨k5, zs, h5, sn5, _⟩ := r5
  have g5 := gn_of hal4 h4f h4c hcs k5
  have kt := tupK_thw g5.2.2
  have k45 : KeepX al H4 (KL.thwC cs H5) := fun b o nb h => by
    have z := nn h
    rw [KL.thw_none z]
    exact k5 _ _ nb ((KL.frz_none z).trans h)
  have h6 : KL.thwC cs H5 al = some (.lst zs) := (KL.thw_none eal).trans h5
  have sn6 := sn5.keep kt
  have h6a := k45 _ _ nal.symm ha4
  have sn6a := sn4.keep (tupK_keep hal4 k45)
  have fin : Q (.bl true) (KL.thwC cs H5) := q _ (fun b o h n => k45 _ _ (fun e => by rw [e, hla] at h; cases h) (k4 _ _ (fun e => by rw [e, hna] at h; cases h) (e13 _ _ h n))) (TabN_keep (TabN_keep tb3 k4 ha3) k45 hal4)
  generalize KL.thwC cs H5 = H6 at h6 sn6 h6a sn6a fin ⊢
  have wf := ev_wf (salt := salt) (e := e) hw (s := []) (fun _ h => by cases h)
  have hv := fun m (h : (ev (lkS salt) e []).1 = some m) => ev_val (lkS_val salt) hw h
  generalize ev (lkS salt) e [] = y at sn6 sn6a wf hv ⊢
  obtain ⟨y1, ths⟩ := y
  have wf : ∀ th ∈ ths, th.Wf := wf
  have sn6 : SeenH H6 ths zs := sn6
  have sn6a : SeenH H6 ths ys := sn6a
  refine ⟨_, rfl, _, rfl, _, _, .lst (SqL.of h6) sn6.dp, .lst (SqL.of h6a) sn6a.dp, ths_shaped wf, ths_shaped wf, _, rfl, ?_⟩
  rw [ths_eqv wf]
  refine iteF ?_
  cases y1 with
  | none =>
    refine ⟨_, rfl, .non, .ty "bool", .type "NoneType", .type "bool", false, rfl, .ty _, .base .non, rfl, ?_⟩
    refine ⟨_, rfl, iteF ?_⟩
    refine ⟨_, rfl, rfl, _, rfl, iteDT rfl ?_⟩
    exact ⟨_, rfl, rfl, fin⟩
  | some m =>
    obtain ⟨hv1, hv2⟩ := hv m rfl
    refine ⟨_, rfl, .int m, .ty "bool", .type "int", .type "bool", false, rfl, .ty _, .base (.int m), rfl, ?_⟩
    refine ⟨_, rfl, iteF ?_⟩
    refine ⟨_, rfl, rfl, _, rfl, iteDF (fun h => by cases h) ?_⟩
    refine ⟨_, rfl, .int m, .ty "int", .type "int", .type "int", true, rfl, .ty _, .base (.int m), rfl, ?_⟩
    refine ⟨_, rfl, iteT ?_⟩
    refine ⟨_, rfl, _, rfl, rfl, _, rfl, iteDT rfl ?_⟩
    refine ⟨_, rfl, _, _, rfl, rfl, _, rfl, iteDT hv1 ?_⟩
    refine ⟨_, _, rfl, rfl, ⟨by decide, by decide, by decide⟩, _, _, rfl, rfl, ?_⟩
    show Q (.bl (decide (m < 1000000))) H6
    rw [decide_eq_true hv2]
    exact fin

end
end K03
namespace K03
open PySem L2 TL
section
variable {P : Program} {w : World} {K : PySem.W.Frag} {mg : Str → Option Value} {base : Heap} {A : Ads}
theorem ok_law (T : Txt K mg A) (B : Cod base mg A) : FnOk P w K mg base CX0 18 A.law A.law_d ["_law_script"] (spLaw K [(A.t_l_right, fun _ _ => Q_l_right_l_look)]) := by
  have G_l_well := ok_l_well (P := P) (w := w) (base := base) T
  have G_l_expr := ok_l_expr (P := P) (w := w) (base := base) T 8
  have G_l_draw := ok_l_draw (P := P) (w := w) (base := base) T
  have G_l_few := ok_l_few (P := P) (w := w) (base := base) T 7
  have G_read_expr := ok_read_expr (P := P) (w := w) (base := base) T
  have G_l_words_of := ok_l_words_of (P := P) (w := w) (base := base) T 7
  have G_l_right := ok_l_right (P := P) (w := w) (base := base) T B
  refine T.F_law.ok sc_law (fun vs H Q E h => ?_) (fun cdv A0 outer s H vs Q E hr h => ?_)
  · obtain ⟨a, ns, rfl, hS, hlen, tb, q⟩ := h
    rfl
  obtain ⟨a, ns, rfl, hS, hlen, tb, q⟩ := h
  refine ⟨_, (pss_cons (ps_set (i := 1) sc_law.nd rfl (Or.inl rfl) (pe_call G_l_well (hr.mono (by decide)) rfl T.m_l_well T.F_l_well.kp T.b_l_well .nil pass0 (pa_cons (pv 0) (pa_cons pe_int pa_nil))))
   (pss_cons (ps_for PassesOwn.never rfl (pi_range2 (by rfl) T.z_range (pa_cons pe_int (pa_cons pe_int pa_nil))) (pg_name (i := 2) sc_law.nd rfl (Or.inl rfl))
    (pss_cons (ps_set (i := 3) sc_law.nd rfl (Or.inl rfl) (pe_call G_l_expr (hr.mono (by decide)) rfl T.m_l_expr T.F_l_expr.kp T.b_l_expr .nil pass0 (pa_cons (pe_call G_l_well (hr.mono (by decide)) rfl T.m_l_well T.F_l_well.kp T.b_l_well .nil pass0 (pa_cons (pv 0) (pa_cons (pv 2) pa_nil))) (pa_cons pe_int (pa_cons pe_int pa_nil)))))
   (pss_cons (ps_cut (ps_if (pt_cmpR op_eq (pe_call G_l_draw (hr.mono (by decide)) rfl T.m_l_draw T.F_l_draw.kp T.b_l_draw .nil pass0 (pa_cons (pv 1) (pa_cons pe_int pa_nil))) pe_int (nomark _))
    (pss_one (ps_set (i := 3) sc_law.nd rfl (Or.inl rfl) (pe_call G_l_few (hr.mono (by decide)) rfl T.m_l_few T.F_l_few.kp T.b_l_few .nil pass0 (pa_cons (pv 3) pa_nil))))
    pss_nil))
   (pss_cons (ps_set (i := 4) sc_law.nd rfl (Or.inl rfl) (pe_call G_read_expr (hr.mono (by decide)) rfl T.m_read_expr T.F_read_expr.kp T.b_read_expr .nil passL (pa_cons (pe_call G_l_words_of (hr.mono (by decide)) rfl T.m_l_words_of T.F_l_words_of.kp T.b_l_words_of .nil pass0 (pa_cons (pv 3) pa_nil)) pa_nil)))
   (pss_cons (ps_set (i := 5) sc_law.nd rfl (Or.inl rfl) (pe_lst (pa_cons (pe_call G_l_draw (hr.mono (by decide)) rfl T.m_l_draw T.F_l_draw.kp T.b_l_draw .nil pass0 (pa_cons (pv 1) (pa_cons pe_int pa_nil))) (pa_cons (pe_call G_l_draw (hr.mono (by decide)) rfl T.m_l_draw T.F_l_draw.kp T.b_l_draw .nil pass0 (pa_cons (pv 1) (pa_cons pe_int pa_nil))) pa_nil))))
   (pss_one (ps_for PassesOwn.never rfl (pi_list (pe_op op_cat (pv 5) (pe_slice sl_list (pv 5) po_none (po_some pe_int)))) (pg_name (i := 6) sc_law.nd rfl (Or.inl rfl))
    (pss_one (ps_if (pt_not (pt_val (pe_call G_l_right (hr.mono (by decide)) rfl T.m_l_right T.F_l_right.kp T.b_l_right .nil pass0 (pa_cons (pv 4) (pa_cons (pv 3) (pa_cons (pv 6) pa_nil))))))
    (pss_one (ps_ret pe_bl))
    pss_nil)))))))))
   (pss_one (ps_ret pe_bl)))), ?_⟩
  refine ⟨_, rfl, a, ns, 4, rfl, hS, by decide, fun p0 H0 hp0 s0 W0 => ?_⟩
  refine ⟨1, 4, rfl, ⟨by decide, by decide, by decide, by decide⟩, for_range (lo := 1) (n := 3) (fun i σ H' => ∃ (v2 v3 v4 v5 v6 : Option V), σ = [some (.ref a), some (.ref p0), v2, v3, v4, v5, v6] ∧ KeepN p0 H H' ∧ WellAt H' p0 ∧ NdefX.TabsN [(A.t_l_right, fun _ _ => Q_l_right_l_look)] H')
    ⟨none, none, none, none, none, rfl, keepN_x (keepX_of s0), W0, tb.ext s0⟩ ?_ ?_⟩
  · rintro i σ H1 hi ⟨v2, v3, v4, v5, v6, rfl, k1, W1, tb1⟩
    refine ⟨_, rfl, _, rfl, a, ns, _, rfl, k1.seq hp0 hS, by omega, fun p H2 hp s2 W => ?_⟩
    refine ⟨p, 6, 15, rfl, W, by decide, by decide, by decide, by decide, fun e t H3 hw hd hpt ht k3 W3 => ?_⟩
    have s3 : Same H1 H3 := KeepX.same hp (fun z o n e => k3 z o n (s2 z o e))
    have W13 := W1.same s3
    have hd6 : e.depth ≤ 6 := by omega
    have hp15 : e.parts ≤ 15 := by omega
    refine ⟨fun σ' H' => ∃ (e : Ex) (t : V), σ' = [some (.ref a), some (.ref p0), some (.int (1 + (i : Int))), some t, v4, v5, v6] ∧ e.Wf ∧ e.depth ≤ 6 ∧ e.parts ≤ 15 ∧ ToldE K H' e t ∧ KeepX p0 H1 H' ∧ WellAt H' p0, ?_, ?_⟩
    · refine ⟨_, rfl, p0, 2, rfl, W13, by decide, by decide, fun n H4 n0 n1 k4 W4 => ?_⟩
      have k14 := (keepX_of s3).trans k4
      have ht4 := ht.keep k4 W13
      refine ⟨rfl, _, rfl, iteD2 (fun c => ?_) (fun c => ?_)⟩
      · obtain ⟨f1, f2, f3⟩ := Ex.few_ok hw
        refine ⟨_, rfl, e, t, rfl, ht4, hw, by omega, fun r H5 s5 tr => ?_⟩
        exact ⟨e.few, r, rfl, f1, by omega, by omega, tr, k14.trans (keepX_of s5), W4.same s5⟩
      · exact ⟨e, t, rfl, hw, hd6, hp15, ht4, k14, W4⟩
    clear hd6 hp15 ht hw hd hpt e t k3 W3 W13 s3
    rintro σ H5 ⟨e, t, rfl, hw, hd6, hp15, ht, k5, W5⟩
    obtain ⟨_, _, _, _, w1⟩ := id W1
    have tb5 := TabN_keep tb1 k5 w1
    clear w1
    refine ⟨_, rfl, e, t, rfl, ht, hw, by omega, by omega, fun H6 s6 => ?_⟩
    have hsp := Ex.split_text hw
    have hpa := parse_all hw hd6 hp15
    have hlt := Ex.text_len hw
    refine ⟨e.text, rfl, by omega, fun e1 pe v H7 s7 ho => ?_, fun no => absurd (by rw [hsp]; exact hpa) (no e)⟩
    rw [hsp, hpa] at pe
    obtain rfl : e = e1 := by injection pe with pe; injection pe
    have s57 := s6.trans s7
    have W7 := W5.same s57
    refine ⟨_, rfl, p0, 1000, rfl, W7, by decide, by decide, fun n1 H8 n10 n11 k8 W8 => ?_⟩
    refine ⟨_, rfl, p0, 1000, rfl, W8, by decide, by decide, fun n2 H9 n20 n21 k9 W9 => ?_⟩
    refine ⟨by show 2 ≤ sizeLine; decide, fun l hl => ?_⟩
    have sa := same_new (o := .lst [V.int n1, .int n2]) hl
    refine ⟨_, rfl, _, rfl, 1, rfl, l, [.int n1, .int n2], rfl, SqL.of upd_same, fun l2 hl2 => ?_⟩
    have sb := same_new (o := .lst (cutV [V.int n1, .int n2] none (some 1))) hl2
    refine ⟨l, l2, [.int n1, .int n2], [.int n1], rfl, rfl, sb _ _ upd_same, upd_same, by show 3 ≤ sizeLine; decide, fun l3 hl3 => ?_⟩
    have sc := same_new (o := .lst [V.int n1, .int n2, .int n1]) hl3
    have k79 := k8.trans k9
    obtain ⟨_, _, _, _, w7⟩ := id W7
    have ho9 := ho.keepI (insK_keep w7 k79)
    have ht9 := (ht.same s57).keep k79 W7
    have tb9 := TabN_keep (tb5.ext s57) k79 w7
    have k59 := (keepX_of (p := p0) s57).trans k79
    have kH9 : KeepN p0 H H9 := k1.trans (keepN_x (k5.trans k59))
    have s9 := sa.trans (sb.trans sc)
    have W10 := W9.same s9
    have ho10 := ho9.same s9
    have ht10 := ht9.same s9
    have tb10 := tb9.ext s9
    have k10 : KeepN p0 H _ := kH9.trans (keepN_x (keepX_of s9))
    clear ho9 ht9 tb9 k59 kH9 w7 k79 W7 W8 k8 k9 s57 hpa hlt hsp pe ho tb5 ht
    refine ⟨l3, rfl, ⟨_, SqL.of upd_same⟩, for_it (walk_list (xs := [.int n1, .int n2, .int n1])) (fun j σ H' => ∃ v6 : Option V, σ = [some (.ref a), some (.ref p0), some (.int (1 + (i : Int))), some t, some v, some (.ref l), v6] ∧ LamX.ExtN _ H' ∧ NdefX.TabsN [(A.t_l_right, fun _ _ => Q_l_right_l_look)] H') ⟨v6, rfl, LamX.ExtN.refl _, tb10⟩ ?_ ?_ ?_⟩
    · rintro j σ HA _ ⟨v6, rfl, e1, tA⟩
      exact SqL.of (e1 _ _ upd_same fun _ q => by cases q)
    · rintro j x σ HA HB hj ⟨v6, rfl, e1, tA⟩ ⟨rfl, hx⟩
      have hn : ∃ n, x = .int n ∧ 0 ≤ n ∧ n < 1000 := by
        have := List.mem_of_getElem? hx
        simp only [List.mem_cons, List.not_mem_nil, or_false] at this
        rcases this with h | h | h
        · exact ⟨n1, h, n10, n11⟩
        · exact ⟨n2, h, n20, n21⟩
        · exact ⟨n1, h, n10, n11⟩
      obtain ⟨n, rfl, hn0, hn1⟩ := hn
      refine ⟨_, rfl, _, rfl, _, rfl, e, v, t, n, rfl, ho10.keepI (fun t C dx fs h => e1 _ _ h fun _ q => by cases q), ht10.keepT (fun t xs h => e1 _ _ h fun _ q => by cases q), hw, hd6, hp15, hn0, hn1, tA, fun HC eC tC => ?_⟩
      refine ⟨_, rfl, iteF ?_⟩
      exact ⟨_, rfl, e1.trans eC, tC⟩
    · rintro σ HA ⟨v6, rfl, e1, tA⟩
      obtain ⟨_, _, _, _, w10⟩ := W10
      exact ⟨_, _, _, _, _, rfl, k10.trans (keepN_e e1), ⟨_, _, _, _, e1 _ _ w10 fun _ q => by cases q⟩, tA⟩
  · rintro σ H1 ⟨v2, v3, v4, v5, v6, rfl, _⟩
    exact q _

end
end K03
namespace K03
open PySem PySem.Spec PyProof.Rows L2 TL
def hD_is_name : He.DefD := ⟨("is_name", none), "is_name", "is_name", defArgs s_is_name, defBody s_is_name, defScope s_is_name, [], []⟩
def hD_is_value_word : He.DefD := ⟨("is_value_word", none), "is_value_word", "is_value_word", defArgs s_is_value_word, defBody s_is_value_word, defScope s_is_value_word, [], []⟩
def hD_Number_init : He.DefD := ⟨("Number", some "__init__"), "__init__", "Number.__init__", defArgs s_Number_init, defBody s_Number_init, defScope s_Number_init, [], []⟩
def hD_Box_init : He.DefD := ⟨("Box", some "__init__"), "__init__", "Box.__init__", defArgs s_Box_init, defBody s_Box_init, defScope s_Box_init, [], []⟩
def hD_Cell_init : He.DefD := ⟨("Cell", some "__init__"), "__init__", "Cell.__init__", defArgs s_Cell_init, defBody s_Cell_init, defScope s_Cell_init, [], []⟩
def hD_Two_init : He.DefD := ⟨("Two", some "__init__"), "__init__", "Two.__init__", defArgs s_Two_init, defBody s_Two_init, defScope s_Two_init, [], []⟩
def hD_both : He.DefD := ⟨("both", none), "both", "both", defArgs s_both, defBody s_both, defScope s_both, [], []⟩
def hD_Number_reckon : He.DefD := ⟨("Number", some "reckon"), "reckon", "Number.reckon", defArgs s_Number_reckon, defBody s_Number_reckon, defScope s_Number_reckon, [], []⟩
def hD_Box_reckon : He.DefD := ⟨("Box", some "reckon"), "reckon", "Box.reckon", defArgs s_Box_reckon, defBody s_Box_reckon, defScope s_Box_reckon, [], []⟩
def hD_Cell_reckon : He.DefD := ⟨("Cell", some "reckon"), "reckon", "Cell.reckon", defArgs s_Cell_reckon, defBody s_Cell_reckon, defScope s_Cell_reckon, [], []⟩
def hD_Two_reckon : He.DefD := ⟨("Two", some "reckon"), "reckon", "Two.reckon", defArgs s_Two_reckon, defBody s_Two_reckon, defScope s_Two_reckon, [], []⟩
def hD_Expr_parts : He.DefD := ⟨("Expr", some "parts"), "parts", "Expr.parts", defArgs s_Expr_parts, defBody s_Expr_parts, defScope s_Expr_parts, [], []⟩
def hD_Cell_parts : He.DefD := ⟨("Cell", some "parts"), "parts", "Cell.parts", defArgs s_Cell_parts, defBody s_Cell_parts, defScope s_Cell_parts, [], []⟩
def hD_Two_parts : He.DefD := ⟨("Two", some "parts"), "parts", "Two.parts", defArgs s_Two_parts, defBody s_Two_parts, defScope s_Two_parts, [], []⟩
def hD_expr_at : He.DefD := ⟨("expr_at", none), "expr_at", "expr_at", defArgs s_expr_at, defBody s_expr_at, defScope s_expr_at, [], []⟩
def hD_exprs_of : He.DefD := ⟨("exprs_of", none), "exprs_of", "exprs_of", defArgs s_exprs_of, defBody s_exprs_of, defScope s_exprs_of, [], []⟩
def hD_read_expr : He.DefD := ⟨("read_expr", none), "read_expr", "read_expr", defArgs s_read_expr, defBody s_read_expr, defScope s_read_expr, [], []⟩
def hD_l_cell : He.DefD := ⟨("_law_cell", none), "_law_cell", "_law_cell", defArgs s_l_cell, defBody s_l_cell, defScope s_l_cell, [], []⟩
def hD_l_mixed : He.DefD := ⟨("_law_mixed", none), "_law_mixed", "_law_mixed", defArgs s_l_mixed, defBody s_l_mixed, defScope s_l_mixed, [], []⟩
def hD_l_twice : He.DefD := ⟨("_law_twice", none), "_law_twice", "_law_twice", defArgs s_l_twice, defBody s_l_twice, defScope s_l_twice, [], []⟩
def hD_l_well : He.DefD := ⟨("_law_well", none), "_law_well", "_law_well", defArgs s_l_well, defBody s_l_well, defScope s_l_well, [], []⟩
def hD_l_draw : He.DefD := ⟨("_law_draw", none), "_law_draw", "_law_draw", defArgs s_l_draw, defBody s_l_draw, defScope s_l_draw, [], []⟩
def hD_l_value : He.DefD := ⟨("_law_value", none), "_law_value", "_law_value", defArgs s_l_value, defBody s_l_value, defScope s_l_value, [], []⟩
def hD_l_name : He.DefD := ⟨("_law_name", none), "_law_name", "_law_name", defArgs s_l_name, defBody s_l_name, defScope s_l_name, [], []⟩
def hD_l_parts : He.DefD := ⟨("_law_parts", none), "_law_parts", "_law_parts", defArgs s_l_parts, defBody s_l_parts, defScope s_l_parts, [], []⟩
def hD_l_expr : He.DefD := ⟨("_law_expr", none), "_law_expr", "_law_expr", defArgs s_l_expr, defBody s_l_expr, defScope s_l_expr, [], []⟩
def hD_l_words_of : He.DefD := ⟨("_law_words_of", none), "_law_words_of", "_law_words_of", defArgs s_l_words_of, defBody s_l_words_of, defScope s_l_words_of, [], []⟩
def hD_l_few : He.DefD := ⟨("_law_few", none), "_law_few", "_law_few", defArgs s_l_few, defBody s_l_few, defScope s_l_few, [], []⟩
def hD_l_held : He.DefD := ⟨("_law_held", none), "_law_held", "_law_held", defArgs s_l_held, defBody s_l_held, defScope s_l_held, [], []⟩
def hD_l_pair : He.DefD := ⟨("_law_pair", none), "_law_pair", "_law_pair", defArgs s_l_pair, defBody s_l_pair, defScope s_l_pair, [], []⟩
def hD_l_due : He.DefD := ⟨("_law_due", none), "_law_due", "_law_due", defArgs s_l_due, defBody s_l_due, defScope s_l_due, [], []⟩
def hD_l_right : He.DefD := ⟨("_law_right", none), "_law_right", "_law_right", defArgs s_l_right, defBody s_l_right, defScope s_l_right, [], []⟩
def hD_law : He.DefD := ⟨("law", none), "law", "law", defArgs s_law, defBody s_law, defScope s_law, [], []⟩
def hFn : List He.DefD := ([hD_is_name, hD_is_value_word, hD_Number_init, hD_Box_init, hD_Cell_init, hD_Two_init, hD_both, hD_Number_reckon, hD_Box_reckon, hD_Cell_reckon, hD_Two_reckon, hD_Expr_parts, hD_Cell_parts, hD_Two_parts, hD_expr_at, hD_exprs_of, hD_read_expr, hD_l_cell, hD_l_mixed, hD_l_twice, hD_l_well, hD_l_draw, hD_l_value, hD_l_name, hD_l_parts, hD_l_expr, hD_l_words_of, hD_l_few, hD_l_held, hD_l_pair] : List He.DefD) ++ ([hD_l_due, hD_l_right, hD_law] : List He.DefD)
def hFa : List FaM := ([fun K => (He.Fa.glo "is_name").ok K,
  fun K => (He.Fa.glo "is_value_word").ok K,
  fun K => (He.Fa.glo "both").ok K,
  fun K => (He.Fa.glo "expr_at").ok K,
  fun K => (He.Fa.glo "exprs_of").ok K,
  fun K => (He.Fa.glo "read_expr").ok K,
  fun K => (He.Fa.glo "_law_cell").ok K,
  fun K => (He.Fa.glo "_law_mixed").ok K,
  fun K => (He.Fa.glo "_law_twice").ok K,
  fun K => (He.Fa.glo "_law_well").ok K,
  fun K => (He.Fa.glo "_law_draw").ok K,
  fun K => (He.Fa.glo "_law_value").ok K,
  fun K => (He.Fa.glo "_law_name").ok K,
  fun K => (He.Fa.glo "_law_parts").ok K,
  fun K => (He.Fa.glo "_law_expr").ok K,
  fun K => (He.Fa.glo "_law_words_of").ok K,
  fun K => (He.Fa.glo "_law_few").ok K,
  fun K => (He.Fa.glo "_law_held").ok K,
  fun K => (He.Fa.glo "_law_pair").ok K,
  fun K => (He.Fa.glo "_law_due").ok K] : List FaM) ++
  ([fun K => (He.Fa.glo "_law_right").ok K,
  fun K => (He.Fa.glo "law").ok K,
  fun K => (He.Fa.glo "Number").ok K,
  fun K => (He.Fa.cls "Number").ok K,
  fun K => PySem.W.makesIn K (He.ga K "Number"),
  fun K => (He.Fa.noat "Number" "value").ok K,
  fun K => (He.Fa.mkr "Number").ok K,
  fun K => (He.Fa.glo "Box").ok K,
  fun K => (He.Fa.cls "Box").ok K,
  fun K => PySem.W.makesIn K (He.ga K "Box"),
  fun K => (He.Fa.noat "Box" "name").ok K,
  fun K => (He.Fa.mkr "Box").ok K,
  fun K => (He.Fa.glo "Cell").ok K,
  fun K => (He.Fa.cls "Cell").ok K,
  fun K => PySem.W.makesIn K (He.ga K "Cell"),
  fun K => (He.Fa.noat "Cell" "inner").ok K,
  fun K => (He.Fa.mkr "Cell").ok K,
  fun K => (He.Fa.glo "Two").ok K,
  fun K => (He.Fa.cls "Two").ok K,
  fun K => PySem.W.makesIn K (He.ga K "Two")] : List FaM) ++
  ([fun K => (He.Fa.noat "Two" "word").ok K,
  fun K => (He.Fa.noat "Two" "left").ok K,
  fun K => (He.Fa.noat "Two" "right").ok K,
  fun K => (He.Fa.mkr "Two").ok K,
  fun K => (He.Fa.glo "Expr").ok K,
  fun K => (He.Fa.cls "Expr").ok K,
  fun K => PySem.W.makesIn K (He.ga K "Expr"),
  fun K => (He.Fa.meth "Number" "reckon").ok K,
  fun K => (He.Fa.meth "Box" "reckon").ok K,
  fun K => (He.Fa.meth "Cell" "reckon").ok K,
  fun K => (He.Fa.meth "Two" "reckon").ok K,
  fun K => (He.Fa.meth "Number" "parts").ok K,
  fun K => decide (He.ma K (He.ga K "Number") "parts" = He.ma K (He.ga K "Expr") "parts"),
  fun K => (He.Fa.meth "Box" "parts").ok K,
  fun K => decide (He.ma K (He.ga K "Box") "parts" = He.ma K (He.ga K "Expr") "parts"),
  fun K => (He.Fa.meth "Cell" "parts").ok K,
  fun K => (He.Fa.meth "Two" "parts").ok K,
  fun K => (He.Fa.glo "PAIRS").ok K,
  fun K => He.tupB K "PAIRS" [.str "plus", .str "minus", .str "times", .str "over", .str "rest", .str "less", .str "same"],
  fun K => (He.Fa.glo "ROWS").ok K] : List FaM) ++
  ([fun K => He.tupB K "ROWS" [.str "skip", .str "set", .str "put", .str "ask", .str "draw", .str "tell", .str "if", .str "while", .str "call"],
  fun K => (He.Fa.glo "OTHERS").ok K,
  fun K => He.tupB K "OTHERS" [.str "else", .str "end", .str "fun", .str "main", .str "give", .str "cell"],
  fun K => (He.Fa.exc "NoProgram").ok K,
  fun K => (He.Fa.glo "NoProgram").ok K,
  fun K => decide ((He.ga K "Number") ≠ (He.ga K "Box")),
  fun K => decide ((He.ga K "Number") ≠ (He.ga K "Cell")),
  fun K => decide ((He.ga K "Number") ≠ (He.ga K "Two")),
  fun K => decide ((He.ga K "Box") ≠ (He.ga K "Number")),
  fun K => decide ((He.ga K "Box") ≠ (He.ga K "Cell")),
  fun K => decide ((He.ga K "Box") ≠ (He.ga K "Two")),
  fun K => decide ((He.ga K "Cell") ≠ (He.ga K "Number")),
  fun K => decide ((He.ga K "Cell") ≠ (He.ga K "Box")),
  fun K => decide ((He.ga K "Cell") ≠ (He.ga K "Two")),
  fun K => decide ((He.ga K "Two") ≠ (He.ga K "Number")),
  fun K => decide ((He.ga K "Two") ≠ (He.ga K "Box")),
  fun K => decide ((He.ga K "Two") ≠ (He.ga K "Cell")),
  fun K => (He.Fa.str "LETTERS" "abcdefghijklmnopqrstuvwxyz").ok K,
  fun K => (He.Fa.str "FIGURES" "0123456789").ok K,
  fun K => (He.Fa.int "LIMIT" 1000000).ok K] : List FaM) ++
  ([fun K => (He.Fa.int "MOST_DEEP" 6).ok K,
  fun K => (He.Fa.int "MOST_PARTS" 15).ok K,
  fun K => (He.Fa.free "str").ok K,
  fun K => (He.Fa.free "isinstance").ok K,
  fun K => (He.Fa.free "len").ok K,
  fun K => (He.Fa.free "all").ok K,
  fun K => (He.Fa.free "int").ok K,
  fun K => (He.Fa.free "range").ok K,
  fun K => (He.Fa.free "sum").ok K,
  fun K => (He.Fa.free "tuple").ok K,
  fun K => (He.Fa.free "bool").ok K] : List FaM)
def loose : List Str := (["_wall", "HadError", "NoProgram", "LIMIT", "MOST_PARTS", "MOST_DEEP", "LETTERS", "FIGURES", "PAIRS", "ROWS", "OTHERS", "is_name", "is_value_word", "Expr", "Number"] : List Str) ++ (["Box", "Cell", "both", "Two", "expr_at", "exprs_of", "read_expr", "_law_cell", "_law_mixed", "_law_twice", "_law_well", "_law_draw", "_law_value", "_law_name", "_law_parts"] : List Str) ++ (["_law_expr", "_law_words_of", "_law_few", "_law_held", "_law_pair", "_law_due", "_law_right"] : List Str)
abbrev R : PySem.W.OpenRow := PySem.W.OpenLaw.row PySem.Challenge.rw_hadbeen_k03_expressions_reckoned
def hTf : List He.Defn := [("_law_right", none)]
abbrev hk : PySem.W.Hook := hookMC ("law" :: loose) hFa hFn hTf
def ob (s : PySem.W.SharedT) : He.AlD × Bool := obsMC ("law" :: loose) hFa hFn hTf (HandSHeadRun.getT s)
theorem ob_eq (s : PySem.W.SharedT) : ob s = hk.obs s.abs := obsMC_eq (HandSHeadRun.getT_eq s)
end K03
namespace K03
open PySem PySem.Spec PyProof.Rows L2 TL
theorem run (w : World) : HandSHeadRun.RunEq R (PySem.W.view R.prog [40]) hk ob 9000 loose w := by
  intro os
  kernel_rfl
end K03
namespace K03
open PySem PySem.Spec PyProof.Rows L2 TL
set_option maxHeartbeats 0 in
theorem facts {w : World} {K : PySem.W.Frag} {h : Heap} {mg : Str → Option Value} {f : Addr} (X : K.In h) (G : h.Ns mainGlobals mg) (hfa : mg ("law" : Str) = some (.ref f)) (c0 : SaysMC hFa hFn hTf h K) :
    LamX.LawAtS PySem.Challenge.rw_hadbeen_k03_expressions_reckoned w K CX0 18 63 "_law_script" mg f h := by
  have c := c0.m
  obtain ⟨d0, F0⟩ := c.def_ 0 (d := hD_is_name) rfl
  obtain ⟨d1, F1⟩ := c.def_ 1 (d := hD_is_value_word) rfl
  obtain ⟨d2, F2⟩ := c.def_ 2 (d := hD_Number_init) rfl
  obtain ⟨d3, F3⟩ := c.def_ 3 (d := hD_Box_init) rfl
  obtain ⟨d4, F4⟩ := c.def_ 4 (d := hD_Cell_init) rfl
  obtain ⟨d5, F5⟩ := c.def_ 5 (d := hD_Two_init) rfl
  obtain ⟨d6, F6⟩ := c.def_ 6 (d := hD_both) rfl
  obtain ⟨d7, F7⟩ := c.def_ 7 (d := hD_Number_reckon) rfl
  obtain ⟨d8, F8⟩ := c.def_ 8 (d := hD_Box_reckon) rfl
  obtain ⟨d9, F9⟩ := c.def_ 9 (d := hD_Cell_reckon) rfl
  obtain ⟨d10, F10⟩ := c.def_ 10 (d := hD_Two_reckon) rfl
  obtain ⟨d11, F11⟩ := c.def_ 11 (d := hD_Expr_parts) rfl
  obtain ⟨d12, F12⟩ := c.def_ 12 (d := hD_Cell_parts) rfl
  obtain ⟨d13, F13⟩ := c.def_ 13 (d := hD_Two_parts) rfl
  obtain ⟨d14, F14⟩ := c.def_ 14 (d := hD_expr_at) rfl
  obtain ⟨d15, F15⟩ := c.def_ 15 (d := hD_exprs_of) rfl
  obtain ⟨d16, F16⟩ := c.def_ 16 (d := hD_read_expr) rfl
  obtain ⟨d17, F17⟩ := c.def_ 17 (d := hD_l_cell) rfl
  obtain ⟨d18, F18⟩ := c.def_ 18 (d := hD_l_mixed) rfl
  obtain ⟨d19, F19⟩ := c.def_ 19 (d := hD_l_twice) rfl
  obtain ⟨d20, F20⟩ := c.def_ 20 (d := hD_l_well) rfl
  obtain ⟨d21, F21⟩ := c.def_ 21 (d := hD_l_draw) rfl
  obtain ⟨d22, F22⟩ := c.def_ 22 (d := hD_l_value) rfl
  obtain ⟨d23, F23⟩ := c.def_ 23 (d := hD_l_name) rfl
  obtain ⟨d24, F24⟩ := c.def_ 24 (d := hD_l_parts) rfl
  obtain ⟨d25, F25⟩ := c.def_ 25 (d := hD_l_expr) rfl
  obtain ⟨d26, F26⟩ := c.def_ 26 (d := hD_l_words_of) rfl
  obtain ⟨d27, F27⟩ := c.def_ 27 (d := hD_l_few) rfl
  obtain ⟨d28, F28⟩ := c.def_ 28 (d := hD_l_held) rfl
  obtain ⟨d29, F29⟩ := c.def_ 29 (d := hD_l_pair) rfl
  obtain ⟨d30, F30⟩ := c.def_ 30 (d := hD_l_due) rfl
  obtain ⟨d31, F31⟩ := c.def_ 31 (d := hD_l_right) rfl
  obtain ⟨d32, F32⟩ := c.def_ 32 (d := hD_law) rfl
  have e := hfa.symm.trans (He.glo_ok (x := "law") X G (c.fact 21 rfl))
  cases e
  let A : Ads := ⟨He.fAd K ("is_name", none), d0, He.fAd K ("is_value_word", none), d1, He.fAd K ("Number", some "__init__"), d2, He.fAd K ("Box", some "__init__"), d3, He.fAd K ("Cell", some "__init__"), d4, He.fAd K ("Two", some "__init__"), d5, He.fAd K ("both", none), d6, He.fAd K ("Number", some "reckon"), d7, He.fAd K ("Box", some "reckon"), d8, He.fAd K ("Cell", some "reckon"), d9, He.fAd K ("Two", some "reckon"), d10, He.fAd K ("Expr", some "parts"), d11, He.fAd K ("Cell", some "parts"), d12, He.fAd K ("Two", some "parts"), d13, He.fAd K ("expr_at", none), d14, He.fAd K ("exprs_of", none), d15, He.fAd K ("read_expr", none), d16, He.fAd K ("_law_cell", none), d17, He.fAd K ("_law_mixed", none), d18, He.fAd K ("_law_twice", none), d19, He.fAd K ("_law_well", none), d20, He.fAd K ("_law_draw", none), d21, He.fAd K ("_law_value", none), d22, He.fAd K ("_law_name", none), d23, He.fAd K ("_law_parts", none), d24, He.fAd K ("_law_expr", none), d25, He.fAd K ("_law_words_of", none), d26, He.fAd K ("_law_few", none), d27, He.fAd K ("_law_held", none), d28, He.fAd K ("_law_pair", none), d29, He.fAd K ("_law_due", none), d30, He.fAd K ("_law_right", none), d31, He.fAd K ("law", none), d32, (He.cT K ("_law_right", none)).1, (He.cT K ("_law_right", none)).2, He.ga K "Number", He.ga K "Box", He.ga K "Cell", He.ga K "Two", He.ga K "Expr", He.ga K "PAIRS", He.ga K "ROWS", He.ga K "OTHERS", He.ga K "NoProgram"⟩
  have T : Txt K mg A :=
    { F_is_name := fun_of F0,
      b_is_name := FunD.bindsN (ps := ["thing"]) F0 fun _ _ _ _ _ _ us hl => match us, hl with | [_], _ => rfl,
      m_is_name := He.glo_ok (x := "is_name") X G (c.fact 0 rfl),
      F_is_value_word := fun_of F1,
      b_is_value_word := FunD.bindsN (ps := ["word"]) F1 fun _ _ _ _ _ _ us hl => match us, hl with | [_], _ => rfl,
      m_is_value_word := He.glo_ok (x := "is_value_word") X G (c.fact 1 rfl),
      F_Number_init := fun_of F2,
      b_Number_init := FunD.bindsN (ps := ["self", "value"]) F2 fun _ _ _ _ _ _ us hl => match us, hl with | [_, _], _ => rfl,
      F_Box_init := fun_of F3,
      b_Box_init := FunD.bindsN (ps := ["self", "name"]) F3 fun _ _ _ _ _ _ us hl => match us, hl with | [_, _], _ => rfl,
      F_Cell_init := fun_of F4,
      b_Cell_init := FunD.bindsN (ps := ["self", "inner"]) F4 fun _ _ _ _ _ _ us hl => match us, hl with | [_, _], _ => rfl,
      F_Two_init := fun_of F5,
      b_Two_init := FunD.bindsN (ps := ["self", "word", "left", "right"]) F5 fun _ _ _ _ _ _ us hl => match us, hl with | [_, _, _, _], _ => rfl,
      F_both := fun_of F6,
      b_both := FunD.bindsN (ps := ["word", "one", "other"]) F6 fun _ _ _ _ _ _ us hl => match us, hl with | [_, _, _], _ => rfl,
      m_both := He.glo_ok (x := "both") X G (c.fact 2 rfl),
      F_Number_reckon := fun_of F7,
      b_Number_reckon := FunD.bindsN (ps := ["self", "look"]) F7 fun _ _ _ _ _ _ us hl => match us, hl with | [_, _], _ => rfl,
      F_Box_reckon := fun_of F8,
      b_Box_reckon := FunD.bindsN (ps := ["self", "look"]) F8 fun _ _ _ _ _ _ us hl => match us, hl with | [_, _], _ => rfl,
      F_Cell_reckon := fun_of F9,
      b_Cell_reckon := FunD.bindsN (ps := ["self", "look"]) F9 fun _ _ _ _ _ _ us hl => match us, hl with | [_, _], _ => rfl,
      F_Two_reckon := fun_of F10,
      b_Two_reckon := FunD.bindsN (ps := ["self", "look"]) F10 fun _ _ _ _ _ _ us hl => match us, hl with | [_, _], _ => rfl,
      F_Expr_parts := fun_of F11,
      b_Expr_parts := FunD.bindsN (ps := ["self"]) F11 fun _ _ _ _ _ _ us hl => match us, hl with | [_], _ => rfl,
      F_Cell_parts := fun_of F12,
      b_Cell_parts := FunD.bindsN (ps := ["self"]) F12 fun _ _ _ _ _ _ us hl => match us, hl with | [_], _ => rfl,
      F_Two_parts := fun_of F13,
      b_Two_parts := FunD.bindsN (ps := ["self"]) F13 fun _ _ _ _ _ _ us hl => match us, hl with | [_], _ => rfl,
      F_expr_at := fun_of F14,
      b_expr_at := FunD.bindsN (ps := ["row", "at", "deep"]) F14 fun _ _ _ _ _ _ us hl => match us, hl with | [_, _, _], _ => rfl,
      m_expr_at := He.glo_ok (x := "expr_at") X G (c.fact 3 rfl),
      F_exprs_of := fun_of F15,
      b_exprs_of := FunD.bindsN (ps := ["row"]) F15 fun _ _ _ _ _ _ us hl => match us, hl with | [_], _ => rfl,
      m_exprs_of := He.glo_ok (x := "exprs_of") X G (c.fact 4 rfl),
      F_read_expr := fun_of F16,
      b_read_expr := FunD.bindsN (ps := ["text"]) F16 fun _ _ _ _ _ _ us hl => match us, hl with | [_], _ => rfl,
      m_read_expr := He.glo_ok (x := "read_expr") X G (c.fact 5 rfl),
      F_l_cell := fun_of F17,
      b_l_cell := FunD.bindsN (ps := ["_law_script", "_law_k"]) F17 fun _ _ _ _ _ _ us hl => match us, hl with | [_, _], _ => rfl,
      m_l_cell := He.glo_ok (x := "_law_cell") X G (c.fact 6 rfl),
      F_l_mixed := fun_of F18,
      b_l_mixed := FunD.bindsN (ps := ["_law_cell_here", "_law_k"]) F18 fun _ _ _ _ _ _ us hl => match us, hl with | [_, _], _ => rfl,
      m_l_mixed := He.glo_ok (x := "_law_mixed") X G (c.fact 7 rfl),
      F_l_twice := fun_of F19,
      b_l_twice := FunD.bindsN (ps := ["_law_cell_here", "_law_k"]) F19 fun _ _ _ _ _ _ us hl => match us, hl with | [_, _], _ => rfl,
      m_l_twice := He.glo_ok (x := "_law_twice") X G (c.fact 8 rfl),
      F_l_well := fun_of F20,
      b_l_well := FunD.bindsN (ps := ["_law_script", "_law_k"]) F20 fun _ _ _ _ _ _ us hl => match us, hl with | [_, _], _ => rfl,
      m_l_well := He.glo_ok (x := "_law_well") X G (c.fact 9 rfl),
      F_l_draw := fun_of F21,
      b_l_draw := FunD.bindsN (ps := ["_law_well_here", "_law_most"]) F21 fun _ _ _ _ _ _ us hl => match us, hl with | [_, _], _ => rfl,
      m_l_draw := He.glo_ok (x := "_law_draw") X G (c.fact 10 rfl),
      F_l_value := fun_of F22,
      b_l_value := FunD.bindsN (ps := ["_law_well_here"]) F22 fun _ _ _ _ _ _ us hl => match us, hl with | [_], _ => rfl,
      m_l_value := He.glo_ok (x := "_law_value") X G (c.fact 11 rfl),
      F_l_name := fun_of F23,
      b_l_name := FunD.bindsN (ps := ["_law_well_here"]) F23 fun _ _ _ _ _ _ us hl => match us, hl with | [_], _ => rfl,
      m_l_name := He.glo_ok (x := "_law_name") X G (c.fact 12 rfl),
      F_l_parts := fun_of F24,
      b_l_parts := FunD.bindsN (ps := ["_law_told"]) F24 fun _ _ _ _ _ _ us hl => match us, hl with | [_], _ => rfl,
      m_l_parts := He.glo_ok (x := "_law_parts") X G (c.fact 13 rfl),
      F_l_expr := fun_of F25,
      b_l_expr := FunD.bindsN (ps := ["_law_well_here", "_law_deep", "_law_most"]) F25 fun _ _ _ _ _ _ us hl => match us, hl with | [_, _, _], _ => rfl,
      m_l_expr := He.glo_ok (x := "_law_expr") X G (c.fact 14 rfl),
      F_l_words_of := fun_of F26,
      b_l_words_of := FunD.bindsN (ps := ["_law_told"]) F26 fun _ _ _ _ _ _ us hl => match us, hl with | [_], _ => rfl,
      m_l_words_of := He.glo_ok (x := "_law_words_of") X G (c.fact 15 rfl),
      F_l_few := fun_of F27,
      b_l_few := FunD.bindsN (ps := ["_law_told"]) F27 fun _ _ _ _ _ _ us hl => match us, hl with | [_], _ => rfl,
      m_l_few := He.glo_ok (x := "_law_few") X G (c.fact 16 rfl),
      F_l_held := fun_of F28,
      b_l_held := FunD.bindsN (ps := ["_law_thing", "_law_salt"]) F28 fun _ _ _ _ _ _ us hl => match us, hl with | [_, _], _ => rfl,
      m_l_held := He.glo_ok (x := "_law_held") X G (c.fact 17 rfl),
      F_l_pair := fun_of F29,
      b_l_pair := FunD.bindsN (ps := ["_law_word", "_law_one", "_law_other"]) F29 fun _ _ _ _ _ _ us hl => match us, hl with | [_, _, _], _ => rfl,
      m_l_pair := He.glo_ok (x := "_law_pair") X G (c.fact 18 rfl),
      F_l_due := fun_of F30,
      b_l_due := FunD.bindsN (ps := ["_law_told", "_law_salt", "_law_seen"]) F30 fun _ _ _ _ _ _ us hl => match us, hl with | [_, _, _], _ => rfl,
      m_l_due := He.glo_ok (x := "_law_due") X G (c.fact 19 rfl),
      F_l_right := fun_of F31,
      b_l_right := FunD.bindsN (ps := ["_law_expr_here", "_law_told", "_law_salt"]) F31 fun _ _ _ _ _ _ us hl => match us, hl with | [_, _, _], _ => rfl,
      m_l_right := He.glo_ok (x := "_law_right") X G (c.fact 20 rfl),
      F_law := fun_of F32,
      b_law := FunD.bindsN (ps := ["_law_script"]) F32 fun _ _ _ _ _ _ us hl => match us, hl with | [_], _ => rfl,
      m_law := He.glo_ok (x := "law") X G (c.fact 21 rfl),
      cd_l_right := code_of (st := s_l_right) F31,
      m_Number := He.glo_ok (x := "Number") X G (c.fact 22 rfl),
      cl_Number := He.cls_ok (x := "Number") (c.fact 23 rfl),
      mk_Number := (c.fact 24 rfl : PySem.W.makesIn K (He.ga K "Number") = true),
      n_Number_value := He.noat_ok (x := "Number") (f := "value") (c.fact 25 rfl),
      k_Number := He.mkr_ok (x := "Number") (c.fact 26 rfl),
      m_Box := He.glo_ok (x := "Box") X G (c.fact 27 rfl),
      cl_Box := He.cls_ok (x := "Box") (c.fact 28 rfl),
      mk_Box := (c.fact 29 rfl : PySem.W.makesIn K (He.ga K "Box") = true),
      n_Box_name := He.noat_ok (x := "Box") (f := "name") (c.fact 30 rfl),
      k_Box := He.mkr_ok (x := "Box") (c.fact 31 rfl),
      m_Cell := He.glo_ok (x := "Cell") X G (c.fact 32 rfl),
      cl_Cell := He.cls_ok (x := "Cell") (c.fact 33 rfl),
      mk_Cell := (c.fact 34 rfl : PySem.W.makesIn K (He.ga K "Cell") = true),
      n_Cell_inner := He.noat_ok (x := "Cell") (f := "inner") (c.fact 35 rfl),
      k_Cell := He.mkr_ok (x := "Cell") (c.fact 36 rfl),
      m_Two := He.glo_ok (x := "Two") X G (c.fact 37 rfl),
      cl_Two := He.cls_ok (x := "Two") (c.fact 38 rfl),
      mk_Two := (c.fact 39 rfl : PySem.W.makesIn K (He.ga K "Two") = true),
      n_Two_word := He.noat_ok (x := "Two") (f := "word") (c.fact 40 rfl),
      n_Two_left := He.noat_ok (x := "Two") (f := "left") (c.fact 41 rfl),
      n_Two_right := He.noat_ok (x := "Two") (f := "right") (c.fact 42 rfl),
      k_Two := He.mkr_ok (x := "Two") (c.fact 43 rfl),
      m_Expr := He.glo_ok (x := "Expr") X G (c.fact 44 rfl),
      cl_Expr := He.cls_ok (x := "Expr") (c.fact 45 rfl),
      mk_Expr := (c.fact 46 rfl : PySem.W.makesIn K (He.ga K "Expr") = true),
      me_Number_reckon := He.meth_ok (x := "Number") (m := "reckon") (c.fact 47 rfl),
      me_Box_reckon := He.meth_ok (x := "Box") (m := "reckon") (c.fact 48 rfl),
      me_Cell_reckon := He.meth_ok (x := "Cell") (m := "reckon") (c.fact 49 rfl),
      me_Two_reckon := He.meth_ok (x := "Two") (m := "reckon") (c.fact 50 rfl),
      me_Number_parts := (show Meth K (He.ga K "Number") "parts" (He.ma K (He.ga K "Expr") "parts") from of_decide_eq_true (c.fact 52 rfl) ▸ He.meth_ok (x := "Number") (m := "parts") (c.fact 51 rfl)),
      me_Box_parts := (show Meth K (He.ga K "Box") "parts" (He.ma K (He.ga K "Expr") "parts") from of_decide_eq_true (c.fact 54 rfl) ▸ He.meth_ok (x := "Box") (m := "parts") (c.fact 53 rfl)),
      me_Cell_parts := He.meth_ok (x := "Cell") (m := "parts") (c.fact 55 rfl),
      me_Two_parts := He.meth_ok (x := "Two") (m := "parts") (c.fact 56 rfl),
      m_PAIRS := He.glo_ok (x := "PAIRS") X G (c.fact 57 rfl),
      q_PAIRS := fun H => He.tupB_ok (x := "PAIRS") (vs := [.str "plus", .str "minus", .str "times", .str "over", .str "rest", .str "less", .str "same"]) (c.fact 58 rfl) H,
      m_ROWS := He.glo_ok (x := "ROWS") X G (c.fact 59 rfl),
      q_ROWS := fun H => He.tupB_ok (x := "ROWS") (vs := [.str "skip", .str "set", .str "put", .str "ask", .str "draw", .str "tell", .str "if", .str "while", .str "call"]) (c.fact 60 rfl) H,
      m_OTHERS := He.glo_ok (x := "OTHERS") X G (c.fact 61 rfl),
      q_OTHERS := fun H => He.tupB_ok (x := "OTHERS") (vs := [.str "else", .str "end", .str "fun", .str "main", .str "give", .str "cell"]) (c.fact 62 rfl) H,
      m_NoProgram := He.glo_ok (x := "NoProgram") X G (c.fact 64 rfl),
      x_NoProgram := (He.exc_ok (x := "NoProgram") (c.fact 63 rfl)).1,
      kk_NoProgram := (He.exc_ok (x := "NoProgram") (c.fact 63 rfl)).2.1,
      bb_NoProgram := (He.exc_ok (x := "NoProgram") (c.fact 63 rfl)).2.2.1,
      tt_NoProgram := (He.exc_ok (x := "NoProgram") (c.fact 63 rfl)).2.2.2,
      ne_num_box := of_decide_eq_true (c.fact 65 rfl),
      ne_num_cell := of_decide_eq_true (c.fact 66 rfl),
      ne_num_two := of_decide_eq_true (c.fact 67 rfl),
      ne_box_num := of_decide_eq_true (c.fact 68 rfl),
      ne_box_cell := of_decide_eq_true (c.fact 69 rfl),
      ne_box_two := of_decide_eq_true (c.fact 70 rfl),
      ne_cell_num := of_decide_eq_true (c.fact 71 rfl),
      ne_cell_box := of_decide_eq_true (c.fact 72 rfl),
      ne_cell_two := of_decide_eq_true (c.fact 73 rfl),
      ne_two_num := of_decide_eq_true (c.fact 74 rfl),
      ne_two_box := of_decide_eq_true (c.fact 75 rfl),
      ne_two_cell := of_decide_eq_true (c.fact 76 rfl),
      c_LETTERS := He.str_ok (x := "LETTERS") X G (c.fact 77 rfl),
      c_FIGURES := He.str_ok (x := "FIGURES") X G (c.fact 78 rfl),
      c_LIMIT := He.int_ok (x := "LIMIT") X G (c.fact 79 rfl),
      c_MOST_DEEP := He.int_ok (x := "MOST_DEEP") X G (c.fact 80 rfl),
      c_MOST_PARTS := He.int_ok (x := "MOST_PARTS") X G (c.fact 81 rfl),
      z_str := He.free_ok (x := "str") X G (c.fact 82 rfl),
      z_isinstance := He.free_ok (x := "isinstance") X G (c.fact 83 rfl),
      z_len := He.free_ok (x := "len") X G (c.fact 84 rfl),
      z_all := He.free_ok (x := "all") X G (c.fact 85 rfl),
      z_int := He.free_ok (x := "int") X G (c.fact 86 rfl),
      z_range := He.free_ok (x := "range") X G (c.fact 87 rfl),
      z_sum := He.free_ok (x := "sum") X G (c.fact 88 rfl),
      z_tuple := He.free_ok (x := "tuple") X G (c.fact 89 rfl),
      z_bool := He.free_ok (x := "bool") X G (c.fact 90 rfl) }
  refine ⟨d32, hTf.map (He.cT K), spLaw K [(A.t_l_right, fun _ _ => Q_l_right_l_look)], fun p hp => by
    have e : p ∈ hTf.map (He.cT K) := hp
    obtain ⟨q, hq, rfl⟩ := List.mem_map.mp e
    exact c0.empty q hq, fun p hp => by
    have e : p ∈ hTf.map (He.cT K) := hp
    obtain ⟨q, hq, rfl⟩ := List.mem_map.mp e
    exact c0.out q hq, fun p hp => ?_, fun s v => (FunD.bindsA (ps := ["_law_script"]) F32 fun _ _ _ _ _ _ us hl => match us, hl with | [_], _ => rfl) s [v] rfl, fun H a ns hl _ hT hS => ⟨a, ns, rfl, hS, hl, ?_, fun _ => rfl⟩, fun base _ _ hB => ok_law T ⟨hB _ (List.mem_map.mpr ⟨_, by simp [hTf], rfl⟩)⟩⟩
  · have e : p ∈ hTf.map (He.cT K) := hp
    obtain ⟨q, hq, rfl⟩ := List.mem_map.mp e
    exact PySem.W.codeHd_of_K X (c0.hd q hq)
  · intro p hp
    simp only [List.mem_cons, List.not_mem_nil, or_false] at hp
    subst hp
    exact NdefX.TabN.nil (hT (He.cT K ("_law_right", none)) (List.mem_map.mpr ⟨_, by simp [hTf], rfl⟩))
end K03
open PySem PySem.W PySem.Calls PyProof.Rows
set_option maxRecDepth 100000 in
set_option maxHeartbeats 0 in
theorem PySem.Challenge.cw_hadbeen_k03_expressions_reckoned_holds : PySem.Challenge.rw_hadbeen_k03_expressions_reckoned.Holds := by
  w_on; o_law
  refine HandSHeadRun.head_any (r := OpenLaw.row PySem.Challenge.rw_hadbeen_k03_expressions_reckoned) (q := view (OpenLaw.row PySem.Challenge.rw_hadbeen_k03_expressions_reckoned).prog [40]) (H := K03.hk) (ob := K03.ob) (M := 9000) (loose := K03.loose) (d := HandSHeadRun.topDef (OpenLaw.row PySem.Challenge.rw_hadbeen_k03_expressions_reckoned).prog 40) (kwd := []) K03.ob_eq
    (by kernel_rfl) (fun s => by kernel_rfl) K03.run (by kernel_rfl) (by kernel_rfl) (by kernel_rfl) (by rfl) (by first | assumption | decide +kernel) (by decide +kernel) ⟨rfl, rfl, rfl, rfl, rfl, by decide +kernel⟩ ?hw ?hc
  case hw => w_witness2
  case hc =>
    refine LamX.walk_ofTsE (l := PySem.Challenge.rw_hadbeen_k03_expressions_reckoned) (n := 63) (k := 18) (x := "_law_script") (CX := fun _ => L2.CX0) rfl (by decide) (by kernel_rfl) ⟨rfl, by decide, by decide⟩ ?F (fun _ _ _ _ _ z => z)
    intro w mg fa h Y G hmg0
    obtain ⟨K, KX, c⟩ := Y
    have hmg : mg ("law" : PySem.Str) = some (.ref fa) := by
      have e : (HandSHeadRun.topDef (OpenLaw.row PySem.Challenge.rw_hadbeen_k03_expressions_reckoned).prog 40).name = ("law" : PySem.Str) := by kernel_rfl
      rw [← e]
      exact hmg0
    exact ⟨K, KX, K03.facts (w := w) KX G hmg c⟩
