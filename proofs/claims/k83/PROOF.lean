import PyProof.Rows.All
import Wide.All
import OpenK.AllK
import Wide.FinOn
import HandS.HeadHook3
import HandS.HeadHook4
import KE.KeyNested
import PyProof.ReprRoads
import HandS.Text
import KE.GoesComp
import KE.GoesRaise
import HandS.ExcCtx
import HandS.Deep
import HandS.ForMost
import HandS.IsInst
import HandS.NoneIn
import HandS.ForExc
import HandS.Walk
import HandS.TupAny
import HandS.RaiseMore
import PyProof.StrLawsChain
import KE.IntTextText
import KE.KStateDown
import Lean
import HandS.More
import HandS.WordsExc
import HandS.Defaults
import HandS.Head0
import HandS.Head1
import HandS.Head2
import HandS.HeadEnd
import HandS.HeadHook1
import HandS.HeadHook2
import HandS.ExcIs
import HandS.IsInst
import HandS.Flow
import HandS.Dict
import PySem.Challenge.RW_hadbeen_k83_changes_as_texts
set_option Elab.async false
set_option maxRecDepth 100000
set_option maxHeartbeats 4000000
set_option linter.all false
namespace K83
open PySem L2 TL
namespace KX
open PySem PySem.Spec PyProof.Rows L2
section
variable {X : Cx} {E : XK}
/-- an exception that came out of a call, over the frames of X, with this wish -/
def Aloft (X : Cx) (E : XK) (u : Value) (z : Shared) : Prop :=
  ∃ (a : Addr) (G : Heap) (y : Shared) (ps : List (Addr × Obj)) (τ : L2.St) (J : Hp) (c : Value) (d : Option Addr),
    u = .ref a ∧ Inv X ps τ J y ∧ (∀ b o, y.heap.get? b = some o → b ∉ frs X.stack → G.get? b = some o) ∧ y.heap.UpToSlots z.heap ∧
      HandSPX.FlyingZ G X.stack a (Zc c d) z.heap ∧ J a = none ∧ z.os = y.os ∧ AllBare z.gens ∧ E c d J
theorem aloft {ps : List (Addr × Obj)} {τ : L2.St} {J : Hp} {y z : Shared} {u : Value} (hI : Inv X ps τ J y) (hc : L2.CX X.prog X.w X.stack J y E u z) : Aloft X E u z := by
  obtain ⟨a0, _, _, _, _, hu, hfl, _⟩ := id hc
  obtain ⟨a, G, y', ps', τ', J', c, d, e, h1, h2, h3, sky, h5, h6, h7, h8⟩ := XE.of_call (W := fun c d _ J => E c d J) hI (fun _ _ _ q => q) hc
  rw [hu] at e
  cases e
  obtain ⟨_, _, _, oe, vs, t, ot, ts, q1, _, q3, q4, _, _, q7, q8, q9⟩ := hfl
  refine ⟨a0, G, y', ps', τ', J', c, d, hu, h1, h2, h3, ?_, h5, h6, h7, h8⟩
  rcases sky with ⟨_, _, _, oe', vs', r1, _, r3, r4⟩ | r | ⟨_, _, _, oe', vs', t', ot', ts', r1, _, r3, r4, _, _, r7, r8, r9⟩
  · rw [q1] at r1; cases r1
    rw [q3] at r3; cases r3
    rw [q4] at r4; cases r4
  · exact r
  · rw [q1] at r1; cases r1
    rw [q3] at r3; cases r3
    rw [q4] at r4; cases r4
    rw [q7] at r7; cases r7
    rw [q8] at r8; cases r8
    rw [q9] at r9
    simp [rawInt] at r9
/-- what a block's element may let out, told of the def's own context: C the block's names -/
def Aside (X : Cx) (ps : List (Addr × Obj)) (τ : L2.St) (C : Addr) (E : XK) (u : Value) (z : Shared) : Prop :=
  ∃ (a : Addr) (G : Heap) (y : Shared) (J : Hp) (c : Value) (d : Option Addr) (m : Str → Option Value),
    u = .ref a ∧ Inv X ps τ J y ∧ (∀ b o, y.heap.get? b = some o → b ∉ frs X.stack → G.get? b = some o) ∧ y.heap.UpToSlots z.heap ∧
      HandSPX.FlyingZ G X.stack a (Zc c d) z.heap ∧ J a = none ∧ z.os = y.os ∧ AllBare z.gens ∧ E c d J ∧ y.heap.Ns C m ∧ FpOk X ps J C
theorem aside_noted {ps : List (Addr × Obj)} {τ : L2.St} {C : Addr} {u : Value} {z : Shared} {ce : Env} (tk : Takes X fun c d _ J => E c d J) (hs : X.stack = X.env :: X.outer) (hf : X.env.frame = some X.env.locals)
    (cL : ce.locals = C) (cF : ce.frame = X.env.frame) (h : Aside X ps τ C E u z) :
    notedBy (model X.prog X.w) X.A ce (CompFails (model X.prog X.w) X.A X.xe ce) u z := by
  obtain ⟨a, G, y, J, c, d, m, rfl, hI, nb, up, fl, na, ho, hb, hE, hn, hfp⟩ := h
  subst cL
  obtain ⟨f0, f1, f2, f3, f4, f5⟩ := hfp
  have hfr : X.A.frames = some (X.env :: X.outer) := by rw [hI.ok.frames, hs]
  rw [hs] at fl
  show wpAny _ _ (noteFrame (.ref a) ce) _ _ z
  rw [noteFrame_env _ cF]
  refine HandSPX.looks_onZ Zc.steady hfr hf fl fun h1 held up1 => ?_
  obtain ⟨g1, g2, g3, oe, vs, t, ot, ts, q1, qz, q3, q4, q5, q6, q7, q8, q9⟩ := held
  have n1 : h1.Ns ce.locals m := (hn.upToSlots up).upToSlots up1
  refine ⟨m, n1, fun h2 m2 hn2 hs2 => ?_⟩
  have isDict : ∀ {o : Obj} {vs : Array Value} {b : Addr}, h1.get? b = some o → o.data = .fields vs → b ≠ ce.locals := fun {o vs b} e1 e2 e3 => by
    obtain ⟨o', es, ep, e4, e5, _⟩ := n1
    rw [← e3, e1] at e4
    cases e4
    rw [e2] at e5
    cases e5
  have na' : a ≠ ce.locals := isDict q1 q3
  have nt' : t ≠ ce.locals := isDict q7 q8
  have w1 : h2.get? a = some oe := (hs2.2 a na').trans q1
  have w2 : h2.get? t = some ot := (hs2.2 t nt').trans q7
  unfold PySem.passOn
  refine wpAny_bind (wpAny_field w1 q3 q4 ?_)
  rw [if_neg (show ¬ ((Value.ref t == Value.none) = true) from by simp)]
  rw [cF, hf]
  have hG : ∀ b o, (PySem.W.hideAll G [ce.locals]).get? b = some o → b ≠ ce.locals ∧ G.get? b = some o := fun b o e => by
    refine ⟨fun e' => ?_, PySem.W.of_hideAll _ e⟩
    rw [e', PySem.W.hideAll_none _ (List.mem_singleton.mpr rfl)] at e
    cases e
  have hel : HandSPX.HeldZ (PySem.W.hideAll G [ce.locals]) (X.env :: X.outer) a (Zc c d) X.env.locals h2 := by
    refine ⟨fun b o e => ?_, ?_, ?_, oe, vs, t, ot, ts, w1, qz, q3, q4, ?_, q6, w2, q8, q9⟩
    · obtain ⟨e1, e2⟩ := hG b o e
      exact (hs2.2 b e1).trans (g1 b o e2)
    · cases e : (PySem.W.hideAll G [ce.locals]).get? a with
      | none => rfl
      | some o => exact absurd (hG a o e).2 (by rw [g2]; intro z; cases z)
    · refine funFrames_none (Heap.FunFrames.sameBut hs2 hn2 g3) fun L hL => ?_
      cases e : (PySem.W.hideAll G [ce.locals]).get? L with
      | none => rfl
      | some o =>
        obtain ⟨w, _⟩ := g3.mem hL
        rw [(hG L o e).2] at w
        cases w
    · cases e : (PySem.W.hideAll G [ce.locals]).get? t with
      | none => rfl
      | some o => exact absurd (hG t o e).2 (by rw [q5]; intro z; cases z)
  refine wpAny_bind (HandSPX.setFlight_onZ hel fun h3 held3 up3 => ?_)
  refine wpAny_throw ?_
  have hy : ∀ b o, (PySem.W.hideAll y.heap [ce.locals]).get? b = some o → b ≠ ce.locals ∧ y.heap.get? b = some o := fun b o e => by
    refine ⟨fun e' => ?_, PySem.W.of_hideAll _ e⟩
    rw [e', PySem.W.hideAll_none _ (List.mem_singleton.mpr rfl)] at e
    cases e
  refine tk _ _ ⟨a, PySem.W.hideAll G [ce.locals], { y with heap := PySem.W.hideAll y.heap [ce.locals] }, ps, τ, J, c, d, rfl, ?_, fun b o e hb' => ?_, fun b o e hnf => ?_, .inr (.inr ?_), na, ho, hb, hE⟩
  · exact hI.turned (t' := y.toks) (fun b o hb e => PySem.W.hideAll_get _ e fun hm => hb (List.mem_singleton.mp hm)) f0 f1 f3 f4 f5
  · obtain ⟨e1, e2⟩ := hy b o e
    exact PySem.W.hideAll_get _ (nb b o e2 hb') fun hm => e1 (List.mem_singleton.mp hm)
  · obtain ⟨e1, e2⟩ := hy b o e
    obtain ⟨s1, r1⟩ := up b o e2 hnf
    obtain ⟨s2, r2⟩ := up1 b _ r1 hnf
    obtain ⟨s3, r3⟩ := up3 b _ ((hs2.2 b e1).trans r2) hnf
    exact ⟨s3, r3⟩
  · rw [hs]
    exact held3
end
/-- the context of a block whose element may raise -/
abbrev blkX (X : Cx) (b0 : Shared) (G0 : Hp) (sc : Scope) (ce : Env) (fps : List Addr) (xe : Value → Shared → Prop) : Cx := (X.blk b0 G0 sc ce fps).wish xe
section
variable {X : Cx} {E : XK}
theorem lcX {pins : List (Addr × Obj)} {b0 : Shared} {τ : L2.St} {G0 : Hp} {Q : VK} {el tgt it : Expr} {ifs : List Expr} {sc : Scope} {own : List (Str × Nat)} {pos pos' : Pos} {wi : TI} {g : TG} {tt : TT} {te : TE}
    (calm : X.calm = true) (tk : Takes X fun c d _ J => E c d J) (hst : X.stack = X.env :: X.outer) (hfr : X.env.frame = some X.env.locals) (nd : X.N.Nodup) (I : Inv X pins τ G0 b0) (hi : PI X tgt it wi) (ok : BlkOk X.N X.env.scope sc own)
    (hg : ∀ (b : Shared) (G : Hp) (C : Addr) (cl : List (Str × Addr)) (fps : List Addr) (xe : Value → Shared → Prop), PG (blkX X b G sc (compEnvC sc cl C X.env) fps xe) tgt g)
    (ht : ∀ (b : Shared) (G : Hp) (C : Addr) (cl : List (Str × Addr)) (fps : List Addr) (xe : Value → Shared → Prop), PTs (blkX X b G sc (compEnvC sc cl C X.env) fps xe) ifs tt)
    (he : ∀ (b : Shared) (G : Hp) (C : Addr) (cl : List (Str × Addr)) (fps : List Addr) (xe : Value → Shared → Prop), (∀ ρ, PassesAt (L2.CX X.prog X.w) (blkX X b G sc (compEnvC sc cl C X.env) fps xe) ρ E) → PE (blkX X b G sc (compEnvC sc cl C X.env) fps xe) el te)
    (hset : ∀ x, foldedSetIterable it X.env x = pure x) (h : tLc wi g tt te (own.map (·.2)) τ G0 Q) :
    wpAny (model X.prog X.w) X.A (comprehension (.ListComp el [⟨tgt, it, ifs, 0⟩] sc pos) sc X.env pos' (newList []) false (eval it X.env) none) (EP X pins τ Q) X.xe b0 := by
  have hcap : ∀ y ∈ sc.names, y.2 = .free → ∃ c, X.env.cells.lookup y.1 = some c := fun y hy e => (ok.free y hy e).elim (fun k => I.ok.has _ (.inl k)) fun k => I.ok.has _ (.inr k)
  refine comprehension_at (use := none) rfl hset (closure_ok hcap) ok.kind (fun y hy e => by rw [ok.uniq y hy, e]) (thn (hi.run pins b0 τ G0 _ I h) fun xv b1 hx => thn hx fun itv b2 hb2 => ?_)
  obtain ⟨ia, fps, tn, J, G2, rfl, I2, T, at2, ff2, todo⟩ := hb2
  refine wpAny_newObj_type (newEnv_comp ?_) (by show 0 ≤ sizeLine; decide)
  generalize hL : b2.heap.objs.size = L
  obtain ⟨W, ⟨k0, w0⟩, each⟩ := todo L (I2.hok.fresh (Nat.le_of_eq hL))
  generalize hb3 : ({ b2 with heap := b2.heap.push { cls := .type "list", data := .seq ([] : List Value).toArray } } : Shared) = b3
  have e3 : b3.heap = b2.heap.push { cls := .type "list", data := .seq ([] : List Value).toArray } := by rw [← hb3]
  have I3 : Inv X pins τ (upd G2 L (.lst [])) b3 := by
    rw [← hb3]
    exact I2.laid (t' := b2.toks) (fun b o e => Heap.get?_push_of_some _ e) (Nat.le_of_eq hL) ⟨Nat.zero_le _, [], 0, .nil, by rw [← hL]; exact Heap.get?_push_size _ rfl⟩
  have ff3 : ∀ b ∈ fps, FpOk X pins (upd G2 L (.lst [])) b ∧ b < b3.heap.objs.size := fun b hb => by
    obtain ⟨o, e, _⟩ := T.obj _ _ at2 b hb
    have lt := Heap.lt_size e
    refine ⟨⟨?_, (ff2 b hb).2⟩, by rw [e3, Heap.size_push]; exact Nat.lt_succ_of_lt lt⟩
    rw [upd_ne (by rw [← hL]; exact Nat.ne_of_lt lt)]
    exact (ff2 b hb).1
  have at3 : tn 0 b3.heap := T.keep _ _ _ at2 fun b _ o e => by rw [e3]; exact Heap.get?_push_of_some _ e
  have I4 := block_start I3 ok nd ff3
  show codeAny _ _ (.compStart (.ListComp el [⟨tgt, it, ifs, 0⟩] sc pos) 0 (.ref ia) (.ref L) (compEnvC sc (cellsFrom (b3.heap.objs.size + 1) sc.names (cloFrom X.env.cells sc.names [])) b3.heap.objs.size X.env))
    (compEnds (model X.prog X.w) X.A X.xe none (EP X pins τ Q) (.ref L) (compEnvC sc (cellsFrom (b3.heap.objs.size + 1) sc.names (cloFrom X.env.cells sc.names [])) b3.heap.objs.size X.env)) { b3 with heap := pushCells (b3.heap.push { cls := .type "dict", data := .dict #[] }) sc.names }
  generalize hcl : cellsFrom (b3.heap.objs.size + 1) sc.names (cloFrom X.env.cells sc.names []) = cl at I4 ⊢
  have pg := hg b3 (upd G2 L (.lst [])) b3.heap.objs.size cl fps
  have pt := ht b3 (upd G2 L (.lst [])) b3.heap.objs.size cl fps
  have pe := he b3 (upd G2 L (.lst [])) b3.heap.objs.size cl fps
  have free3 : ∀ b ∈ fps, (upd G2 L (.lst [])) b = none := fun b hb => (ff3 b hb).1.1
  generalize hce : compEnvC sc cl b3.heap.objs.size X.env = ce at I4 pg pt pe ⊢
  have cL : ce.locals = b3.heap.objs.size := by subst hce; rfl
  have cF : ce.frame = X.env.frame := by subst hce; rfl
  generalize hG3 : upd G2 L (.lst []) = G3 at I3 I4 pg pt pe w0 free3 ff3
  generalize hb4 : ({ b3 with heap := pushCells (b3.heap.push { cls := .type "dict", data := .dict #[] }) sc.names } : Shared) = b4 at I4 ⊢
  have at4 : tn 0 b4.heap := T.keep _ _ _ at3 fun b _ o e => by rw [← hb4]; exact pushCells_keeps _ _ _ _ (Heap.get?_push_of_some _ e)
  -- back in the def's own context
  have home : ∀ {xe : Value → Shared → Prop} {ps : List (Addr × Obj)} {ρ : L2.St} {J : Hp} {z : Shared}, Inv (blkX X b3 G3 sc ce fps xe) ps ρ J z → Inv X pins τ J z ∧ J b3.heap.objs.size = none ∧ (∃ m, z.heap.Ns b3.heap.objs.size m) ∧ FpOk X pins J b3.heap.objs.size := fun {xe ps ρ J z} I' => by
    have fr : J ce.locals = none := I'.free
    rw [cL] at fr
    obtain ⟨m, hn, _⟩ := I'.loc
    have hn : z.heap.Ns ce.locals m := hn
    rw [cL] at hn
    exact ⟨I3.call' (ch := fps) I'.os I'.base I'.hok I'.bare fun b hb => ⟨(ff3 b hb).1.2.2.2.1, (ff3 b hb).1.2.1, (ff3 b hb).1.2.2.2.2.1, (ff3 b hb).1.2.2.2.2.2⟩, fr, ⟨m, hn⟩, I3.fpOk (Nat.le_refl _) fr⟩
  have pass : ∀ ρ, PassesAt (L2.CX X.prog X.w) (blkX X b3 G3 sc ce fps (Aside X pins τ b3.heap.objs.size E)) ρ E := fun ρ ps J z u z' I' c => by
    obtain ⟨a, G, y, ps', ρ', J', cls, d, hu, I'', nb, up, fl, na, hos, hb, hE⟩ := aloft I' c
    obtain ⟨i1, i2, ⟨m, i3⟩, i4⟩ := home I''
    exact ⟨a, G, y, J', cls, d, m, hu, i1, nb, up, fl, na, hos, hb, hE, i3, i4⟩
  have pg := pg (Aside X pins τ b3.heap.objs.size E)
  have pt := pt (Aside X pins τ b3.heap.objs.size E)
  have pe := pe (Aside X pins τ b3.heap.objs.size E) pass
  have out : ∀ u z, Aside X pins τ b3.heap.objs.size E u z → notedBy (model X.prog X.w) X.A ce (fun e s' => compEnds (model X.prog X.w) X.A X.xe none (EP X pins τ Q) (.ref L) ce (.error e) s') u z := fun u z q => aside_noted tk hst hfr cL cF q
  have still : ∀ {ρ : L2.St} {J : Hp} {z : Shared}, Inv (X.blk b3 G3 sc ce fps) [] ρ J z → (∀ b ∈ fps, J b = none) → ∀ b ∈ fps, FpOk (X.blk b3 G3 sc ce fps) [] J b := fun {ρ J z} I' hn b hb =>
    ⟨hn b hb, (I'.ok.exf b hb).1, I'.ok.exfs b hb, .inl hb, fun x c e => (I'.ok.exf b hb).2 x c e, fun p hp => absurd (show p ∈ ([] : List (Addr × Obj)) ++ [] from hp) (by simp)⟩
  have round : codeAny (model X.prog X.w) X.A (.compLoop (.ListComp el [⟨tgt, it, ifs, 0⟩] sc pos) 0 (.ref ia) (.ref L) ce) (compEnds (model X.prog X.w) X.A X.xe none (EP X pins τ Q) (.ref L) ce) b4 := by
    refine compLoop_any (fun n z => ∃ i J', Inv (X.blk b3 G3 sc ce fps) [] (wipe τ (own.map (·.2))) J' z ∧ tn i z.heap ∧ (∀ b ∈ fps, J' b = none) ∧ W i n J') ?_ k0 ⟨0, G3, I4, at4, free3, w0⟩
    rintro n b5 ⟨i, G5, I5, at5, free5, w5⟩
    rcases each i n G5 w5 with ⟨hstop, hq⟩ | ⟨hgo, Nx, hNx, turn⟩
    · refine thnF (T.done (X.blk b3 G3 sc ce fps) rfl rfl rfl calm i [] b5 _ G5 (fun _ _ => False) I5 (still I5 free5) at5 hstop) fun r b6 ⟨hr, I6⟩ => ?_
      subst hr
      obtain ⟨i1, i2, ⟨m, i3⟩, f0, f1, f2, f3, f4, f5⟩ := home (I6.wish fun _ _ => False)
      refine ⟨m, by rw [cL]; exact i3, fun h'' sb => ⟨.ref L, G5, ?_, rfl, hq⟩⟩
      rw [cL] at sb
      exact i1.turned (t' := b6.toks) (fun b o hb e => (sb.2 b hb).trans e) f0 f1 f3 f4 f5
    · refine thnF (T.item (X.blk b3 G3 sc ce fps) rfl rfl rfl calm i [] b5 _ G5 (fun _ _ => False) I5 (still I5 free5) at5 hgo) fun r b6 ⟨u, hr, hb6⟩ => ?_
      subst hr
      refine thnF hb6 fun _ b7 ⟨x, G7, I7, r7, y7, at7, free7⟩ => ?_
      have J7 := (I7.pinned (still I7 free7) (T.obj _ _ at7)).wish (Aside X pins τ b3.heap.objs.size E)
      refine wpAny_mono (pg.run _ b7 _ G7 x u _ J7 r7 (turn x G7 y7)) (fun _ b8 ⟨τ8, G8, I8, hw8, q8⟩ => ?_) out
      refine wpAny_mono (pt.run _ b8 τ8 G8 _ I8 q8) (fun b b9 ⟨G9, I9, q9⟩ => ?_) out
      have fin : ∀ {z : Shared} {J' : Hp}, Inv (blkX X b3 G3 sc ce fps (Aside X pins τ b3.heap.objs.size E)) ([] ++ pinsAt fps b7.heap) τ8 J' z → Nx J' → ∃ m, m < n ∧ ∃ i J', Inv (X.blk b3 G3 sc ce fps) [] (wipe τ (own.map (·.2))) J' z ∧ tn i z.heap ∧ (∀ b ∈ fps, J' b = none) ∧ W i m J' := fun {z J'} I'' nx => by
        have I' : Inv (X.blk b3 G3 sc ce fps) ([] ++ pinsAt fps b7.heap) τ8 J' z := I''.unwish
        obtain ⟨m', hm, w'⟩ := hNx J' nx
        have held : ∀ b ∈ fps, ∀ o, b7.heap.get? b = some o → z.heap.get? b = some o ∧ J' b = none := fun b hb o e =>
          let p := I'.pin (b, o) (List.mem_append_right _ (List.mem_append_right _ (mem_pinsAt hb e)))
          ⟨p.1, p.2.1⟩
        have len : (wipe τ (own.map (·.2))).length = τ8.length := by rw [← hw8, wipe_length]
        refine ⟨m', hm, i + 1, J', (I'.unpinned (pins := [])).weak len (fun j v e => ?_), T.keep _ _ _ at7 fun b hb o e => (held b hb o e).1, fun b hb => ?_, w'⟩
        · rw [← hw8] at e
          exact (wipe_some e).1
        · obtain ⟨o, e, _⟩ := T.obj _ _ at7 b hb
          exact (held b hb o e).2
      cases b with
      | false =>
        simp only [Bool.false_eq_true, if_false] at q9 ⊢
        exact fin I9 q9
      | true =>
        simp only [if_true] at q9 ⊢
        refine wpAny_mono (pe.run _ b9 τ8 G9 _ I9 q9) (fun z b10 ⟨yv, G10, I10, r10, acc, hL10, len10, nx⟩ => ?_) out
        exact app_ok (X := blkX X b3 G3 sc ce fps (Aside X pins τ b3.heap.objs.size E)) I10 hL10 len10 r10 fun b11 I11 => fin I11 nx
  exact codeAny_compStart_list round (T.self X.A 0 _ _ _ at4 round)
/-- [el for tgt in it if ..] as a value, the element may raise what the def may -/
theorem pe_lcX {el tgt it : Expr} {ifs : List Expr} {sc : Scope} {own : List (Str × Nat)} {pos : Pos} {wi : TI} {g : TG} {tt : TT} {te : TE}
    (calm : X.calm = true) (tk : Takes X fun c d _ J => E c d J) (hst : X.stack = X.env :: X.outer) (hfr : X.env.frame = some X.env.locals) (nd : X.N.Nodup) (hi : PI X tgt it wi) (ok : BlkOk X.N X.env.scope sc own)
    (hg : ∀ (b : Shared) (G : Hp) (C : Addr) (cl : List (Str × Addr)) (fps : List Addr) (xe : Value → Shared → Prop), PG (blkX X b G sc (compEnvC sc cl C X.env) fps xe) tgt g)
    (ht : ∀ (b : Shared) (G : Hp) (C : Addr) (cl : List (Str × Addr)) (fps : List Addr) (xe : Value → Shared → Prop), PTs (blkX X b G sc (compEnvC sc cl C X.env) fps xe) ifs tt)
    (he : ∀ (b : Shared) (G : Hp) (C : Addr) (cl : List (Str × Addr)) (fps : List Addr) (xe : Value → Shared → Prop), (∀ ρ, PassesAt (L2.CX X.prog X.w) (blkX X b G sc (compEnvC sc cl C X.env) fps xe) ρ E) → PE (blkX X b G sc (compEnvC sc cl C X.env) fps xe) el te)
    (hset : ∀ x, foldedSetIterable it X.env x = pure x := by intro _; rfl) :
    PE X (.ListComp el [⟨tgt, it, ifs, 0⟩] sc pos) (tLc wi g tt te (own.map (·.2))) := by
  refine ⟨fun pins b0 τ G0 Q I h => ?_⟩
  rw [eval_ListComp]
  exact lcX calm tk hst hfr nd I hi ok hg ht he hset h
end
end KX
namespace KO
open PySem PySem.Spec PyProof.Rows L2
/-! a dict whose keys are True, False, None -/
def isOB : Option Bool → Value → Bool
  | none, .none => true
  | some b, .bool c => b == c
  | _, _ => false
theorem ob_none {v : Value} (h : isOB none v = true) : v = .none := by
  cases v with
  | none => rfl
  | _ => exact nomatch (show false = true from h)
theorem ob_some {b : Bool} {v : Value} (h : isOB (some b) v = true) : v = .bool b := by
  cases v with
  | bool c =>
    have : (b == c) = true := h
    rw [eq_of_beq this]
  | _ => exact nomatch (show false = true from h)
/-- the value of such a key -/
def obv : Option Bool → Value
  | none => .none
  | some b => .bool b
theorem ob_val {k : Option Bool} {v : Value} (h : isOB k v = true) : v = obv k := by
  cases k with
  | none => exact ob_none h
  | some b => exact ob_some h
theorem ob_is (k : Option Bool) : isOB k (obv k) = true := by
  cases k with
  | none => rfl
  | some b => exact beq_self_eq_true b
theorem bool_red (b : Bool) : reduceHash (if b = true then 1 else 0) = hashInt (if b = true then 1 else 0) := by cases b <;> decide +kernel
def obKind (prog : Program) (w : World) : PySem.KeyKind prog w (Option Bool) where
  is := isOB
  hash := fun k => match k with
    | none => reduceHash 0xFCA86420
    | some b => hashInt (if b = true then 1 else 0)
  inj := fun v a b ha hb => by
    have h1 := ob_val ha
    rw [ob_val hb] at h1
    cases a <;> cases b
    · rfl
    · cases h1
    · cases h1
    · have h2 : Value.bool _ = Value.bool _ := h1
      cases h2; rfl
  byValue := fun k v h => by
    rw [ob_val h]
    cases k <;> rfl
  pyHash := @fun A E s k v Q hv h => by
    have e := ob_val hv
    subst e
    cases k with
    | none => exact PySem.W.pyHash_slot (T := "NoneType") rfl PySem.F.slot_NoneType_hash PySem.F.entry_NoneType_hash (PySem.F.args_NoneType_hash_1 _) (beq_builtin_none _) (.inl rfl) (wpAny_bind (wpAny_pure (wpAny_bind (wpAny_mkInt (wpAny_pure ⟨_, _, rfl, h⟩)))))
    | some b =>
      have h' : Q (hashInt (if b = true then 1 else 0)) { s with toks := s.toks + 1 } := h
      rw [← bool_red] at h'
      refine PySem.W.pyHash_slot (T := "bool") rfl PySem.F.slot_bool_hash entry_int_hash (args_int_hash _) (beq_builtin_none _) (.inl rfl) ?_
      cases b
      · exact (show wpAny _ _ (do ret (← mkInt 0)) _ _ s from wpAny_bind (wpAny_mkInt (wpAny_pure ⟨_, _, rfl, h'⟩)))
      · exact (show wpAny _ _ (do ret (← mkInt 1)) _ _ s from wpAny_bind (wpAny_mkInt (wpAny_pure ⟨_, _, rfl, h'⟩)))
  eqBool := @fun A E s a b u v Q hu hv h => by
    have e1 := ob_val hu
    have e2 := ob_val hv
    subst e1 e2
    cases a with
    | none =>
      cases b with
      | none =>
        rw [decide_eq_true rfl] at h
        exact SeqAt.EqAt.same _ _ _ _ _ h
      | some c =>
        rw [decide_eq_false (fun z => nomatch z)] at h
        exact SeqAt.EqAt.none_bool _ _ _ _ _ h
    | some c =>
      cases b with
      | none =>
        rw [decide_eq_false (fun z => nomatch z)] at h
        exact SeqAt.EqAt.bool_none _ _ _ _ _ h
      | some d =>
        refine SeqAt.EqAt.bool_bool c d _ _ _ _ ?_
        have e : decide ((some c : Option Bool) = some d) = (c == d) := by cases c <;> cases d <;> rfl
        rw [e] at h
        exact h
  «strs» := fun k x t v h => by
    have := ob_val h
    cases k <;> cases this
/-- a's object: such a dict -/
def OD (P : Program) (w : World) (a : Addr) (kvs : List (Option Bool × V)) : HO :=
  .ext fun h => (a == sysModules) = false ∧ ∃ vs : List (Option Bool × Value), Paired (fun p q => p.1 = q.1 ∧ RelV p.2 q.2) kvs vs ∧ h.DictOf (obKind P w) a vs
def oV : Option Bool → V
  | none => .non
  | some b => .bl b
theorem oV_val {k : Option Bool} {u : Value} (r : RelV (oV k) u) : u = obv k := by
  cases k with
  | none => exact r
  | some b => exact r
theorem od_rd {P : Program} {w : World} {H : Hp} {h : Heap} {a : Addr} {kvs : List (Option Bool × V)} (ok : HOk P w H h) (e : H a = some (OD P w a kvs)) :
    (a == sysModules) = false ∧ ∃ vs : List (Option Bool × Value), Paired (fun p q => p.1 = q.1 ∧ RelV p.2 q.2) kvs vs ∧ h.DictOf (obKind P w) a vs :=
  (show ObjOk P w H h a (OD P w a kvs) from ok a _ e).1
theorem od_new {P : Program} {w : World} {H : Hp} {h : Heap} {a : Addr} {kvs : List (Option Bool × V)} {vs : List (Option Bool × Value)} (hd : (a == sysModules) = false) (r : Paired (fun p q => p.1 = q.1 ∧ RelV p.2 q.2) kvs vs) (dd : h.DictOf (obKind P w) a vs) :
    ObjOk P w H h a (OD P w a kvs) := by
  refine ⟨⟨hd, vs, r, dd⟩, ?_, fun h1 h2 q e => ?_⟩
  · obtain ⟨o, _, _, ho, _⟩ := dd
    exact ⟨o, ho⟩
  · obtain ⟨hd1, vs1, r1, o, es, ep, ho, c⟩ := q
    exact ⟨hd1, vs1, r1, o, es, ep, e _ ho, c⟩
/-- {True: x, False: y, None: z} -/
def tDispO (P : Program) (w : World) (trs : List (TE × TE)) : TE := fun σ H Q => ∀ p, H p = none → tPairs trs σ (upd H p (.dK [])) fun ps H2 => H2 p = some (.dK []) ∧
  ∃ x y z : V, ps = [(.bl true, x), (.bl false, y), (.non, z)] ∧ Q (.ref p) (upd H2 p (OD P w p [(some true, x), (some false, y), (none, z)]))
theorem empty_ob {P : Program} {w : World} {h : Heap} {a : Addr} (d : h.DictOf (mixKind P w) a []) : h.DictOf (obKind P w) a [] := by
  obtain ⟨o, es, ep, h1, h2, h3, h4, h5, h6⟩ := d
  have e : es.toList = [] := by
    cases q : es.toList with
    | nil => rfl
    | cons x r => rw [q] at h5; cases h5
  refine ⟨o, es, ep, h1, h2, h3, fun x hx => ?_, ?_, List.nodup_nil⟩
  · have : x ∈ es.toList := by simpa using hx
    rw [e] at this; cases this
  · rw [e]; exact .nil
section
variable {X : Cx}
theorem pe_dispO {pos : Pos} {keys : List (Option Expr)} {values : List Expr} {trs : List (TE × TE)} (h : PPs X pos keys values trs) (hall : keys.all (·.isSome) = true) (hl : keys.length = values.length) (h0 : keys ≠ [])
    (h15 : keys.length ≤ 15) : PE X (.Dict keys values pos) (tDispO X.prog X.w trs) := by
  refine ⟨fun pins s σ H Q I q => ?_⟩
  have hn := I.hok.fresh (Nat.le_refl s.heap.objs.size)
  have I1 := I.laid (a := s.heap.objs.size) (o := .dK []) (h' := s.heap.push { cls := .type "dict", data := .dict #[] }) (t' := s.toks) (fun _ _ q => Heap.get?_push_of_some _ q) (Nat.le_refl _) (dk_empty s.heap I.big)
  refine wpAny_Dict_walk (knd := obKind X.prog X.w) hall hl h0 h15 (thn (h.run pins _ σ _ _ I1 (q _ hn)) fun ws s2 ⟨ps, H2, I2, rel, e, x, y, z, ep, q2⟩ => ?_)
  subst ep
  obtain ⟨_, hd, vs0, r0, dd⟩ := dk_of I2.hok e
  cases r0
  cases rel with
  | @cons _ w1 _ ws1 r1 t1 =>
  cases t1 with
  | @cons _ w2 _ ws2 r2 t2 =>
  cases t2 with
  | @cons _ w3 _ ws3 r3 t3 =>
  cases t3
  obtain ⟨a1, b1⟩ := w1
  obtain ⟨a2, b2⟩ := w2
  obtain ⟨a3, b3⟩ := w3
  have e1 : a1 = .bool true := r1.1
  have e2 : a2 = .bool false := r2.1
  have e3 : a3 = .none := r3.1
  subst e1 e2 e3
  refine ⟨[(some true, b1), (some false, b2), (none, b3)], ⟨rfl, rfl, rfl, rfl, rfl, rfl, True.intro⟩, empty_ob dd, fun h' dd' hs => ⟨.ref s.heap.objs.size, _, ?_, rfl, q2⟩⟩
  have he : ∃ q, h'.get? s.heap.objs.size = some q := let ⟨q, _, _, hq, _⟩ := dd'; ⟨q, hq⟩
  have em : merged [] [(some true, b1), (some false, b2), ((none : Option Bool), b3)] = [(some true, b1), (some false, b2), (none, b3)] := rfl
  rw [em] at dd'
  exact d_write I2 (by rw [e]; exact True.intro) hs he (od_new hd (.cons ⟨rfl, r1.2⟩ (.cons ⟨rfl, r2.2⟩ (.cons ⟨rfl, r3.2⟩ .nil))) dd')
theorem valueAt_rel {kvs : List (Option Bool × V)} {vs : List (Option Bool × Value)} (r : Paired (fun p q => p.1 = q.1 ∧ RelV p.2 q.2) kvs vs) {k : Option Bool} {v : V} (h : kvs.lookup k = some v) : ∃ u, valueAt vs k = some u ∧ RelV v u := by
  induction r with
  | nil => cases h
  | @cons p q ps qs h1 t ih =>
    obtain ⟨pk, pv⟩ := p
    obtain ⟨qk, qv⟩ := q
    obtain ⟨e, rv⟩ := h1
    have e : pk = qk := e
    subst e
    rw [List.lookup_cons] at h
    unfold valueAt
    by_cases c : k = pk
    · subst c
      rw [beq_self_eq_true] at h
      cases h
      exact ⟨qv, by rw [List.find?_cons, decide_eq_true rfl]; rfl, rv⟩
    · rw [beq_false_of_ne c] at h
      obtain ⟨u, hu, ru⟩ := ih h
      refine ⟨u, ?_, ru⟩
      rw [List.find?_cons, decide_eq_false (show ¬ pk = k from fun e => c e.symm)]
      exact hu
/-- d[y] of such a dict -/
def tDGetO (P : Program) (w : World) (td ty : TE) : TE := fun σ H Q => td σ H fun x H1 => ty σ H1 fun y H2 => ∃ a kvs k v, x = .ref a ∧ H2 a = some (OD P w a kvs) ∧ y = oV k ∧ kvs.lookup k = some v ∧ Q v H2
theorem pe_dgetO {o i : Expr} {pos : Pos} {td ty : TE} (ho : PE X o td) (hi : PE X i ty) (hs : NoSl i) : PE X (.Subscript o i pos) (tDGetO X.prog X.w td ty) := by
  refine ⟨fun pins s σ H Q I h => ?_⟩
  refine subD_of PySem.F.slot_dict_getitem.lookup hs (thn (ho.run pins s σ H _ I h) fun u s1 ⟨x, H1, I1, rx, q1⟩ => thn (hi.run pins s1 σ H1 _ I1 q1) fun iv s2 ⟨y, H2, I2, ry, a, kvs, k, v, ex, e, ey, l, q2⟩ => ?_)
  subst ex ey
  obtain rfl : u = Value.ref a := rx
  obtain ⟨hd, vs, rel, dd⟩ := od_rd I2.hok e
  obtain ⟨w', hw, rw'⟩ := valueAt_rel rel l
  refine ⟨dd.typeIs, wpAny_getItem_of (knd := obKind X.prog X.w) (by rw [oV_val ry]; exact ob_is k) dd.mapOf hw ⟨v, H2, I2.tok _, rw', q2⟩⟩
end
end KO
namespace KG
open PySem PySem.Spec PyProof.Rows L2
/-! defs that are called where no object is being shown: str(tuple) is theirs -/
/-- as FnOk, asked only where nobody is within a repr -/
structure FnG (P : Program) (w : World) (K : PySem.W.Frag) (mg : Str → Option Value) (base : Heap) (CX : CXT) (k : Nat) (f : Addr) (fd : FuncData) (ps : List Str) (sp : Sp) : Prop where
  many : ∀ vs H Q E, sp vs H Q E → vs.length = ps.length
  runs : ∀ (A : Around) (fs : List Env) (b : Shared) (H : Hp) (args : Args) (us : List Value) (vs : List V) (Q : VK) (E : XK), A.guards = some [] → Room k A → Env0 P w K mg base A fs b H → BindsTo b fd args (ps.zip us) → Vals vs us → sp vs H Q E →
    codeAny (model P w) A (.call (.ref f) args) (CR CX fs P w H b Q E) b
theorem FnG.of {P : Program} {w : World} {K : PySem.W.Frag} {mg : Str → Option Value} {base : Heap} {CX : CXT} {k : Nat} {f : Addr} {fd : FuncData} {ps : List Str} {sp : Sp} (F : FnOk P w K mg base CX k f fd ps sp) : FnG P w K mg base CX k f fd ps sp :=
  ⟨F.len, fun A fs b H args us vs Q E _ => F.run A fs b H args us vs Q E⟩
theorem fnG {CX : CXT} {P : Program} {w : World} {K : PySem.W.Frag} {mg : Str → Option Value} {base : Heap} {k : Nat} {f : Addr} {nm qual : Str} {params : Arguments} {body : List Stmt} {sc : Scope} {dV kV doc pm cdv ct oc : Value} {an od : Option Addr}
    {osl : Array (Option Value)} {N ps : List Str} {sp : Sp} (found : K.lookup f = some ⟨oc, od, .func (PySem.W.fnOf nm qual params body sc dV kV doc pm an cdv ct), osl⟩) (code : PySem.W.codeIn K cdv qual = true) (S : FnScope N ps sc)
    (many : ∀ vs H Q E, sp vs H Q E → vs.length = ps.length)
    (inside : ∀ (A : Around) (fs : List Env) (b : Shared) (H : Hp) (vs : List V) (Q : VK) (E : XK), A.guards = some [] → Room k (A.deeper (envOfC qual sc b.heap.objs.size f cdv)) → sp vs H Q E →
      ∃ t, PSs (cxOf CX P w K mg base N qual sc f cdv A fs b H E) body t ∧ t { nx := fun _ J => Q .non J, rt := Q } (start N vs) H) :
    FnG P w K mg base CX (k + 1) f (PySem.W.fnOf nm qual params body sc dV kV doc pm an cdv ct) ps sp := by
  refine ⟨many, fun A fs b H args us vs Q E hgd room e0 hb r hsp => ?_⟩
  have same := many _ _ _ _ hsp
  have inK : K.In b.heap := e0.mod.kin.keeps fun z o e => (e0.bs z o e).1
  have kinds : ∀ y ∈ ps.zip us, sc.names.lookup y.1 = some .local ∨ (sc.names.lookup y.1 = some .cell ∧ ((cellsFrom (b.heap.objs.size + 1) sc.names []).lookup y.1).isSome = true) := fun y hy =>
    (S.par y.1 (List.of_mem_zip hy).1).imp id fun q => ⟨q, PySem.W.cellsFrom_some _ _ _ (.inl q)⟩
  refine codeAny_call_function room.depth (inK _ _ found) rfl S.co S.gen rfl (PySem.W.codeRec_of inK code) (hb _ _ _ _ ?_)
  refine wpAny_newFunctionEnv_cells S.kind kinds fun env he b1 x => ?_
  subst he
  refine ⟨(e0.mod.nolimit.keeps fun z o e => (e0.bs z o e).1).keeps x.toInCall.keep, codeAny_func ?_⟩
  obtain ⟨t, ht, q⟩ := inside A fs b H vs Q E hgd (room.deeper _) hsp
  refine wpAny_mono (ht.run [] b1 (start N vs) H _ (inv_start S room.hd e0 same r x) q) (fun fl b2 hs => ?_) fun _ _ z => z
  cases fl with
  | ret u =>
    obtain ⟨v, τ, J, I, rv, q2⟩ := hs
    exact ⟨v, J, I.os, I.bare, I.base, I.hok, rv, q2⟩
  | next =>
    obtain ⟨τ, J, I, q2⟩ := hs
    exact ⟨V.non, J, I.os, I.bare, I.base, I.hok, rfl, q2⟩
  | brk => exact False.elim (let ⟨_, _, _, q2⟩ := hs; q2)
  | cont => exact False.elim (let ⟨_, _, _, q2⟩ := hs; q2)
section
variable {P : Program} {w : World} {K : PySem.W.Frag} {mg : Str → Option Value} {base : Heap}
theorem okG {x qual : Str} {st : Stmt} {f : Addr} {fd : FuncData} {N ps : List Str} {k : Nat} {sp : Sp} (F : Fun K x qual st f fd) (S : FnScope N ps (defScope st)) (many : ∀ vs H Q E, sp vs H Q E → vs.length = ps.length)
    (inside : ∀ (cdv : Value) (A : Around) (fs : List Env) (b : Shared) (H : Hp) (vs : List V) (Q : VK) (E : XK), (A.deeper (envOfC qual (defScope st) b.heap.objs.size f cdv)).guards = some [] → Room k (A.deeper (envOfC qual (defScope st) b.heap.objs.size f cdv)) → sp vs H Q E →
      ∃ t, PSs (cxOf CX0 P w K mg base N qual (defScope st) f cdv A fs b H E).nox (defBody st) t ∧ t { nx := fun _ J => Q .non J, rt := Q } (start N vs) H) : FnG P w K mg base CX0 (k + 1) f fd ps sp := by
  obtain ⟨oc, od, kV, doc, pm, an, cdv, ct, osl, rfl, found, code⟩ := F.ex
  refine fnG found code S many fun A fs b H vs Q E hgd room hsp => ?_
  obtain ⟨t, h, q⟩ := inside cdv A fs b H vs Q E hgd room hsp
  exact ⟨t, h.nox, q⟩
end
section
variable {X : Cx} {CX : CXT} {k : Nat} {f : Addr} {fd : FuncData} {ps : List Str} {sp : Sp} {x : Str} {p pos : Pos} {e : Expr} {es : List Expr} {t : TA} {E : XK}
theorem pe_callG (hgd : X.A.guards = some []) (F : FnG X.prog X.w X.K X.mg X.base CX k f fd ps sp) (room : Room k X.A) (hg : Gl X x) (hm : X.mg x = some (.ref f)) (hk : PySem.W.keepIn X.K (.ref f) = true) (hb : Binds X.K fd ps []) (hx : Passes CX X E)
    (ha : PA X (e :: es) t) (hdb : (x == ("__debug__" : Str)) = false := by decide) (he : starEach (e :: es) X.env = (false, eval e X.env) :: starEach es X.env := by rfl) (hpl : (backTo pos (starEach es X.env)).any (·.1) = false := by rfl) :
    PE X (.Call (.Name x p) (e :: es) [] pos) (tCall sp [] E t) := by
  refine ⟨fun pins b τ H Q I h => ?_⟩
  refine wpAny_Call_Name_kw (ld_glob I hg hm ?_ hdb)
  refine PySem.W.callWith_K (h₀ := X.base) I.ok.mod.kin hk (thn (ha.run pos pins b τ H _ I h) fun us b1 ⟨vs, J, I1, r, q⟩ => ⟨I1.kIn, ?_⟩) he hpl
  have q : sp (vs ++ []) J Q E := q
  rw [List.append_nil] at q
  have same : us.length = ps.length := by rw [← r.length]; exact F.many _ _ _ _ q
  have binds := hb b1 us I1.kIn (by rw [List.append_nil]; exact same)
  rw [List.append_nil] at binds
  refine wpAny_call (codeAny_mono (F.runs X.A X.stack b1 J ⟨us, []⟩ us vs Q E hgd room I1.env0 binds r q) fun r b2 hq => ?_)
  cases r with
  | error u => exact hx pins τ J b1 u b2 I1 hq
  | ok fl =>
    cases fl with
    | ret u => exact I1.after hq
    | next => exact False.elim hq
    | brk => exact False.elim hq
    | cont => exact False.elim hq
/-- str of a thing that is data without dicts -/
theorem call_str_data (hgd : X.A.guards = some []) (hu : X.A.units + 64 < cLine) : CallR X (.type "str") (fun xs H Q => ∃ (a : Addr) (d : PyData), xs = [.ref a] ∧ Dp X.K H (.ref a) d ∧ d.showable = true ∧ d.hasDict = false ∧ d.depth ≤ 32 ∧ d.shown.length ≤ sizeLine ∧ Q (.str d.shown) H) := by
  intro pins b τ H xs us Q I r h
  obtain ⟨a, d, rfl, hd, hs, nd, dep, len, q⟩ := h
  obtain ⟨u, rfl, ru⟩ := vals1 r
  cases (show u = Value.ref a from ru)
  obtain ⟨as, rd⟩ := Dp.reads I d _ _ hd ru
  exact str_of_reads rd hs (PyData.noDict_hsm nd) hgd (by omega) (fun _ _ e => e) (fun h' u tk keep => ⟨.str _, H, I.kept keep, ⟨_, rfl⟩, q⟩) len
end
/-- the law's call, from the top: there nobody is within a repr -/
theorem law_callG {P : Program} {w : World} {K : PySem.W.Frag} {mg mb : Str → Option Value} {CX : CXT} {k : Nat} {fa a : Addr} {fd : FuncData} {x : Str} {sp : Sp} {b : Shared} {us : List Value} {ns : List Int}
    (inK : K.In b.heap) (names : b.heap.Ns mainGlobals mg) (bnames : b.heap.Ns builtinsNs mb) (boot : ∀ x : Str, x ≠ "__name__" → mb x = bootBuiltins x) (lim : b.heap.NoLimit) (gens : b.gens = #[])
    (script : b.heap.get? a = some { cls := .type "list", data := .seq us.toArray }) (nums : IntsAre us ns) (few : ns.length ≤ sizeLine) (room : Room k callerA)
    (F : ∀ base : Heap, K.In base → base.Ns mainGlobals mg → FnG P w K mg base CX k fa fd [x] sp) (binds : ∀ (s : Shared) (u : Value), BindsTo s fd ⟨[u], []⟩ [(x, u)])
    (start : ∀ H : Hp, Only H → SqL K H a (ns.map V.int) → sp [.ref a] H (fun v _ => v = .bl true) fun _ _ _ => False) (none' : ∀ H e s', CX [] H b (fun _ _ _ => False) e s' → False) :
    codeAny (model P w) callerA (.call (.ref fa) ⟨[.ref a], []⟩) (fun r s' => r = .ok (.ret (.bool true)) ∧ OldK b.heap s'.heap ∧ s'.os = b.os ∧ AllBare s'.gens) b := by
  have main : ∀ H : Hp, Only H → SqL K H a (ns.map V.int) → HOk P w H b.heap → (∀ z, H z ≠ none → z = a ∧ K.lookup a = none) →
      codeAny (model P w) callerA (.call (.ref fa) ⟨[.ref a], []⟩) (fun r s' => r = .ok (.ret (.bool true)) ∧ OldK b.heap s'.heap ∧ s'.os = b.os ∧ AllBare s'.gens) b := by
    intro H only sq hok at'
    have isNone : ∀ {z : Addr}, ¬ (z = a ∧ K.lookup a = none) → H z = none := fun {z} n => by
      cases q : H z with
      | none => rfl
      | some u => exact absurd (at' z (by rw [q]; simp)) n
    have keepNs : ∀ {z : Addr} {m : Str → Option Value}, b.heap.Ns z m → (hidT b.heap H).Ns z m := fun {z m} ⟨o, es, ep, e, d, r⟩ => ⟨o, es, ep, hidT_get e (isNone fun hz => by
      rw [hz.1, script] at e
      cases e
      have d' : Data.seq us.toArray _ = Data.dict es ep := d
      cases d'), d, r⟩
    have inB : K.In (hidT b.heap H) := fun z o e => hidT_get (inK z o e) (isNone fun hz => by rw [hz.1, hz.2] at e; cases e)
    have e0 : Env0 P w K mg (hidT b.heap H) callerA [] b H := ⟨rfl, ⟨inB, keepNs names, ⟨mb, keepNs bnames, boot⟩, let ⟨mc, h1, h2⟩ := lim; ⟨mc, keepNs h1, h2⟩⟩, fun z o e => of_hidT e, Nat.le_of_eq (hidT_size _ _), trivial,
      fun z hz => absurd (show z ∈ ([] : List Addr) from hz) (by simp), hok, .of_eq gens⟩
    refine codeAny_mono ((F _ inB (keepNs names)).runs callerA [] b H ⟨[.ref a], []⟩ [.ref a] [.ref a] _ _ rfl room e0 (binds b (.ref a)) (.cons rfl .nil) (start H only sq)) fun r s' h => ?_
    match r, h with
    | .error e, h => exact (none' H e s' h).elim
    | .ok .next, h => exact False.elim h
    | .ok .brk, h => exact False.elim h
    | .ok .cont, h => exact False.elim h
    | .ok (.ret u), h =>
      obtain ⟨v, J, os, bare, un, hok', ru, q⟩ := h
      have q : v = .bl true := q
      subst q
      obtain rfl : u = Value.bool true := ru
      refine ⟨rfl, OldK.of_keep fun z o e => ?_, os, bare⟩
      rcases only z with n | ⟨ob, xs, n⟩
      · exact un.keep z o e n (by intro m; cases m) (by simp)
      · have n2 := un.frzs z ob _ n
        have e1 := (hok z _ n).1
        have e2 := (hok' z _ n2).1
        rw [e] at e1
        cases e1
        exact e2
  have vals := vals_ints nums
  have len : us.length = ns.length := nums.length
  cases hk : K.lookup a with
  | some o =>
    have e := inK a o hk
    rw [script] at e
    cases e
    exact main (fun _ => none) (fun _ => .inl rfl) (.inr ⟨_, us.toArray, _, hk, rfl, rfl, rfl, by rw [List.size_toArray, len]; exact few, by simpa using vals⟩) (fun z u m => nomatch m) fun z m => absurd rfl m
  | none =>
    refine main (fun z => if z = a then some (.frz { cls := .type "list", data := .seq us.toArray } (.lst (ns.map V.int))) else none) (fun z => ?_) (.inl (.inr ⟨{ cls := .type "list", data := .seq us.toArray }, if_pos rfl⟩)) (fun z u m => ?_) fun z m => ⟨?_, hk⟩
    · exact (Decidable.em (z = a)).elim (fun c => .inr ⟨_, _, if_pos c⟩) fun c => .inl (if_neg c)
    · by_cases c : z = a
      · have m' := (if_pos c).symm.trans m
        cases m'
        rw [c]
        exact ⟨script, by rw [List.length_map]; exact few, us, _, vals, script⟩
      · have m' := (if_neg c).symm.trans m
        cases m'
    · exact Decidable.byContradiction fun c => m (if_neg c)
theorem walk_ofG {l : PySem.W.OpenLaw} {n k : Nat} {q : Program} {loose : List Str} {XP : (Str → Option Value) → Heap → Prop} {YP : World → Heap → Prop} {d : DefRec} {CX : CXT} {x : Str}
    (hn : l.most = some n) (few : n ≤ sizeLine) (hdf : d.params.defaults = []) (room : Room k callerA)
    (F : ∀ (w : World) (mg : Str → Option Value) (fa : Addr) (h : Heap), YP w h → h.Ns mainGlobals mg → mg d.name = some (.ref fa) →
      ∃ (K : PySem.W.Frag) (fd : FuncData) (sp : Sp), K.In h ∧ (∀ (s : Shared) (u : Value), BindsTo s fd ⟨[u], []⟩ [(x, u)]) ∧
        (∀ (H : Hp) (a : Addr) (ns : List Int), ns.length ≤ n → Only H → SqL K H a (ns.map V.int) → sp [.ref a] H (fun v _ => v = .bl true) fun _ _ _ => False) ∧
        ∀ base : Heap, K.In base → base.Ns mainGlobals mg → FnG l.prog w K mg base CX k fa fd [x] sp)
    (none' : ∀ (H : Hp) (s : Shared) (e : Value) (s' : Shared), CX [] H s (fun _ _ _ => False) e s' → False) :
    PySem.W.WalkO q loose XP YP l.row.toRowW d [] (fun f vs => PySem.call f vs) := by
  refine Att.attach_call hn hdf fun w b0 b mg mb fa o pm cd doc a us ns G Y ho hd hcd hmg obj nums len gens => ?_
  obtain ⟨K, fd, sp, inK, binds, first, fn⟩ := F w mg fa _ Y G.T.g hmg
  exact law_callG inK G.T.g G.T.b G.T.builtins G.T.nolimit gens obj nums (Nat.le_trans len few) room fn binds (fun H only sq => first H a ns len only sq) fun H e s' => none' H b e s'
end KG

end K83
namespace K83
open PySem L2 TL

theorem same_new {H : Hp} {p : Addr} {o : HO} (h : H p = none) : Same H (upd H p o) := fun b u q => by rw [upd_ne (ne_of_none q h)]; exact q
theorem iteDT {p A B : Prop} [Decidable p] (h : p) (a : A) : if decide p = true then A else B := by rw [decide_eq_true h]; exact iteT a
theorem iteDF {p A B : Prop} [Decidable p] (h : ¬ p) (b : B) : if decide p = true then A else B := by rw [decide_eq_false h]; exact iteF b
theorem iteNT {p A B : Prop} [Decidable p] (h : ¬ p) (a : A) : if (!decide p) = true then A else B := by rw [decide_eq_false h]; exact iteT a
theorem iteNF {p A B : Prop} [Decidable p] (h : p) (b : B) : if (!decide p) = true then A else B := by rw [decide_eq_true h]; exact iteF b
theorem iteD2 {p A B : Prop} [Decidable p] (h1 : p → A) (h2 : ¬ p → B) : if decide p = true then A else B := by
  by_cases h : p
  · exact iteDT h (h1 h)
  · exact iteDF h (h2 h)
theorem iteN2 {p A B : Prop} [Decidable p] (h1 : ¬ p → A) (h2 : p → B) : if (!decide p) = true then A else B := by
  by_cases h : p
  · exact iteNF h (h2 h)
  · exact iteNT h (h1 h)
theorem iteB2 {b : Bool} {A B : Prop} (h1 : b = true → A) (h2 : b = false → B) : if b = true then A else B := by
  cases b with
  | true => exact iteT (h1 rfl)
  | false => exact iteF (h2 rfl)
theorem vint_ne {i j : Int} (h : i ≠ j) : ¬ V.int i = V.int j := fun e => h (V.int.inj e)
theorem vstr_ne {i j : Str} (h : i ≠ j) : ¬ V.str i = V.str j := fun e => h (V.str.inj e)
/-- all that was tracked stands, but what is at p -/
def KeepX (p : Addr) (H H' : Hp) : Prop := ∀ q o, q ≠ p → H q = some o → H' q = some o
theorem KeepX.refl (p : Addr) (H : Hp) : KeepX p H H := fun _ _ _ h => h
theorem KeepX.trans {p : Addr} {H H1 H2 : Hp} (a : KeepX p H H1) (b : KeepX p H1 H2) : KeepX p H H2 := fun q o n h => b q o n (a q o n h)
theorem keepX_of {p : Addr} {H H' : Hp} (a : Same H H') : KeepX p H H' := fun q o _ h => a q o h
theorem keepX_upd {p : Addr} {H : Hp} {o : HO} : KeepX p H (upd H p o) := fun q u n h => by rw [upd_ne n]; exact h
theorem KeepX.seq {K : PySem.W.Frag} {H H' : Hp} {p a : Addr} {xs : List V} (e : KeepX p H H') (n : a ≠ p) (h : SqL K H a xs) : SqL K H' a xs := by
  rcases h with (h | ⟨o, h⟩) | h
  · exact .inl (.inl (e _ _ n h))
  · exact .inl (.inr ⟨o, e _ _ n h⟩)
  · exact .inr h
theorem same_tup {K : PySem.W.Frag} {H H' : Hp} {a : Addr} {xs : List V} (e : Same H H') (h : SqT K H a xs) : SqT K H' a xs := by
  rcases h with (h | ⟨o, h⟩) | h
  · exact .inl (.inl (e _ _ h))
  · exact .inl (.inr ⟨o, e _ _ h⟩)
  · exact .inr h
/-- what is new behind H -/
theorem KeepX.same {p : Addr} {H H' : Hp} (n : H p = none) (e : KeepX p H H') : Same H H' := fun q o h => e q o (ne_of_none h n) h
theorem none_before {H H' : Hp} {q : Addr} (s : Same H H') (h : H' q = none) : H q = none := by
  cases e : H q with
  | none => rfl
  | some o => have := s _ _ e; rw [h] at this; cases this
theorem none_keepX {p : Addr} {H H' : Hp} {q : Addr} (k : KeepX p H H') (n : q ≠ p) (h : H' q = none) : H q = none := by
  cases e : H q with
  | none => rfl
  | some o => have := k _ _ n e; rw [h] at this; cases this
/-- a def of which nothing is asked -/
theorem fn_none {P : Program} {w : World} {K : PySem.W.Frag} {mg : Str → Option Value} {base : Heap} {CX : CXT} {k : Nat} {f : Addr} {fd : FuncData} {ps : List Str} {sp : Sp} (no : ∀ vs H Q E, sp vs H Q E → False) : FnOk P w K mg base CX k f fd ps sp :=
  ⟨fun vs H Q E h => (no vs H Q E h).elim, fun A outer s H args us vs Q E _ _ _ _ h => (no vs H Q E h).elim⟩
theorem absV_rel {u : Value} {x : V} (h : absV u = some x) : RelV x u := by
  cases u <;> simp only [absV, Option.some.injEq, reduceCtorEq] at h <;> subst h <;> first | rfl | exact ⟨_, rfl⟩
theorem vals_of_absV : ∀ {us : List Value} {xs : List V}, us.map absV = xs.map some → Vals xs us
  | [], [], _ => .nil
  | [], _ :: _, h => by simp at h
  | _ :: _, [], h => by simp at h
  | u :: us, x :: xs, h => by
    rw [List.map_cons, List.map_cons, List.cons.injEq] at h
    exact .cons (absV_rel h.1) (vals_of_absV h.2)
theorem sqT_k {K : PySem.W.Frag} {H : Hp} {a : Addr} {xs : List V} {od : Option Addr} {its : Array Value} {n : Nat} {sl : Array (Option Value)} (l : K.lookup a = some ⟨.type "tuple", od, .seq its n, sl⟩) (w : its.toList.map absV = xs.map some) (z : xs.length ≤ sizeLine) : SqT K H a xs := by
  have v := vals_of_absV w
  have e := v.length
  refine .inr ⟨_, its, n, l, rfl, rfl, ?_, v⟩
  rw [← Array.length_toList, ← e]
  exact z
/-- the promise of one class's method -/
def Disp (P : Program) (w : World) (K : PySem.W.Frag) (mg : Str → Option Value) (base : Heap) (CX : CXT) (m : Str) (k : Nat) (C : Addr) (sp : Sp) : Prop :=
  ∃ f fd ps, Cls K C ∧ Meth K C m f ∧ FnOk P w K mg base CX k f fd ps sp ∧ Binds K fd ps []
/-- o.m(..) where o is an instance of one of some classes -/
def tMethP (Fam : Addr → Prop) (SP : Addr → Sp) (m : Str) (E : XK) (ta : TE) (t : TA) : TE := fun σ H Q => ta σ H fun x H1 => ∃ a C dx fs, x = .ref a ∧ H1 a = some (.ins C dx fs) ∧ fs.lookup m = none ∧ Fam C ∧
  t σ H1 fun vs H2 => SP C (x :: (vs ++ [])) H2 Q E
section
variable {X : Cx} {CX : CXT} {m : Str} {k : Nat} {Fam : Addr → Prop} {SP : Addr → Sp} {E : XK} {e o : Expr} {es : List Expr} {ta : TE} {t : TA} {pos apos : Pos}
theorem pe_methP {pl : Sem Bool} (he : PE X o ta) (D : ∀ C, Fam C → Disp X.prog X.w X.K X.mg X.base CX m k C (SP C)) (hr : Room k X.A) (hx : Passes CX X E) (ha : PA X (e :: es) t)
    (hst : starEach (e :: es) X.env = (false, eval e X.env) :: starEach es X.env := by rfl) (hpl : (backTo pos (starEach es X.env)).any (·.1) = false := by rfl)
    (ht : eval (.Call (.Attribute o m apos) (e :: es) [] pos) X.env = (do
      let ov ← eval o X.env
      standAt apos.atName
      let (f, first) ← holding [ov] (getMethod ov m pl)
      callWith pos f first (backTo pos (starEach (e :: es) X.env)) (backToKw pos (keywordEach [] X.env))) := by rfl) :
    PE X (.Call (.Attribute o m apos) (e :: es) [] pos) (tMethP Fam SP m E ta t) := by
  refine ⟨fun pins s σ H Q I h => ?_⟩
  refine PySem.W.methodCall_KW (pl := pl) (thn (he.run pins s σ H _ I h) fun u s1 ⟨x, H1, I1, rx, a, C, dx, fs, ex, ea, l, fam, q⟩ => ?_) ht
  subst ex
  obtain rfl : u = Value.ref a := rx
  obtain ⟨f, fd, ps, c, hm, F, hb⟩ := D C fam
  refine getmeth_ok I1 ea c hm l ?_
  refine PySem.W.callWith_K (first := [.ref a]) (h₀ := X.base) I.ok.mod.kin hm.kp (thn (ha.run pos pins s1 σ H1 _ I1 q) fun us s2 ⟨vs, H2, I2, r, q2⟩ => ⟨I2.kIn, ?_⟩) hst hpl
  exact run_fn (us := .ref a :: us) (vs := .ref a :: vs) F hr hb .nil hx I2 (.cons rfl r) q2
theorem pe_methP0 {pl : Sem Bool} (he : PE X o ta) (D : ∀ C, Fam C → Disp X.prog X.w X.K X.mg X.base CX m k C (SP C)) (hr : Room k X.A) (hx : Passes CX X E)
    (ht : eval (.Call (.Attribute o m apos) [] [] pos) X.env = (do
      let ov ← eval o X.env
      standAt apos.atName
      let (f, first) ← holding [ov] (getMethod ov m pl)
      callWith pos f first (backTo pos (starEach [] X.env)) (backToKw pos (keywordEach [] X.env))) := by rfl) :
    PE X (.Call (.Attribute o m apos) [] [] pos) (tMethP Fam SP m E ta tNil) := by
  refine ⟨fun pins s σ H Q I h => ?_⟩
  refine PySem.W.methodCall_KW (pl := pl) (thn (he.run pins s σ H _ I h) fun u s1 ⟨x, H1, I1, rx, a, C, dx, fs, ex, ea, l, fam, q⟩ => ?_) ht
  subst ex
  obtain rfl : u = Value.ref a := rx
  obtain ⟨f, fd, ps, c, hm, F, hb⟩ := D C fam
  refine getmeth_ok I1 ea c hm l ?_
  exact PySem.W.callWith_K0 (first := [.ref a]) I1.kIn hm.kp (run_fn (us := [.ref a]) (vs := [.ref a]) F hr hb .nil hx I1 (.cons rfl .nil) q)
end
theorem fresh_ne {H H' : Hp} {p q : Addr} {o : HO} (h : H p = some o) (n : H q = none) : q ≠ p := fun e => by rw [e, h] at n; cases n

def rTupOf (K : PySem.W.Frag) : List V → Hp → VK → Prop := fun xs H Q => ∃ p ys, xs = [.ref p] ∧ ((SqL K H p ys ∧ ∀ l, H l = none → Q (.ref l) (upd H l (.tup ys))) ∨ (SqT K H p ys ∧ Q (.ref p) H))
def rListOf (K : PySem.W.Frag) : List V → Hp → VK → Prop := fun xs H Q => ∃ p ys, xs = [.ref p] ∧ (SqL K H p ys ∨ SqT K H p ys) ∧ ∀ l, H l = none → Q (.ref l) (upd H l (.lst ys))
theorem call_tuple_ofK {X : Cx} : CallR X (.type "tuple") (rTupOf X.K) := call_tuple_of
theorem call_list_ofK {X : Cx} : CallR X (.type "list") (rListOf X.K) := call_list_of
theorem pi_tupK {X : Cx} {tg l : Expr} {tl : TE} (K : PySem.W.Frag) (hK : X.K = K) (hl : PE X l tl) : PI X tg l (iTup K tl) := by subst hK; exact pi_tup hl
theorem pi_listK {X : Cx} {tg l : Expr} {tl : TE} (K : PySem.W.Frag) (hK : X.K = K) (hl : PE X l tl) : PI X tg l (iList K tl) := by subst hK; exact pi_list hl
def rLenK (K : PySem.W.Frag) : List V → Hp → VK → Prop := fun xs H Q => ∃ p ys, xs = [.ref p] ∧ (SqL K H p ys ∨ SqT K H p ys) ∧ Q (.int ys.length) H
theorem call_lenK {X : Cx} : CallR X (.builtin "len") (rLenK X.K) := call_len_seq
/-- a choice whose test is reckoned ahead: b, and the heap behind it -/
def tIfC (c : TT) (t u : TS) : TS := fun D σ H => ∃ (b : Bool) (H1 : Hp), (∀ Z : Bool → Hp → Prop, Z b H1 → c σ H Z) ∧ (if b = true then t D σ H1 else u D σ H1)
theorem ps_ifC {X : Cx} {c : Expr} {a b : List Stmt} {tc : TT} {t u : TS} {pos : Pos} (hc : PT X c tc) (ha : PSs X a t) (hb : PSs X b u) : PS X (.If c a b pos) (tIfC tc t u) :=
  ⟨fun pins s σ H D I h => by
    obtain ⟨b, H1, h1, h2⟩ := h
    exact (ps_if hc ha hb).run pins s σ H D I (h1 _ h2)⟩
/-- a statement, then what it leaves, told by P -/
def tCut (t : TS) : TS := fun D σ H => ∃ Z : St → Hp → Prop, t { D with nx := Z } σ H ∧ ∀ σ' H', Z σ' H' → D.nx σ' H'
theorem ps_cut {X : Cx} {st : Stmt} {t : TS} (h : PS X st t) : PS X st (tCut t) := by
  refine ⟨fun pins s σ H D I hq => ?_⟩
  obtain ⟨Z, h1, h2⟩ := hq
  refine thn (h.run pins s σ H { D with nx := Z } I h1) fun f s1 hs => ?_
  cases f with
  | next =>
    obtain ⟨σ', H', I', z⟩ := hs
    exact ⟨σ', H', I', h2 _ _ z⟩
  | _ => exact hs
theorem zTrue {p : Prop} [Decidable p] {Z : Bool → Hp → Prop} {H : Hp} (h : Z (decide p) H) (q : p) : Z true H := by rw [decide_eq_true q] at h; exact h
theorem zFalse {p : Prop} [Decidable p] {Z : Bool → Hp → Prop} {H : Hp} (h : Z (decide p) H) (q : ¬ p) : Z false H := by rw [decide_eq_false q] at h; exact h

/-! ### a caught error of an own class, asked for its class -/
def rIsX (K : PySem.W.Frag) (cls : Value) (d : Option Addr) (a : Addr) : List V → Hp → VK → Prop := fun xs H Q => ∃ (D : Addr) (c : V) (cv : Value) (b : Bool), cls = .ref D ∧ d = none ∧ ExcC K D ∧ xs = [.ref a, c] ∧ (∀ u, RelV c u → u = cv) ∧ PySem.W.kitOne K (.ref D) cv = some b ∧ Q (.bl b) H
theorem call_isX {X : Cx} {a : Addr} {oe : Obj} {pn : List (Addr × Obj)} {cls : Value} {d : Option Addr} (hz : Zc cls d oe) (hf : ∃ vs, oe.data = .fields vs) : CallR (X.suite a ((a, oe) :: pn)) (.builtin "isinstance") (rIsX X.K cls d a) := by
  intro pins s σ H xs us Q I r h
  obtain ⟨D, c, cv, b, rfl, rfl, C, e, hcv, hk, q⟩ := h
  exact call_isE C hz hf pins s σ H xs us Q I r ⟨c, cv, b, e, hcv, hk, q⟩
def rIsXT (K : PySem.W.Frag) (cls : Value) (d : Option Addr) (a : Addr) : List V → Hp → VK → Prop := fun xs H Q => ∃ (D tp : Addr) (cs : List V) (us : List Value) (b : Bool), cls = .ref D ∧ d = none ∧ ExcC K D ∧ xs = [.ref a, .ref tp] ∧ H tp = some (.tup cs) ∧ Paired ClsV cs us ∧ PySem.W.kitAny K (.ref D) us = some b ∧ Q (.bl b) H
theorem call_isXT {X : Cx} {a : Addr} {oe : Obj} {pn : List (Addr × Obj)} {cls : Value} {d : Option Addr} (hz : Zc cls d oe) (hf : ∃ vs, oe.data = .fields vs) : CallR (X.suite a ((a, oe) :: pn)) (.builtin "isinstance") (rIsXT X.K cls d a) := by
  intro pins s σ H xs us Q I r h
  obtain ⟨D, tp, cs, ws, b, rfl, rfl, C, rfl, hT, k, e, q⟩ := h
  obtain ⟨u1, u2, rfl, r1, r2⟩ := vals2 r
  cases (show u1 = Value.ref a from r1)
  cases (show u2 = Value.ref tp from r2)
  obtain ⟨hget, _⟩ := I.pin (a, oe) (List.mem_append.mpr (.inl List.mem_cons_self))
  obtain ⟨vs, hv⟩ := hf
  have J : PySem.W.InstAt s.heap a oe D none := by
    obtain ⟨oc, od, oda, osl⟩ := oe
    obtain ⟨h1, h2⟩ := hz
    dsimp only at h1 h2 hv
    subst h1 h2 hv
    exact ⟨hget, rfl, rfl, trivial⟩
  obtain ⟨_, its, rv, o, h1, h2, n, h3⟩ := (show ObjOk X.prog X.w H s.heap tp (.tup cs) from I.hok tp _ hT)
  have e3 := ClsV.all k rv
  subst e3
  obtain ⟨oc, od, dt, sl⟩ := o
  simp only at h2 h3
  subst h2 h3
  exact PySem.W.kia_tup (PySem.W.handS_kitx_exc C.hg C.hk C.hs C.hd C.ha C.hn C.ht C.hm) I.kIn J h1 e (fun z => nomatch z) fun tk => ⟨.bl b, H, I.tok tk, rfl, q⟩

/-! the head's facts, by tests of one's own -/
abbrev FaM : Type := PySem.W.Frag → Bool
def obsM (fa : List FaM) (fn : List He.DefD) (K : PySem.W.Frag) : He.AlD := ((fa.all fun f => f K) && fn.all fun d => d.ok K, fn.map fun d => He.fnW K d.at_)
def SaysM (fa : List FaM) (fn : List He.DefD) (K : PySem.W.Frag) : Prop := obsM fa fn K = He.valD fn
def forceL {α : Type} : List Addr → (List Addr → α) → α
  | [], k => k []
  | a :: r, k => HandSHeadRun.frNat a fun a => forceL r fun r => k (a :: r)
theorem forceL_eq {α : Type} : ∀ (l : List Addr) (k : List Addr → α), forceL l k = k l
  | [], _ => rfl
  | a :: r, k => by
    show HandSHeadRun.frNat a (fun a => forceL r fun r => k (a :: r)) = _
    rw [HandSHeadRun.frNat_eq, forceL_eq r]
def nsOfM (g : Addr → Option Obj) (a : Addr) : List Addr := match g a with
  | some ⟨_, _, .cls cd, _⟩ => [cd.ns]
  | _ => []
def valsOfM (g : Addr → Option Obj) (a : Addr) : List Addr := match g a with
  | some ⟨_, _, .dict es _, _⟩ => es.toList.flatMap fun e => He.refV e.val
  | _ => []
def codeOfM (g : Addr → Option Obj) (a : Addr) : List Addr := match g a with
  | some ⟨_, _, .func fd, _⟩ => He.refV fd.code ++ (He.refV fd.defaults ++ He.refV fd.kwdefaults)
  | _ => []
/-- the module's names, the classes' own names, the functions' codes -/
def asM {α : Type} (names : List Str) (g : Addr → Option Obj) (k : List Addr → α) : α :=
  forceL (names.map (He.ga (He.frG g [mainGlobals]))) fun l1 => forceL (l1.flatMap (nsOfM g)) fun l2 => forceL (l2.flatMap (valsOfM g)) fun l3 => forceL ((l1 ++ l3).flatMap (codeOfM g)) fun l4 => k (mainGlobals :: cStatics :: (l1 ++ (l2 ++ (l3 ++ l4))))
def l1M (names : List Str) (g : Addr → Option Obj) : List Addr := names.map (He.ga (He.frG g [mainGlobals]))
def l2M (names : List Str) (g : Addr → Option Obj) : List Addr := (l1M names g).flatMap (nsOfM g)
def l3M (names : List Str) (g : Addr → Option Obj) : List Addr := (l2M names g).flatMap (valsOfM g)
def l4M (names : List Str) (g : Addr → Option Obj) : List Addr := (l1M names g ++ l3M names g).flatMap (codeOfM g)
theorem asM_eq {α : Type} (names : List Str) (g : Addr → Option Obj) : ∃ as : List Addr, ∀ k : List Addr → α, asM names g k = k as := by
  refine ⟨mainGlobals :: cStatics :: (l1M names g ++ (l2M names g ++ (l3M names g ++ l4M names g))), fun k => ?_⟩
  unfold asM
  rw [forceL_eq, forceL_eq, forceL_eq, forceL_eq]
  rfl
def obsMG (names : List Str) (fa : List FaM) (fn : List He.DefD) (g : Addr → Option Obj) : He.AlD := asM names g fun as => obsM fa fn (He.frG g as)
def hookM (names : List Str) (fa : List FaM) (fn : List He.DefD) : PySem.W.Hook where
  α := He.AlD
  obs := fun s => obsMG names fa fn s.heap.get?
  val := fun _ => He.valD fn
  says := fun _ h => ∃ K : PySem.W.Frag, K.In h ∧ SaysM fa fn K
  of := fun _ s e => by
    obtain ⟨as, ea⟩ := asM_eq (α := He.AlD) names s.heap.get?
    exact ⟨_, He.frG_in, (ea _).symm.trans e⟩
  keeps := fun _ _ _ ⟨K, hK, c⟩ k => ⟨K, PySem.W.Frag.In.keeps hK k, c⟩
theorem obsMG_eq {names : List Str} {fa : List FaM} {fn : List He.DefD} {g : Addr → Option Obj} {s : Shared} (h : ∀ a, g a = s.heap.get? a) : obsMG names fa fn g = (hookM names fa fn).obs s := by
  have e : g = s.heap.get? := funext h
  rw [e] <;> rfl
section
variable {fa : List FaM} {fn : List He.DefD} {K : PySem.W.Frag}
theorem SaysM.fact (c : SaysM fa fn K) (i : Nat) {f : FaM} (h : fa[i]? = some f) : f K = true := by
  have c1 := (He.ba (show ((fa.all fun f => f K) && fn.all fun d => d.ok K) = true from congrArg (fun z : He.AlD => z.1) c)).1
  exact List.all_eq_true.mp c1 f (List.mem_of_getElem? h)
theorem SaysM.def_ (c : SaysM fa fn K) (i : Nat) {d : He.DefD} (h : fn[i]? = some d) : ∃ fd, FunD K d.name d.qual d.params d.body d.scope (d.dvs K) (d.kws K) (He.fAd K d.at_) fd := by
  have c2 := (He.ba (show ((fa.all fun f => f K) && fn.all fun d => d.ok K) = true from congrArg (fun z : He.AlD => z.1) c)).2
  have e : fn.map (fun d => He.fnW K d.at_) = fn.map He.DefD.val := congrArg (fun z : He.AlD => z.2) c
  have e2 : (fn.map fun d => He.fnW K d.at_)[i]? = (fn.map He.DefD.val)[i]? := by rw [e]
  rw [List.getElem?_map, List.getElem?_map, h] at e2
  exact He.DefD.funD (Option.some.inj e2) (List.all_eq_true.mp c2 d (List.mem_of_getElem? h))
end
theorem fun_of {K : PySem.W.Frag} {x qual : Str} {st : Stmt} {f : Addr} {fd : FuncData} (F : FunD K x qual (defArgs st) (defBody st) (defScope st) [] [] f fd) : Fun K x qual st f fd := by
  obtain ⟨oc, od, dV, kV, doc, pm, an, cdv, ct, osl, rfl, lk, hcd, hD, hK⟩ := F.ex
  rcases hD with ⟨_, rfl⟩ | ⟨e, _⟩
  · exact ⟨⟨oc, od, kV, doc, pm, an, cdv, ct, osl, rfl, lk, hcd⟩, F.kp⟩
  · exact absurd rfl e

/-! ### words: values by their figures, names -/
def isLow (c : Nat) : Bool := decide (97 ≤ c) && decide (c ≤ 122)
def isDig (c : Nat) : Bool := decide (48 ≤ c) && decide (c ≤ 57)
theorem fig_mem (c : Nat) : decide (c ∈ (Str.ofString "0123456789").cps.toList) = isDig c := by
  have e : (Str.ofString "0123456789").cps.toList = [48, 49, 50, 51, 52, 53, 54, 55, 56, 57] := by decide +kernel
  rw [e]
  unfold isDig
  rw [Bool.eq_iff_iff]
  simp only [decide_eq_true_eq, Bool.and_eq_true, List.mem_cons, List.not_mem_nil, or_false]
  omega
theorem let_mem (c : Nat) : decide (c ∈ (Str.ofString "abcdefghijklmnopqrstuvwxyz").cps.toList) = isLow c := by
  have e : (Str.ofString "abcdefghijklmnopqrstuvwxyz").cps.toList = [97, 98, 99, 100, 101, 102, 103, 104, 105, 106, 107, 108, 109, 110, 111, 112, 113, 114, 115, 116, 117, 118, 119, 120, 121, 122] := by decide +kernel
  rw [e]
  unfold isLow
  rw [Bool.eq_iff_iff]
  simp only [decide_eq_true_eq, Bool.and_eq_true, List.mem_cons, List.not_mem_nil, or_false]
  omega
def PAIRW : List Str := ["plus", "minus", "times", "over", "rest", "less", "same"]
def ROWW : List Str := ["skip", "set", "put", "ask", "draw", "tell", "if", "while", "call"]
def OTHW : List Str := ["else", "end", "fun", "main", "give", "cell"]
def lenOk (s : Str) : Bool := decide (1 ≤ (tl s).length) && decide ((tl s).length ≤ 6)
def isValW (s : Str) : Bool := lenOk s && !((tl s).head? == some 48 && decide (s ≠ "0")) && (tl s).all isDig
def isNameW (s : Str) : Bool := lenOk s && !(decide (s ∈ PAIRW) || (decide (s ∈ ROWW) || decide (s ∈ OTHW))) && (tl s).all isLow
def valOf (s : Str) : Int := ((NumText.digitsVal (tl s) : Nat) : Int)
def numT (n : Int) : Str := Str.ofString (toString n)
theorem inV_str (s : Str) : ∀ l : List Str, inV (.str s) (l.map V.str) = decide (s ∈ l)
  | [] => by simp [inV]
  | x :: r => by
    have ih := inV_str s r
    unfold inV at ih ⊢
    rw [List.map_cons, List.any_cons, ih]
    have e : eqV (.str x) (.str s) = decide (s = x) := by
      show (x == s) = decide (s = x)
      by_cases h : s = x
      · subst h; simp
      · rw [decide_eq_false h]; exact beq_eq_false_iff_ne.mpr fun e => h e.symm
    rw [e]
    by_cases h : s = x <;> simp [h]
theorem digits_of_all {l : List Nat} (h : l.all isDig = true) : NumText.AllDigits l := fun c hc => by
  have := List.all_eq_true.mp h c hc
  unfold isDig at this
  simp only [Bool.and_eq_true, decide_eq_true_eq] at this
  exact this
theorem all_of_digits {l : List Nat} (h : NumText.AllDigits l) : l.all isDig = true := List.all_eq_true.mpr fun c hc => by
  have := h c hc
  unfold isDig
  simp only [Bool.and_eq_true, decide_eq_true_eq]
  exact this
theorem foldl_lt : ∀ (l : List Nat) (a : Nat), NumText.AllDigits l → l.foldl (fun acc c => acc * 10 + (c - 48)) a < (a + 1) * 10 ^ l.length
  | [], a, _ => by simp
  | c :: r, a, h => by
    have hc := h c List.mem_cons_self
    have ih := foldl_lt r (a * 10 + (c - 48)) fun d hd => h d (List.mem_cons_of_mem _ hd)
    have e : (a + 1) * 10 ^ (r.length + 1) = ((a + 1) * 10) * 10 ^ r.length := by rw [Nat.pow_succ, Nat.mul_comm (10 ^ r.length) 10, ← Nat.mul_assoc]
    rw [List.foldl_cons, List.length_cons, e]
    exact Nat.lt_of_lt_of_le ih (Nat.mul_le_mul_right _ (by omega))
theorem digitsVal_lt {l : List Nat} (h : NumText.AllDigits l) : NumText.digitsVal l < 10 ^ l.length := by
  have := foldl_lt l 0 h
  rw [Nat.zero_add, Nat.one_mul] at this
  exact this
theorem valW_parts {s : Str} (h : isValW s = true) : (1 ≤ (tl s).length ∧ (tl s).length ≤ 6) ∧ ((tl s).head? = some 48 → s = "0") ∧ NumText.AllDigits (tl s) := by
  unfold isValW lenOk at h
  simp only [Bool.and_eq_true, decide_eq_true_eq, Bool.not_eq_true', Bool.and_eq_false_iff, beq_eq_false_iff_ne, decide_eq_false_iff_not] at h
  obtain ⟨⟨⟨h1, h2⟩, h3⟩, h4⟩ := h
  refine ⟨⟨h1, h2⟩, fun e => ?_, digits_of_all h4⟩
  rcases h3 with h3 | h3
  · exact absurd e h3
  · exact Classical.not_not.mp h3
theorem valW_int {s : Str} (h : isValW s = true) : PySem.intText? s = some (valOf s) ∧ s.length ≤ 640 ∧ 0 ≤ valOf s ∧ valOf s < 1000000 := by
  obtain ⟨⟨h1, h2⟩, _, h4⟩ := valW_parts h
  have hl : s.length = (tl s).length := len_tl s
  refine ⟨PySem.intText_digits (x := s) h4 (fun e => ?_) (by omega), by omega, Int.natCast_nonneg _, ?_⟩
  · have e' : tl s = [] := e
    rw [e'] at h1; simp at h1
  · have := digitsVal_lt h4
    have p : 10 ^ (tl s).length ≤ 10 ^ 6 := Nat.pow_le_pow_right (by decide) h2
    unfold valOf
    omega
theorem numL_head : ∀ n : Nat, (numL n).head? = some 48 → n = 0 := by
  intro n
  induction n using Nat.strongRecOn with
  | _ n ih =>
    intro h
    by_cases c : n < 10
    · rw [numL_lt c] at h
      simp at h
      omega
    · rw [numL_step (by omega)] at h
      cases q : numL (n / 10) with
      | nil => exact absurd q (numL_ne _)
      | cons x r =>
        rw [q, List.cons_append, List.head?_cons] at h
        have := ih (n / 10) (by omega) (by rw [q, List.head?_cons]; exact h)
        omega
theorem tl_numT {n : Int} (h : 0 ≤ n) : tl (numT n) = numL n.toNat := by
  have e : n = ((n.toNat : Nat) : Int) := by omega
  unfold numT
  rw [e]
  exact tl_num _
theorem numT_valW {n : Int} (h0 : 0 ≤ n) (h1 : n < 1000000) : isValW (numT n) = true ∧ valOf (numT n) = n := by
  have et := tl_numT h0
  have hl : (numL n.toNat).length ≤ 6 := numL_len (by decide) (by omega)
  have hp : 1 ≤ (numL n.toNat).length := by
    cases q : numL n.toNat with
    | nil => exact absurd q (numL_ne _)
    | cons x r => simp
  refine ⟨?_, ?_⟩
  · unfold isValW lenOk
    rw [et]
    simp only [Bool.and_eq_true, decide_eq_true_eq, Bool.not_eq_true', Bool.and_eq_false_iff, beq_eq_false_iff_ne, decide_eq_false_iff_not]
    refine ⟨⟨⟨hp, hl⟩, ?_⟩, all_of_digits (numL_digits _)⟩
    by_cases c : (numL n.toNat).head? = some 48
    · have z := numL_head _ c
      right
      have : n = 0 := by omega
      subst this
      exact fun e => e (by decide +kernel)
    · exact .inl c
  · unfold valOf
    rw [et, numL_val]
    omega
theorem numT_inj {m n : Int} (hm : 0 ≤ m) (hn : 0 ≤ n) (e : numT m = numT n) : m = n := by
  have e' := congrArg tl e
  rw [tl_numT hm, tl_numT hn] at e'
  have := numL_inj e'
  omega
theorem toDigits_digitsVal' {l : List Nat} (h : NumText.AllDigits l) (h1 : 1 ≤ l.length) (c : ¬ l.head? = some 48) : numL (NumText.digitsVal l) = l := by
  unfold numL
  rw [NumText.toDigits_digitsVal (l.length - 1) l (by omega) h (Or.inr ?_), List.map_map]
  · conv => rhs; rw [← List.map_id l]
    refine List.map_congr_left fun d hd => ?_
    have hd' := h d hd
    show (Char.ofNat d).toNat = d
    obtain ⟨a, b⟩ := hd'
    have : ∀ k, k < 10 → (Char.ofNat (48 + k)).toNat = 48 + k := by decide
    have e : d = 48 + (d - 48) := by omega
    rw [e]
    exact this _ (by omega)
  · cases l with
    | nil => simp at h1
    | cons x r =>
      refine ⟨x, r, rfl, ?_⟩
      have := h x List.mem_cons_self
      have : x ≠ 48 := fun e => c (by rw [e]; rfl)
      omega
theorem valW_canon {s : Str} (h : isValW s = true) : numT (valOf s) = s := by
  obtain ⟨⟨h1, h2⟩, h3, h4⟩ := valW_parts h
  refine ext_tl ?_
  rw [tl_numT (valW_int h).2.2.1]
  show numL ((NumText.digitsVal (tl s) : Nat) : Int).toNat = tl s
  rw [Int.toNat_natCast]
  by_cases c : (tl s).head? = some 48
  · rw [h3 c]; decide +kernel
  · have key := toDigits_digitsVal' h4 h1 c
    exact key
theorem nameW_parts {s : Str} (h : isNameW s = true) : (1 ≤ (tl s).length ∧ (tl s).length ≤ 6) ∧ s ∉ PAIRW ∧ s ∉ ROWW ∧ s ∉ OTHW ∧ ∀ c ∈ tl s, 97 ≤ c ∧ c ≤ 122 := by
  unfold isNameW lenOk at h
  simp only [Bool.and_eq_true, decide_eq_true_eq, Bool.not_eq_true', Bool.or_eq_false_iff, decide_eq_false_iff_not] at h
  obtain ⟨⟨⟨h1, h2⟩, h3, h5, h6⟩, h4⟩ := h
  refine ⟨⟨h1, h2⟩, h3, h5, h6, fun c hc => ?_⟩
  have := List.all_eq_true.mp h4 c hc
  unfold isLow at this
  simp only [Bool.and_eq_true, decide_eq_true_eq] at this
  exact this
theorem name_not_val {s : Str} (h : isNameW s = true) : isValW s = false := by
  obtain ⟨⟨h1, _⟩, _, _, _, h4⟩ := nameW_parts h
  cases c : isValW s with
  | false => rfl
  | true =>
    obtain ⟨_, _, h5⟩ := valW_parts c
    cases q : tl s with
    | nil => rw [q] at h1; simp at h1
    | cons x r =>
      have a1 := h4 x (by rw [q]; exact List.mem_cons_self)
      have a2 := h5 x (by rw [q]; exact List.mem_cons_self)
      omega
theorem val_free {s : Str} {c : Nat} (h : isValW s = true) (hc : c < 48 ∨ 57 < c) : c ∉ tl s := fun hm => by
  obtain ⟨_, _, h5⟩ := valW_parts h
  have a2 := h5 c hm
  omega
theorem name_free {s : Str} {c : Nat} (h : isNameW s = true) (hc : c < 97 ∨ 122 < c) : c ∉ tl s := fun hm => by
  obtain ⟨_, _, _, _, h4⟩ := nameW_parts h
  have a1 := h4 c hm
  omega
theorem pair_free : ∀ s ∈ PAIRW, ∀ c ∈ tl s, 97 ≤ c ∧ c ≤ 122 := by decide +kernel
theorem pair_not_val : ∀ s ∈ PAIRW, isValW s = false ∧ isNameW s = false ∧ s ≠ "cell" ∧ (tl s).length ≤ 6 := by decide +kernel
theorem cell_not : isValW "cell" = false ∧ isNameW "cell" = false := by decide +kernel
/-! ### expressions -/
inductive Ex where
  | num (n : Int)
  | box (s : Str)
  | cell (e : Ex)
  | two (w : Str) (l r : Ex)
namespace Ex
def depth : Ex → Nat
  | num _ => 1
  | box _ => 1
  | cell e => e.depth + 1
  | two _ l r => max l.depth r.depth + 1
def parts : Ex → Nat
  | num _ => 1
  | box _ => 1
  | cell e => 1 + e.parts
  | two _ l r => 1 + l.parts + r.parts
def toks : Ex → List Str
  | num n => [numT n]
  | box s => [s]
  | cell e => "cell" :: e.toks
  | two w l r => w :: (l.toks ++ r.toks)
def Wf : Ex → Prop
  | num n => 0 ≤ n ∧ n < 1000000
  | box s => isNameW s = true
  | cell e => e.Wf
  | two w l r => w ∈ PAIRW ∧ l.Wf ∧ r.Wf
def told : Ex → PyData
  | num n => .tuple [.str "number", .int n]
  | box s => .tuple [.str "box", .str s]
  | cell e => .tuple [.str "cell", e.told]
  | two w l r => .tuple [.str w, l.told, r.told]
theorem depth_pos : ∀ e : Ex, 1 ≤ e.depth
  | num _ => Nat.le_refl 1
  | box _ => Nat.le_refl 1
  | cell _ => Nat.le_add_left _ _
  | two _ _ _ => Nat.le_add_left _ _
theorem parts_pos : ∀ e : Ex, 1 ≤ e.parts
  | num _ => Nat.le_refl 1
  | box _ => Nat.le_refl 1
  | cell _ => Nat.le_add_right _ _
  | two _ _ _ => Nat.le_trans (Nat.le_add_right 1 _) (Nat.le_add_right _ _)
theorem toks_len : ∀ e : Ex, e.toks.length = e.parts
  | num _ => rfl
  | box _ => rfl
  | cell e => by show e.toks.length + 1 = 1 + e.parts; rw [toks_len e]; omega
  | two w l r => by
    show (l.toks ++ r.toks).length + 1 = 1 + l.parts + r.parts
    rw [List.length_append, toks_len l, toks_len r]; omega
theorem parts_depth : ∀ e : Ex, e.depth ≤ e.parts
  | num _ => Nat.le_refl 1
  | box _ => Nat.le_refl 1
  | cell e => by have := parts_depth e; show e.depth + 1 ≤ 1 + e.parts; omega
  | two w l r => by have := parts_depth l; have := parts_depth r; show max l.depth r.depth + 1 ≤ 1 + l.parts + r.parts; omega
theorem toks_ok : ∀ {e : Ex}, e.Wf → ∀ s ∈ e.toks, (tl s).length ≤ 6 ∧ ∀ c ∈ tl s, (48 ≤ c ∧ c ≤ 57) ∨ (97 ≤ c ∧ c ≤ 122)
  | num n, h, s, hs => by
    rw [List.mem_singleton.mp hs]
    obtain ⟨⟨_, h2⟩, _, h4⟩ := valW_parts (numT_valW h.1 h.2).1
    exact ⟨h2, fun c hc => .inl (h4 c hc)⟩
  | box b, h, s, hs => by
    rw [List.mem_singleton.mp hs]
    obtain ⟨⟨_, h2⟩, _, _, _, h4⟩ := nameW_parts h
    exact ⟨h2, fun c hc => .inr (h4 c hc)⟩
  | cell e, h, s, hs => by
    rcases List.mem_cons.mp hs with rfl | hs
    · exact ⟨by decide +kernel, fun c hc => .inr ((by decide +kernel : ∀ c ∈ tl (Str.ofString "cell"), 97 ≤ c ∧ c ≤ 122) c hc)⟩
    · exact toks_ok (e := e) h s hs
  | two w l r, h, s, hs => by
    rcases List.mem_cons.mp hs with rfl | hs
    · exact ⟨(pair_not_val _ h.1).2.2.2, fun c hc => .inr (pair_free _ h.1 c hc)⟩
    · rcases List.mem_append.mp hs with hs | hs
      · exact toks_ok (e := l) h.2.1 s hs
      · exact toks_ok (e := r) h.2.2 s hs
end Ex
/-- the expression that begins the words, of at most so many parts within one another; what is behind it -/
def parseE : Nat → List Str → Option (Ex × List Str)
  | 0, _ => none
  | _ + 1, [] => none
  | d + 1, w :: r =>
    if isValW w = true then some (.num (valOf w), r)
    else if isNameW w = true then some (.box w, r)
    else if w = "cell" then (match parseE d r with
      | none => none
      | some (e, r1) => some (.cell e, r1))
    else if w ∈ PAIRW then (match parseE d r with
      | none => none
      | some (l, r1) => (match parseE d r1 with
        | none => none
        | some (e, r2) => some (.two w l e, r2)))
    else none
theorem parse_toks : ∀ {d : Nat} {e : Ex}, e.Wf → e.depth ≤ d → ∀ r, parseE d (e.toks ++ r) = some (e, r)
  | 0, e, _, hd, _ => absurd (e.depth_pos) (by omega)
  | d + 1, .num n, h, _, r => by
    have q := numT_valW h.1 h.2
    show parseE (d + 1) (numT n :: r) = _
    unfold parseE
    rw [if_pos q.1, q.2]
  | d + 1, .box s, h, _, r => by
    show parseE (d + 1) (s :: r) = _
    unfold parseE
    rw [if_neg (by rw [name_not_val h]; decide), if_pos (show isNameW s = true from h)]
  | d + 1, .cell e, h, hd, r => by
    show parseE (d + 1) ("cell" :: (e.toks ++ r)) = _
    unfold parseE
    rw [if_neg (by rw [cell_not.1]; decide), if_neg (by rw [cell_not.2]; decide), if_pos rfl, parse_toks (d := d) (e := e) h (by have : e.depth + 1 ≤ d + 1 := hd; omega) r]
  | d + 1, .two w l e, h, hd, r => by
    obtain ⟨hw, hl, he⟩ := h
    have hd' : max l.depth e.depth + 1 ≤ d + 1 := hd
    obtain ⟨q1, q2, q3, _⟩ := pair_not_val w hw
    show parseE (d + 1) (w :: ((l.toks ++ e.toks) ++ r)) = _
    unfold parseE
    rw [if_neg (by rw [q1]; decide), if_neg (by rw [q2]; decide), if_neg q3, if_pos hw, List.append_assoc, parse_toks (d := d) hl (by omega) (e.toks ++ r)]
    show (match parseE d (e.toks ++ r) with | none => none | some (e, r2) => some (Ex.two w l e, r2)) = _
    rw [parse_toks (d := d) he (by omega) r]
theorem parse_wf : ∀ {d : Nat} {ws : List Str} {e : Ex} {r : List Str}, parseE d ws = some (e, r) → e.Wf ∧ e.depth ≤ d ∧ ws = e.toks ++ r
  | 0, _, _, _, h => by simp [parseE] at h
  | _ + 1, [], _, _, h => by simp [parseE] at h
  | d + 1, w :: t, e, r, h => by
    unfold parseE at h
    by_cases c1 : isValW w = true
    · rw [if_pos c1] at h
      cases h
      obtain ⟨_, _, h3, h4⟩ := valW_int c1
      exact ⟨⟨h3, h4⟩, Nat.le_add_left _ _, by show w :: t = [numT (valOf w)] ++ t; rw [valW_canon c1]; rfl⟩
    rw [if_neg c1] at h
    by_cases c2 : isNameW w = true
    · rw [if_pos c2] at h
      cases h
      exact ⟨c2, Nat.le_add_left _ _, rfl⟩
    rw [if_neg c2] at h
    by_cases c3 : w = "cell"
    · rw [if_pos c3] at h
      cases q : parseE d t with
      | none => rw [q] at h; cases h
      | some p =>
        obtain ⟨e1, r1⟩ := p
        rw [q] at h
        cases h
        obtain ⟨a1, a2, a3⟩ := parse_wf q
        exact ⟨a1, Nat.succ_le_succ a2, by rw [c3, a3]; rfl⟩
    rw [if_neg c3] at h
    by_cases c4 : w ∈ PAIRW
    · rw [if_pos c4] at h
      cases q : parseE d t with
      | none => rw [q] at h; cases h
      | some p =>
        obtain ⟨e1, r1⟩ := p
        rw [q] at h
        simp only at h
        cases q2 : parseE d r1 with
        | none => rw [q2] at h; cases h
        | some p2 =>
          obtain ⟨e2, r2⟩ := p2
          rw [q2] at h
          cases h
          obtain ⟨a1, a2, a3⟩ := parse_wf q
          obtain ⟨b1, b2, b3⟩ := parse_wf q2
          exact ⟨⟨c4, a1, b1⟩, by show max e1.depth e2.depth + 1 ≤ d + 1; omega, by rw [a3, b3]; show _ = w :: (e1.toks ++ e2.toks) ++ r; rw [List.cons_append, List.append_assoc]⟩
    · rw [if_neg c4] at h; cases h
/-- all the expressions of a row of words -/
def parseAll : Nat → List Str → Option (List Ex)
  | _, [] => some []
  | 0, _ :: _ => none
  | n + 1, ws => match parseE 6 ws with
    | none => none
    | some (e, r) => if e.parts ≤ 15 then (match parseAll n r with
      | none => none
      | some es => some (e :: es)) else none

/-! ### objects -/
structure EC where
  num : Addr
  box : Addr
  cell : Addr
  two : Addr
def EC.Fam (c : EC) (C : Addr) : Prop := C = c.num ∨ C = c.box ∨ C = c.cell ∨ C = c.two
def EC.of (c : EC) : Ex → Addr
  | .num _ => c.num
  | .box _ => c.box
  | .cell _ => c.cell
  | .two _ _ _ => c.two
theorem EC.fam (c : EC) : ∀ e : Ex, c.Fam (c.of e)
  | .num _ => .inl rfl
  | .box _ => .inr (.inl rfl)
  | .cell _ => .inr (.inr (.inl rfl))
  | .two _ _ _ => .inr (.inr (.inr rfl))
def fNum (n : Int) : List (Str × V) := [("value", .int n)]
def fBox (s : Str) : List (Str × V) := [("name", .str s)]
def fCell (i : V) : List (Str × V) := [("inner", i)]
def fTwo (w : Str) (a b : V) : List (Str × V) := [("word", .str w), ("left", a), ("right", b)]
/-- v is an object of the expression e -/
def ObjE (c : EC) (H : Hp) : Ex → V → Prop
  | .num n, v => ∃ p dx, v = .ref p ∧ H p = some (.ins c.num dx (fNum n))
  | .box s, v => ∃ p dx, v = .ref p ∧ H p = some (.ins c.box dx (fBox s))
  | .cell e, v => ∃ p dx i, v = .ref p ∧ H p = some (.ins c.cell dx (fCell i)) ∧ ObjE c H e i
  | .two w l r, v => ∃ p dx a b, v = .ref p ∧ H p = some (.ins c.two dx (fTwo w a b)) ∧ ObjE c H l a ∧ ObjE c H r b
theorem ObjE.same {c : EC} {H H' : Hp} (s : Same H H') : ∀ {e : Ex} {v : V}, ObjE c H e v → ObjE c H' e v
  | .num n, v, ⟨p, dx, h1, h2⟩ => ⟨p, dx, h1, s _ _ h2⟩
  | .box n, v, ⟨p, dx, h1, h2⟩ => ⟨p, dx, h1, s _ _ h2⟩
  | .cell e, v, ⟨p, dx, i, h1, h2, h3⟩ => ⟨p, dx, i, h1, s _ _ h2, ObjE.same s h3⟩
  | .two w l r, v, ⟨p, dx, a, b, h1, h2, h3, h4⟩ => ⟨p, dx, a, b, h1, s _ _ h2, ObjE.same s h3, ObjE.same s h4⟩
abbrev exMeth (m : Str) : Prop := m ∈ (["told", "words", "parts", "levels", "reckon"] : List Str)
theorem look_none {m : Str} (h : exMeth m) : (∀ n, (fNum n).lookup m = none) ∧ (∀ s, (fBox s).lookup m = none) ∧ (∀ i, (fCell i).lookup m = none) ∧ (∀ w a b, (fTwo w a b).lookup m = none) := by
  have n : ∀ k ∈ (["value", "name", "inner", "word", "left", "right"] : List Str), (m == k) = false := by
    intro k hk
    have : ∀ x ∈ (["told", "words", "parts", "levels", "reckon"] : List Str), ∀ y ∈ (["value", "name", "inner", "word", "left", "right"] : List Str), (x == y) = false := by decide +kernel
    exact this m h k hk
  refine ⟨fun z => ?_, fun z => ?_, fun z => ?_, fun w a b => ?_⟩
  · show (match m == "value" with | true => some (V.int z) | false => none) = none
    rw [n "value" (by decide +kernel)]
  · show (match m == "name" with | true => some (V.str z) | false => none) = none
    rw [n "name" (by decide +kernel)]
  · show (match m == "inner" with | true => some z | false => none) = none
    rw [n "inner" (by decide +kernel)]
  · unfold fTwo
    rw [List.lookup_cons, n "word" (by decide +kernel)]
    simp only
    rw [List.lookup_cons, n "left" (by decide +kernel)]
    simp only
    rw [List.lookup_cons, n "right" (by decide +kernel)]
    rfl
theorem ObjE.at {c : EC} {H : Hp} {m : Str} (hm : exMeth m) : ∀ {e : Ex} {v : V}, ObjE c H e v → ∃ p dx fs, v = .ref p ∧ H p = some (.ins (c.of e) dx fs) ∧ fs.lookup m = none
  | .num n, v, ⟨p, dx, h1, h2⟩ => ⟨p, dx, _, h1, h2, (look_none hm).1 _⟩
  | .box n, v, ⟨p, dx, h1, h2⟩ => ⟨p, dx, _, h1, h2, (look_none hm).2.1 _⟩
  | .cell e, v, ⟨p, dx, i, h1, h2, h3⟩ => ⟨p, dx, _, h1, h2, (look_none hm).2.2.1 _⟩
  | .two w l r, v, ⟨p, dx, a, b, h1, h2, h3, h4⟩ => ⟨p, dx, _, h1, h2, (look_none hm).2.2.2 _ _ _⟩
/-! ### data told -/
theorem dp_same {K : PySem.W.Frag} {H H' : Hp} (s : Same H H') {v : V} {d : PyData} (h : Dp K H v d) : Dp K H' v d := by
  refine Dp.rec (motive_1 := fun v d _ => Dp K H' v d) (motive_2 := fun vs ds _ => DpAll K H' vs ds) ?_ ?_ ?_ ?_ ?_ ?_ ?_ ?_ h
  · exact .non
  · exact fun b => .bl b
  · exact fun i => .int i
  · exact fun x => .str x
  · exact fun h1 _ h2 => .lst (s.seq h1) h2
  · exact fun h1 _ h2 => .tup (same_tup s h1) h2
  · exact .nil
  · exact fun _ _ h1 h2 => .cons h1 h2
theorem dpAll_same {K : PySem.W.Frag} {H H' : Hp} (s : Same H H') : ∀ {vs : List V} {ds : List PyData}, DpAll K H vs ds → DpAll K H' vs ds
  | _, _, .nil => .nil
  | _, _, .cons a b => .cons (dp_same s a) (dpAll_same s b)
/-- v is told data, a tuple that stands by itself -/
def TupD (K : PySem.W.Frag) (H : Hp) (v : V) (ds : List PyData) : Prop := ∃ t xs, v = .ref t ∧ H t = some (.tup xs) ∧ DpAll K H xs ds
theorem TupD.dp {K : PySem.W.Frag} {H : Hp} {v : V} {ds : List PyData} (h : TupD K H v ds) : Dp K H v (.tuple ds) := by
  obtain ⟨t, xs, rfl, h1, h2⟩ := h
  exact .tup (SqT.of h1) h2
theorem TupD.same {K : PySem.W.Frag} {H H' : Hp} (s : Same H H') {v : V} {ds : List PyData} (h : TupD K H v ds) : TupD K H' v ds := by
  obtain ⟨t, xs, rfl, h1, h2⟩ := h
  exact ⟨t, xs, rfl, s _ _ h1, dpAll_same s h2⟩
def Ex.items : Ex → List PyData
  | .num n => [.str "number", .int n]
  | .box s => [.str "box", .str s]
  | .cell e => [.str "cell", e.told]
  | .two w l r => [.str w, l.told, r.told]
theorem Ex.told_items : ∀ e : Ex, e.told = .tuple e.items
  | .num _ => rfl
  | .box _ => rfl
  | .cell _ => rfl
  | .two _ _ _ => rfl
/-- v is the told tuple of e: each inner tuple stands by itself -/
def ToldE (K : PySem.W.Frag) (H : Hp) : Ex → V → Prop
  | .num n, v => ∃ t, v = .ref t ∧ H t = some (.tup [.str "number", .int n])
  | .box s, v => ∃ t, v = .ref t ∧ H t = some (.tup [.str "box", .str s])
  | .cell e, v => ∃ t i, v = .ref t ∧ H t = some (.tup [.str "cell", i]) ∧ ToldE K H e i
  | .two w l r, v => ∃ t a b, v = .ref t ∧ H t = some (.tup [.str w, a, b]) ∧ ToldE K H l a ∧ ToldE K H r b
theorem ToldE.same {K : PySem.W.Frag} {H H' : Hp} (s : Same H H') : ∀ {e : Ex} {v : V}, ToldE K H e v → ToldE K H' e v
  | .num n, v, ⟨p, h1, h2⟩ => ⟨p, h1, s _ _ h2⟩
  | .box n, v, ⟨p, h1, h2⟩ => ⟨p, h1, s _ _ h2⟩
  | .cell e, v, ⟨p, i, h1, h2, h3⟩ => ⟨p, i, h1, s _ _ h2, ToldE.same s h3⟩
  | .two w l r, v, ⟨p, a, b, h1, h2, h3, h4⟩ => ⟨p, a, b, h1, s _ _ h2, ToldE.same s h3, ToldE.same s h4⟩
theorem ToldE.dp {K : PySem.W.Frag} {H : Hp} : ∀ {e : Ex} {v : V}, ToldE K H e v → Dp K H v e.told
  | .num n, v, ⟨p, h1, h2⟩ => by rw [h1]; exact .tup (SqT.of h2) (.cons (.str _) (.cons (.int _) .nil))
  | .box n, v, ⟨p, h1, h2⟩ => by rw [h1]; exact .tup (SqT.of h2) (.cons (.str _) (.cons (.str _) .nil))
  | .cell e, v, ⟨p, i, h1, h2, h3⟩ => by rw [h1]; exact .tup (SqT.of h2) (.cons (.str _) (.cons (ToldE.dp h3) .nil))
  | .two w l r, v, ⟨p, a, b, h1, h2, h3, h4⟩ => by rw [h1]; exact .tup (SqT.of h2) (.cons (.str _) (.cons (ToldE.dp h3) (.cons (ToldE.dp h4) .nil)))
theorem ToldE.ref {K : PySem.W.Frag} {H : Hp} : ∀ {e : Ex} {v : V}, ToldE K H e v → ∃ t xs, v = .ref t ∧ H t = some (.tup xs)
  | .num n, v, ⟨p, h1, h2⟩ => ⟨p, _, h1, h2⟩
  | .box n, v, ⟨p, h1, h2⟩ => ⟨p, _, h1, h2⟩
  | .cell e, v, ⟨p, i, h1, h2, h3⟩ => ⟨p, _, h1, h2⟩
  | .two w l r, v, ⟨p, a, b, h1, h2, h3, h4⟩ => ⟨p, _, h1, h2⟩
theorem strOk_of {s : Str} (h : ∀ c ∈ tl s, c ≤ 122) : PyData.strOk s = true := by
  unfold PyData.strOk
  rw [← Array.all_toList]
  refine List.all_eq_true.mpr fun c hc => ?_
  have := h c hc
  simp only [decide_eq_true_eq]
  omega
theorem Ex.lay : ∀ {e : Ex}, e.Wf → e.told.canLay0 = true
  | .num n, _ => by
    show (PyData.strOk _ && (true && true)) = true
    rw [strOk_of (by decide +kernel)]; rfl
  | .box s, h => by
    obtain ⟨_, _, _, _, h4⟩ := nameW_parts (s := s) h
    show (PyData.strOk _ && (PyData.strOk s && true)) = true
    rw [strOk_of (by decide +kernel), strOk_of fun c hc => (h4 c hc).2]; rfl
  | .cell e, h => by
    have ih := Ex.lay (e := e) h
    show (PyData.strOk _ && (e.told.canLay0 && true)) = true
    rw [strOk_of (by decide +kernel), ih]; rfl
  | .two w l r, h => by
    have h1 := Ex.lay (e := l) h.2.1
    have h2 := Ex.lay (e := r) h.2.2
    show (PyData.strOk w && (l.told.canLay0 && (r.told.canLay0 && true))) = true
    rw [strOk_of fun c hc => (pair_free w h.1 c hc).2, h1, h2]; rfl
theorem Ex.told_depth : ∀ e : Ex, e.told.depth ≤ e.depth
  | .num _ => by show max 0 (max 0 0) + 1 ≤ 1; omega
  | .box _ => by show max 0 (max 0 0) + 1 ≤ 1; omega
  | .cell e => by
    have := Ex.told_depth e
    show max 0 (max e.told.depth 0) + 1 ≤ e.depth + 1; omega
  | .two w l r => by
    have := Ex.told_depth l
    have := Ex.told_depth r
    show max 0 (max l.told.depth (max r.told.depth 0)) + 1 ≤ max l.depth r.depth + 1; omega
theorem Ex.shaped {e : Ex} (h : e.Wf) (hd : e.depth ≤ 60) : SeqAt.shaped e.told = true := by
  have h1 := Ex.lay h
  have h2 := Ex.told_depth e
  show (e.told.canLay0 && decide (e.told.depth ≤ 64)) = true
  rw [h1, decide_eq_true (by omega)]; rfl
theorem Ex.eqv {e : Ex} (h : e.Wf) : PyData.eqv e.told e.told = true := SeqAt.eqv_refl _ (Ex.lay h)
/-! ### texts -/
def Ex.text : Ex → Str
  | .num n => numT n
  | .box s => s
  | .cell e => (Str.ofString "cell ") ++ e.text
  | .two w l r => Txt.join (Str.ofString " ") [w, l.text, r.text]
theorem Ex.text_len : ∀ {e : Ex}, e.Wf → e.text.length + 1 ≤ 7 * e.parts
  | .num n, h => by
    have := Ex.toks_ok (e := .num n) h (numT n) (List.mem_singleton.mpr rfl)
    show (numT n).length + 1 ≤ 7 * 1
    rw [len_tl]; omega
  | .box s, h => by
    have := Ex.toks_ok (e := .box s) h s (List.mem_singleton.mpr rfl)
    show s.length + 1 ≤ 7 * 1
    rw [len_tl]; omega
  | .cell e, h => by
    have ih := Ex.text_len (e := e) h
    show (Str.ofString "cell " ++ e.text).length + 1 ≤ 7 * (1 + e.parts)
    rw [len_tl, tl_append, List.length_append]
    have : (tl (Str.ofString "cell ")).length = 5 := by decide +kernel
    rw [len_tl] at ih
    omega
  | .two w l r, h => by
    have h1 := Ex.text_len (e := l) h.2.1
    have h2 := Ex.text_len (e := r) h.2.2
    have h3 := (pair_not_val w h.1).2.2.2
    have b : (tl (Str.ofString " ")).length = 1 := by decide +kernel
    show (Txt.join (Str.ofString " ") [w, l.text, r.text]).length + 1 ≤ 7 * (1 + l.parts + r.parts)
    rw [join_eq, len_tl, tl_join]
    rw [len_tl] at h1 h2
    simp only [List.map_cons, List.map_nil, joinL, List.length_append, b]
    omega
theorem Ex.text_toks : ∀ {e : Ex}, tl e.text = joinL [32] (e.toks.map tl)
  | .num n => rfl
  | .box s => rfl
  | .cell e => by
    have ih := Ex.text_toks (e := e)
    show tl (Str.ofString "cell " ++ e.text) = joinL [32] ((Str.ofString "cell" :: e.toks).map tl)
    rw [tl_append, ih]
    have c1 : tl (Str.ofString "cell ") = tl (Str.ofString "cell") ++ [32] := by decide +kernel
    rw [c1]
    cases q : e.toks with
    | nil => have := e.toks_len; rw [q] at this; have := e.parts_pos; simp at *; omega
    | cons x r =>
      show _ = tl (Str.ofString "cell") ++ ([32] ++ joinL [32] ((x :: r).map tl))
      rw [List.append_assoc]
  | .two w l r => by
    have h1 := Ex.text_toks (e := l)
    have h2 := Ex.text_toks (e := r)
    show tl (Txt.join (Str.ofString " ") [w, l.text, r.text]) = joinL [32] ((w :: (l.toks ++ r.toks)).map tl)
    have b : tl (Str.ofString " ") = [32] := by decide +kernel
    rw [join_eq, tl_join, b]
    show tl w ++ ([32] ++ (tl l.text ++ ([32] ++ tl r.text))) = _
    rw [h1, h2, List.map_cons, List.map_append]
    have key : ∀ (a b : List (List Nat)), a ≠ [] → b ≠ [] → joinL [32] a ++ ([32] ++ joinL [32] b) = joinL [32] (a ++ b) := by
      intro a
      induction a with
      | nil => intro b h; exact absurd rfl h
      | cons x a ih =>
        intro b _ hb
        cases a with
        | nil =>
          cases b with
          | nil => exact absurd rfl hb
          | cons y b => rfl
        | cons x2 a =>
          have := ih b (by simp) hb
          show (x ++ ([32] ++ joinL [32] (x2 :: a))) ++ _ = x ++ ([32] ++ joinL [32] ((x2 :: a) ++ b))
          rw [← this]
          simp only [List.append_assoc]
    have n1 : l.toks.map tl ≠ [] := fun e => by have := congrArg List.length e; rw [List.length_map, l.toks_len] at this; have := l.parts_pos; simp at *; omega
    have n2 : r.toks.map tl ≠ [] := fun e => by have := congrArg List.length e; rw [List.length_map, r.toks_len] at this; have := r.parts_pos; simp at *; omega
    rw [key _ _ n1 n2]
    cases q : (l.toks.map tl ++ r.toks.map tl) with
    | nil => exact absurd (List.append_eq_nil_iff.mp q).1 n1
    | cons x z => rfl
theorem Ex.split_text {e : Ex} (h : e.Wf) : Txt.split e.text (Str.ofString " ") = e.toks := by
  have b : tl (Str.ofString " ") = 32 :: [] := by decide +kernel
  have ej : e.text = Txt.join (Str.ofString " ") e.toks := by
    refine ext_tl ?_
    rw [join_eq, tl_join, b, Ex.text_toks]
  rw [ej]
  refine split_join b (by decide +kernel) (fun q => ?_) fun p hp => ?_
  · have := e.toks_len; rw [q] at this; have := e.parts_pos; simp at *; omega
  · intro hm
    rcases (Ex.toks_ok h p hp).2 32 hm with c | c <;> omega
/-! ### promises -/
/-- one text in, a truth out; nothing else is touched -/
def spTruthS (f : Str → Bool) : Sp := fun vs H Q _ => ∃ s : Str, vs = [.str s] ∧ s.length ≤ 100000 ∧ ∀ H', Same H H' → Q (.bl (f s)) H'
def spInit1 (C : Addr) (f : Str) : Sp := fun vs H Q _ => ∃ (p dx : Addr) (x : V), vs = [.ref p, x] ∧ H p = some (.ins C dx []) ∧ Q .non (upd H p (.ins C dx [(f, x)]))
def spTwoI (C : Addr) : Sp := fun vs H Q _ => ∃ (p dx : Addr) (w : Str) (a b : V), vs = [.ref p, .str w, a, b] ∧ H p = some (.ins C dx []) ∧ Q .non (upd H p (.ins C dx (fTwo w a b)))
def spTold (K : PySem.W.Frag) (c : EC) (n : Nat) (C : Addr) : Sp := fun vs H Q _ => ∃ (e : Ex) (v : V), vs = [v] ∧ ObjE c H e v ∧ c.of e = C ∧ e.depth ≤ n ∧ ∀ r H', Same H H' → ToldE K H' e r → Q r H'
def spWords (c : EC) (n : Nat) (C : Addr) : Sp := fun vs H Q _ => ∃ (e : Ex) (v : V), vs = [v] ∧ ObjE c H e v ∧ c.of e = C ∧ e.depth ≤ n ∧ e.Wf ∧ e.parts ≤ 1000 ∧ ∀ H', Same H H' → Q (.str e.text) H'
def spParts (c : EC) (n : Nat) (C : Addr) : Sp := fun vs H Q _ => ∃ (e : Ex) (v : V), vs = [v] ∧ ObjE c H e v ∧ c.of e = C ∧ e.depth ≤ n ∧ Q (.int e.parts) H
def spExprAt (K : PySem.W.Frag) (c : EC) (N : Addr) (n : Nat) : Sp := fun vs H Q E => ∃ (a : Addr) (ws : List Str) (i d : Nat), vs = [.ref a, .int i, .int (7 - (d : Int))] ∧ SqL K H a (ws.map V.str) ∧ ws.length ≤ 100000 ∧ (∀ s ∈ ws, s.length ≤ 100000) ∧ d < n ∧ d ≤ 7 ∧
  (∀ e r, parseE d (ws.drop i) = some (e, r) → ∀ t H' v, Same H H' → H' t = some (.tup [v, .int ((ws.length - r.length : Nat) : Int)]) → ObjE c H' e v → Q (.ref t) H') ∧
  (parseE d (ws.drop i) = none → ∀ H', Same H H' → E (.ref N) none H')
inductive AllE (c : EC) (H : Hp) : List Ex → List V → Prop where
  | nil : AllE c H [] []
  | cons {e : Ex} {v : V} {es : List Ex} {vs : List V} : ObjE c H e v → AllE c H es vs → AllE c H (e :: es) (v :: vs)
theorem AllE.same {c : EC} {H H' : Hp} (s : Same H H') : ∀ {es : List Ex} {vs : List V}, AllE c H es vs → AllE c H' es vs
  | _, _, .nil => .nil
  | _, _, .cons a b => .cons (a.same s) (b.same s)
theorem AllE.snoc {c : EC} {H : Hp} {e : Ex} {v : V} (h : ObjE c H e v) : ∀ {es : List Ex} {vs : List V}, AllE c H es vs → AllE c H (es ++ [e]) (vs ++ [v])
  | _, _, .nil => .cons h .nil
  | _, _, .cons a b => .cons a (b.snoc h)
theorem AllE.length {c : EC} {H : Hp} : ∀ {es : List Ex} {vs : List V}, AllE c H es vs → es.length = vs.length
  | _, _, .nil => rfl
  | _, _, .cons _ b => congrArg (· + 1) b.length
def spExprs (K : PySem.W.Frag) (c : EC) (N : Addr) : Sp := fun vs H Q E => ∃ (a : Addr) (ws : List Str), vs = [.ref a] ∧ SqL K H a (ws.map V.str) ∧ ws.length ≤ 100000 ∧ (∀ s ∈ ws, s.length ≤ 100000) ∧
  (∀ es, parseAll ws.length ws = some es → ∀ l H' os, Same H H' → H l = none → H' l = some (.lst os) → AllE c H' es os → Q (.ref l) H') ∧ (parseAll ws.length ws = none → ∀ H', Same H H' → E (.ref N) none H')
def spReadE (c : EC) (N : Addr) : Sp := fun vs H Q E => ∃ (s : Str), vs = [.str s] ∧ s.length ≤ 99999 ∧
  (∀ e, parseAll (Txt.split s " ").length (Txt.split s " ") = some [e] → ∀ v H', Same H H' → ObjE c H' e v → Q v H') ∧
  ((∀ e, parseAll (Txt.split s " ").length (Txt.split s " ") ≠ some [e]) → ∀ H', Same H H' → E (.ref N) none H')
def spReadAny (K : PySem.W.Frag) (c : EC) (N : Addr) : Sp := fun vs H Q E => ∃ x : V, vs = [x] ∧ ((∃ (s : Str), x = .str s ∧ s.length ≤ 99999 ∧
  (∀ e, parseAll (Txt.split s " ").length (Txt.split s " ") = some [e] → ∀ v H', Same H H' → ObjE c H' e v → Q v H') ∧
  ((∀ e, parseAll (Txt.split s " ").length (Txt.split s " ") ≠ some [e]) → ∀ H', Same H H' → E (.ref N) none H')) ∨
  (∃ t, TyX K H x t ∧ PySem.W.kitOne K t (.type "str") = some false ∧ E (.ref N) none H))

theorem valW_false1 {s : Str} (h : ¬ 1 ≤ (tl s).length ∨ ¬ (tl s).length ≤ 6) : isValW s = false := by
  unfold isValW lenOk
  rcases h with h | h
  · rw [decide_eq_false h]; rfl
  · rw [decide_eq_false h, Bool.and_false]; rfl
theorem valW_false2 {s : Str} (h : (tl s).head? = some 48) (h2 : s ≠ "0") : isValW s = false := by
  unfold isValW
  have e : ((tl s).head? == some 48) = true := by rw [h]; rfl
  rw [e, decide_eq_true h2]
  simp
theorem valW_true {s : Str} (h1 : 1 ≤ (tl s).length) (h2 : (tl s).length ≤ 6) (h3 : (tl s).head? = some 48 → s = "0") : isValW s = (tl s).all isDig := by
  unfold isValW lenOk
  rw [decide_eq_true h1, decide_eq_true h2]
  by_cases c : (tl s).head? = some 48
  · rw [h3 c, decide_eq_false (fun e => e rfl)]; simp
  · have e : ((tl s).head? == some 48) = false := beq_eq_false_iff_ne.mpr c
    rw [e]; simp
theorem nameW_false1 {s : Str} (h : ¬ 1 ≤ (tl s).length ∨ ¬ (tl s).length ≤ 6) : isNameW s = false := by
  unfold isNameW lenOk
  rcases h with h | h
  · rw [decide_eq_false h]; rfl
  · rw [decide_eq_false h, Bool.and_false]; rfl
theorem nameW_false2 {s : Str} (h : s ∈ PAIRW ∨ s ∈ ROWW ∨ s ∈ OTHW) : isNameW s = false := by
  unfold isNameW
  have e : (decide (s ∈ PAIRW) || (decide (s ∈ ROWW) || decide (s ∈ OTHW))) = true := by
    rcases h with h | h | h <;> simp [h]
  rw [e]; simp
theorem nameW_true {s : Str} (h1 : 1 ≤ (tl s).length) (h2 : (tl s).length ≤ 6) (h3 : s ∉ PAIRW) (h4 : s ∉ ROWW) (h5 : s ∉ OTHW) : isNameW s = (tl s).all isLow := by
  unfold isNameW lenOk
  rw [decide_eq_true h1, decide_eq_true h2, decide_eq_false h3, decide_eq_false h4, decide_eq_false h5]; simp
theorem len_line {s : Str} (h : s.length ≤ 100000) : s.length ≤ sizeLine := Nat.le_trans h (by decide)

theorem log_small {n : Nat} (h : n < 2 ^ 20) : n.log2 < 1920 := by
  by_cases h0 : n = 0
  · subst h0; decide
  · exact Nat.lt_of_lt_of_le ((Nat.log2_lt h0).mpr h) (by decide)

theorem while_m {c : TT} {tb : TS} {D : Ends} {σ : St} {H : Hp} (Pv : Nat → St → Hp → Prop) (m0 : Nat) (h0 : Pv m0 σ H)
    (hs : ∀ m σ H, Pv m σ H → c σ H fun b H1 => if b = true then ∃ N : St → Hp → Prop, (∀ σ' H', N σ' H' → ∃ m', m' < m ∧ Pv m' σ' H') ∧ tb { D with nx := N, ct := N, bk := D.nx } σ H1 else D.nx σ H1) : tWhile c tb D σ H := ⟨Pv, ⟨m0, h0⟩, hs⟩
theorem made_same {H : Hp} {x dx : Addr} {o o1 o2 : HO} (hx : H x = none) (hd : H dx = none) : Same H (upd (upd (upd H dx o) x o1) x o2) := fun b u e => by
  have n1 : b ≠ x := ne_of_none e hx
  rw [upd_ne n1, upd_ne n1, upd_ne (ne_of_none e hd)]
  exact e
theorem mk_init {C : Addr} {f : Str} {H : Hp} {v : V} {Q : Hp → Prop} {E : XK} {x dx : Addr} (hx : H x = none) (hd : H dx = none) (k : ∀ H', Same H H' → H' x = some (.ins C dx [(f, v)]) → Q H') :
    spInit1 C f [.ref x, v] (upd (upd H dx (.own x)) x (.ins C dx [])) (fun v H2 => v = .non ∧ Q H2) E :=
  ⟨x, dx, v, rfl, upd_same, rfl, k _ (made_same hx hd) upd_same⟩
theorem mk_two {C : Addr} {H : Hp} {wd : Str} {a b : V} {Q : Hp → Prop} {E : XK} {x dx : Addr} (hx : H x = none) (hd : H dx = none) (k : ∀ H', Same H H' → H' x = some (.ins C dx (fTwo wd a b)) → Q H') :
    spTwoI C [.ref x, .str wd, a, b] (upd (upd H dx (.own x)) x (.ins C dx [])) (fun v H2 => v = .non ∧ Q H2) E :=
  ⟨x, dx, wd, a, b, rfl, upd_same, rfl, k _ (made_same hx hd) upd_same⟩
theorem parse_len {d : Nat} {ws : List Str} {e : Ex} {r : List Str} (h : parseE d ws = some (e, r)) : r.length < ws.length ∧ ws.drop (ws.length - r.length) = r := by
  obtain ⟨_, _, h3⟩ := parse_wf h
  have n1 := e.toks_len
  have n2 := e.parts_pos
  have hl : ws.length = e.toks.length + r.length := by rw [h3, List.length_append]
  refine ⟨by omega, ?_⟩
  have e1 : ws.length - r.length = e.toks.length := by omega
  rw [e1, h3, List.drop_left]
theorem parse_at {d i : Nat} {ws : List Str} {e : Ex} {r : List Str} (h : parseE d (ws.drop i) = some (e, r)) : i < ws.length - r.length ∧ ws.length - r.length ≤ ws.length ∧ ws.drop (ws.length - r.length) = r := by
  obtain ⟨_, _, h3⟩ := parse_wf h
  have n1 := e.toks_len
  have n2 := e.parts_pos
  have hl : (ws.drop i).length = e.toks.length + r.length := by rw [h3, List.length_append]
  rw [List.length_drop] at hl
  refine ⟨by omega, Nat.sub_le _ _, ?_⟩
  have e1 : ws.length - r.length = i + e.toks.length := by omega
  rw [e1, ← List.drop_drop, h3, List.drop_left]
theorem at_str {ws : List Str} {i : Nat} {s : Str} {r : List Str} (h : ws.drop i = s :: r) : i < ws.length ∧ atI (ws.map V.str) (i : Int) = some (.str s) ∧ ws.drop (i + 1) = r ∧ r.length = ws.length - (i + 1) ∧ s ∈ ws := by
  have hl : (ws.drop i).length = r.length + 1 := by rw [h]; rfl
  rw [List.length_drop] at hl
  have hi : i < ws.length := by omega
  have e1 : ws.drop i = ws[i] :: ws.drop (i + 1) := List.drop_eq_getElem_cons hi
  rw [h, List.cons.injEq] at e1
  refine ⟨hi, atI_nat (by rw [List.getElem?_map, List.getElem?_eq_getElem hi, ← e1.1]; rfl), e1.2.symm, by omega, ?_⟩
  rw [e1.1]; exact List.getElem_mem hi
theorem parseE_cons {d : Nat} {w : Str} {r : List Str} : parseE (d + 1) (w :: r) = (if isValW w = true then some (.num (valOf w), r)
    else if isNameW w = true then some (.box w, r)
    else if w = "cell" then (match parseE d r with
      | none => none
      | some (e, r1) => some (.cell e, r1))
    else if w ∈ PAIRW then (match parseE d r with
      | none => none
      | some (l, r1) => (match parseE d r1 with
        | none => none
        | some (e, r2) => some (.two w l e, r2)))
    else none) := rfl
theorem parseAll_fuel : ∀ (n : Nat) (ws : List Str), ws.length ≤ n → parseAll n ws = parseAll ws.length ws := by
  intro n
  induction n using Nat.strongRecOn with
  | _ n ih =>
    intro ws h
    cases ws with
    | nil => cases n <;> rfl
    | cons x t =>
      cases n with
      | zero => simp at h
      | succ n =>
        show (match parseE 6 (x :: t) with | none => none | some (e, r) => if e.parts ≤ 15 then (match parseAll n r with | none => none | some es => some (e :: es)) else none) = parseAll (t.length + 1) (x :: t)
        show _ = (match parseE 6 (x :: t) with | none => none | some (e, r) => if e.parts ≤ 15 then (match parseAll t.length r with | none => none | some es => some (e :: es)) else none)
        cases q : parseE 6 (x :: t) with
        | none => rfl
        | some p =>
          obtain ⟨e, r⟩ := p
          have hr := (parse_len q).1
          have hr' : r.length < t.length + 1 := hr
          have ht : t.length + 1 ≤ n + 1 := h
          show (if e.parts ≤ 15 then (match parseAll n r with | none => none | some es => some (e :: es)) else none) = (if e.parts ≤ 15 then (match parseAll t.length r with | none => none | some es => some (e :: es)) else none)
          rw [ih n (by omega) r (by omega)]
          by_cases c : t.length = n
          · rw [c, ih n (by omega) r (by omega)]
          · rw [ih t.length (by omega) r (by omega)]
/-- the words from here on, in one step -/
theorem parseAll_step {x : Str} {t : List Str} : parseAll (x :: t).length (x :: t) = (match parseE 6 (x :: t) with | none => none | some (e, r) => if e.parts ≤ 15 then (match parseAll r.length r with | none => none | some es => some (e :: es)) else none) := by
  show (match parseE 6 (x :: t) with | none => none | some (e, r) => if e.parts ≤ 15 then (match parseAll t.length r with | none => none | some es => some (e :: es)) else none) = _
  cases q : parseE 6 (x :: t) with
  | none => rfl
  | some p =>
    obtain ⟨e, r⟩ := p
    have hr := (parse_len q).1
    have hr' : r.length < t.length + 1 := hr
    show (if e.parts ≤ 15 then (match parseAll t.length r with | none => none | some es => some (e :: es)) else none) = (if e.parts ≤ 15 then (match parseAll r.length r with | none => none | some es => some (e :: es)) else none)
    rw [parseAll_fuel t.length r (by omega)]
def after (es : List Ex) : Option (List Ex) → Option (List Ex)
  | none => none
  | some fs => some (es ++ fs)

theorem objE_upd {c : EC} {H : Hp} {l : Addr} {xs ys : List V} (h : H l = some (.lst xs)) : ∀ {e : Ex} {v : V}, ObjE c H e v → ObjE c (upd H l (.lst ys)) e v
  | .num n, v, ⟨p, dx, h1, h2⟩ => ⟨p, dx, h1, by rw [upd_ne (ne_of h2 h (by intro z; cases z))]; exact h2⟩
  | .box n, v, ⟨p, dx, h1, h2⟩ => ⟨p, dx, h1, by rw [upd_ne (ne_of h2 h (by intro z; cases z))]; exact h2⟩
  | .cell e, v, ⟨p, dx, i, h1, h2, h3⟩ => ⟨p, dx, i, h1, by rw [upd_ne (ne_of h2 h (by intro z; cases z))]; exact h2, objE_upd h h3⟩
  | .two w l r, v, ⟨p, dx, a, b, h1, h2, h3, h4⟩ => ⟨p, dx, a, b, h1, by rw [upd_ne (ne_of h2 h (by intro z; cases z))]; exact h2, objE_upd h h3, objE_upd h h4⟩
theorem allE_upd {c : EC} {H : Hp} {l : Addr} {xs ys : List V} (h : H l = some (.lst xs)) : ∀ {es : List Ex} {vs : List V}, AllE c H es vs → AllE c (upd H l (.lst ys)) es vs
  | _, _, .nil => .nil
  | _, _, .cons a b => .cons (objE_upd h a) (allE_upd h b)
theorem allE_snoc_upd {c : EC} {H : Hp} {l : Addr} {xs ys : List V} {e : Ex} {v : V} {es : List Ex} {vs : List V} (h : H l = some (.lst xs)) (a : AllE c H es vs) (o : ObjE c H e v) : AllE c (upd H l (.lst ys)) (es ++ [e]) (vs ++ [v]) := (allE_upd h a).snoc (objE_upd h o)

theorem joinL_len : ∀ L : List (List Nat), L.length ≤ (joinL [32] L).length + 1 ∧ ∀ p ∈ L, p.length ≤ (joinL [32] L).length
  | [] => ⟨Nat.zero_le _, fun _ h => by cases h⟩
  | [x] => ⟨by simp, fun p h => by rw [List.mem_singleton.mp h]; exact Nat.le_refl _⟩
  | x :: y :: r => by
    have ih := joinL_len (y :: r)
    have e : joinL [32] (x :: y :: r) = x ++ ([32] ++ joinL [32] (y :: r)) := rfl
    rw [e, List.length_append, List.length_append]
    refine ⟨by have := ih.1; simp only [List.length_cons, List.length_nil] at this ⊢; omega, fun p h => ?_⟩
    rcases List.mem_cons.mp h with rfl | h
    · omega
    · have := ih.2 p h; omega
theorem split_small {s : Str} (h : s.length ≤ 100000 - 1) : (Txt.split s " ").length ≤ 100000 ∧ ∀ p ∈ Txt.split s " ", p.length ≤ 100000 := by
  have e := PySem.StrLaws.join_split s (Str.ofString " ")
  have e2 := congrArg tl e
  have b : tl (Str.ofString " ") = [32] := by decide +kernel
  rw [tl_join, b] at e2
  have q := joinL_len ((Txt.split s (Str.ofString " ")).map tl)
  rw [e2, List.length_map, ← len_tl s] at q
  refine ⟨by have := q.1; omega, fun p hp => ?_⟩
  have := q.2 (tl p) (List.mem_map.mpr ⟨p, hp, rfl⟩)
  rw [← len_tl p] at this
  omega

/-- all([sign in F for sign in s]) -/
theorem rd_all {K : PySem.W.Frag} {σ : St} {H : Hp} {s F : Str} {f : Nat → Bool} {Q : VK} {i j : Nat} (hi : σ[i]? = some (some (.str s))) (hj : j < σ.length) (hn : j ≠ i) (hl : s.length ≤ 16000000) (hf : ∀ c, decide (c ∈ F.cps.toList) = f c)
    (q : ∀ H', Same H H' → Q (.bl ((tl s).all f)) H') :
    tCB (rAll K) (tCons (tLc (iStr (tVar i)) (gName j) tYes (tOp (fun x y H Q => ∃ (c : Nat) (z : Str), x = .str ⟨#[c]⟩ ∧ y = .str z ∧ Q (.bl (decide (c ∈ z.cps.toList))) H) (tVar j) (tC (.str F))) [j]) tNil) σ H Q := by
  refine ⟨_, hi, s, rfl, fun D hD => lc_it walk_str (fun k H' => H' D = some (.lst ((((tl s).take k).map f).map V.bl)) ∧ Same H H') ⟨by rw [upd_same]; rfl, same_new hD⟩ (fun _ _ _ _ => trivial) ?_ ?_⟩
  · rintro k x H1 H2 hk ⟨h1, h2⟩ ⟨rfl, c, hc, rfl⟩
    have hjl : (wipe σ [j]).length = σ.length := wipe_length _ _
    refine ⟨by show ((σ.set j none).set j _).set j none = _; simp [wipe], ?_⟩
    refine ⟨_, by rw [List.getElem?_set_self (by rw [hjl]; exact hj)], c, F, rfl, rfl, ?_⟩
    have hs : k < (tl s).length := by
      have : s.cps.size = (tl s).length := by simp [tl]
      omega
    refine ⟨_, h1, ?_, ?_⟩
    · rw [List.length_map, List.length_map]
      have : s.length = (tl s).length := len_tl s
      refine Nat.lt_of_le_of_lt (List.length_take_le _ _) (by show k < 16777216; omega)
    · refine ⟨?_, fun b o e => ?_⟩
      · rw [upd_same]
        have e1 : (tl s)[k]? = some c := by rw [← hc]; simp [tl]
        rw [List.take_add_one, e1, hf c]
        simp
      · rw [upd_ne (ne_of_none e hD)]
        exact h2 b o e
  · rintro H' ⟨h1, h2⟩
    have hs : s.cps.size = (tl s).length := by simp [tl]
    rw [hs, List.take_length] at h1
    refine ⟨D, _, rfl, SqL.of h1, ?_⟩
    have e : ((tl s).map f).all id = (tl s).all f := by rw [List.all_map]; rfl
    rw [e]
    exact q H' h2

def spCell (K : PySem.W.Frag) : Sp := fun vs H Q _ => ∃ (a : Addr) (ns : List Int) (k : Int), vs = [.ref a, .int k] ∧ SqL K H a (ns.map V.int) ∧ 0 ≤ k ∧ ∀ n : Int, Q (.int n) H
/-- two ints go in, some int comes out -/
def spI2 : Sp := fun vs H Q _ => ∃ (a b : Int), vs = [.int a, .int b] ∧ ∀ n : Int, Q (.int n) H
def WellAt (H : Hp) (p : Addr) : Prop := ∃ a b c d : Int, H p = some (.lst [.int a, .int b, .int c, .int d])
def spWell (K : PySem.W.Frag) : Sp := fun vs H Q _ => ∃ (a : Addr) (ns : List Int) (k : Int), vs = [.ref a, .int k] ∧ SqL K H a (ns.map V.int) ∧ 0 ≤ k ∧ ∀ p H', H p = none → Same H H' → WellAt H' p → Q (.ref p) H'
def spDraw : Sp := fun vs H Q _ => ∃ (p : Addr) (m : Int), vs = [.ref p, .int m] ∧ WellAt H p ∧ 0 < m ∧ m ≤ 1000000 ∧ ∀ (n : Int) H', 0 ≤ n → n < m → KeepX p H H' → WellAt H' p → Q (.int n) H'
theorem at_int {ns : List Int} {k : Int} (h0 : 0 ≤ k) (h : k < (ns.length : Int)) : ∃ v : Int, atI (ns.map V.int) k = some (.int v) := by
  have hk : k.toNat < ns.length := by omega
  have ek : k = ((k.toNat : Nat) : Int) := by omega
  have q : atI (ns.map V.int) ((k.toNat : Nat) : Int) = some (.int ns[k.toNat]) := atI_nat (by rw [List.getElem?_map, List.getElem?_eq_getElem hk] <;> rfl)
  rw [← ek] at q
  exact ⟨_, q⟩
theorem mod64 {x y : Int} : CMul (x % 2147483647) y := Or.inl ⟨by omega, by omega⟩
theorem WellAt.ne {H : Hp} {p t : Addr} (W : WellAt H p) {o : HO} (h : H t = some o) (no : ∀ xs, o ≠ .lst xs) : t ≠ p := fun e => by
  obtain ⟨a, b, c, d, w⟩ := W
  rw [e, w] at h
  exact no _ (Option.some.inj h).symm
theorem KeepX.tup {p : Addr} {H H' : Hp} (k : KeepX p H H') (W : WellAt H p) {t : Addr} {xs : List V} (h : H t = some (.tup xs)) : H' t = some (.tup xs) := k _ _ (W.ne h (by intro _ e; cases e)) h
theorem WellAt.fresh {H : Hp} {p q : Addr} (W : WellAt H p) (h : H q = none) : q ≠ p := fun e => by
  obtain ⟨_, _, _, _, w⟩ := W
  rw [← e, h] at w; cases w
theorem WellAt.same {H H' : Hp} {p : Addr} (s : Same H H') : WellAt H p → WellAt H' p := fun ⟨a, b, c, d, w⟩ => ⟨a, b, c, d, s _ _ w⟩
/-- f i for all i below n -/
def seqV (f : Nat → V) (n : Nat) : List V := (List.range n).map f
theorem seqV_succ (f : Nat → V) (n : Nat) : seqV f (n + 1) = seqV f n ++ [f n] := by
  unfold seqV
  rw [List.range_succ, List.map_append]; rfl
theorem seqV_length (f : Nat → V) (n : Nat) : (seqV f n).length = n := by unfold seqV; rw [List.length_map, List.length_range]
/-- [e(x) for x in w]: each e gives a value that is known ahead -/
theorem lc_map {J : It} {n : Nat} {G : Hp → Prop} {Y : Nat → Hp → V → Hp → Prop} (w : Walk J n G Y) (f : Nat → V) {j : Nat} {te : TE} {σ : St} {H1 : Hp} {D : Addr} {Qd : Hp → Prop} (hD : H1 D = none) (hn : n < 16777216) (hj : j < σ.length)
    (hG : ∀ H, Same H1 H → G H) (hY : ∀ i H x H', Y i H x H' → H' = H)
    (step : ∀ i x H (Z : VK), i < n → Same H1 H → Y i H x H → (∀ H', Same H H' → Z (f i) H') → te ((σ.set j none).set j (some x)) H Z)
    (hd : ∀ H, Same H1 H → H D = some (.lst (seqV f n)) → Qd H) :
    ∃ W : Nat → Nat → Hp → Prop, (∃ m, W 0 m (upd H1 D (.lst []))) ∧ ∀ i m H, W i m H →
      (J.stop i H ∧ Qd H) ∨ (J.go i H ∧ ∃ Nx : Hp → Prop, (∀ H', Nx H' → ∃ m', m' < m ∧ W (i + 1) m' H') ∧ ∀ x H', J.yld i H x H' → gName j x (wipe σ [j]) H' fun σ2 H2 => wipe σ2 [j] = wipe σ [j] ∧ tYes σ2 H2 fun b H3 =>
        if b = true then te σ2 H3 fun y H4 => ∃ acc, H4 D = some (.lst acc) ∧ acc.length < sizeLine ∧ Nx (upd H4 D (.lst (acc ++ [y]))) else Nx H3) := by
  refine lc_it w (fun i H => H D = some (.lst (seqV f i)) ∧ Same H1 H) ⟨upd_same, same_new hD⟩ (fun i H _ h => hG H h.2) ?_ fun H h => hd H h.2 h.1
  rintro i x H H2 hi ⟨h1, h2⟩ y
  have e := hY _ _ _ _ y
  subst e
  have hw : wipe ((wipe σ [j]).set j (some x)) [j] = wipe σ [j] := by
    show ((σ.set j none).set j (some x)).set j none = σ.set j none
    simp
  refine ⟨hw, ?_⟩
  refine step i x _ _ hi h2 y fun H3 s3 => ⟨_, s3 _ _ h1, ?_, ?_⟩
  · rw [seqV_length]; exact Nat.lt_of_lt_of_le (Nat.lt_trans hi hn) (by decide)
  · refine ⟨by rw [upd_same, seqV_succ], fun b o hb => ?_⟩
    rw [upd_ne (ne_of_none hb hD)]
    exact s3 _ _ (h2 b o hb)
theorem at_strs {ss : List Str} {n : Int} (h0 : 0 ≤ n) (h1 : n < (ss.length : Int)) : ∃ s ∈ ss, atI (ss.map V.str) n = some (.str s) := by
  have hk : n.toNat < ss.length := by omega
  have ek : n = ((n.toNat : Nat) : Int) := by omega
  have q : atI (ss.map V.str) ((n.toNat : Nat) : Int) = some (.str ss[n.toNat]) := atI_nat (by rw [List.getElem?_map, List.getElem?_eq_getElem hk] <;> rfl)
  rw [← ek] at q
  exact ⟨_, List.getElem_mem hk, q⟩
/-- one proof for a goal that is asked more than once -/
theorem twice_asked {A B : Prop} (b : B) (f : B → A) : A := f b
def spValue : Sp := fun vs H Q _ => ∃ (p : Addr), vs = [.ref p] ∧ WellAt H p ∧ ∀ (n : Int) H', 0 ≤ n → n < 1000000 → KeepX p H H' → WellAt H' p → Q (.int n) H'
def spName : Sp := fun vs H Q _ => ∃ (p : Addr), vs = [.ref p] ∧ WellAt H p ∧ ∀ (s : Str) H', isNameW s = true → KeepX p H H' → WellAt H' p → Q (.str s) H'

/-! ### lists that go together -/
inductive All2 {α β : Type} (R : α → β → Prop) : List α → List β → Prop where
  | nil : All2 R [] []
  | cons {a : α} {b : β} {as : List α} {bs : List β} : R a b → All2 R as bs → All2 R (a :: as) (b :: bs)
theorem All2.length {α β : Type} {R : α → β → Prop} : ∀ {as : List α} {bs : List β}, All2 R as bs → as.length = bs.length
  | _, _, .nil => rfl
  | _, _, .cons _ h => congrArg (· + 1) h.length
theorem All2.mono {α β : Type} {R S : α → β → Prop} (f : ∀ a b, R a b → S a b) : ∀ {as : List α} {bs : List β}, All2 R as bs → All2 S as bs
  | _, _, .nil => .nil
  | _, _, .cons h t => .cons (f _ _ h) (t.mono f)
theorem All2.mono_mem {α β : Type} {R S : α → β → Prop} : ∀ {as : List α} {bs : List β}, (∀ a b, a ∈ as → b ∈ bs → R a b → S a b) → All2 R as bs → All2 S as bs
  | _, _, _, .nil => .nil
  | _, _, f, .cons h t => .cons (f _ _ List.mem_cons_self List.mem_cons_self h) (t.mono_mem fun a b ha hb => f a b (List.mem_cons_of_mem _ ha) (List.mem_cons_of_mem _ hb))
theorem All2.snoc {α β : Type} {R : α → β → Prop} {a : α} {b : β} (h : R a b) : ∀ {as : List α} {bs : List β}, All2 R as bs → All2 R (as ++ [a]) (bs ++ [b])
  | _, _, .nil => .cons h .nil
  | _, _, .cons g t => .cons g (t.snoc h)
theorem All2.at {α β : Type} {R : α → β → Prop} : ∀ {as : List α} {bs : List β} {i : Nat} {b : β}, All2 R as bs → bs[i]? = some b → ∃ a, as[i]? = some a ∧ R a b
  | _, _, 0, _, .cons h _, e => ⟨_, rfl, by cases e; exact h⟩
  | _, _, i + 1, _, .cons _ t, e => t.at (i := i) e
  | _, _, _, _, .nil, e => by simp at e
theorem All2.at2 {α β : Type} {R : α → β → Prop} : ∀ {as : List α} {bs : List β} {i : Nat} {a : α}, All2 R as bs → as[i]? = some a → ∃ b, bs[i]? = some b ∧ R a b
  | _, _, 0, _, .cons h _, e => ⟨_, rfl, by cases e; exact h⟩
  | _, _, i + 1, _, .cons _ t, e => t.at2 (i := i) e
  | _, _, _, _, .nil, e => by simp at e
theorem ints_of : ∀ {ys : List V} {P : Int → Prop}, (∀ y ∈ ys, ∃ n, y = V.int n ∧ P n) → ∃ ns : List Int, ys = ns.map V.int ∧ (∀ n ∈ ns, P n) ∧ ns.length = ys.length
  | [], _, _ => ⟨[], rfl, (fun _ h => by cases h), rfl⟩
  | y :: r, P, h => by
    obtain ⟨n, e, hn⟩ := h y List.mem_cons_self
    obtain ⟨ns, e2, hs, hl⟩ := ints_of (ys := r) fun z hz => h z (List.mem_cons_of_mem _ hz)
    refine ⟨n :: ns, by rw [e, e2]; rfl, fun z hz => ?_, congrArg (· + 1) hl⟩
    rcases List.mem_cons.mp hz with rfl | hz
    · exact hn
    · exact hs z hz
theorem strs_of : ∀ {ys : List V} {P : Str → Prop}, (∀ y ∈ ys, ∃ n, y = V.str n ∧ P n) → ∃ ns : List Str, ys = ns.map V.str ∧ (∀ n ∈ ns, P n) ∧ ns.length = ys.length
  | [], _, _ => ⟨[], rfl, (fun _ h => by cases h), rfl⟩
  | y :: r, P, h => by
    obtain ⟨n, e, hn⟩ := h y List.mem_cons_self
    obtain ⟨ns, e2, hs, hl⟩ := strs_of (ys := r) fun z hz => h z (List.mem_cons_of_mem _ hz)
    refine ⟨n :: ns, by rw [e, e2]; rfl, fun z hz => ?_, congrArg (· + 1) hl⟩
    rcases List.mem_cons.mp hz with rfl | hz
    · exact hn
    · exact hs z hz
/-- where a list may go on being written: nothing else moves -/
def LcGoal (J : It) (D : Addr) (te : TE) (j : Nat) (σ : St) (H1 : Hp) (Qd : Hp → Prop) : Prop :=
    ∃ W : Nat → Nat → Hp → Prop, (∃ m, W 0 m (upd H1 D (.lst []))) ∧ ∀ i m H, W i m H →
      (J.stop i H ∧ Qd H) ∨ (J.go i H ∧ ∃ Nx : Hp → Prop, (∀ H', Nx H' → ∃ m', m' < m ∧ W (i + 1) m' H') ∧ ∀ x H', J.yld i H x H' → gName j x (wipe σ [j]) H' fun σ2 H2 => wipe σ2 [j] = wipe σ [j] ∧ tYes σ2 H2 fun b H3 =>
        if b = true then te σ2 H3 fun y H4 => ∃ acc, H4 D = some (.lst acc) ∧ acc.length < sizeLine ∧ Nx (upd H4 D (.lst (acc ++ [y]))) else Nx H3)
theorem seqV_map {α : Type} (f : α → V) (d : α) (xs : List α) : seqV (fun i => f (xs.getD i d)) xs.length = xs.map f := by
  unfold seqV
  refine List.ext_getElem (by rw [List.length_map, List.length_map, List.length_range]) fun i h1 h2 => ?_
  rw [List.getElem_map, List.getElem_map, List.getElem_range]
  have : i < xs.length := by rw [List.length_map] at h2; exact h2
  rw [List.getD_eq_getElem?_getD, List.getElem?_eq_getElem this]
  rfl
/-- [f(x) for x in xs], known ahead -/
theorem lc_mapA {α : Type} (xs : List α) (g f : α → V) (d : α) {J : It} {G : Hp → Prop} {j : Nat} {te : TE} {σ : St} {H1 : Hp} {D : Addr} {Qd : Hp → Prop} (w : Walk J (xs.map g).length G (YAt (xs.map g))) (hD : H1 D = none) (hn : xs.length < 16777216) (hj : j < σ.length)
    (hG : ∀ H, Same H1 H → G H)
    (step : ∀ a ∈ xs, ∀ H (Z : VK), Same H1 H → (∀ H', Same H H' → Z (f a) H') → te ((σ.set j none).set j (some (g a))) H Z)
    (hd : ∀ H, Same H1 H → H D = some (.lst (xs.map f)) → Qd H) : LcGoal J D te j σ H1 Qd := by
  refine lc_map w (fun i => f (xs.getD i d)) hD (by rw [List.length_map]; exact hn) hj hG (fun _ _ _ _ y => y.1) ?_ fun H s h => hd H s ?_
  · rintro i x H Z hi s ⟨_, hx⟩ z
    rw [List.length_map] at hi
    have e : xs[i]? = some (xs.getD i d) := by rw [List.getD_eq_getElem?_getD, List.getElem?_eq_getElem hi]; rfl
    rw [List.getElem?_map, e] at hx
    cases hx
    exact step _ (List.mem_of_getElem? e) H Z s z
  · rw [h, List.length_map, seqV_map]
/-- [e for x in xs]: what each gives stands in R to its x -/
theorem lc_rel {H1 : Hp} {D : Addr} {α : Type} (xs : List α) {β : α → V → Prop} (R : Hp → α → V → Prop) {ws : List V} (hw : All2 β xs ws) (mono : ∀ H H' a y, Same H H' → R H a y → R H' a y) (lst : ∀ H a y ys ys', R H a y → H D = some (.lst ys) → R (upd H D (.lst ys')) a y) {J : It} {G : Hp → Prop} {j : Nat} {te : TE} {σ : St} {Qd : Hp → Prop} (w : Walk J ws.length G (YAt ws)) (hD : H1 D = none) (hn : xs.length < 16777216) (hj : j < σ.length)
    (hG : ∀ H, Same H1 H → G H)
    (step : ∀ a v, a ∈ xs → v ∈ ws → β a v → ∀ H (Z : VK), Same H1 H → (∃ ys, H D = some (.lst ys)) → (∀ H' y, Same H H' → R H' a y → Z y H') → te ((σ.set j none).set j (some v)) H Z)
    (hd : ∀ H ys, Same H1 H → All2 (R H) xs ys → H D = some (.lst ys) → Qd H) : LcGoal J D te j σ H1 Qd := by
  refine lc_it w (fun i H => ∃ ys, H D = some (.lst ys) ∧ Same H1 H ∧ All2 (R H) (xs.take i) ys) ⟨[], upd_same, same_new hD, by rw [List.take_zero]; exact .nil⟩ (fun i H _ h => hG H h.choose_spec.2.1) ?_ fun H ⟨ys, h1, h2, h3⟩ => hd H ys h2 (by rw [← hw.length, List.take_length] at h3; exact h3) h1
  rintro i v H H2 hi ⟨ys, h1, h2, h3⟩ ⟨e, hv⟩
  subst e
  have hw2 : wipe ((wipe σ [j]).set j (some v)) [j] = wipe σ [j] := by
    show ((σ.set j none).set j (some v)).set j none = σ.set j none
    simp
  refine ⟨hw2, ?_⟩
  obtain ⟨a, ha, hb⟩ := hw.at hv
  have hl := h3.length
  have hi' : i < xs.length := by rw [hw.length]; exact hi
  rw [List.length_take] at hl
  refine step a v (List.mem_of_getElem? ha) (List.mem_of_getElem? hv) hb _ _ h2 ⟨ys, h1⟩ fun H3 y s3 r3 => ⟨ys, s3 _ _ h1, ?_, ?_⟩
  · exact Nat.lt_of_lt_of_le (show ys.length < 16777216 by omega) (by decide)
  · refine ⟨ys ++ [y], upd_same, fun b o hb => ?_, ?_⟩
    · rw [upd_ne (ne_of_none hb hD)]
      exact s3 _ _ (h2 b o hb)
    · rw [List.take_add_one, ha]
      show All2 _ (xs.take i ++ [a]) _
      exact (h3.mono fun a' y' h => lst _ _ _ _ _ (mono _ _ _ _ s3 h) (s3 _ _ h1)).snoc (lst _ _ _ _ _ r3 (s3 _ _ h1))
/-- [e for k in ..], each e drawn at the well p: what each gives is P -/
theorem lc_drawn {J : It} {n : Nat} {G : Hp → Prop} {Y : Nat → Hp → V → Hp → Prop} (w : Walk J n G Y) (P : V → Prop) {p : Addr} {j : Nat} {te : TE} {σ : St} {H1 : Hp} {D : Addr} {Qd : Hp → Prop} (W : WellAt H1 p) (hD : H1 D = none) (hn : n < 16777216) (hj : j < σ.length)
    (hG : ∀ H, G H) (hY : ∀ i H x H', Y i H x H' → H' = H)
    (step : ∀ i x H (Z : VK), i < n → KeepX p H1 H → WellAt H p → Y i H x H → (∀ H' y, KeepX p H H' → WellAt H' p → P y → Z y H') → te ((σ.set j none).set j (some x)) H Z)
    (hd : ∀ H ys, KeepX p H1 H → WellAt H p → ys.length = n → (∀ y ∈ ys, P y) → H D = some (.lst ys) → Qd H) : LcGoal J D te j σ H1 Qd := by
  have npD : D ≠ p := fun e => by obtain ⟨_, _, _, _, w⟩ := W; rw [← e, hD] at w; cases w
  refine lc_it w (fun i H => ∃ ys, H D = some (.lst ys) ∧ KeepX p H1 H ∧ WellAt H p ∧ ys.length = i ∧ ∀ y ∈ ys, P y) ⟨[], upd_same, keepX_of (same_new hD), W.same (same_new hD), rfl, fun _ h => by cases h⟩ (fun i H _ _ => hG H) ?_ fun H ⟨ys, h1, h2, h3, h4, h5⟩ => hd H ys h2 h3 h4 h5 h1
  rintro i v H H2 hi ⟨ys, h1, h2, h3, h4, h5⟩ y
  have e := hY _ _ _ _ y
  subst e
  have hw2 : wipe ((wipe σ [j]).set j (some v)) [j] = wipe σ [j] := by
    show ((σ.set j none).set j (some v)).set j none = σ.set j none
    simp
  refine ⟨hw2, ?_⟩
  refine step i v _ _ hi h2 h3 y fun H3 z k3 W3 pz => ⟨ys, k3 _ _ npD h1, ?_, ?_⟩
  · exact Nat.lt_of_lt_of_le (show ys.length < 16777216 by omega) (by decide)
  · refine ⟨ys ++ [z], upd_same, fun b o nb hb => ?_, ?_, by rw [List.length_append, h4]; rfl, fun y hy => ?_⟩
    · rw [upd_ne (ne_of_none hb hD)]
      exact k3 _ _ nb (h2 b o nb hb)
    · obtain ⟨a, b, c, d, w⟩ := W3
      exact ⟨a, b, c, d, by rw [upd_ne npD.symm]; exact w⟩
    · rcases List.mem_append.mp hy with h | h
      · exact h5 y h
      · rw [List.mem_singleton.mp h]; exact pz

def SOMEN : List Str := ["a", "b", "i", "zz", "iff", "en", "cells", "giver", "mainly", "lesss", "sets", "whil"]
def BAD1 : List Str := ["if", "end", "ask", "set", "put", "fun", "main", "else", "skip", "draw", "tell", "call", "give"]
def BAD2 : List Str := ["cell", "plus", "over", "rest", "less", "same", "while", "minus", "times"]
theorem someN_ok : ∀ s ∈ SOMEN, isNameW s = true := by decide +kernel
theorem bad1_ok : ∀ s ∈ BAD1, isNameW (s ++ Str.ofString "x") = true ∧ s.length ≤ 6 := by decide +kernel
theorem bad2_ok : ∀ s ∈ BAD2, isNameW (Str.ofString "x" ++ s) = true ∧ s.length ≤ 6 := by decide +kernel
theorem words_bad : ∀ s ∈ PAIRW ++ (ROWW ++ OTHW), s ∈ BAD1 ∨ s ∈ BAD2 := by decide +kernel
/-- the k-th letter -/
theorem letter_at {n : Int} (h0 : 0 ≤ n) (h1 : n < 26) : ∃ c : Nat, atI (tl (Str.ofString "abcdefghijklmnopqrstuvwxyz")) n = some c ∧ 97 ≤ c ∧ c ≤ 122 := by
  have e : tl (Str.ofString "abcdefghijklmnopqrstuvwxyz") = (List.range 26).map (97 + ·) := by decide +kernel
  have hk : n.toNat < 26 := by omega
  have ek : n = ((n.toNat : Nat) : Int) := by omega
  rw [e, ek]
  refine ⟨97 + n.toNat, atI_nat ?_, by omega, by omega⟩
  rw [List.getElem?_map, List.getElem?_range hk]
  rfl
theorem name_of {s : Str} (h1 : 1 ≤ (tl s).length) (h2 : (tl s).length ≤ 6) (h3 : ∀ c ∈ tl s, 97 ≤ c ∧ c ≤ 122) (h4 : s ∉ BAD1) (h5 : s ∉ BAD2) : isNameW s = true := by
  have no : ∀ l : List Str, (∀ x ∈ l, x ∈ PAIRW ++ (ROWW ++ OTHW)) → s ∉ l := fun l hl hs => by
    rcases words_bad s (hl s hs) with h | h
    · exact h4 h
    · exact h5 h
  rw [nameW_true h1 h2 (no _ fun x hx => List.mem_append_left _ hx) (no _ fun x hx => List.mem_append_right _ (List.mem_append_left _ hx)) (no _ fun x hx => List.mem_append_right _ (List.mem_append_right _ hx))]
  refine List.all_eq_true.mpr fun c hc => ?_
  have := h3 c hc
  unfold isLow
  simp only [Bool.and_eq_true, decide_eq_true_eq]
  exact this

/-! ### told tuples of the law -/
theorem ToldE.keep {K : PySem.W.Frag} {p : Addr} {H H' : Hp} (k : KeepX p H H') (W : WellAt H p) : ∀ {e : Ex} {v : V}, ToldE K H e v → ToldE K H' e v
  | .num n, v, ⟨t, h1, h2⟩ => ⟨t, h1, k.tup W h2⟩
  | .box n, v, ⟨t, h1, h2⟩ => ⟨t, h1, k.tup W h2⟩
  | .cell e, v, ⟨t, i, h1, h2, h3⟩ => ⟨t, i, h1, k.tup W h2, ToldE.keep k W h3⟩
  | .two w l r, v, ⟨t, a, b, h1, h2, h3, h4⟩ => ⟨t, a, b, h1, k.tup W h2, ToldE.keep k W h3, ToldE.keep k W h4⟩
theorem in_num : inV (.str "number") [.str "number", .str "box"] = true := by decide +kernel
theorem in_box : inV (.str "box") [.str "number", .str "box"] = true := by decide +kernel
theorem in_cell : inV (.str "cell") [.str "number", .str "box"] = false := by decide +kernel
theorem in_pair {w : Str} (h : w ∈ PAIRW) : inV (.str w) [.str "number", .str "box"] = false := by
  have : ∀ w ∈ PAIRW, inV (.str w) [.str "number", .str "box"] = false := by decide +kernel
  exact this w h
theorem pair_ne {w : Str} (h : w ∈ PAIRW) : w ≠ "number" ∧ w ≠ "box" ∧ w ≠ "cell" := by
  have : ∀ w ∈ PAIRW, w ≠ "number" ∧ w ≠ "box" ∧ w ≠ "cell" := by decide +kernel
  exact this w h
def rStrAny : List V → Hp → VK → Prop := fun xs H Q => (∃ i, xs = [.int i] ∧ i.natAbs.log2 < 1920 ∧ Q (.str (toString i)) H) ∨ (∃ a, xs = [.str a] ∧ Q (.str a) H)
theorem call_str_any {X : Cx} : CallR X (.type "str") rStrAny := by
  intro pins s σ H xs us Q I r h
  rcases h with h | h
  · exact call_str_int pins s σ H xs us Q I r h
  · exact SkE.call_str_str pins s σ H xs us Q I r h
theorem sizeL2 {n : Nat} (h : n ≤ 16777216) : n ≤ sizeLine := Nat.le_trans h (by decide)
def spLParts (K : PySem.W.Frag) (n : Nat) : Sp := fun vs H Q _ => ∃ (e : Ex) (v : V), vs = [v] ∧ ToldE K H e v ∧ e.Wf ∧ e.depth ≤ n ∧ ∀ H', Same H H' → Q (.int e.parts) H'
def spLWords (K : PySem.W.Frag) (n : Nat) : Sp := fun vs H Q _ => ∃ (e : Ex) (v : V), vs = [v] ∧ ToldE K H e v ∧ e.Wf ∧ e.parts ≤ 1000 ∧ e.depth ≤ n ∧ ∀ H', Same H H' → Q (.str e.text) H'
def spLExpr (K : PySem.W.Frag) (n : Nat) : Sp := fun vs H Q _ => ∃ (p : Addr) (d m : Int), vs = [.ref p, .int d, .int m] ∧ WellAt H p ∧ 1 ≤ d ∧ d ≤ n ∧ n ≤ 8 ∧ 1 ≤ m ∧ ∀ e v H', e.Wf → (e.depth : Int) ≤ d → (e.parts : Int) ≤ m → ToldE K H' e v → KeepX p H H' → WellAt H' p → Q v H'
theorem text_cell (e : Ex) : Txt.join (Str.ofString " ") [Str.ofString "cell", e.text] = (Ex.cell e).text := by
  refine ext_tl ?_
  have b : tl (Str.ofString " ") = [32] := by decide +kernel
  have c1 : tl (Str.ofString "cell ") = tl (Str.ofString "cell") ++ [32] := by decide +kernel
  show _ = tl (Str.ofString "cell " ++ e.text)
  rw [join_eq, tl_join, b, tl_append, c1, List.append_assoc]
  rfl

def MENU1 : List Str := ["", "0", "1", "00", "01", "999999", "1000000", "0999999", "-1", "1.0", "a", "abcdef", "abcdefg", "A", "a1"]
def MENU2 : List Str := ["cell", "plus", "minus", "times", "over", "rest", "less", "same", "skip", "set", "if", "main"]
def MENU3 : List Str := ["end", "give", "a_b"]
theorem menu_ok : ∀ s ∈ (MENU1 ++ MENU2) ++ MENU3, (tl s).length ≤ 7 ∧ ∀ c ∈ tl s, c < 128 := by decide +kernel
def WordOk (s : Str) : Prop := (tl s).length ≤ 7 ∧ ∀ c ∈ tl s, c < 128
def spMenu : Sp := fun vs H Q _ => ∃ (p : Addr), vs = [.ref p] ∧ WellAt H p ∧ ∀ (s : Str) H', WordOk s → KeepX p H H' → WellAt H' p → Q (.str s) H'
def spSpoiled : Sp := fun vs H Q _ => ∃ (p a : Addr) (ws : List Str), vs = [.ref p, .ref a] ∧ WellAt H p ∧ H a = some (.lst (ws.map V.str)) ∧ a ≠ p ∧ ws ≠ [] ∧ ws.length ≤ 100 ∧ (∀ s ∈ ws, WordOk s) ∧
  ∀ (b : Addr) (us : List Str) H', H' b = some (.lst (us.map V.str)) → b ≠ p → us ≠ [] → us.length ≤ ws.length + 1 → (∀ s ∈ us, WordOk s) → KeepX p H H' → WellAt H' p → Q (.ref b) H'
def Ascii (s : Str) : Prop := ∀ c ∈ tl s, c < 128
def spTruthA (f : Str → Bool) : Sp := fun vs H Q _ => ∃ s : Str, vs = [.str s] ∧ s.length ≤ 1000 ∧ Ascii s ∧ ∀ H', Same H H' → Q (.bl (f s)) H'
def spLRead (K : PySem.W.Frag) (n : Nat) : Sp := fun vs H Q _ => ∃ (a : Addr) (ws : List Str) (i : Nat), vs = [.ref a, .int i] ∧ SqL K H a (ws.map V.str) ∧ ws.length ≤ 1000 ∧ (∀ s ∈ ws, s.length ≤ 1000 ∧ Ascii s) ∧ ws.length - i < n ∧
  (∀ e r, parseE n (ws.drop i) = some (e, r) → ∀ t v H', Same H H' → H' t = some (.tup [v, .int ((ws.length - r.length : Nat) : Int), .int e.depth]) → ToldE K H' e v → Q (.ref t) H') ∧
  (parseE n (ws.drop i) = none → ∀ H', Same H H' → Q .non H')
def spDue (K : PySem.W.Frag) : Sp := fun vs H Q _ => ∃ (s : Str), vs = [.str s] ∧ s.length ≤ 156 ∧ Ascii s ∧
  (∀ e v H', parseAll (Txt.split s " ").length (Txt.split s " ") = some [e] → Same H H' → ToldE K H' e v → Q v H') ∧
  ((∀ e, parseAll (Txt.split s " ").length (Txt.split s " ") ≠ some [e]) → ∀ H', Same H H' → Q .non H')
def spFound (K : PySem.W.Frag) : Sp := fun vs H Q _ => ∃ x : V, vs = [x] ∧ ((∃ (s : Str), x = .str s ∧ s.length ≤ 99999 ∧
  (∀ e v H', parseAll (Txt.split s " ").length (Txt.split s " ") = some [e] → Same H H' → ToldE K H' e v → Q v H') ∧
  ((∀ e, parseAll (Txt.split s " ").length (Txt.split s " ") ≠ some [e]) → ∀ H', Same H H' → Q (.str "refused") H')) ∨
  (∃ t, TyX K H x t ∧ PySem.W.kitOne K t (.type "str") = some false ∧ ∀ H', Same H H' → Q (.str "refused") H'))
theorem cut_from {ws : List Str} {i : Nat} (h : i ≤ ws.length) : cutV (ws.map V.str) (some (i : Int)) none = (ws.drop i).map V.str := by
  unfold cutV
  rw [HT.sIx_nat, HT.sIx_none, List.length_map, Nat.min_eq_left h, ← List.map_drop, ← List.map_take, List.take_of_length_le (by rw [List.length_drop]; exact Nat.le_refl _)]
theorem cut_to {ws : List Str} {i : Nat} (h : i ≤ ws.length) : cutV (ws.map V.str) none (some (i : Int)) = (ws.take i).map V.str := by
  unfold cutV
  rw [HT.sIx_nat, HT.sIx_none, List.length_map, Nat.min_eq_left h, Nat.sub_zero, List.drop_zero, ← List.map_take]
theorem strOk_ascii {s : Str} (h : Ascii s) : PyData.strOk s = true := by
  unfold PyData.strOk
  rw [← Array.all_toList]
  refine List.all_eq_true.mpr fun c hc => ?_
  have := h c hc
  simp only [decide_eq_true_eq]
  omega
def signs (l : List Nat) : List V := l.map fun c => V.str ⟨#[c]⟩
theorem dp_signs {K : PySem.W.Frag} {H : Hp} : ∀ l : List Nat, DpAll K H (signs l) (l.map fun c => PyData.str ⟨#[c]⟩)
  | [] => .nil
  | c :: r => .cons (.str _) (dp_signs r)
theorem lay_signs : ∀ {l : List Nat}, (∀ c ∈ l, c < 128) → PyData.canLayAll0 (l.map fun c => PyData.str ⟨#[c]⟩) = true
  | [], _ => rfl
  | c :: r, h => by
    have h1 : PyData.strOk ⟨#[c]⟩ = true := strOk_ascii fun d hd => by
      have : d = c := List.mem_singleton.mp hd
      rw [this]; exact h c List.mem_cons_self
    show (PyData.strOk ⟨#[c]⟩ && PyData.canLayAll0 (r.map fun c => PyData.str ⟨#[c]⟩)) = true
    rw [h1, lay_signs fun d hd => h d (List.mem_cons_of_mem _ hd)]; rfl
theorem deep_signs : ∀ l : List Nat, PyData.depthAll (l.map fun c => PyData.str ⟨#[c]⟩) = 0
  | [] => rfl
  | c :: r => by show max 0 (PyData.depthAll (r.map fun c => PyData.str ⟨#[c]⟩)) = 0; rw [deep_signs r]; rfl
theorem signs_shaped {l : List Nat} (h : ∀ c ∈ l, c < 128) : SeqAt.shaped (.list (l.map fun c => PyData.str ⟨#[c]⟩)) = true := by
  show (PyData.canLayAll0 _ && decide (PyData.depthAll _ + 1 ≤ 64)) = true
  rw [lay_signs h, deep_signs]; rfl
theorem signs_eqv : ∀ l : List Nat, PyData.eqv (.list (l.map fun c => PyData.str ⟨#[c]⟩)) (.list []) = decide (l = [])
  | [] => rfl
  | c :: r => by rw [decide_eq_false (by simp)]; rfl
theorem sign_lt (a b : Nat) : [a] < [b] ↔ a < b := by
  constructor
  · intro h
    cases h with
    | rel h => exact h
    | cons h => cases h
  · exact fun h => .rel h
theorem lt_left {c n : Nat} {b : Str} (hb : b.cps.toList = [n]) : (⟨#[c]⟩ : Str).cps.toList < b.cps.toList ↔ c < n := by
  rw [hb]; exact sign_lt c n
theorem lt_right {c n : Nat} {b : Str} (hb : b.cps.toList = [n]) : b.cps.toList < (⟨#[c]⟩ : Str).cps.toList ↔ n < c := by
  rw [hb]; exact sign_lt n c
theorem filt_empty {f : Nat → Bool} (l : List Nat) : decide (l.filter (fun c => !f c) = []) = l.all f := by
  rw [Bool.eq_iff_iff, decide_eq_true_eq, List.filter_eq_nil_iff, List.all_eq_true]
  constructor
  · intro h c hc
    have := h c hc
    simp at this
    exact this
  · intro h c hc
    rw [h c hc]; simp
theorem refused_shaped : SeqAt.shaped (.str "refused") = true := by decide +kernel
theorem due_all {e : Ex} {ws : List Str} {n : Nat} (hn : ws.length < n) (h6 : 6 ≤ n) : parseAll ws.length ws = some [e] ↔ (parseE n ws = some (e, []) ∧ e.depth ≤ 6 ∧ e.parts ≤ 15) := by
  constructor
  · intro h
    cases ws with
    | nil => cases h
    | cons x t =>
      rw [parseAll_step] at h
      cases q : parseE 6 (x :: t) with
      | none => rw [q] at h; cases h
      | some p =>
        obtain ⟨e1, r⟩ := p
        rw [q] at h
        simp only at h
        by_cases c : e1.parts ≤ 15
        · rw [if_pos c] at h
          cases q2 : parseAll r.length r with
          | none => rw [q2] at h; cases h
          | some es =>
            rw [q2] at h
            have h2 : e1 :: es = [e] := Option.some.inj h
            injection h2 with h3 h4
            subst h3 h4
            have hr : r = [] := by
              cases r with
              | nil => rfl
              | cons y z =>
                rw [parseAll_step] at q2
                cases q3 : parseE 6 (y :: z) with
                | none => rw [q3] at q2; cases q2
                | some p3 =>
                  obtain ⟨e3, r3⟩ := p3
                  rw [q3] at q2
                  simp only at q2
                  by_cases c3 : e3.parts ≤ 15
                  · rw [if_pos c3] at q2
                    cases q4 : parseAll r3.length r3 with
                    | none => rw [q4] at q2; cases q2
                    | some es => rw [q4] at q2; cases q2
                  · rw [if_neg c3] at q2; cases q2
            subst hr
            obtain ⟨w1, w2, w3⟩ := parse_wf q
            refine ⟨?_, w2, c⟩
            rw [w3]
            exact parse_toks w1 (by omega) []
        · rw [if_neg c] at h; cases h
  · rintro ⟨h1, h2, h3⟩
    obtain ⟨w1, _, w3⟩ := parse_wf h1
    rw [List.append_nil] at w3
    rw [w3]
    have q := parse_toks w1 h2 []
    rw [List.append_nil] at q
    cases h4 : e.toks with
    | nil => have := e.toks_len; rw [h4] at this; have := e.parts_pos; simp at *; omega
    | cons x r =>
      rw [h4] at q
      rw [parseAll_step, q]
      show (if e.parts ≤ 15 then some [e] else none) = some [e]
      rw [if_pos h3]
def WL19 : List Str := ["skip", "set", "put", "ask", "draw", "tell", "if", "else", "end", "while", "call", "fun", "main", "give", "cell", "plus", "minus", "times", "over"]
def WL3 : List Str := ["rest", "less", "same"]
theorem wl_split : Txt.split (Str.ofString "skip set put ask draw tell if else end while call fun main give cell plus minus times over") (Str.ofString " ") = WL19 := by decide +kernel
theorem wl_to : ∀ s ∈ WL19 ++ WL3, s ∈ PAIRW ∨ s ∈ ROWW ∨ s ∈ OTHW := by decide +kernel
theorem wl_of : (∀ s ∈ PAIRW, s ∈ WL19 ++ WL3) ∧ (∀ s ∈ ROWW, s ∈ WL19 ++ WL3) ∧ (∀ s ∈ OTHW, s ∈ WL19 ++ WL3) := by decide +kernel
def KVS : List (Key × V) := (.inr "cell", .int 1) :: PAIRW.map fun w => (.inr w, .int 2)
def manyOf (w : Str) : Nat := if w = "cell" then 1 else if w ∈ PAIRW then 2 else 0
theorem kvs_merge : mergeK [] KVS = KVS := by kernel_rfl
theorem kvs_get (w : Str) : (valV KVS (.inr w)).getD (.int 0) = .int (manyOf w : Nat) := by
  unfold manyOf
  by_cases h0 : w = "cell"
  · rw [if_pos h0, h0]; exact (congrArg (fun z : Option V => z.getD (.int 0)) (valV_pos rfl))
  · rw [if_neg h0]
    unfold KVS
    rw [valV_neg (fun e => h0 (Sum.inr.inj e).symm)]
    have key : ∀ L : List Str, (valV (L.map fun w => ((.inr w : Key), V.int 2)) (.inr w)).getD (.int 0) = .int ((if w ∈ L then 2 else 0 : Nat) : Int) := by
      intro L
      induction L with
      | nil => rfl
      | cons x r ih =>
        rw [List.map_cons]
        by_cases hx : x = w
        · rw [valV_pos (by rw [hx]), if_pos (by rw [hx]; exact List.mem_cons_self)]; rfl
        · rw [valV_neg (fun e => hx (Sum.inr.inj e)), ih]
          by_cases hm : w ∈ r
          · rw [if_pos hm, if_pos (List.mem_cons_of_mem _ hm)]
          · rw [if_neg hm, if_neg (fun h => (List.mem_cons.mp h).elim (fun e => hx e.symm) hm)]
    exact key PAIRW
/-- so many expressions, one behind the other -/
def parseK (n : Nat) : Nat → List Str → Option (List Ex × List Str)
  | 0, ws => some ([], ws)
  | k + 1, ws => match parseK n k ws with
    | none => none
    | some (es, r) => match parseE n r with
      | none => none
      | some (e, r2) => some (es ++ [e], r2)
theorem parseK_none {n : Nat} {ws : List Str} {k : Nat} (h : parseK n k ws = none) : ∀ j, parseK n (k + j) ws = none
  | 0 => h
  | j + 1 => by
    show (match parseK n (k + j) ws with | none => none | some (es, r) => match parseE n r with | none => none | some (e, r2) => some (es ++ [e], r2)) = none
    rw [parseK_none h j]
def dmax (es : List Ex) : Nat := es.foldl (fun d e => max d e.depth) 0
theorem dmax_snoc (es : List Ex) (e : Ex) : dmax (es ++ [e]) = max (dmax es) e.depth := by
  unfold dmax
  rw [List.foldl_append]; rfl
theorem parseE_many {n : Nat} {w : Str} {r : List Str} (h1 : isValW w = false) (h2 : isNameW w = false) : parseE (n + 1) (w :: r) = (match manyOf w with
    | 0 => none
    | k + 1 => match parseK n (k + 1) r with
      | none => none
      | some (es, r2) => match es with
        | [e] => some (.cell e, r2)
        | [e1, e2] => some (.two w e1 e2, r2)
        | _ => none) := by
  rw [parseE_cons, if_neg (by rw [h1]; decide), if_neg (by rw [h2]; decide)]
  unfold manyOf
  by_cases c1 : w = "cell"
  · rw [if_pos c1, if_pos c1]
    show _ = (match (match parseE n r with | none => none | some (e, r2) => some (([] : List Ex) ++ [e], r2)) with | none => none | some (es, r2) => _)
    cases parseE n r with
    | none => rfl
    | some p => rfl
  · rw [if_neg c1, if_neg c1]
    by_cases c2 : w ∈ PAIRW
    · rw [if_pos c2, if_pos c2]
      show _ = (match (match (match parseE n r with | none => none | some (e, r2) => some (([] : List Ex) ++ [e], r2)) with | none => none | some (es, r) => match parseE n r with | none => none | some (e, r2) => some (es ++ [e], r2)) with | none => none | some (es, r2) => _)
      cases parseE n r with
      | none => rfl
      | some p =>
        obtain ⟨e1, r1⟩ := p
        simp only
        cases parseE n r1 with
        | none => rfl
        | some p => rfl
    · rw [if_neg c2, if_neg c2]
theorem parseK_len {n : Nat} {ws : List Str} : ∀ {k : Nat} {es : List Ex} {r : List Str}, parseK n k ws = some (es, r) → es.length = k
  | 0, es, r, h => by
    have : ([], ws) = (es, r) := Option.some.inj h
    rw [← (Prod.mk.inj this).1]; rfl
  | k + 1, es, r, h => by
    have h' : (match parseK n k ws with | none => none | some (es, r) => match parseE n r with | none => none | some (e, r2) => some (es ++ [e], r2)) = some (es, r) := h
    cases q : parseK n k ws with
    | none => rw [q] at h'; cases h'
    | some p =>
      obtain ⟨es1, r1⟩ := p
      rw [q] at h'
      simp only at h'
      cases q2 : parseE n r1 with
      | none => rw [q2] at h'; cases h'
      | some p2 =>
        obtain ⟨e2, r2⟩ := p2
        rw [q2] at h'
        have := (Prod.mk.inj (Option.some.inj h')).1
        rw [← this, List.length_append, parseK_len q]; rfl
theorem split_len {s : Str} : (Txt.split s " ").length ≤ s.length + 1 ∧ ∀ p ∈ Txt.split s " ", p.length ≤ s.length := by
  have e := PySem.StrLaws.join_split s (Str.ofString " ")
  have e2 := congrArg tl e
  have b : tl (Str.ofString " ") = [32] := by decide +kernel
  rw [tl_join, b] at e2
  have q := joinL_len ((Txt.split s (Str.ofString " ")).map tl)
  rw [e2, List.length_map, ← len_tl s] at q
  refine ⟨q.1, fun p hp => ?_⟩
  have := q.2 (tl p) (List.mem_map.mpr ⟨p, hp, rfl⟩)
  rw [← len_tl p] at this
  exact this
theorem joinL_sub : ∀ {L : List (List Nat)} {p : List Nat} {c : Nat} {z : List Nat}, p ∈ L → c ∈ p → c ∈ joinL z L
  | [x], p, c, z, h, hc => by rw [List.mem_singleton.mp h] at hc; exact hc
  | x :: y :: r, p, c, z, h, hc => by
    show c ∈ x ++ (z ++ joinL z (y :: r))
    rcases List.mem_cons.mp h with rfl | h
    · exact List.mem_append_left _ hc
    · exact List.mem_append_right _ (List.mem_append_right _ (joinL_sub h hc))
theorem split_ascii {s : Str} (h : Ascii s) : ∀ p ∈ Txt.split s " ", Ascii p := by
  have e2 := congrArg tl (PySem.StrLaws.join_split s (Str.ofString " "))
  rw [tl_join] at e2
  intro p hp c hc
  refine h c ?_
  rw [← e2]
  exact joinL_sub (List.mem_map.mpr ⟨p, hp, rfl⟩) hc

theorem cutV_take (xs : List V) (k : Nat) : cutV xs none (some (k : Int)) = xs.take k := by
  unfold cutV
  rw [HT.sIx_nat, HT.sIx_none, Nat.sub_zero, List.drop_zero]
  by_cases h : k ≤ xs.length
  · rw [Nat.min_eq_left h]
  · rw [Nat.min_eq_right (by omega), List.take_of_length_le (Nat.le_refl _), List.take_of_length_le (by omega)]
theorem cutV_drop (xs : List V) (k : Nat) : cutV xs (some (k : Int)) none = xs.drop k := by
  unfold cutV
  rw [HT.sIx_nat, HT.sIx_none]
  by_cases h : k ≤ xs.length
  · rw [Nat.min_eq_left h, List.take_of_length_le (by rw [List.length_drop]; exact Nat.le_refl _)]
  · rw [Nat.min_eq_right (by omega), List.drop_eq_nil_of_le (Nat.le_refl _), List.drop_eq_nil_of_le (by omega), List.take_nil]
/-- [e for x in xs if t], t never true -/
theorem lc_none {J : It} {n : Nat} {G : Hp → Prop} {Y : Nat → Hp → V → Hp → Prop} (w : Walk J n G Y) {j : Nat} {tt : TT} {te : TE} {σ : St} {H1 : Hp} {D : Addr} {Qd : Hp → Prop} (hD : H1 D = none)
    (hG : ∀ H, Same H1 H → G H) (hY : ∀ i H x H', Y i H x H' → H' = H)
    (step : ∀ i x H (Z : Bool → Hp → Prop), i < n → Same H1 H → Y i H x H → (∀ H', Same H H' → Z false H') → tt ((σ.set j none).set j (some x)) H Z)
    (hd : ∀ H, Same H1 H → H D = some (.lst []) → Qd H) :
    ∃ W : Nat → Nat → Hp → Prop, (∃ m, W 0 m (upd H1 D (.lst []))) ∧ ∀ i m H, W i m H →
      (J.stop i H ∧ Qd H) ∨ (J.go i H ∧ ∃ Nx : Hp → Prop, (∀ H', Nx H' → ∃ m', m' < m ∧ W (i + 1) m' H') ∧ ∀ x H', J.yld i H x H' → gName j x (wipe σ [j]) H' fun σ2 H2 => wipe σ2 [j] = wipe σ [j] ∧ tt σ2 H2 fun b H3 =>
        if b = true then te σ2 H3 fun y H4 => ∃ acc, H4 D = some (.lst acc) ∧ acc.length < sizeLine ∧ Nx (upd H4 D (.lst (acc ++ [y]))) else Nx H3) := by
  refine lc_it w (fun _ H => H D = some (.lst []) ∧ Same H1 H) ⟨upd_same, same_new hD⟩ (fun i H _ h => hG H h.2) ?_ fun H h => hd H h.2 h.1
  rintro i x H H2 hi ⟨h1, h2⟩ y
  have e := hY _ _ _ _ y
  subst e
  have hw : wipe ((wipe σ [j]).set j (some x)) [j] = wipe σ [j] := by
    show ((σ.set j none).set j (some x)).set j none = σ.set j none
    simp
  refine ⟨hw, ?_⟩
  refine step i x _ _ hi h2 y fun H3 s3 => ?_
  exact iteF ⟨s3 _ _ h1, h2.trans s3⟩
/-- [x for x in xs if t], over texts -/
theorem lc_filter {xs : List Str} (p : Str → Bool) {J : It} {G : Hp → Prop} (w : Walk J (xs.map V.str).length G (YAt (xs.map V.str))) {j : Nat} {tt : TT} {te : TE} {σ : St} {H1 : Hp} {D : Addr} {Qd : Hp → Prop} (hD : H1 D = none) (hn : xs.length < 16777216)
    (hG : ∀ H, Same H1 H → G H)
    (step : ∀ s ∈ xs, ∀ H (Z : Bool → Hp → Prop), Same H1 H → (∀ H', Same H H' → Z (p s) H') → tt ((σ.set j none).set j (some (.str s))) H Z)
    (elt : ∀ s ∈ xs, ∀ H (Z : VK), Z (.str s) H → te ((σ.set j none).set j (some (.str s))) H Z)
    (hd : ∀ H, Same H1 H → H D = some (.lst ((xs.filter p).map V.str)) → Qd H) :
    ∃ W : Nat → Nat → Hp → Prop, (∃ m, W 0 m (upd H1 D (.lst []))) ∧ ∀ i m H, W i m H →
      (J.stop i H ∧ Qd H) ∨ (J.go i H ∧ ∃ Nx : Hp → Prop, (∀ H', Nx H' → ∃ m', m' < m ∧ W (i + 1) m' H') ∧ ∀ x H', J.yld i H x H' → gName j x (wipe σ [j]) H' fun σ2 H2 => wipe σ2 [j] = wipe σ [j] ∧ tt σ2 H2 fun b H3 =>
        if b = true then te σ2 H3 fun y H4 => ∃ acc, H4 D = some (.lst acc) ∧ acc.length < sizeLine ∧ Nx (upd H4 D (.lst (acc ++ [y]))) else Nx H3) := by
  refine lc_it w (fun i H => H D = some (.lst (((xs.take i).filter p).map V.str)) ∧ Same H1 H) ⟨by rw [List.take_zero]; exact upd_same, same_new hD⟩ (fun i H _ h => hG H h.2) ?_ fun H h => hd H h.2 (by have := h.1; rw [List.length_map, List.take_length] at this; exact this)
  rintro i x H H2 hi ⟨h1, h2⟩ ⟨e, hx⟩
  subst e
  have hw : wipe ((wipe σ [j]).set j (some x)) [j] = wipe σ [j] := by
    show ((σ.set j none).set j (some x)).set j none = σ.set j none
    simp
  refine ⟨hw, ?_⟩
  rw [List.getElem?_map] at hx
  obtain ⟨s, hs, rfl⟩ := Option.map_eq_some_iff.mp hx
  have hm := List.mem_of_getElem? hs
  have et : (xs.take (i + 1)).filter p = (xs.take i).filter p ++ (if p s = true then [s] else []) := by
    rw [List.take_add_one, hs, List.filter_append]
    show _ ++ ([s].filter p) = _
    rw [List.filter_cons, List.filter_nil]
  refine step s hm _ _ h2 fun H3 s3 => ?_
  cases hp : p s with
  | false =>
    rw [hp, if_neg Bool.false_ne_true, List.append_nil] at et
    exact iteF ⟨by rw [et]; exact s3 _ _ h1, h2.trans s3⟩
  | true =>
    rw [hp, if_pos rfl] at et
    refine iteT (elt s hm _ _ ⟨_, s3 _ _ h1, ?_, ?_, fun b o hb => ?_⟩)
    · rw [List.length_map]
      have q1 := List.length_filter_le p (xs.take i)
      have q2 := List.length_take_le i xs
      have q3 : (xs.take i).length ≤ xs.length := by rw [List.length_take]; omega
      exact Nat.lt_of_lt_of_le (show _ < 16777216 by omega) (by decide)
    · rw [upd_same, et, List.map_append]; rfl
    · rw [upd_ne (ne_of_none hb hD)]; exact s3 _ _ (h2 b o hb)
theorem filt_all {xs : List Str} {p : Str → Bool} : decide (xs.filter (fun s => !p s) = []) = xs.all p := by
  rw [Bool.eq_iff_iff, decide_eq_true_eq, List.filter_eq_nil_iff, List.all_eq_true]
  constructor
  · intro h c hc
    have := h c hc
    simp at this
    exact this
  · intro h c hc
    rw [h c hc]; simp

/-! ### books as texts -/
def IsVal (n : Int) : Prop := 0 ≤ n ∧ n < 1000000
def adT (ad : List Int) : Str := if ad = [] then Str.ofString "-" else Txt.join (Str.ofString ".") (ad.map numT)
structure Ent where
  w : Str
  ad : List Int
  ms : List Int
def Ent.Wf (e : Ent) : Prop := ((e.w = "done" ∧ e.ms = []) ∨ e.w = "part" ∨ e.w = "kept") ∧ (∀ n ∈ e.ad, IsVal n) ∧ e.ad.length ≤ 100 ∧ (∀ n ∈ e.ms, n = -1 ∨ IsVal n) ∧ e.ms.length ≤ 100
def Ent.words (e : Ent) : List Str := e.w :: adT e.ad :: e.ms.map numT
def Ent.text (e : Ent) : Str := Txt.join (Str.ofString " ") e.words
def Ent.data (e : Ent) : PyData := .tuple (.str e.w :: .tuple (e.ad.map .int) :: (if e.w = "done" then [] else [.list (e.ms.map .int)]))
def bookText (es : List Ent) : Str := Txt.join (Str.ofString "\n") (es.map Ent.text)
theorem join_len (y : Str) (b : Nat) (hy : y.length = 1) : ∀ xs : List Str, (∀ x ∈ xs, x.length ≤ b) → (xs.map (·.length)).sum + xs.length * y.length ≤ xs.length * (b + 1) := by
  intro xs
  induction xs with
  | nil => intro _; simp
  | cons x r ih =>
    intro h
    have h1 := h x List.mem_cons_self
    have h2 := ih fun z hz => h z (List.mem_cons_of_mem _ hz)
    simp only [List.map_cons, List.sum_cons, List.length_cons, Nat.add_mul, Nat.one_mul, hy, Nat.mul_one] at h2 ⊢
    omega
theorem joinL_le : ∀ (b : Nat) (L : List (List Nat)), (∀ p ∈ L, p.length ≤ b) → ∀ c, (joinL [c] L).length ≤ L.length * (b + 1)
  | b, [], _, c => by simp [joinL]
  | b, [x], h, c => by have := h x List.mem_cons_self; simp [joinL]; omega
  | b, x :: y :: r, h, c => by
    have ih := joinL_le b (y :: r) (fun p hp => h p (List.mem_cons_of_mem _ hp)) c
    have h1 := h x List.mem_cons_self
    have e : joinL [c] (x :: y :: r) = x ++ ([c] ++ joinL [c] (y :: r)) := rfl
    rw [e, List.length_append, List.length_append]
    simp only [List.length_cons, List.length_nil, Nat.add_mul, Nat.one_mul] at ih ⊢
    omega
theorem join_le {y : Str} {c : Nat} (hy : tl y = [c]) (b : Nat) (xs : List Str) (h : ∀ x ∈ xs, x.length ≤ b) : (Txt.join y xs).length ≤ xs.length * (b + 1) := by
  have q := joinL_le b (xs.map tl) (fun p hp => by
    obtain ⟨x, hx, rfl⟩ := List.mem_map.mp hp
    rw [← len_tl]; exact h x hx) c
  rw [List.length_map] at q
  rw [join_eq, len_tl, tl_join, hy]
  exact q
theorem numT_m1 : numT (-1) = "-1" := by decide +kernel
theorem numT_len {n : Int} (h : n = -1 ∨ IsVal n) : (numT n).length ≤ 6 := by
  rcases h with rfl | h
  · decide +kernel
  · rw [len_tl]; exact (valW_parts (numT_valW h.1 h.2).1).1.2
theorem numT_pos {n : Int} (h : IsVal n) : ∃ c r, tl (numT n) = c :: r ∧ 48 ≤ c ∧ c ≤ 57 := by
  obtain ⟨⟨h1, _⟩, _, h3⟩ := valW_parts (numT_valW h.1 h.2).1
  cases q : tl (numT n) with
  | nil => rw [q] at h1; simp at h1
  | cons c r => exact ⟨c, r, rfl, h3 c (by rw [q]; exact List.mem_cons_self)⟩
theorem numT_free {n : Int} {c : Nat} (h : n = -1 ∨ IsVal n) (hc : c = 32 ∨ c = 10 ∨ c = 46) : c ∉ tl (numT n) := by
  rcases h with rfl | h
  · have : ∀ x ∈ tl (numT (-1)), x = 45 ∨ x = 49 := by decide +kernel
    intro hm
    rcases this c hm with e | e <;> omega
  · exact val_free (numT_valW h.1 h.2).1 (by omega)
theorem tl_dot : tl (Str.ofString ".") = [46] := by decide +kernel
theorem tl_sp : tl (Str.ofString " ") = [32] := by decide +kernel
theorem tl_nl : tl (Str.ofString "\n") = [10] := by decide +kernel
theorem joinL_first : ∀ {L : List (List Nat)} {x : List Nat} {r : List (List Nat)} (c : Nat), L = x :: r → ∃ z, joinL [c] L = x ++ z
  | _, x, [], c, e => ⟨[], by rw [e]; simp [joinL]⟩
  | _, x, y :: r, c, e => ⟨[c] ++ joinL [c] (y :: r), by rw [e]; rfl⟩
theorem adT_dash {ad : List Int} (h : ∀ n ∈ ad, IsVal n) : adT ad = "-" ↔ ad = [] := by
  constructor
  · intro e
    cases ad with
    | nil => rfl
    | cons n r =>
      unfold adT at e
      rw [if_neg (by simp)] at e
      have e2 := congrArg tl e
      rw [join_eq, tl_join, tl_dot] at e2
      obtain ⟨c, q, hq, hc1, hc2⟩ := numT_pos (h n List.mem_cons_self)
      obtain ⟨z, hz⟩ := joinL_first (L := (List.map numT (n :: r)).map tl) (x := tl (numT n)) (r := (r.map numT).map tl) 46 rfl
      rw [hz, hq] at e2
      have : tl (Str.ofString "-") = [45] := by decide +kernel
      rw [this] at e2
      have := (List.cons.inj e2).1
      omega
  · intro e; rw [e]; rfl
theorem adT_len {ad : List Int} (h : ∀ n ∈ ad, IsVal n) (hl : ad.length ≤ 100) : (adT ad).length ≤ 700 := by
  unfold adT
  by_cases c : ad = []
  · rw [if_pos c]; decide +kernel
  · rw [if_neg c]
    have := join_le tl_dot 6 (ad.map numT) fun x hx => by
      obtain ⟨n, hn, rfl⟩ := List.mem_map.mp hx
      exact numT_len (.inr (h n hn))
    rw [List.length_map] at this
    omega
theorem adT_split {ad : List Int} (h : ∀ n ∈ ad, IsVal n) (hne : ad ≠ []) : Txt.split (adT ad) (Str.ofString ".") = ad.map numT := by
  unfold adT
  rw [if_neg hne]
  refine split_join tl_dot (by decide +kernel) (by simpa using hne) fun p hp => ?_
  obtain ⟨n, hn, rfl⟩ := List.mem_map.mp hp
  exact numT_free (.inr (h n hn)) (by omega)
theorem adT_free {ad : List Int} {c : Nat} (h : ∀ n ∈ ad, IsVal n) (hc : c = 32 ∨ c = 10) : c ∉ tl (adT ad) := by
  unfold adT
  by_cases q : ad = []
  · rw [if_pos q]
    have : tl (Str.ofString "-") = [45] := by decide +kernel
    rw [this]
    intro hm; rw [List.mem_singleton] at hm; omega
  · rw [if_neg q, join_eq, tl_join, tl_dot]
    have key : ∀ L : List Int, (∀ n ∈ L, IsVal n) → c ∉ joinL [46] ((L.map numT).map tl) := by
      intro L
      induction L with
      | nil => intro _ hm; simp [joinL] at hm
      | cons n r ih =>
        intro hL
        have h1 := numT_free (c := c) (.inr (hL n List.mem_cons_self)) (by omega)
        cases r with
        | nil => exact h1
        | cons m r =>
          intro hm
          have e : joinL [46] (((n :: m :: r).map numT).map tl) = tl (numT n) ++ ([46] ++ joinL [46] (((m :: r).map numT).map tl)) := rfl
          rw [e] at hm
          rcases List.mem_append.mp hm with hm | hm
          · exact h1 hm
          · rcases List.mem_append.mp hm with hm | hm
            · rw [List.mem_singleton] at hm; omega
            · exact ih (fun z hz => hL z (List.mem_cons_of_mem _ hz)) hm
    exact key ad h
theorem word3 {w : Str} (h : w = "done" ∨ w = "part" ∨ w = "kept") : w.length = 4 ∧ ∀ c ∈ tl w, 97 ≤ c ∧ c ≤ 122 := by
  rcases h with rfl | rfl | rfl <;> exact ⟨by decide +kernel, by decide +kernel⟩
theorem Ent.w3 {e : Ent} (h : e.Wf) : e.w = "done" ∨ e.w = "part" ∨ e.w = "kept" := by
  rcases h.1 with h | h
  · exact .inl h.1
  · exact .inr h
theorem Ent.words_free {e : Ent} (h : e.Wf) {c : Nat} (hc : c = 32 ∨ c = 10) : ∀ p ∈ e.words, c ∉ tl p := by
  intro p hp
  rcases List.mem_cons.mp hp with rfl | hp
  · intro hm; have := (word3 (Ent.w3 h)).2 c hm; omega
  · rcases List.mem_cons.mp hp with rfl | hp
    · exact adT_free h.2.1 hc
    · obtain ⟨n, hn, rfl⟩ := List.mem_map.mp hp
      exact numT_free (h.2.2.2.1 n hn) (by omega)
theorem Ent.split_text {e : Ent} (h : e.Wf) : Txt.split e.text (Str.ofString " ") = e.words :=
  split_join tl_sp (by decide +kernel) (by unfold Ent.words; simp) (Ent.words_free h (.inl rfl))
theorem Ent.words_len {e : Ent} (h : e.Wf) : ∀ p ∈ e.words, p.length ≤ 700 := by
  intro p hp
  rcases List.mem_cons.mp hp with rfl | hp
  · have := (word3 (Ent.w3 h)).1; omega
  · rcases List.mem_cons.mp hp with rfl | hp
    · exact adT_len h.2.1 h.2.2.1
    · obtain ⟨n, hn, rfl⟩ := List.mem_map.mp hp
      have := numT_len (h.2.2.2.1 n hn); omega
theorem Ent.words_n {e : Ent} (h : e.Wf) : e.words.length ≤ 102 := by
  have := h.2.2.2.2
  unfold Ent.words
  simp only [List.length_cons, List.length_map]; omega
theorem Ent.text_len {e : Ent} (h : e.Wf) : e.text.length ≤ 71502 := by
  have := join_le tl_sp 700 e.words (Ent.words_len h)
  have h2 := Ent.words_n h
  have : e.words.length * (700 + 1) ≤ 102 * 701 := Nat.mul_le_mul_right _ h2
  unfold Ent.text
  omega
theorem Ent.text_free {e : Ent} (h : e.Wf) : 10 ∉ tl e.text := by
  unfold Ent.text
  rw [join_eq, tl_join, tl_sp]
  have key : ∀ L : List Str, (∀ p ∈ L, 10 ∉ tl p) → 10 ∉ joinL [32] (L.map tl) := by
    intro L
    induction L with
    | nil => intro _ hm; simp [joinL] at hm
    | cons n r ih =>
      intro hL
      have h1 := hL n List.mem_cons_self
      cases r with
      | nil => exact h1
      | cons m r =>
        intro hm
        have e : joinL [32] ((n :: m :: r).map tl) = tl n ++ ([32] ++ joinL [32] ((m :: r).map tl)) := rfl
        rw [e] at hm
        rcases List.mem_append.mp hm with hm | hm
        · exact h1 hm
        · rcases List.mem_append.mp hm with hm | hm
          · rw [List.mem_singleton] at hm; omega
          · exact ih (fun z hz => hL z (List.mem_cons_of_mem _ hz)) hm
  exact key _ (Ent.words_free h (.inr rfl))
theorem Ent.text_first {e : Ent} (h : e.Wf) : ∃ c r, tl e.text = c :: r := by
  unfold Ent.text
  rw [join_eq, tl_join, tl_sp]
  obtain ⟨z, hz⟩ := joinL_first (L := e.words.map tl) (x := tl e.w) (r := (adT e.ad :: e.ms.map numT).map tl) 32 rfl
  have := (word3 (Ent.w3 h)).1
  rw [len_tl] at this
  cases q : tl e.w with
  | nil => rw [q] at this; simp at this
  | cons c r => exact ⟨c, r ++ z, by rw [hz, q]; rfl⟩
theorem book_split {es : List Ent} (h : ∀ e ∈ es, e.Wf) (hne : es ≠ []) : Txt.split (bookText es) (Str.ofString "\n") = es.map Ent.text := by
  refine split_join tl_nl (by decide +kernel) (by simpa using hne) fun p hp => ?_
  obtain ⟨e, he, rfl⟩ := List.mem_map.mp hp
  exact Ent.text_free (h e he)
theorem book_empty {es : List Ent} (h : ∀ e ∈ es, e.Wf) : bookText es = "" ↔ es = [] := by
  constructor
  · intro q
    cases es with
    | nil => rfl
    | cons e r =>
      have e2 := congrArg tl q
      unfold bookText at e2
      rw [join_eq, tl_join, tl_nl] at e2
      obtain ⟨z, hz⟩ := joinL_first (L := ((e :: r).map Ent.text).map tl) (x := tl e.text) (r := (r.map Ent.text).map tl) 10 rfl
      obtain ⟨c, t, ht⟩ := Ent.text_first (h e List.mem_cons_self)
      rw [hz, ht] at e2
      have : tl (Str.ofString "") = [] := by decide +kernel
      rw [this] at e2
      cases e2
  · intro q; rw [q]; decide +kernel
theorem book_len {es : List Ent} (h : ∀ e ∈ es, e.Wf) (hl : es.length ≤ 100) : (bookText es).length ≤ 7150300 := by
  have := join_le tl_nl 71502 (es.map Ent.text) fun x hx => by
    obtain ⟨e, he, rfl⟩ := List.mem_map.mp hx
    exact Ent.text_len (h e he)
  rw [List.length_map] at this
  have : es.length * (71502 + 1) ≤ 100 * 71503 := Nat.mul_le_mul_right _ hl
  unfold bookText
  omega
/-! ### books in the heap -/
/-- v is the tuple of e; its list of makers, if it has one, lies where N says -/
def EntH (H : Hp) (N : Addr → Prop) (e : Ent) (v : V) : Prop := ∃ t ta, v = .ref t ∧ H ta = some (.tup (e.ad.map V.int)) ∧
  ((e.w = "done" ∧ H t = some (.tup [.str e.w, .ref ta])) ∨ (e.w ≠ "done" ∧ ∃ l, N l ∧ H t = some (.tup [.str e.w, .ref ta, .ref l]) ∧ H l = some (.lst (e.ms.map V.int))))
theorem EntH.same {H H' : Hp} {N : Addr → Prop} {e : Ent} {v : V} (s : Same H H') : EntH H N e v → EntH H' N e v := fun ⟨t, ta, h1, h2, h3⟩ =>
  ⟨t, ta, h1, s _ _ h2, h3.elim (fun h => .inl ⟨h.1, s _ _ h.2⟩) fun ⟨n, l, a, b, c⟩ => .inr ⟨n, l, a, s _ _ b, s _ _ c⟩⟩
theorem EntH.weak {H : Hp} {N M : Addr → Prop} {e : Ent} {v : V} (f : ∀ l, (∃ o, H l = some o) → N l → M l) : EntH H N e v → EntH H M e v := fun ⟨t, ta, h1, h2, h3⟩ =>
  ⟨t, ta, h1, h2, h3.elim .inl fun ⟨n, l, a, b, c⟩ => .inr ⟨n, l, f l ⟨_, c⟩ a, b, c⟩⟩
/-- some lists move, all else stands -/
def KeepL (av : List Addr) (H H' : Hp) : Prop := ∀ q o, q ∉ av → H q = some o → H' q = some o
theorem EntH.keep {H H' : Hp} {N : Addr → Prop} {e : Ent} {v : V} {av : List Addr} (k : KeepL av H H') (hl : ∀ a ∈ av, ∃ xs, H a = some (.lst xs)) (hN : ∀ l, N l → l ∉ av) : EntH H N e v → EntH H' N e v := fun ⟨t, ta, h1, h2, h3⟩ => by
  have nt : ∀ {t : Addr} {xs : List V}, H t = some (.tup xs) → H' t = some (.tup xs) := fun {t xs} h => k _ _ (fun hm => by
    obtain ⟨ys, hy⟩ := hl _ hm
    rw [h] at hy; cases hy) h
  exact ⟨t, ta, h1, nt h2, h3.elim (fun h => .inl ⟨h.1, nt h.2⟩) fun ⟨n, l, a, b, c⟩ => .inr ⟨n, l, a, nt b, k _ _ (hN l a) c⟩⟩
theorem dpAll_ints {K : PySem.W.Frag} {H : Hp} : ∀ ns : List Int, DpAll K H (ns.map V.int) (ns.map PyData.int)
  | [] => .nil
  | n :: r => .cons (.int n) (dpAll_ints r)
theorem EntH.dp {K : PySem.W.Frag} {H : Hp} {N : Addr → Prop} {e : Ent} {v : V} (h : EntH H N e v) : Dp K H v e.data := by
  obtain ⟨t, ta, rfl, h2, h3⟩ := h
  have d2 : Dp K H (.ref ta) (.tuple (e.ad.map .int)) := .tup (SqT.of h2) (dpAll_ints _)
  unfold Ent.data
  rcases h3 with ⟨w, h3⟩ | ⟨w, l, _, h3, h4⟩
  · rw [if_pos w]
    exact .tup (SqT.of h3) (.cons (.str _) (.cons d2 .nil))
  · rw [if_neg w]
    exact .tup (SqT.of h3) (.cons (.str _) (.cons d2 (.cons (.lst (SqL.of h4) (dpAll_ints _)) .nil)))
theorem lay_ints : ∀ ns : List Int, PyData.canLayAll0 (ns.map .int) = true
  | [] => rfl
  | n :: r => by show (true && PyData.canLayAll0 (r.map .int)) = true; rw [lay_ints r]; rfl
theorem deep_ints : ∀ ns : List Int, PyData.depthAll (ns.map .int) = 0
  | [] => rfl
  | n :: r => by show max 0 (PyData.depthAll (r.map .int)) = 0; rw [deep_ints r]; rfl
theorem Ent.lay {e : Ent} (h : e.Wf) : e.data.canLay0 = true := by
  have h1 : PyData.strOk e.w = true := strOk_of fun c hc => ((word3 (Ent.w3 h)).2 c hc).2
  unfold Ent.data
  show (PyData.strOk e.w && (PyData.canLayAll0 (e.ad.map .int) && PyData.canLayAll0 _)) = true
  rw [h1, lay_ints]
  by_cases c : e.w = "done"
  · rw [if_pos c]; rfl
  · rw [if_neg c]
    show (true && (true && (PyData.canLayAll0 (e.ms.map .int) && true))) = true
    rw [lay_ints]; rfl
theorem Ent.deep (e : Ent) : e.data.depth ≤ 2 := by
  unfold Ent.data
  show max 0 (max (PyData.depthAll (e.ad.map .int) + 1) (PyData.depthAll _)) + 1 ≤ 2
  rw [deep_ints]
  by_cases c : e.w = "done"
  · rw [if_pos c]; show max 0 (max 1 0) + 1 ≤ 2; omega
  · rw [if_neg c]
    show max 0 (max 1 (max (PyData.depthAll (e.ms.map .int) + 1) 0)) + 1 ≤ 2
    rw [deep_ints]; omega
def bookData (es : List Ent) : PyData := .list (es.map Ent.data)
theorem book_lay {es : List Ent} (h : ∀ e ∈ es, e.Wf) : (bookData es).canLay0 = true := by
  show PyData.canLayAll0 (es.map Ent.data) = true
  induction es with
  | nil => rfl
  | cons e r ih =>
    show (e.data.canLay0 && PyData.canLayAll0 (r.map Ent.data)) = true
    rw [Ent.lay (h e List.mem_cons_self), ih fun z hz => h z (List.mem_cons_of_mem _ hz)]; rfl
theorem book_deep (es : List Ent) : (bookData es).depth ≤ 3 := by
  have : PyData.depthAll (es.map Ent.data) ≤ 2 := by
    induction es with
    | nil => exact Nat.zero_le _
    | cons e r ih =>
      show max e.data.depth (PyData.depthAll (r.map Ent.data)) ≤ 2
      have := Ent.deep e
      omega
  show PyData.depthAll (es.map Ent.data) + 1 ≤ 3
  omega
theorem book_shaped {es : List Ent} (h : ∀ e ∈ es, e.Wf) : SeqAt.shaped (bookData es) = true := by
  show ((bookData es).canLay0 && decide ((bookData es).depth ≤ 64)) = true
  rw [book_lay h, decide_eq_true (Nat.le_trans (book_deep es) (by decide))]; rfl
theorem book_dps {K : PySem.W.Frag} {H : Hp} {N : Addr → Prop} : ∀ {es : List Ent} {vs : List V}, All2 (EntH H N) es vs → DpAll K H vs (es.map Ent.data)
  | _, _, .nil => .nil
  | _, _, .cons h t => .cons h.dp (book_dps t)
theorem book_dp {K : PySem.W.Frag} {H : Hp} {N : Addr → Prop} {r : Addr} {es : List Ent} {vs : List V} (h : H r = some (.lst vs)) (a : All2 (EntH H N) es vs) : Dp K H (.ref r) (bookData es) := .lst (SqL.of h) (book_dps a)
/-! ### promises -/
def spAdText (K : PySem.W.Frag) : Sp := fun vs H Q _ => ∃ (a : Addr) (ns : List Int), vs = [.ref a] ∧ SqT K H a (ns.map V.int) ∧ (∀ n ∈ ns, IsVal n) ∧ ns.length ≤ 100 ∧ ∀ H', Same H H' → Q (.str (adT ns)) H'
def spEntText : Sp := fun vs H Q _ => ∃ (e : Ent) (v : V) (N : Addr → Prop), vs = [v] ∧ EntH H N e v ∧ e.Wf ∧ ∀ H', Same H H' → Q (.str e.text) H'
def spBookText : Sp := fun vs H Q _ => ∃ (r : Addr) (es : List Ent) (xs : List V) (N : Addr → Prop), vs = [.ref r] ∧ H r = some (.lst xs) ∧ All2 (EntH H N) es xs ∧ (∀ e ∈ es, e.Wf) ∧ es.length ≤ 100 ∧ ∀ H', Same H H' → Q (.str (bookText es)) H'
def spCheck (N : Addr) : Sp := fun vs H Q E => ∃ b : Bool, vs = [.bl b] ∧ (b = true → Q .non H) ∧ (b = false → E (.ref N) none H)
def spNumIn (N : Addr) : Sp := fun vs H Q E => ∃ s : Str, vs = [.str s] ∧ s.length ≤ 100000 ∧ (isValW s = true → ∀ H', Same H H' → Q (.int (valOf s)) H') ∧ (isValW s = false → ∀ H', Same H H' → E (.ref N) none H')
def spAdIn : Sp := fun vs H Q _ => ∃ ns : List Int, vs = [.str (adT ns)] ∧ (∀ n ∈ ns, IsVal n) ∧ ns.length ≤ 100 ∧ ∀ a H', Same H H' → H' a = some (.tup (ns.map V.int)) → Q (.ref a) H'
def spMkIn : Sp := fun vs H Q _ => ∃ n : Int, vs = [.str (numT n)] ∧ (n = -1 ∨ IsVal n) ∧ ∀ H', Same H H' → Q (.int n) H'
def spEntIn : Sp := fun vs H Q _ => ∃ e : Ent, vs = [.str e.text] ∧ e.Wf ∧ ∀ v H', Same H H' → EntH H' (fun l => H l = none) e v → Q v H'
def spReadBook : Sp := fun vs H Q _ => ∃ es : List Ent, vs = [.str (bookText es)] ∧ (∀ e ∈ es, e.Wf) ∧ es.length ≤ 100 ∧ ∀ r xs H', Same H H' → H r = none → H' r = some (.lst xs) → All2 (EntH H' (fun l => H l = none ∧ l ≠ r)) es xs → Q (.ref r) H'
/-! ### the law's own -/
def spNumber : Sp := fun vs H Q _ => ∃ (p : Addr), vs = [.ref p] ∧ WellAt H p ∧ ∀ (n : Int) H', IsVal n → KeepX p H H' → WellAt H' p → Q (.int n) H'
def spAddress : Sp := fun vs H Q _ => ∃ (p : Addr), vs = [.ref p] ∧ WellAt H p ∧ ∀ (a : Addr) (ns : List Int) H', (∀ n ∈ ns, IsVal n) → ns.length ≤ 100 → H' a = some (.tup (ns.map V.int)) → KeepX p H H' → WellAt H' p → Q (.ref a) H'
def spMakers : Sp := fun vs H Q _ => ∃ (p : Addr), vs = [.ref p] ∧ WellAt H p ∧ ∀ (l : Addr) (ns : List Int) H', (∀ n ∈ ns, n = -1 ∨ IsVal n) → ns.length ≤ 100 → H l = none → H' l = some (.lst (ns.map V.int)) → KeepX p H H' → WellAt H' p → Q (.ref l) H'
theorem eqv_ints : ∀ ns : List Int, PyData.eqv (.tuple (ns.map .int)) (.tuple []) = decide (ns = [])
  | [] => rfl
  | n :: r => by rw [decide_eq_false (by simp)]; rfl
theorem tup_shaped (ns : List Int) : SeqAt.shaped (.tuple (ns.map .int)) = true := by
  show (PyData.canLayAll0 (ns.map .int) && decide (PyData.depthAll (ns.map .int) + 1 ≤ 64)) = true
  rw [lay_ints, deep_ints]; rfl
theorem at_ints {ns : List Int} {n : Int} (h0 : 0 ≤ n) (h1 : n < (ns.length : Int)) : ∃ z ∈ ns, atI (ns.map V.int) n = some (.int z) := by
  have hk : n.toNat < ns.length := by omega
  have ek : n = ((n.toNat : Nat) : Int) := by omega
  have q : atI (ns.map V.int) ((n.toNat : Nat) : Int) = some (.int ns[n.toNat]) := atI_nat (by rw [List.getElem?_map, List.getElem?_eq_getElem hk] <;> rfl)
  rw [← ek] at q
  exact ⟨_, List.getElem_mem hk, q⟩
theorem sizeL {n : Nat} (h : n ≤ 16777216) : n ≤ sizeLine := Nat.le_trans h (by decide)

def spBook (K : PySem.W.Frag) : Sp := fun vs H Q _ => ∃ (a : Addr) (ns : List Int), vs = [.ref a] ∧ SqL K H a (ns.map V.int) ∧ ∀ (r : Addr) (es : List Ent) (xs : List V) H', Same H H' → H r = none → H' r = some (.lst xs) → All2 (EntH H' (fun l => l ≠ r)) es xs → (∀ e ∈ es, e.Wf) → es.length ≤ 24 → Q (.ref r) H'
def spKinds : Sp := fun vs H Q _ => ∃ (r : Addr) (es : List Ent) (xs : List V) (N : Addr → Prop), vs = [.ref r] ∧ H r = some (.lst xs) ∧ All2 (EntH H N) es xs ∧ (∀ e ∈ es, e.Wf) ∧ ∀ H', Same H H' → Q (.bl true) H'
theorem keepL_of {p : Addr} {H H' : Hp} (k : KeepX p H H') : KeepL [p] H H' := fun q o h e => k q o (fun z => h (by rw [z]; exact List.mem_singleton.mpr rfl)) e
theorem EntH.keepX {H H' : Hp} {N : Addr → Prop} {e : Ent} {v : V} {p : Addr} (k : KeepX p H H') {xs : List V} (hp : H p = some (.lst xs)) (hN : ∀ l, N l → l ≠ p) : EntH H N e v → EntH H' N e v :=
  fun h => h.keep (keepL_of k) (fun a ha => ⟨xs, by rw [List.mem_singleton.mp ha]; exact hp⟩) fun l hl hm => hN l hl (List.mem_singleton.mp hm)
/-- v is an entry's tuple; its list of makers is new since B, not r, and of at most m numbers -/
def ShH (B H : Hp) (r : Addr) (m : Nat) (v : V) : Prop := ∃ t xs, v = .ref t ∧ H t = some (.tup xs) ∧ (xs.length = 2 ∨ ∃ a b l, xs = [a, b, .ref l] ∧ B l = none ∧ l ≠ r ∧ ∃ ys, H l = some (.lst ys) ∧ ys.length ≤ m)
theorem ShH.of {B H : Hp} {r : Addr} {e : Ent} {v : V} (hw : e.Wf) (h : EntH H (fun l => B l = none ∧ l ≠ r) e v) : ShH B H r 100 v := by
  obtain ⟨t, ta, rfl, h2, h3⟩ := h
  rcases h3 with ⟨_, h3⟩ | ⟨_, l, hl, h3, h4⟩
  · exact ⟨t, _, rfl, h3, .inl rfl⟩
  · exact ⟨t, _, rfl, h3, .inr ⟨_, _, l, rfl, hl.1, hl.2, _, h4, by rw [List.length_map]; exact hw.2.2.2.2⟩⟩
theorem ShH.put {B H : Hp} {r : Addr} {m : Nat} {v : V} {l : Addr} {ys : List V} {y : V} (hl : H l = some (.lst ys)) (hm : ys.length ≤ m) (h : ShH B H r m v) : ShH B (upd H l (.lst (ys ++ [y]))) r (m + 1) v := by
  obtain ⟨t, xs, rfl, h1, h2⟩ := h
  refine ⟨t, xs, rfl, by rw [upd_ne (ne_of h1 hl (by intro z; cases z))]; exact h1, h2.imp id ?_⟩
  rintro ⟨a, b, l2, e, hb, hr, zs, hz, hm2⟩
  refine ⟨a, b, l2, e, hb, hr, ?_⟩
  by_cases c : l2 = l
  · subst c
    rw [hl] at hz
    cases hz
    exact ⟨_, upd_same, by rw [List.length_append, List.length_singleton]; omega⟩
  · exact ⟨zs, by rw [upd_ne c]; exact hz, by omega⟩
theorem ShH.up {B H : Hp} {r : Addr} {m n : Nat} {v : V} (hn : m ≤ n) : ShH B H r m v → ShH B H r n v := fun ⟨t, xs, e, h1, h2⟩ =>
  ⟨t, xs, e, h1, h2.imp id fun ⟨a, b, l, e, hb, hr, ys, hy, hm⟩ => ⟨a, b, l, e, hb, hr, ys, hy, by omega⟩⟩
theorem ShH.same {B H H' : Hp} {r : Addr} {m : Nat} {v : V} (s : Same H H') : ShH B H r m v → ShH B H' r m v := fun ⟨t, xs, e, h1, h2⟩ =>
  ⟨t, xs, e, s _ _ h1, h2.imp id fun ⟨a, b, l, e, hb, hr, ys, hy, hm⟩ => ⟨a, b, l, e, hb, hr, ys, s _ _ hy, hm⟩⟩
def Codes (ws : List Str) : Prop := ∀ s ∈ ws, PyData.strOk s = true
def strsD (ws : List Str) : PyData := .list (ws.map PyData.str)
theorem dp_strs {K : PySem.W.Frag} {H : Hp} : ∀ ws : List Str, DpAll K H (ws.map V.str) (ws.map PyData.str)
  | [] => .nil
  | s :: r => .cons (.str s) (dp_strs r)
theorem strs_shaped {ws : List Str} (h : Codes ws) : SeqAt.shaped (strsD ws) = true := by
  have h1 : ∀ {ws : List Str}, Codes ws → PyData.canLayAll0 (ws.map PyData.str) = true := by
    intro ws
    induction ws with
    | nil => intro _; rfl
    | cons s r ih =>
      intro h
      show (PyData.strOk s && PyData.canLayAll0 (r.map PyData.str)) = true
      rw [h s List.mem_cons_self, ih fun z hz => h z (List.mem_cons_of_mem _ hz)]; rfl
  have h2 : ∀ ws : List Str, PyData.depthAll (ws.map PyData.str) = 0 := by
    intro ws
    induction ws with
    | nil => rfl
    | cons s r ih => show max 0 (PyData.depthAll (r.map PyData.str)) = 0; rw [ih]; rfl
  show (PyData.canLayAll0 _ && decide (PyData.depthAll _ + 1 ≤ 64)) = true
  rw [h1 h, h2]; rfl
theorem strs_eqv : ∀ a b : List Str, PyData.eqv (strsD a) (strsD b) = decide (a = b)
  | [], [] => rfl
  | [], _ :: _ => rfl
  | _ :: _, [] => rfl
  | x :: a, y :: b => by
    have ih := strs_eqv a b
    have ih' : PyData.eqvAll (a.map PyData.str) (b.map PyData.str) = decide (a = b) := ih
    show ((x == y) && PyData.eqvAll (a.map PyData.str) (b.map PyData.str)) = _
    rw [ih']
    by_cases h1 : x = y
    · subst h1
      by_cases h2 : a = b
      · subst h2; simp
      · rw [decide_eq_false h2, decide_eq_false (fun e => h2 (List.cons.inj e).2), Bool.and_false]
    · rw [decide_eq_false (fun e => h1 (List.cons.inj e).1), (beq_eq_false_iff_ne.mpr h1 : (x == y) = false), Bool.false_and]
theorem cut_mid {ws : List Str} {i j : Nat} : cutV (ws.map V.str) (some (i : Int)) (some (j : Int)) = ((ws.drop i).take (j - i)).map V.str := by
  unfold cutV
  rw [HT.sIx_nat, HT.sIx_nat, List.length_map, ← List.map_drop, ← List.map_take]
  congr 1
  by_cases h : i ≤ ws.length
  · rw [Nat.min_eq_left h]
    by_cases h2 : j ≤ ws.length
    · rw [Nat.min_eq_left h2]
    · rw [Nat.min_eq_right (by omega), List.take_of_length_le (by rw [List.length_drop]; exact Nat.le_refl _), List.take_of_length_le (by rw [List.length_drop]; omega)]
  · have e1 : min i ws.length = ws.length := Nat.min_eq_right (by omega)
    rw [e1, List.drop_eq_nil_of_le (Nat.le_refl _), List.drop_eq_nil_of_le (by omega : ws.length ≤ i)]
    simp
theorem cut_drop {ws : List Str} {i : Nat} : cutV (ws.map V.str) (some (i : Int)) none = (ws.drop i).map V.str := by
  unfold cutV
  rw [HT.sIx_nat, HT.sIx_none, List.length_map, ← List.map_drop, ← List.map_take]
  congr 1
  by_cases h : i ≤ ws.length
  · rw [Nat.min_eq_left h, List.take_of_length_le (by rw [List.length_drop]; exact Nat.le_refl _)]
  · rw [Nat.min_eq_right (by omega), List.drop_eq_nil_of_le (Nat.le_refl _), List.drop_eq_nil_of_le (by omega : ws.length ≤ i)]
    simp
theorem cut_take {ws : List Str} {i : Nat} : cutV (ws.map V.str) none (some (i : Int)) = (ws.take i).map V.str := by
  unfold cutV
  rw [HT.sIx_nat, HT.sIx_none, List.length_map, List.drop_zero, ← List.map_take, Nat.sub_zero]
  congr 1
  by_cases h : i ≤ ws.length
  · rw [Nat.min_eq_left h]
  · rw [Nat.min_eq_right (by omega), List.take_of_length_le (Nat.le_refl _), List.take_of_length_le (by omega)]

/-! ### lengths -/
def tot (ws : List Str) : Nat := (ws.map (·.length)).sum + ws.length
theorem joinL_tot (c : Nat) : ∀ L : List (List Nat), L ≠ [] → (joinL [c] L).length + 1 = (L.map List.length).sum + L.length
  | [], h => absurd rfl h
  | [x], _ => by simp [joinL]
  | x :: y :: r, _ => by
    have ih := joinL_tot c (y :: r) (by simp)
    have e : joinL [c] (x :: y :: r) = x ++ ([c] ++ joinL [c] (y :: r)) := rfl
    rw [e, List.length_append, List.length_append]
    simp only [List.map_cons, List.sum_cons, List.length_cons, List.length_nil] at ih ⊢
    omega
theorem tot_tl (ws : List Str) : ((ws.map tl).map List.length).sum + (ws.map tl).length = tot ws := by
  unfold tot
  rw [List.map_map, List.length_map]
  have e : ws.map (List.length ∘ tl) = ws.map (·.length) := List.map_congr_left fun w _ => (len_tl w).symm
  rw [e]
theorem tot_join {ws : List Str} {y : Str} {c : Nat} (hy : tl y = [c]) (h : ws ≠ []) : (Txt.join y ws).length + 1 = tot ws := by
  rw [join_eq, len_tl, tl_join, hy, joinL_tot c _ (by simpa using h), tot_tl]
theorem split_nil (x y : Str) : Txt.split x y ≠ [] := by
  unfold Txt.split
  split
  · simp
  · split
    · simp
    · intro e
      have := congrArg List.length e
      rw [length_partsBetween] at this
      simp at this
theorem tot_split {s y : Str} {c : Nat} (hy : tl y = [c]) : tot (Txt.split s y) = s.length + 1 := by
  have e := congrArg Str.length (PySem.StrLaws.join_split s y)
  rw [← e, ← join_eq]
  exact (tot_join hy (split_nil s y)).symm
theorem tot_append (a b : List Str) : tot (a ++ b) = tot a + tot b := by
  unfold tot
  rw [List.map_append, List.sum_append, List.length_append]; omega
theorem tot_cut (ws : List Str) (i : Nat) : tot (ws.take i) + tot (ws.drop i) = tot ws := by
  rw [← tot_append, List.take_append_drop]
theorem tot_one (w : Str) : tot [w] = w.length + 1 := by unfold tot; simp
theorem tot_mem {w : Str} : ∀ {ws : List Str}, w ∈ ws → w.length + 1 ≤ tot ws
  | x :: r, h => by
    have e : tot (x :: r) = (x.length + 1) + tot r := by
      rw [show x :: r = [x] ++ r from rfl, tot_append, tot_one]
    rcases List.mem_cons.mp h with rfl | h
    · omega
    · have := tot_mem h; omega
theorem tot_len (ws : List Str) : ws.length ≤ tot ws := by unfold tot; omega
theorem tot_all {b : Nat} : ∀ {ws : List Str}, (∀ w ∈ ws, w.length ≤ b) → tot ws ≤ ws.length * (b + 1)
  | [], _ => Nat.zero_le _
  | x :: r, h => by
    have ih := tot_all fun w hw => h w (List.mem_cons_of_mem x hw)
    have h1 := h x List.mem_cons_self
    have e : tot (x :: r) = (x.length + 1) + tot r := by
      rw [show x :: r = [x] ++ r from rfl, tot_append, tot_one]
    rw [e, List.length_cons, Nat.add_mul, Nat.one_mul]
    omega
theorem sum_tot {ws : List Str} {y : Str} (hy : y.length = 1) : (ws.map (·.length)).sum + ws.length * y.length = tot ws := by
  unfold tot
  rw [hy, Nat.mul_one]
theorem len_sp : (Str.ofString " ").length = 1 := by decide +kernel
theorem len_nl : (Str.ofString "\n").length = 1 := by decide +kernel
theorem len_dot : (Str.ofString ".").length = 1 := by decide +kernel
theorem part_len {s y w : Str} {c : Nat} (hy : tl y = [c]) (h : w ∈ Txt.split s y) : w.length ≤ s.length := by
  have := tot_mem h
  rw [tot_split hy] at this
  omega
theorem parts_n {s y : Str} {c : Nat} (hy : tl y = [c]) : (Txt.split s y).length ≤ s.length + 1 := by
  have := tot_len (Txt.split s y)
  rw [tot_split hy] at this
  exact this
theorem ascii_split {s y : Str} (h : Ascii s) : ∀ p ∈ Txt.split s y, Ascii p := by
  have e2 := congrArg tl (PySem.StrLaws.join_split s y)
  rw [tl_join] at e2
  intro p hp c hc
  refine h c ?_
  rw [← e2]
  exact joinL_sub (List.mem_map.mpr ⟨p, hp, rfl⟩) hc
theorem joinL_mem {c : Nat} {z : List Nat} : ∀ {L : List (List Nat)}, c ∈ joinL z L → c ∈ z ∨ ∃ p ∈ L, c ∈ p
  | [], h => by simp [joinL] at h
  | [x], h => .inr ⟨x, List.mem_cons_self, h⟩
  | x :: y :: r, h => by
    have h : c ∈ x ++ (z ++ joinL z (y :: r)) := h
    rcases List.mem_append.mp h with h | h
    · exact .inr ⟨x, List.mem_cons_self, h⟩
    · rcases List.mem_append.mp h with h | h
      · exact .inl h
      · rcases joinL_mem h with h | ⟨p, hp, hc⟩
        · exact .inl h
        · exact .inr ⟨p, List.mem_cons_of_mem _ hp, hc⟩
theorem ascii_join {ws : List Str} {y : Str} (hy : Ascii y) (h : ∀ w ∈ ws, Ascii w) : Ascii (Txt.join y ws) := fun c hc => by
  rw [join_eq, tl_join] at hc
  rcases joinL_mem hc with hc | ⟨p, hp, hc⟩
  · exact hy c hc
  · obtain ⟨w, hw, rfl⟩ := List.mem_map.mp hp
    exact h w hw c hc
instance (s : Str) : Decidable (Ascii s) := by unfold Ascii; infer_instance
theorem ascii_sp : Ascii (Str.ofString " ") := by decide +kernel
theorem ascii_nl : Ascii (Str.ofString "\n") := by decide +kernel
theorem ascii_dot : Ascii (Str.ofString ".") := by decide +kernel
theorem ascii_app {a b : Str} (ha : Ascii a) (hb : Ascii b) : Ascii (a ++ b) := fun c hc => by
  rw [tl_append] at hc
  exact (List.mem_append.mp hc).elim (ha c) (hb c)
def LnB (b : Nat) (t : Str) : Prop := t.length ≤ b ∧ Ascii t
instance (b : Nat) (t : Str) : Decidable (LnB b t) := by unfold LnB; infer_instance
theorem LnB.mono {a b : Nat} {t : Str} (h : LnB a t) (le : a ≤ b) : LnB b t := ⟨Nat.le_trans h.1 le, h.2⟩
/-! ### what is an entry -/
def adOk (s : Str) : Bool := decide (s = Str.ofString "-") || (decide ((Txt.split s (Str.ofString ".")).length ≤ 100) && (Txt.split s (Str.ofString ".")).all isValW)
def adOf (s : Str) : List Int := if s = Str.ofString "-" then [] else (Txt.split s (Str.ofString ".")).map valOf
def mkOk (w : Str) : Bool := decide (w = Str.ofString "-1") || isValW w
def mkOf (w : Str) : Int := if w = Str.ofString "-1" then -1 else valOf w
def word (t : Str) (i : Nat) : Str := (Txt.split t (Str.ofString " ")).getD i (Str.ofString "")
def kOk (w : Str) : Bool := decide (w = Str.ofString "part") || decide (w = Str.ofString "kept")
def enOk (t : Str) : Bool := decide (2 ≤ (Txt.split t (Str.ofString " ")).length) && (adOk (word t 1) && ((decide (word t 0 = Str.ofString "done") && decide ((Txt.split t (Str.ofString " ")).length = 2)) ||
  (kOk (word t 0) && (decide ((Txt.split t (Str.ofString " ")).length ≤ 6002) && ((Txt.split t (Str.ofString " ")).drop 2).all mkOk))))
def enOf (t : Str) : Ent := ⟨word t 0, adOf (word t 1), ((Txt.split t (Str.ofString " ")).drop 2).map mkOf⟩
def bkOk (s : Str) : Bool := decide (s = Str.ofString "") || (Txt.split s (Str.ofString "\n")).all enOk
def bkOf (s : Str) : List Ent := if s = Str.ofString "" then [] else (Txt.split s (Str.ofString "\n")).map enOf
theorem mk_int {w : Str} (h : mkOk w = true) : PySem.intText? w = some (mkOf w) ∧ w.length ≤ 640 := by
  unfold mkOf
  by_cases c : w = Str.ofString "-1"
  · subst c
    rw [if_pos rfl]
    exact ⟨by decide +kernel, by decide +kernel⟩
  · rw [if_neg c]
    unfold mkOk at h
    rw [decide_eq_false c, Bool.false_or] at h
    exact ⟨(valW_int h).1, (valW_int h).2.1⟩
theorem kOk_or {w : Str} (h : kOk w = true) : w = Str.ofString "part" ∨ w = Str.ofString "kept" := by
  unfold kOk at h
  rcases Bool.or_eq_true _ _ ▸ h with h | h
  · exact .inl (of_decide_eq_true h)
  · exact .inr (of_decide_eq_true h)
theorem kOk_in (w : Str) : inV (.str w) [.str "part", .str "kept"] = kOk w := by
  have := inV_str w ["part", "kept"]
  rw [show ([V.str "part", V.str "kept"] : List V) = (["part", "kept"] : List Str).map V.str from rfl, this]
  unfold kOk
  rw [Bool.eq_iff_iff, decide_eq_true_eq, Bool.or_eq_true, decide_eq_true_eq, decide_eq_true_eq]
  simp only [List.mem_cons, List.not_mem_nil, or_false]
theorem kOk_done : kOk (Str.ofString "done") = false := by decide +kernel
theorem word_at {t : Str} {i : Nat} (h : i < (Txt.split t (Str.ofString " ")).length) : atI ((Txt.split t (Str.ofString " ")).map V.str) (i : Int) = some (V.str (word t i)) := by
  refine atI_nat ?_
  unfold word
  rw [List.getElem?_map, List.getD_eq_getElem?_getD, List.getElem?_eq_getElem h]; rfl
theorem word_len {t : Str} {i : Nat} (h : i < (Txt.split t (Str.ofString " ")).length) : word t i ∈ Txt.split t (Str.ofString " ") := by
  unfold word
  rw [List.getD_eq_getElem?_getD, List.getElem?_eq_getElem h]
  exact List.getElem_mem h
theorem word_pos (t : Str) : 0 < (Txt.split t (Str.ofString " ")).length := List.length_pos_iff.mpr (split_nil _ _)
def Ent.Kind (e : Ent) : Prop := (e.w = "done" ∧ e.ms = []) ∨ e.w = "part" ∨ e.w = "kept"
theorem enOf_kind {t : Str} (h : enOk t = true) : (enOf t).Kind := by
  unfold enOk at h
  simp only [Bool.and_eq_true, Bool.or_eq_true, decide_eq_true_eq] at h
  obtain ⟨_, _, h⟩ := h
  rcases h with ⟨h1, h2⟩ | ⟨h1, _⟩
  · refine .inl ⟨h1, ?_⟩
    show ((Txt.split t (Str.ofString " ")).drop 2).map mkOf = []
    rw [List.drop_eq_nil_of_le (by omega)]; rfl
  · exact .inr (kOk_or h1)
theorem Ent.Kind.w3 {e : Ent} (h : e.Kind) : e.w = "done" ∨ e.w = "part" ∨ e.w = "kept" := h.imp (fun h => h.1) id
theorem Ent.Kind.lay {e : Ent} (h : e.Kind) : e.data.canLay0 = true := by
  have h1 : PyData.strOk e.w = true := strOk_of fun c hc => ((word3 h.w3).2 c hc).2
  unfold Ent.data
  show (PyData.strOk e.w && (PyData.canLayAll0 (e.ad.map .int) && PyData.canLayAll0 _)) = true
  rw [h1, lay_ints]
  by_cases c : e.w = "done"
  · rw [if_pos c]; rfl
  · rw [if_neg c]
    show (true && (true && (PyData.canLayAll0 (e.ms.map .int) && true))) = true
    rw [lay_ints]; rfl
theorem kinds_lay {es : List Ent} (h : ∀ e ∈ es, e.Kind) : (bookData es).canLay0 = true := by
  show PyData.canLayAll0 (es.map Ent.data) = true
  induction es with
  | nil => rfl
  | cons e r ih =>
    show (e.data.canLay0 && PyData.canLayAll0 (r.map Ent.data)) = true
    rw [(h e List.mem_cons_self).lay, ih fun z hz => h z (List.mem_cons_of_mem _ hz)]; rfl
theorem kinds_shaped {es : List Ent} (h : ∀ e ∈ es, e.Kind) : SeqAt.shaped (bookData es) = true := by
  show ((bookData es).canLay0 && decide ((bookData es).depth ≤ 64)) = true
  rw [kinds_lay h, decide_eq_true (Nat.le_trans (book_deep es) (by decide))]; rfl
theorem bkOf_kind {s : Str} (h : bkOk s = true) : ∀ e ∈ bkOf s, e.Kind := by
  unfold bkOf
  by_cases c : s = Str.ofString ""
  · rw [if_pos c]; intro e he; cases he
  · rw [if_neg c]
    unfold bkOk at h
    rw [decide_eq_false c, Bool.false_or, List.all_eq_true] at h
    intro e he
    obtain ⟨t, ht, rfl⟩ := List.mem_map.mp he
    exact enOf_kind (h t ht)
/-- each gives what is known ahead, and is good -/
theorem all2_map {α : Type} {p : α → Bool} {f : α → V} : ∀ {xs : List α} {ys : List V}, All2 (fun a y => p a = true ∧ y = f a) xs ys → ys = xs.map f ∧ xs.all p = true
  | _, _, .nil => ⟨rfl, rfl⟩
  | x :: r, y :: t, .cons h k => by
    obtain ⟨e1, e2⟩ := all2_map k
    exact ⟨by rw [h.2, e1]; rfl, by rw [List.all_cons, h.1, e2]; rfl⟩
theorem all2_strs : ∀ xs : List Str, All2 (fun (w : Str) (v : V) => v = V.str w) xs (xs.map V.str)
  | [] => .nil
  | x :: r => .cons rfl (all2_strs r)
theorem all2_image {α β : Type} {f : α → β} {R : β → V → Prop} : ∀ {xs : List α} {ys : List V}, All2 (fun a y => R (f a) y) xs ys → All2 R (xs.map f) ys
  | _, _, .nil => .nil
  | _, _, .cons h t => .cons h (all2_image t)
theorem all_not {xs : List Str} {p : Str → Bool} {w : Str} (h : w ∈ xs) (c : p w = false) : xs.all p = false := by
  rw [List.all_eq_false]
  exact ⟨w, h, by rw [c]; exact Bool.false_ne_true⟩
theorem getNone {H H' : Hp} {l : Addr} (s : Same H H') (h : H' l = none) : H l = none := by
  cases q : H l with
  | none => rfl
  | some o => rw [s _ _ q] at h; cases h
theorem units65 {k : Nat} {A : Around} (r : Room k A) : A.units + 65 < cLine := by have := r.un; omega
theorem join_tot {ws : List Str} {y : Str} {c : Nat} (hy : tl y = [c]) : (Txt.join y ws).length ≤ tot ws := by
  by_cases h : ws = []
  · subst h
    rw [join_eq, len_tl, tl_join]
    exact Nat.le_of_eq rfl
  · have := tot_join hy h; omega
theorem ascii_numT {n : Int} (h : n = -1 ∨ IsVal n) : Ascii (numT n) := by
  rcases h with rfl | h
  · decide +kernel
  · intro c hc
    have := (valW_parts (numT_valW h.1 h.2).1).2.2 c hc
    omega
theorem ascii_adT {ad : List Int} (h : ∀ n ∈ ad, IsVal n) : Ascii (adT ad) := by
  unfold adT
  split
  · decide +kernel
  · refine ascii_join ascii_dot fun w hw => ?_
    obtain ⟨n, hn, rfl⟩ := List.mem_map.mp hw
    exact ascii_numT (.inr (h n hn))
def NB1 : List Str := ["", "-", "-1", "-2", "0", "00", "01", "1.", ".1", "1..2", "1000000", "999999", "part", "kept", "done"]
def NB2 : List Str := ["Part", "gone", "1.2.3", "a", "+1", "1,2", "--", "-.1", "1.-", "-0", "1.01", "box", "1.1000000"]
def NB3 : List Str := ["7", "."]
theorem nb_ok : ∀ s ∈ (NB1 ++ NB2) ++ NB3, LnB 9 s := by decide +kernel
/-- what the law keeps of a line -/
def lineD (t : Str) : PyData := if enOk t = true then (enOf t).data else .none
theorem lineD_lay (ls : List Str) : (PyData.list (ls.map lineD)).canLay0 = true := by
  show PyData.canLayAll0 (ls.map lineD) = true
  induction ls with
  | nil => rfl
  | cons x r ih =>
    show ((lineD x).canLay0 && PyData.canLayAll0 (r.map lineD)) = true
    have : (lineD x).canLay0 = true := by
      unfold lineD
      split
      · rename_i h; exact (enOf_kind h).lay
      · rfl
    rw [this, ih]; rfl
theorem lineD_deep (ls : List Str) : (PyData.list (ls.map lineD)).depth ≤ 3 := by
  have : PyData.depthAll (ls.map lineD) ≤ 2 := by
    induction ls with
    | nil => exact Nat.zero_le _
    | cons x r ih =>
      show max (lineD x).depth (PyData.depthAll (r.map lineD)) ≤ 2
      have : (lineD x).depth ≤ 2 := by
        unfold lineD
        split
        · exact Ent.deep _
        · exact Nat.zero_le _
      omega
  show PyData.depthAll (ls.map lineD) + 1 ≤ 3
  omega
theorem lineD_shaped (ls : List Str) : SeqAt.shaped (.list (ls.map lineD)) = true := by
  show (PyData.canLay0 _ && decide (PyData.depth _ ≤ 64)) = true
  rw [lineD_lay, decide_eq_true (Nat.le_trans (lineD_deep ls) (by decide))]; rfl
theorem lineD_none (t : Str) : PyData.eqv (lineD t) .none = !enOk t := by
  unfold lineD
  cases h : enOk t with
  | true => rw [if_pos rfl]; rfl
  | false => rw [if_neg Bool.false_ne_true]; rfl
theorem lineD_any (ls : List Str) : ((ls.map lineD).any fun z => PyData.eqv z .none) = !ls.all enOk := by
  induction ls with
  | nil => rfl
  | cons x r ih =>
    rw [List.map_cons, List.any_cons, ih, lineD_none, List.all_cons]
    cases enOk x <;> rfl
/-- what stands for a line -/
def LineH (H : Hp) (N : Addr → Prop) (t : Str) (y : V) : Prop := (enOk t = true ∧ EntH H N (enOf t) y) ∨ (enOk t = false ∧ y = .non)
theorem LineH.dp {K : PySem.W.Frag} {H : Hp} {N : Addr → Prop} {t : Str} {y : V} (h : LineH H N t y) : Dp K H y (lineD t) := by
  unfold lineD
  rcases h with ⟨c, h⟩ | ⟨c, rfl⟩
  · rw [if_pos c]; exact h.dp
  · rw [c, if_neg Bool.false_ne_true]; exact .non
theorem lines_dp {K : PySem.W.Frag} {H : Hp} {N : Addr → Prop} : ∀ {ls : List Str} {ys : List V}, All2 (LineH H N) ls ys → DpAll K H ys (ls.map lineD)
  | _, _, .nil => .nil
  | _, _, .cons h t => .cons h.dp (lines_dp t)
/-! ### very many makers -/
def HEADS : List Str := ["part 1", "kept 1.0", "kept -"]
def MANYS : List Str := ["0", "-1", "999999"]
def manyT (h m : Str) (n : Nat) : Str := Txt.join (Str.ofString " ") (h :: List.replicate n m)
theorem heads_ok : ∀ h ∈ HEADS, (Txt.split h (Str.ofString " ")).length = 2 ∧ kOk (word h 0) = true ∧ word h 0 ≠ Str.ofString "done" ∧ adOk (word h 1) = true ∧ (∀ p ∈ Txt.split h (Str.ofString " "), 32 ∉ tl p) ∧ 10 ∉ tl h ∧ h.length ≤ 8 := by decide +kernel
theorem manys_ok : ∀ m ∈ MANYS, mkOk m = true ∧ 32 ∉ tl m ∧ 10 ∉ tl m ∧ m.length ≤ 6 := by decide +kernel
theorem joinL_flat {z : List Nat} : ∀ {A B : List (List Nat)}, A ≠ [] → joinL z (joinL z A :: B) = joinL z (A ++ B)
  | [], _, h => absurd rfl h
  | [x], B, _ => rfl
  | x :: y :: r, B, _ => by
    have ih := joinL_flat (z := z) (A := y :: r) (B := B) (by simp)
    cases B with
    | nil => rw [List.append_nil]; rfl
    | cons b t =>
      have e1 : joinL z (joinL z (x :: y :: r) :: b :: t) = (x ++ (z ++ joinL z (y :: r))) ++ (z ++ joinL z (b :: t)) := rfl
      have e2 : joinL z ((x :: y :: r) ++ b :: t) = x ++ (z ++ joinL z ((y :: r) ++ b :: t)) := rfl
      have e3 : joinL z (joinL z (y :: r) :: b :: t) = joinL z (y :: r) ++ (z ++ joinL z (b :: t)) := rfl
      rw [e1, e2, ← ih, e3]
      simp only [List.append_assoc]
theorem many_join {h m : Str} {n : Nat} : manyT h m n = Txt.join (Str.ofString " ") (Txt.split h (Str.ofString " ") ++ List.replicate n m) := by
  have e := congrArg tl (PySem.StrLaws.join_split h (Str.ofString " "))
  rw [tl_join] at e
  refine ext_tl ?_
  unfold manyT
  rw [join_eq, join_eq, tl_join, tl_join, List.map_cons, ← e, List.map_append]
  exact joinL_flat (by simpa using split_nil h _)
theorem many_split {h m : Str} (hh : h ∈ HEADS) (hm : m ∈ MANYS) (n : Nat) : Txt.split (manyT h m n) (Str.ofString " ") = Txt.split h (Str.ofString " ") ++ List.replicate n m := by
  rw [many_join]
  refine split_join tl_sp (by decide +kernel) (by simp [split_nil]) fun p hp => ?_
  rcases List.mem_append.mp hp with hp | hp
  · exact (heads_ok h hh).2.2.2.2.1 p hp
  · rw [List.eq_of_mem_replicate hp]; exact (manys_ok m hm).2.1
theorem many_line {h m : Str} (hh : h ∈ HEADS) (hm : m ∈ MANYS) (n : Nat) : Txt.split (manyT h m n) (Str.ofString "\n") = [manyT h m n] := by
  have e : Txt.join (Str.ofString "\n") [manyT h m n] = manyT h m n := by
    refine ext_tl ?_
    rw [join_eq, tl_join]; rfl
  have no : ∀ p ∈ [manyT h m n], 10 ∉ tl p := fun p hp hc => by
    rw [List.mem_singleton.mp hp] at hc
    unfold manyT at hc
    rw [join_eq, tl_join, tl_sp] at hc
    rcases joinL_mem hc with hc1 | ⟨q, hq, hc2⟩
    · simp at hc1
    · obtain ⟨w, hw, rfl⟩ := List.mem_map.mp hq
      rcases List.mem_cons.mp hw with e | hw
      · rw [e] at hc2; exact (heads_ok _ hh).2.2.2.2.2.1 hc2
      · rw [List.eq_of_mem_replicate hw] at hc2; exact (manys_ok m hm).2.2.1 hc2
  have := split_join tl_nl (by decide +kernel) (parts := [manyT h m n]) (by simp) no
  rw [e] at this
  exact this
theorem many_len {h m : Str} (hh : h ∈ HEADS) (hm : m ∈ MANYS) (n : Nat) : tot (h :: List.replicate n m) ≤ 9 + n * 7 := by
  have h1 := (heads_ok h hh).2.2.2.2.2.2
  have h2 := (manys_ok m hm).2.2.2
  have h3 : tot (List.replicate n m) ≤ n * 7 := by
    have := tot_all (b := 6) (ws := List.replicate n m) fun w hw => by rw [List.eq_of_mem_replicate hw]; exact h2
    rw [List.length_replicate] at this
    exact this
  have e : tot (h :: List.replicate n m) = (h.length + 1) + tot (List.replicate n m) := by
    rw [show h :: List.replicate n m = [h] ++ List.replicate n m from rfl, tot_append, tot_one]
  omega
theorem getD_left {a b : List Str} {i : Nat} (h : i < a.length) (d : Str) : (a ++ b).getD i d = a.getD i d := by
  rw [List.getD_eq_getElem?_getD, List.getD_eq_getElem?_getD, List.getElem?_append_left h]
theorem many_word {h m : Str} (hh : h ∈ HEADS) (hm : m ∈ MANYS) (n : Nat) : word (manyT h m n) 0 = word h 0 ∧ word (manyT h m n) 1 = word h 1 := by
  have h2 := (heads_ok h hh).1
  unfold word
  rw [many_split hh hm]
  exact ⟨getD_left (by omega) _, getD_left (by omega) _⟩
theorem many_en {h m : Str} (hh : h ∈ HEADS) (hm : m ∈ MANYS) (n : Nat) : enOk (manyT h m n) = decide (n + 2 ≤ 6002) := by
  obtain ⟨h1, h2, h3, h4, _⟩ := heads_ok h hh
  obtain ⟨w0, w1⟩ := many_word hh hm n
  have len : (Txt.split (manyT h m n) (Str.ofString " ")).length = n + 2 := by rw [many_split hh hm, List.length_append, List.length_replicate, h1]; omega
  have drp : (Txt.split (manyT h m n) (Str.ofString " ")).drop 2 = List.replicate n m := by rw [many_split hh hm, ← h1, List.drop_left]
  have al : (List.replicate n m).all mkOk = true := List.all_eq_true.mpr fun w hw => by rw [List.eq_of_mem_replicate hw]; exact (manys_ok m hm).1
  unfold enOk
  rw [len, drp, w0, w1, h2, h4, al, decide_eq_false h3, decide_eq_true (show 2 ≤ n + 2 by omega)]
  simp
theorem many_ne {h m : Str} (hh : h ∈ HEADS) (n : Nat) : ¬ manyT h m n = Str.ofString "" := fun e => by
  have := tot_join (c := 32) (y := Str.ofString " ") (ws := h :: List.replicate n m) tl_sp (by simp)
  have e2 : (Txt.join (Str.ofString " ") (h :: List.replicate n m)).length = 0 := by
    have := congrArg Str.length e
    rw [show (Str.ofString "").length = 0 from by decide +kernel] at this
    exact this
  have h1 : ∀ h ∈ HEADS, 1 ≤ h.length := by decide +kernel
  have h2 := h1 h hh
  have e3 : tot (h :: List.replicate n m) = (h.length + 1) + tot (List.replicate n m) := by
    rw [show h :: List.replicate n m = [h] ++ List.replicate n m from rfl, tot_append, tot_one]
  omega
theorem many_bk {h m : Str} (hh : h ∈ HEADS) (hm : m ∈ MANYS) (n : Nat) : bkOk (manyT h m n) = decide (n + 2 ≤ 6002) ∧ bkOf (manyT h m n) = [enOf (manyT h m n)] := by
  unfold bkOk bkOf
  rw [decide_eq_false (many_ne hh n), if_neg (many_ne hh n), many_line hh hm, Bool.false_or]
  refine ⟨?_, rfl⟩
  show (enOk (manyT h m n) && true) = _
  rw [many_en hh hm, Bool.and_true]
theorem many_ms {h m : Str} (hh : h ∈ HEADS) (hm : m ∈ MANYS) (n : Nat) : (enOf (manyT h m n)).ms.length = n ∧ (enOf (manyT h m n)).w ≠ "done" := by
  obtain ⟨h1, h2, h3, h4, _⟩ := heads_ok h hh
  obtain ⟨w0, w1⟩ := many_word hh hm n
  have drp : (Txt.split (manyT h m n) (Str.ofString " ")).drop 2 = List.replicate n m := by rw [many_split hh hm, ← h1, List.drop_left]
  refine ⟨?_, ?_⟩
  · show (((Txt.split (manyT h m n) (Str.ofString " ")).drop 2).map mkOf).length = n
    rw [drp, List.length_map, List.length_replicate]
  · show word (manyT h m n) 0 ≠ _
    rw [w0]; exact h3
theorem flat_rep (n : Nat) (m : Str) : (List.replicate n [V.str m]).flatten = (List.replicate n m).map V.str := by
  induction n with
  | zero => rfl
  | succ n ih => rw [List.replicate_succ, List.replicate_succ, List.flatten_cons, ih]; rfl
theorem keepX_none {p a : Addr} {H H' : Hp} (k : KeepX p H H') (n : a ≠ p) (h : H' a = none) : H a = none := by
  cases q : H a with
  | none => rfl
  | some o => rw [k _ _ n q] at h; cases h
theorem keepX_put {p a : Addr} {H H' : Hp} {o : HO} (k : KeepX p H H') (h : H a = none) : KeepX p H (upd H' a o) := fun b u nb hb => by
  rw [upd_ne (ne_of_none hb h)]
  exact k b u nb hb
theorem WellAt.put {p a : Addr} {H : Hp} {o : HO} (W : WellAt H p) (n : a ≠ p) : WellAt (upd H a o) p := by
  obtain ⟨x, y, z, u, w⟩ := W
  exact ⟨x, y, z, u, by rw [upd_ne (Ne.symm n)]; exact w⟩
theorem lnb_numT {n : Int} (h : n = -1 ∨ IsVal n) : LnB 6 (numT n) := ⟨numT_len h, ascii_numT h⟩
theorem lnb_head : ∀ w ∈ (["part", "kept", "done"] : List Str), LnB 4 w := by decide +kernel
/-- a line's words: their sum -/
theorem tot_line {w a : Str} {r : List Str} (hw : LnB 4 w) (ha : a.length ≤ 706) (hr : r.length ≤ 3) (h : ∀ x ∈ r, LnB 6 x) : tot (w :: a :: r) ≤ 733 := by
  have e : tot (w :: a :: r) = (w.length + 1) + ((a.length + 1) + tot r) := by
    rw [show w :: a :: r = [w] ++ ([a] ++ r) from rfl, tot_append, tot_append, tot_one, tot_one]
  have h1 := tot_all fun x hx => (h x hx).1
  have h2 : r.length * (6 + 1) ≤ 3 * 7 := Nat.mul_le_mul_right _ hr
  have := hw.1
  omega
def bnd : Nat → Nat
  | 0 => 800
  | n + 1 => 2 * bnd n + 12
theorem bnd_le : ∀ j, j ≤ 3 → bnd j ≤ 6484 := by decide
theorem bnd_mono (j : Nat) : bnd j ≤ bnd (j + 1) := by
  show bnd j ≤ 2 * bnd j + 12
  omega
theorem bnd_up {i j : Nat} (h : i ≤ j) : bnd i ≤ bnd j := by
  induction h with
  | refl => exact Nat.le_refl _
  | step _ ih => exact Nat.le_trans ih (bnd_mono _)
theorem len_app_nl (s : Str) : (s ++ Str.ofString "\n").length = s.length + 1 := by
  rw [len_tl, tl_append, List.length_append, ← len_tl, ← len_tl, len_nl]
theorem len_nl_app (s : Str) : (Str.ofString "\n" ++ s).length = s.length + 1 := by
  rw [len_tl, tl_append, List.length_append, ← len_tl, ← len_tl, len_nl]; omega
/-! ### promises -/
def spAdInX (N : Addr) : Sp := fun vs H Q E => ∃ s : Str, vs = [.str s] ∧ s.length ≤ 100000 ∧ (adOk s = true → ∀ a H', Same H H' → H' a = some (.tup ((adOf s).map V.int)) → Q (.ref a) H') ∧ (adOk s = false → ∀ H', Same H H' → E (.ref N) none H')
def spMkInX (N : Addr) : Sp := fun vs H Q E => ∃ s : Str, vs = [.str s] ∧ s.length ≤ 100000 ∧ (mkOk s = true → ∀ H', Same H H' → Q (.int (mkOf s)) H') ∧ (mkOk s = false → ∀ H', Same H H' → E (.ref N) none H')
def spEntInX (N : Addr) : Sp := fun vs H Q E => ∃ s : Str, vs = [.str s] ∧ s.length ≤ 100000 ∧ (enOk s = true → ∀ v H', Same H H' → EntH H' (fun l => H l = none) (enOf s) v → Q v H') ∧ (enOk s = false → ∀ H', Same H H' → E (.ref N) none H')
def spReadX (K : PySem.W.Frag) (N : Addr) : Sp := fun vs H Q E => ∃ x : V, vs = [x] ∧ ((∃ s : Str, x = .str s ∧ s.length ≤ 100000 ∧ (bkOk s = true → ∀ r xs H', Same H H' → H' r = some (.lst xs) → All2 (EntH H' (fun _ => True)) (bkOf s) xs → Q (.ref r) H') ∧
  (bkOk s = false → ∀ H', Same H H' → E (.ref N) none H')) ∨ (∃ t, TyX K H x t ∧ PySem.W.kitOne K t (.type "str") = some false ∧ E (.ref N) none H))
def spIsNum (f : Str → Bool) : Sp := fun vs H Q _ => ∃ s : Str, vs = [.str s] ∧ s.length ≤ 100000 ∧ Ascii s ∧ ∀ H', Same H H' → Q (.bl (f s)) H'
def spLAdOf : Sp := fun vs H Q _ => ∃ s : Str, vs = [.str s] ∧ s.length ≤ 100000 ∧ Ascii s ∧ (adOk s = true → ∀ a H', Same H H' → H' a = some (.tup ((adOf s).map V.int)) → Q (.ref a) H') ∧ (adOk s = false → ∀ H', Same H H' → Q .non H')
def spLEntry : Sp := fun vs H Q _ => ∃ s : Str, vs = [.str s] ∧ s.length ≤ 100000 ∧ Ascii s ∧ (enOk s = true → ∀ v H', Same H H' → EntH H' (fun l => H l = none) (enOf s) v → Q v H') ∧ (enOk s = false → ∀ H', Same H H' → Q .non H')
def spLDue : Sp := fun vs H Q _ => ∃ s : Str, vs = [.str s] ∧ s.length ≤ 100000 ∧ Ascii s ∧ (bkOk s = true → ∀ r xs H', Same H H' → H' r = some (.lst xs) → All2 (EntH H' (fun _ => True)) (bkOf s) xs → Q (.ref r) H') ∧ (bkOk s = false → ∀ H', Same H H' → Q (.str "refused") H')
def spLFound (K : PySem.W.Frag) : Sp := fun vs H Q _ => ∃ x : V, vs = [x] ∧ ((∃ s : Str, x = .str s ∧ s.length ≤ 100000 ∧ (bkOk s = true → ∀ r xs H', Same H H' → H' r = some (.lst xs) → All2 (EntH H' (fun _ => True)) (bkOf s) xs → Q (.ref r) H') ∧
  (bkOk s = false → ∀ H', Same H H' → Q (.str "refused") H')) ∨ (∃ t, TyX K H x t ∧ PySem.W.kitOne K t (.type "str") = some false ∧ ∀ H', Same H H' → Q (.str "refused") H'))
def spLLines : Sp := fun vs H Q _ => ∃ (p : Addr), vs = [.ref p] ∧ WellAt H p ∧ ∀ (l : Addr) (ls : List Str) H', H' l = some (.lst (ls.map V.str)) → l ≠ p → ls.length ≤ 4 → (∀ t ∈ ls, LnB 800 t) → KeepX p H H' → WellAt H' p → Q (.ref l) H'
def spLMenu : Sp := fun vs H Q _ => ∃ (p : Addr), vs = [.ref p] ∧ WellAt H p ∧ ∀ (s : Str) H', LnB 9 s → KeepX p H H' → WellAt H' p → Q (.str s) H'
def spSpLine : Sp := fun vs H Q _ => ∃ (p : Addr) (t : Str) (b : Nat), vs = [.ref p, .str t] ∧ WellAt H p ∧ LnB b t ∧ b ≤ 10000 ∧ ∀ (s : Str) H', LnB (2 * b + 12) s → KeepX p H H' → WellAt H' p → Q (.str s) H'
def spSpoil : Sp := fun vs H Q _ => ∃ (p a : Addr) (ls : List Str) (b : Nat), vs = [.ref p, .ref a] ∧ WellAt H p ∧ H a = some (.lst (ls.map V.str)) ∧ a ≠ p ∧ ls.length ≤ 20 ∧ (∀ t ∈ ls, LnB b t) ∧ b ≤ 10000 ∧
  ∀ (l : Addr) (us : List Str) H', H' l = some (.lst (us.map V.str)) → l ≠ p → us.length ≤ ls.length + 1 → (∀ t ∈ us, LnB (2 * b + 12) t) → KeepX p H H' → WellAt H' p → Q (.ref l) H'
def spMany : Sp := fun vs H Q _ => ∃ n : Int, vs = [.int n] ∧ ∀ H', Same H H' → Q (.bl true) H'


/-! ### places and changes -/
inductive Pl where
  | box (ad : List Int) (nm : Str) | cell (n : Int) | world (nm : Str) (n : Int) | drawn (nm : Str)
inductive Chg where
  | start (p : Pl) (n : Int) | row (n : Int) (l : Str) | goes (ad : List Int) (g : Option Bool)
def obD : Option Bool → PyData
  | none => .none
  | some b => .bool b
def Pl.data : Pl → PyData
  | .box ad nm => .tuple [.str "box", .tuple (ad.map .int), .str nm]
  | .cell n => .tuple [.str "cell", .int n]
  | .world nm n => .tuple [.str "world", .str nm, .int n]
  | .drawn nm => .tuple [.str "drawn", .str nm]
def Chg.data : Chg → PyData
  | .start p n => .tuple [.str "start", p.data, .int n]
  | .row n l => .tuple [.str "row", .int n, .str l]
  | .goes ad g => .tuple [.str "goes", .tuple (ad.map .int), obD g]
def PlH (H : Hp) : Pl → V → Prop
  | .box ad nm, v => ∃ t ta, v = .ref t ∧ H t = some (.tup [.str "box", .ref ta, .str nm]) ∧ H ta = some (.tup (ad.map V.int))
  | .cell n, v => ∃ t, v = .ref t ∧ H t = some (.tup [.str "cell", .int n])
  | .world nm n, v => ∃ t, v = .ref t ∧ H t = some (.tup [.str "world", .str nm, .int n])
  | .drawn nm, v => ∃ t, v = .ref t ∧ H t = some (.tup [.str "drawn", .str nm])
def ChgH (H : Hp) : Chg → V → Prop
  | .start p n, v => ∃ t pv, v = .ref t ∧ H t = some (.tup [.str "start", pv, .int n]) ∧ PlH H p pv
  | .row n l, v => ∃ t, v = .ref t ∧ H t = some (.tup [.str "row", .int n, .str l])
  | .goes ad g, v => ∃ t ta, v = .ref t ∧ H t = some (.tup [.str "goes", .ref ta, KO.oV g]) ∧ H ta = some (.tup (ad.map V.int))
def TupKeep (H H' : Hp) : Prop := ∀ t xs, H t = some (.tup xs) → H' t = some (.tup xs)
theorem tupKeep_same {H H' : Hp} (s : Same H H') : TupKeep H H' := fun t xs h => s _ _ h
theorem tupKeep_x {p : Addr} {H H' : Hp} (k : KeepX p H H') (W : WellAt H p) : TupKeep H H' := fun t xs h => k.tup W h
theorem PlH.keep {H H' : Hp} (k : TupKeep H H') {v : V} : ∀ {p : Pl}, PlH H p v → PlH H' p v
  | .box _ _, ⟨t, ta, h1, h2, h3⟩ => ⟨t, ta, h1, k _ _ h2, k _ _ h3⟩
  | .cell _, ⟨t, h1, h2⟩ => ⟨t, h1, k _ _ h2⟩
  | .world _ _, ⟨t, h1, h2⟩ => ⟨t, h1, k _ _ h2⟩
  | .drawn _, ⟨t, h1, h2⟩ => ⟨t, h1, k _ _ h2⟩
theorem ChgH.keep {H H' : Hp} (k : TupKeep H H') {v : V} : ∀ {c : Chg}, ChgH H c v → ChgH H' c v
  | .start _ _, ⟨t, pv, h1, h2, h3⟩ => ⟨t, pv, h1, k _ _ h2, h3.keep k⟩
  | .row _ _, ⟨t, h1, h2⟩ => ⟨t, h1, k _ _ h2⟩
  | .goes _ _, ⟨t, ta, h1, h2, h3⟩ => ⟨t, ta, h1, k _ _ h2, k _ _ h3⟩
theorem oV_dp {K : PySem.W.Frag} {H : Hp} (g : Option Bool) : Dp K H (KO.oV g) (obD g) := by
  cases g with
  | none => exact .non
  | some b => exact .bl b
theorem PlH.dp {K : PySem.W.Frag} {H : Hp} {v : V} : ∀ {p : Pl}, PlH H p v → Dp K H v p.data
  | .box ad nm, ⟨t, ta, h1, h2, h3⟩ => by subst h1; exact .tup (SqT.of h2) (.cons (.str _) (.cons (.tup (SqT.of h3) (dpAll_ints _)) (.cons (.str _) .nil)))
  | .cell n, ⟨t, h1, h2⟩ => by subst h1; exact .tup (SqT.of h2) (.cons (.str _) (.cons (.int _) .nil))
  | .world nm n, ⟨t, h1, h2⟩ => by subst h1; exact .tup (SqT.of h2) (.cons (.str _) (.cons (.str _) (.cons (.int _) .nil)))
  | .drawn nm, ⟨t, h1, h2⟩ => by subst h1; exact .tup (SqT.of h2) (.cons (.str _) (.cons (.str _) .nil))
theorem ChgH.dp {K : PySem.W.Frag} {H : Hp} {v : V} : ∀ {c : Chg}, ChgH H c v → Dp K H v c.data
  | .start p n, ⟨t, pv, h1, h2, h3⟩ => by subst h1; exact .tup (SqT.of h2) (.cons (.str _) (.cons h3.dp (.cons (.int _) .nil)))
  | .row n l, ⟨t, h1, h2⟩ => by subst h1; exact .tup (SqT.of h2) (.cons (.str _) (.cons (.int _) (.cons (.str _) .nil)))
  | .goes ad g, ⟨t, ta, h1, h2, h3⟩ => by subst h1; exact .tup (SqT.of h2) (.cons (.str _) (.cons (.tup (SqT.of h3) (dpAll_ints _)) (.cons (oV_dp g) .nil)))
def Pl.Asc : Pl → Prop
  | .box _ nm => Ascii nm
  | .cell _ => True
  | .world nm _ => Ascii nm
  | .drawn nm => Ascii nm
def Chg.Asc : Chg → Prop
  | .start p _ => p.Asc
  | .row _ l => Ascii l
  | .goes _ _ => True
theorem Pl.lay {p : Pl} (h : p.Asc) : p.data.canLay0 = true := by
  have w1 : ∀ w ∈ (["box", "cell", "world", "drawn"] : List Str), PyData.strOk w = true := by decide +kernel
  cases p with
  | box ad nm =>
    show (PyData.strOk "box" && (PyData.canLayAll0 (ad.map .int) && (PyData.strOk nm && true))) = true
    rw [w1 _ (by simp), lay_ints, strOk_ascii h]; rfl
  | cell n => show (PyData.strOk "cell" && (true && true)) = true; rw [w1 _ (by simp)]; rfl
  | world nm n => show (PyData.strOk "world" && (PyData.strOk nm && (true && true))) = true; rw [w1 _ (by simp), strOk_ascii h]; rfl
  | drawn nm => show (PyData.strOk "drawn" && (PyData.strOk nm && true)) = true; rw [w1 _ (by simp), strOk_ascii h]; rfl
theorem Pl.deep (p : Pl) : p.data.depth ≤ 2 := by
  cases p with
  | box ad nm =>
    show max 0 (max (PyData.depthAll (ad.map .int) + 1) (max 0 0)) + 1 ≤ 2
    rw [deep_ints]; decide
  | cell n => show max 0 (max 0 0) + 1 ≤ 2; decide
  | world nm n => show max 0 (max 0 (max 0 0)) + 1 ≤ 2; decide
  | drawn nm => show max 0 (max 0 0) + 1 ≤ 2; decide
theorem Chg.lay {c : Chg} (h : c.Asc) : c.data.canLay0 = true := by
  have w1 : ∀ w ∈ (["start", "row", "goes"] : List Str), PyData.strOk w = true := by decide +kernel
  cases c with
  | start p n => show (PyData.strOk "start" && (p.data.canLay0 && (true && true))) = true; rw [w1 _ (by simp), Pl.lay h]; rfl
  | row n l => show (PyData.strOk "row" && (true && (PyData.strOk l && true))) = true; rw [w1 _ (by simp), strOk_ascii h]; rfl
  | goes ad g =>
    show (PyData.strOk "goes" && (PyData.canLayAll0 (ad.map .int) && ((obD g).canLay0 && true))) = true
    rw [w1 _ (by simp), lay_ints]
    cases g <;> rfl
theorem Chg.deep (c : Chg) : c.data.depth ≤ 3 := by
  cases c with
  | start p n => show max 0 (max p.data.depth (max 0 0)) + 1 ≤ 3; have := p.deep; omega
  | row n l => show max 0 (max 0 (max 0 0)) + 1 ≤ 3; decide
  | goes ad g =>
    show max 0 (max (PyData.depthAll (ad.map .int) + 1) (max (obD g).depth 0)) + 1 ≤ 3
    rw [deep_ints]
    rcases g with _ | (_ | _) <;> decide
theorem Chg.shaped {c : Chg} (h : c.Asc) : SeqAt.shaped c.data = true := by
  show (PyData.canLay0 _ && decide (PyData.depth _ ≤ 64)) = true
  rw [Chg.lay h, decide_eq_true (Nat.le_trans c.deep (by decide))]; rfl
/-! ### what is a change -/
def wd (ws : List Str) (i : Nat) : Str := ws.getD i (Str.ofString "")
def GO : List (Str × Option Bool) := [("yes", some true), ("no", some false), ("free", none)]
def GOV : List (Str × V) := [("yes", .bl true), ("no", .bl false), ("free", .non)]
theorem gov_eq (z : Str) : GOV.lookup z = (GO.lookup z).map KO.oV := by
  unfold GOV GO
  simp only [List.lookup_cons, List.lookup_nil]
  cases z == Str.ofString "yes" <;> cases z == Str.ofString "no" <;> cases z == Str.ofString "free" <;> rfl
def plF (ws : List Str) : Option Pl :=
  if ws.length = 3 ∧ wd ws 0 = "box" then (if adOk (wd ws 1) = true ∧ isNameW (wd ws 2) = true then some (.box (adOf (wd ws 1)) (wd ws 2)) else none)
  else if ws.length = 2 ∧ wd ws 0 = "cell" then (if isValW (wd ws 1) = true then some (.cell (valOf (wd ws 1))) else none)
  else if ws.length = 3 ∧ wd ws 0 = "world" then (if isNameW (wd ws 1) = true ∧ isValW (wd ws 2) = true then some (.world (wd ws 1) (valOf (wd ws 2))) else none)
  else if ws.length = 2 ∧ wd ws 0 = "drawn" then (if isNameW (wd ws 1) = true then some (.drawn (wd ws 1)) else none)
  else none
def midW (ws : List Str) : List Str := (ws.drop 1).take (ws.length - 2)
def chW (ws : List Str) : Option Chg :=
  if wd ws 0 = "start" then (match plF (midW ws) with
    | some p => if isValW (wd ws (ws.length - 1)) = true then some (.start p (valOf (wd ws (ws.length - 1)))) else none
    | none => none)
  else if wd ws 0 = "row" then (if 2 < ws.length ∧ Txt.join " " (ws.drop 2) ≠ "" ∧ 10 ∉ tl (Txt.join " " (ws.drop 2)) ∧ isValW (wd ws 1) = true then some (.row (valOf (wd ws 1)) (Txt.join " " (ws.drop 2))) else none)
  else if wd ws 0 = "goes" ∧ ws.length = 3 then (match GO.lookup (wd ws 2) with
    | some g => if adOk (wd ws 1) = true then some (.goes (adOf (wd ws 1)) g) else none
    | none => none)
  else none
theorem chW_start {ws : List Str} (h : wd ws 0 = "start") : chW ws = (plF (midW ws)).bind fun p => if isValW (wd ws (ws.length - 1)) = true then some (.start p (valOf (wd ws (ws.length - 1)))) else none := by
  unfold chW
  rw [if_pos h]
  cases plF (midW ws) <;> rfl
theorem chW_row {ws : List Str} (n : ¬ wd ws 0 = "start") (h : wd ws 0 = "row") : chW ws = if 2 < ws.length ∧ Txt.join " " (ws.drop 2) ≠ "" ∧ 10 ∉ tl (Txt.join " " (ws.drop 2)) ∧ isValW (wd ws 1) = true then some (.row (valOf (wd ws 1)) (Txt.join " " (ws.drop 2))) else none := by
  unfold chW
  rw [if_neg n, if_pos h]
theorem chW_goes {ws : List Str} (n : ¬ wd ws 0 = "start") (m : ¬ wd ws 0 = "row") : chW ws = if wd ws 0 = "goes" ∧ ws.length = 3 then (GO.lookup (wd ws 2)).bind fun g => if adOk (wd ws 1) = true then some (.goes (adOf (wd ws 1)) g) else none else none := by
  unfold chW
  rw [if_neg n, if_neg m]
  by_cases c : wd ws 0 = "goes" ∧ ws.length = 3
  · rw [if_pos c, if_pos c]
    cases GO.lookup (wd ws 2) <;> rfl
  · rw [if_neg c, if_neg c]
def chF (s : Str) : Option Chg := chW (Txt.split s (Str.ofString " "))
theorem ascii_name {w : Str} (h : isNameW w = true) : Ascii w := fun c hc => by
  have := (nameW_parts h).2.2.2.2 c hc
  omega
theorem plF_asc {ws : List Str} {p : Pl} (h : plF ws = some p) : p.Asc := by
  unfold plF at h
  split at h
  · split at h
    · rename_i c; cases h; exact ascii_name c.2
    · cases h
  split at h
  · split at h
    · cases h; trivial
    · cases h
  split at h
  · split at h
    · rename_i c; cases h; exact ascii_name c.1
    · cases h
  split at h
  · split at h
    · rename_i c; cases h; exact ascii_name c
    · cases h
  · cases h
theorem chW_asc {ws : List Str} {c : Chg} (hw : ∀ w ∈ ws, Ascii w) (h : chW ws = some c) : c.Asc := by
  unfold chW at h
  split at h
  · split at h
    · rename_i p hp
      split at h
      · cases h; exact plF_asc hp
      · cases h
    · cases h
  split at h
  · split at h
    · cases h; exact ascii_join ascii_sp fun w m => hw w (List.mem_of_mem_drop m)
    · cases h
  split at h
  · split at h
    · split at h
      · cases h; trivial
      · cases h
    · cases h
  · cases h
theorem wd_at {ws : List Str} {i : Nat} (h : i < ws.length) : atI (ws.map V.str) (i : Int) = some (V.str (wd ws i)) := by
  refine atI_nat ?_
  unfold wd
  rw [List.getElem?_map, List.getD_eq_getElem?_getD, List.getElem?_eq_getElem h]; rfl
theorem wd_mem {ws : List Str} {i : Nat} (h : i < ws.length) : wd ws i ∈ ws := by
  unfold wd
  rw [List.getD_eq_getElem?_getD, List.getElem?_eq_getElem h]
  exact List.getElem_mem h
theorem wd_last {ws : List Str} (h : 0 < ws.length) : atI (ws.map V.str) (-1) = some (V.str (wd ws (ws.length - 1))) := by
  have e : ixN (ws.map V.str).length (-1) = some (ws.length - 1) := by
    unfold ixN
    rw [if_neg (by decide), List.length_map, if_pos (by omega)]
    exact congrArg some (by omega)
  unfold atI
  rw [e]
  show (ws.map V.str)[ws.length - 1]? = _
  unfold wd
  rw [List.getElem?_map, List.getD_eq_getElem?_getD, List.getElem?_eq_getElem (by omega)]; rfl
theorem cut_midW (ws : List Str) : cutV (ws.map V.str) (some 1) (some (-1)) = (midW ws).map V.str := by
  have e1 : HT.sIx (ws.map V.str).length 0 (some 1) = min 1 ws.length := by
    rw [List.length_map]
    exact HT.sIx_nat _ 0 1
  unfold cutV midW
  have e2 : HT.sIx (ws.map V.str).length (ws.map V.str).length (some (-1)) = ws.length - 1 := by
    rw [List.length_map]
    unfold HT.sIx
    simp
    omega
  rw [e1, e2, ← List.map_drop, ← List.map_take]
  congr 1
  by_cases h : 1 ≤ ws.length
  · rw [Nat.min_eq_left h]
    congr 1
  · have : ws = [] := List.eq_nil_of_length_eq_zero (by omega)
    subst this
    rfl
theorem take1 {ws : List Str} {x : Str} : ws.take 1 = [x] ↔ 0 < ws.length ∧ wd ws 0 = x := by
  cases ws with
  | nil => exact ⟨(fun h => by cases h), fun h => absurd h.1 (by decide)⟩
  | cons a r =>
    constructor
    · intro h
      have h : [a] = [x] := h
      cases h
      exact ⟨Nat.succ_pos _, rfl⟩
    · intro h
      have h : a = x := h.2
      rw [h]; rfl
/-! ### promises -/
def spNameIn (N : Addr) : Sp := fun vs H Q E => ∃ s : Str, vs = [.str s] ∧ s.length ≤ 100000 ∧ (isNameW s = true → ∀ H', Same H H' → Q (.str s) H') ∧ (isNameW s = false → ∀ H', Same H H' → E (.ref N) none H')
def Wds (ws : List Str) : Prop := ws.length ≤ 100001 ∧ ∀ w ∈ ws, w.length ≤ 100000 ∧ Ascii w
def spPlIn (K : PySem.W.Frag) (N : Addr) : Sp := fun vs H Q E => ∃ (a : Addr) (ws : List Str), vs = [.ref a] ∧ SqL K H a (ws.map V.str) ∧ Wds ws ∧ (∀ p, plF ws = some p → ∀ v H', Same H H' → PlH H' p v → Q v H') ∧ (plF ws = none → ∀ H', Same H H' → E (.ref N) none H')
def spChIn (K : PySem.W.Frag) (N : Addr) : Sp := fun vs H Q E => ∃ x : V, vs = [x] ∧ ((∃ s : Str, x = .str s ∧ s.length ≤ 100000 ∧ Ascii s ∧ (∀ c, chF s = some c → ∀ v H', Same H H' → ChgH H' c v → Q v H') ∧ (chF s = none → ∀ H', Same H H' → E (.ref N) none H')) ∨
  (∃ t, TyX K H x t ∧ PySem.W.kitOne K t (.type "str") = some false ∧ E (.ref N) none H))
def spLPlOf (K : PySem.W.Frag) : Sp := fun vs H Q _ => ∃ (a : Addr) (ws : List Str), vs = [.ref a] ∧ SqL K H a (ws.map V.str) ∧ Wds ws ∧ (∀ p, plF ws = some p → ∀ v H', Same H H' → PlH H' p v → Q v H') ∧ (plF ws = none → ∀ H', Same H H' → Q .non H')
def spLDueC : Sp := fun vs H Q _ => ∃ s : Str, vs = [.str s] ∧ s.length ≤ 100000 ∧ Ascii s ∧ (∀ c, chF s = some c → ∀ v H', Same H H' → ChgH H' c v → Q v H') ∧ (chF s = none → ∀ H', Same H H' → Q (.str "refused") H')
def spLFoundC (K : PySem.W.Frag) : Sp := fun vs H Q _ => ∃ x : V, vs = [x] ∧ ((∃ s : Str, x = .str s ∧ s.length ≤ 100000 ∧ Ascii s ∧ (∀ c, chF s = some c → ∀ v H', Same H H' → ChgH H' c v → Q v H') ∧ (chF s = none → ∀ H', Same H H' → Q (.str "refused") H')) ∨
  (∃ t, TyX K H x t ∧ PySem.W.kitOne K t (.type "str") = some false ∧ ∀ H', Same H H' → Q (.str "refused") H'))
/-! ### drawn changes -/
def NM : List Str := (["a", "b", "zz", "boxes", "cells", "world", "drawn", "start", "row", "goes", "yes", "no", "free", "part"] : List Str) ++ (["kept", "done", "box", "iff", "abcdef", "zzzzzz"] : List Str)
theorem nm_ok : ∀ s ∈ NM, isNameW s = true ∧ LnB 6 s := by decide +kernel
def spNm : Sp := fun vs H Q _ => ∃ (p : Addr), vs = [.ref p] ∧ WellAt H p ∧ ∀ (s : Str) H', isNameW s = true ∧ LnB 6 s → KeepX p H H' → WellAt H' p → Q (.str s) H'
def AdOk (ad : List Int) : Prop := (∀ n ∈ ad, IsVal n) ∧ ad.length ≤ 100
def NmOk (s : Str) : Prop := isNameW s = true ∧ LnB 6 s
def Pl.Wf : Pl → Prop
  | .box ad nm => AdOk ad ∧ NmOk nm
  | .cell n => IsVal n
  | .world nm n => NmOk nm ∧ IsVal n
  | .drawn nm => NmOk nm
def Chg.Wf : Chg → Prop
  | .start p n => p.Wf ∧ IsVal n
  | .row n l => IsVal n ∧ 1 ≤ l.length ∧ l.length ≤ 30 ∧ ∀ c ∈ tl l, 32 ≤ c ∧ c ≤ 126
  | .goes ad _ => AdOk ad
def goT : Option Bool → Str
  | some true => "yes"
  | some false => "no"
  | none => "free"
def Pl.words : Pl → List Str
  | .box ad nm => ["box", adT ad, nm]
  | .cell n => ["cell", numT n]
  | .world nm n => ["world", nm, numT n]
  | .drawn nm => ["drawn", nm]
def Chg.words : Chg → List Str
  | .start p n => Str.ofString "start" :: (p.words ++ [numT n])
  | .row n l => ["row", numT n, l]
  | .goes ad g => ["goes", adT ad, goT g]
def Chg.text (c : Chg) : Str := Txt.join (Str.ofString " ") c.words
def spLPlace : Sp := fun vs H Q _ => ∃ (p : Addr), vs = [.ref p] ∧ WellAt H p ∧ ∀ (pl : Pl) (v : V) H', PlH H' pl v → pl.Wf → KeepX p H H' → WellAt H' p → Q v H'
def spLChange : Sp := fun vs H Q _ => ∃ (p : Addr), vs = [.ref p] ∧ WellAt H p ∧ ∀ (c : Chg) (v : V) H', ChgH H' c v → c.Wf → KeepX p H H' → WellAt H' p → Q v H'
def spLText : Sp := fun vs H Q _ => ∃ (c : Chg) (v : V), vs = [v] ∧ ChgH H c v ∧ c.Wf ∧ ∀ H', Same H H' → Q (.str c.text) H'
theorem lnb_adT {ad : List Int} (h : AdOk ad) : LnB 700 (adT ad) := ⟨adT_len h.1 h.2, ascii_adT h.1⟩
theorem lnb_goT (g : Option Bool) : LnB 4 (goT g) := by
  rcases g with _ | (_ | _) <;> decide +kernel
theorem Pl.words_ok {p : Pl} (h : p.Wf) : tot p.words ≤ 720 ∧ ∀ w ∈ p.words, Ascii w := by
  have kw : ∀ w ∈ (["box", "cell", "world", "drawn"] : List Str), LnB 5 w := by decide +kernel
  have t3 : ∀ a b c : Str, tot [a, b, c] = (a.length + 1) + ((b.length + 1) + (c.length + 1)) := fun a b c => by
    rw [show [a, b, c] = [a] ++ ([b] ++ [c]) from rfl, tot_append, tot_append, tot_one, tot_one, tot_one]
  have t2 : ∀ a b : Str, tot [a, b] = (a.length + 1) + (b.length + 1) := fun a b => by
    rw [show [a, b] = [a] ++ [b] from rfl, tot_append, tot_one, tot_one]
  cases p with
  | box ad nm =>
    have h1 := kw "box" (by simp)
    have h2 := lnb_adT h.1
    have h3 := h.2.2
    refine ⟨by show tot ["box", adT ad, nm] ≤ _; rw [t3]; have := h1.1; have := h2.1; have := h3.1; omega, fun w hw => ?_⟩
    simp only [Pl.words, List.mem_cons, List.not_mem_nil, or_false] at hw
    rcases hw with e | e | e <;> rw [e]
    · exact h1.2
    · exact h2.2
    · exact h3.2
  | cell n =>
    have h1 := kw "cell" (by simp)
    have h2 := lnb_numT (.inr h)
    refine ⟨by show tot ["cell", numT n] ≤ _; rw [t2]; have := h1.1; have := h2.1; omega, fun w hw => ?_⟩
    simp only [Pl.words, List.mem_cons, List.not_mem_nil, or_false] at hw
    rcases hw with e | e <;> rw [e]
    · exact h1.2
    · exact h2.2
  | world nm n =>
    have h1 := kw "world" (by simp)
    have h2 := h.1.2
    have h3 := lnb_numT (.inr h.2)
    refine ⟨by show tot ["world", nm, numT n] ≤ _; rw [t3]; have := h1.1; have := h2.1; have := h3.1; omega, fun w hw => ?_⟩
    simp only [Pl.words, List.mem_cons, List.not_mem_nil, or_false] at hw
    rcases hw with e | e | e <;> rw [e]
    · exact h1.2
    · exact h2.2
    · exact h3.2
  | drawn nm =>
    have h1 := kw "drawn" (by simp)
    have h2 := h.2
    refine ⟨by show tot ["drawn", nm] ≤ _; rw [t2]; have := h1.1; have := h2.1; omega, fun w hw => ?_⟩
    simp only [Pl.words, List.mem_cons, List.not_mem_nil, or_false] at hw
    rcases hw with e | e <;> rw [e]
    · exact h1.2
    · exact h2.2
theorem Chg.words_ok {c : Chg} (h : c.Wf) : tot c.words ≤ 740 ∧ ∀ w ∈ c.words, Ascii w := by
  have kw : ∀ w ∈ (["start", "row", "goes"] : List Str), LnB 5 w := by decide +kernel
  have t3 : ∀ a b c : Str, tot [a, b, c] = (a.length + 1) + ((b.length + 1) + (c.length + 1)) := fun a b c => by
    rw [show [a, b, c] = [a] ++ ([b] ++ [c]) from rfl, tot_append, tot_append, tot_one, tot_one, tot_one]
  cases c with
  | start p n =>
    have h1 := kw "start" (by simp)
    obtain ⟨h2, h4⟩ := Pl.words_ok h.1
    have h3 := lnb_numT (.inr h.2)
    have e : tot (Chg.words (.start p n)) = (Str.length "start" + 1) + (tot p.words + ((numT n).length + 1)) := by
      rw [show Chg.words (.start p n) = [Str.ofString "start"] ++ (p.words ++ [numT n]) from rfl, tot_append, tot_append, tot_one, tot_one]
    refine ⟨by rw [e]; have := h1.1; have := h3.1; omega, fun w hw => ?_⟩
    rcases List.mem_cons.mp hw with e | hw
    · rw [e]; exact h1.2
    rcases List.mem_append.mp hw with hw | hw
    · exact h4 w hw
    · rw [List.mem_singleton.mp hw]; exact h3.2
  | row n l =>
    have h1 := kw "row" (by simp)
    have h2 := lnb_numT (.inr h.1)
    refine ⟨by show tot ["row", numT n, l] ≤ _; rw [t3]; have := h1.1; have := h2.1; have := h.2.2.1; omega, fun w hw => ?_⟩
    simp only [Chg.words, List.mem_cons, List.not_mem_nil, or_false] at hw
    rcases hw with e | e | e <;> rw [e]
    · exact h1.2
    · exact h2.2
    · intro c hc; have := h.2.2.2 c hc; omega
  | goes ad g =>
    have h1 := kw "goes" (by simp)
    have h2 := lnb_adT h
    have h3 := lnb_goT g
    refine ⟨by show tot ["goes", adT ad, goT g] ≤ _; rw [t3]; have := h1.1; have := h2.1; have := h3.1; omega, fun w hw => ?_⟩
    simp only [Chg.words, List.mem_cons, List.not_mem_nil, or_false] at hw
    rcases hw with e | e | e <;> rw [e]
    · exact h1.2
    · exact h2.2
    · exact h3.2
theorem Chg.text_ok {c : Chg} (h : c.Wf) : LnB 800 c.text := ⟨Nat.le_trans (join_tot tl_sp) (Nat.le_trans (Chg.words_ok h).1 (by decide)), ascii_join ascii_sp (Chg.words_ok h).2⟩
/-- str of a part of a place: a number, a text, an address -/
def rStrPart (K : PySem.W.Frag) : List V → Hp → VK → Prop := fun xs H Q => (∃ i, xs = [.int i] ∧ i.natAbs.log2 < 1920 ∧ Q (.str (toString i)) H) ∨ (∃ a, xs = [.str a] ∧ Q (.str a) H) ∨
  (∃ (a : Addr) (d : PyData), xs = [.ref a] ∧ Dp K H (.ref a) d ∧ d.showable = true ∧ d.hasDict = false ∧ d.depth ≤ 32 ∧ d.shown.length ≤ sizeLine ∧ Q (.str d.shown) H)
theorem call_str_part {X : Cx} (hgd : X.A.guards = some []) (hu : X.A.units + 64 < cLine) : CallR X (.type "str") (rStrPart X.K) := by
  intro pins s σ H xs us Q I r h
  rcases h with h | h | h
  · exact call_str_int pins s σ H xs us Q I r h
  · exact SkE.call_str_str pins s σ H xs us Q I r h
  · exact KG.call_str_data hgd hu pins s σ H xs us Q I r h
/-! ### texts of changes -/
theorem tl_row : tl (Str.ofString "row ") = tl (Str.ofString "row") ++ [32] := by decide +kernel
theorem tl_goes : tl (Str.ofString "goes ") = tl (Str.ofString "goes") ++ [32] := by decide +kernel
theorem join3 (a b c : Str) : tl (Txt.join (Str.ofString " ") [a, b, c]) = tl a ++ ([32] ++ (tl b ++ ([32] ++ tl c))) := by
  rw [join_eq, tl_join, tl_sp]; rfl
theorem text_row (n : Int) (l : Str) : ((Str.ofString "row " ++ numT n) ++ Str.ofString " ") ++ l = (Chg.row n l).text := by
  refine ext_tl ?_
  show _ = tl (Txt.join (Str.ofString " ") [Str.ofString "row", numT n, l])
  rw [join3, tl_append, tl_append, tl_append, tl_row, tl_sp]
  simp only [List.append_assoc]
theorem text_goes (ad : List Int) (g : Option Bool) : ((Str.ofString "goes " ++ adT ad) ++ Str.ofString " ") ++ goT g = (Chg.goes ad g).text := by
  refine ext_tl ?_
  show _ = tl (Txt.join (Str.ofString " ") [Str.ofString "goes", adT ad, goT g])
  rw [join3, tl_append, tl_append, tl_append, tl_goes, tl_sp]
  simp only [List.append_assoc]
def SIGNS : Str := Str.ofString " abz09 !#$&()*+,-./:;<=>?@\x5b]^_{|}~AZ skip tell if \"'"
theorem signs_ok : ∀ c ∈ tl SIGNS, 32 ≤ c ∧ c ≤ 126 := by decide +kernel
theorem signs_len : 0 < SIGNS.length ∧ SIGNS.length ≤ 100 := by decide +kernel
theorem at_sign {s : Str} {n : Int} (h0 : 0 ≤ n) (h1 : n < (s.length : Int)) : ∃ c ∈ tl s, atI s.cps.toList n = some c := by
  have hl : s.length = (tl s).length := len_tl s
  have hk : n.toNat < (tl s).length := by omega
  have ek : n = ((n.toNat : Nat) : Int) := by omega
  have q : atI (tl s) ((n.toNat : Nat) : Int) = some (tl s)[n.toNat] := atI_nat (List.getElem?_eq_getElem hk)
  rw [← ek] at q
  exact ⟨_, List.getElem_mem hk, q⟩
theorem tl_none : tl (Str.ofString "") = [] := by decide +kernel
theorem joinL_nil : ∀ L : List (List Nat), joinL [] L = L.flatten
  | [] => rfl
  | [x] => by simp [joinL]
  | x :: y :: r => by
    show x ++ ([] ++ joinL [] (y :: r)) = _
    rw [joinL_nil (y :: r)]
    simp
theorem join_signs {ys : List Str} (h : ∀ y ∈ ys, ∃ c, y = ⟨#[c]⟩ ∧ 32 ≤ c ∧ c ≤ 126) : (Txt.join (Str.ofString "") ys).length = ys.length ∧ ∀ c ∈ tl (Txt.join (Str.ofString "") ys), 32 ≤ c ∧ c ≤ 126 := by
  have e : tl (Txt.join (Str.ofString "") ys) = (ys.map tl).flatten := by
    rw [join_eq, tl_join, tl_none, joinL_nil]
  rw [len_tl, e]
  induction ys with
  | nil => exact ⟨rfl, fun c hc => by cases hc⟩
  | cons y r ih =>
    obtain ⟨c, rfl, h1, h2⟩ := h y List.mem_cons_self
    obtain ⟨i1, i2⟩ := ih (fun z hz => h z (List.mem_cons_of_mem _ hz)) (by rw [join_eq, tl_join, tl_none, joinL_nil])
    rw [List.map_cons, List.flatten_cons]
    refine ⟨?_, fun d hd => ?_⟩
    · rw [List.length_append, i1]
      show 1 + r.length = r.length + 1
      omega
    · rcases List.mem_append.mp hd with hd | hd
      · have : d = c := List.mem_singleton.mp hd
        omega
      · exact i2 d hd
theorem shownAll_len : ∀ ns : List Int, (∀ n ∈ ns, IsVal n) → ∀ w ∈ PyData.shownAll (ns.map .int), w.length ≤ 6
  | [], _, w, hw => by cases hw
  | n :: r, h, w, hw => by
    rcases List.mem_cons.mp hw with e | hw
    · rw [e]
      exact numT_len (.inr (h n List.mem_cons_self))
    · exact shownAll_len r (fun m hm => h m (List.mem_cons_of_mem _ hm)) w hw
theorem shownAll_n : ∀ ns : List Int, (PyData.shownAll (ns.map .int)).length = ns.length
  | [] => rfl
  | n :: r => congrArg (· + 1) (shownAll_n r)
theorem ints_show : ∀ ns : List Int, (∀ n ∈ ns, IsVal n) → PyData.showableAll (ns.map .int) = true
  | [], _ => rfl
  | n :: r, h => by
    show (decide (n.natAbs.log2 < 1920) && PyData.showableAll (r.map .int)) = true
    have hn := h n List.mem_cons_self
    rw [ints_show r fun m hm => h m (List.mem_cons_of_mem _ hm), decide_eq_true (log_small (by have := hn.1; have := hn.2; omega))]; rfl
theorem ints_nodict : ∀ ns : List Int, PyData.hasDictAll (ns.map .int) = false
  | [] => rfl
  | n :: r => by
    show (false || PyData.hasDictAll (r.map .int)) = false
    rw [ints_nodict r]; rfl
theorem len_app (a b : Str) : (a ++ b).length = a.length + b.length := by
  rw [len_tl, tl_append, List.length_append, ← len_tl, ← len_tl]
theorem tuple_len {ns : List Int} (h : AdOk ns) : (PyData.shown (.tuple (ns.map .int))).length ≤ sizeLine := by
  show (tupleText (PyData.shownAll (ns.map .int))).length ≤ sizeLine
  have h1 := shownAll_len ns h.1
  have h2 := shownAll_n ns
  have h3 := h.2
  generalize PyData.shownAll (ns.map .int) = ts at h1 h2 ⊢
  have hj : (Str.join ", " ts).length ≤ ts.length * 8 := by
    by_cases c : ts = []
    · subst c; exact Nat.le_refl _
    · have e := join_length_add ts c
      have hp : ∀ l : List Str, (∀ w ∈ l, w.length ≤ 6) → piled l ≤ l.length * 8 := by
        intro l
        induction l with
        | nil => intro _; exact Nat.le_refl _
        | cons x r ih =>
          intro h
          have i1 := ih fun w hw => h w (List.mem_cons_of_mem _ hw)
          have i2 := h x List.mem_cons_self
          have e : piled (x :: r) = (x.length + 2) + piled r := by
            unfold piled
            rw [List.map_cons, List.sum_cons]
          rw [e, List.length_cons]
          omega
      have := hp ts h1
      omega
  have e1 : (Str.ofString "(").length = 1 := by decide +kernel
  have e2 : ∀ b : Bool, (Str.ofString (if b = true then ",)" else ")" : String)).length ≤ 2 := by decide +kernel
  unfold tupleText
  show ((Str.ofString "(" ++ Str.join ", " ts) ++ Str.ofString (if (ts.length == 1) = true then ",)" else ")" : String)).length ≤ _
  rw [len_app, len_app, e1]
  have := e2 (ts.length == 1)
  exact sizeL (by omega)

def obsMT (fa : List FaM) (fn : List He.DefD) (ts : List He.Tab) (K : PySem.W.Frag) : He.AlT := (obsM fa fn K, ts.map fun t => He.dicW K (t.1 K))
def valMT (fn : List He.DefD) (ts : List He.Tab) (w : World) : He.AlT := (He.valD fn, ts.map fun t => some (He.keysIn w.params t.2))
def SaysMT (fa : List FaM) (fn : List He.DefD) (ts : List He.Tab) (w : World) (K : PySem.W.Frag) : Prop := obsMT fa fn ts K = valMT fn ts w
def obsMTG (names : List Str) (fa : List FaM) (fn : List He.DefD) (ts : List He.Tab) (g : Addr → Option Obj) : He.AlT := asM names g fun as => obsMT fa fn ts (He.frG g as)
def hookMT (names : List Str) (fa : List FaM) (fn : List He.DefD) (ts : List He.Tab) : PySem.W.Hook where
  α := He.AlT
  obs := fun s => obsMTG names fa fn ts s.heap.get?
  val := fun w => valMT fn ts w
  says := fun w h => ∃ K : PySem.W.Frag, K.In h ∧ SaysMT fa fn ts w K
  of := fun _ s e => by
    obtain ⟨as, ea⟩ := asM_eq (α := He.AlT) names s.heap.get?
    exact ⟨_, He.frG_in, (ea _).symm.trans e⟩
  keeps := fun _ _ _ ⟨K, hK, c⟩ k => ⟨K, PySem.W.Frag.In.keeps hK k, c⟩
theorem obsMTG_eq {names : List Str} {fa : List FaM} {fn : List He.DefD} {ts : List He.Tab} {g : Addr → Option Obj} {s : Shared} (h : ∀ a, g a = s.heap.get? a) : obsMTG names fa fn ts g = (hookMT names fa fn ts).obs s := by
  have e : g = s.heap.get? := funext h
  rw [e] <;> rfl
/-- at d: a table with these keys and values -/
def KTab (K : PySem.W.Frag) (w : World) (d : Addr) (kvs : List (Str × V)) : Prop :=
  ∃ es n, KDict K w d es n ∧ ∀ z, ∃ r, PySem.W.nsIn K d z = some r ∧ ((∃ v u, kvs.lookup z = some v ∧ r = some u ∧ RelV v u) ∨ (kvs.lookup z = none ∧ r = none))
theorem key_of_some {e : DictEntry} {x : Str} {i : Int} (h : He.keyOf e = some (x, i)) : ∃ t, e.key = .str x t := by
  unfold He.keyOf at h
  split at h
  · rename_i y t q
    have h2 := Option.some.inj h
    exact ⟨t, by rw [q, (Prod.mk.inj h2).1]⟩
  · cases h
theorem keys_find {P : Params} {z : Str} : ∀ {l : List DictEntry} {ks : List Str}, l.map He.keyOf = He.keysIn P ks → z ∉ ks → l.find? (fun e => e.key.isStr z) = none ∧ l.any (·.refKey) = false
  | [], _, _, _ => ⟨rfl, rfl⟩
  | e :: r, [], h, _ => by cases h
  | e :: r, k :: ks, h, n => by
    have h1 : He.keyOf e :: r.map He.keyOf = some (k, PyData.keyHash P k) :: He.keysIn P ks := h
    injection h1 with h2 h3
    obtain ⟨t, ht⟩ := key_of_some h2
    obtain ⟨e1, e2⟩ := keys_find h3 fun m => n (List.mem_cons_of_mem _ m)
    have e3 : e.key.isStr z = false := by
      rw [ht]
      show (k == z) = false
      exact beq_false_of_ne fun q => n (by rw [q]; exact List.mem_cons_self)
    have e4 : e.refKey = false := by
      unfold DictEntry.refKey
      rw [ht]
    exact ⟨by rw [List.find?_cons, e3]; exact e1, by rw [List.any_cons, e4, e2]; rfl⟩
theorem ktab_of {K : PySem.W.Frag} {w : World} {d : Addr} {kvs : List (Str × He.Dv)} (h : He.dicW K d = some (He.keysIn w.params (kvs.map (·.1)))) (hv : He.valsB K d kvs = true) : KTab K w d (kvs.map fun q => (q.1, q.2.v K)) := by
  obtain ⟨es, n, D⟩ := He.dicW_ok h
  have hk : es.toList.map He.keyOf = He.keysIn w.params (kvs.map (·.1)) := by
    unfold He.dicW at h
    rw [D.at_] at h
    have h1 : (match decide ("dict" = "dict") && ((#[] : Array (Option Value)).isEmpty && !(d == sysModules)) with
      | true => some (es.toList.map He.keyOf)
      | false => none) = some (He.keysIn w.params (kvs.map (·.1))) := h
    rw [D.low] at h1
    exact Option.some.inj h1
  have look : ∀ (z : Str) (l : List (Str × He.Dv)), (l.map fun q => (q.1, q.2.v K)).lookup z = none → z ∉ l.map (·.1) := by
    intro z l
    induction l with
    | nil => intro _ m; cases m
    | cons q r ih =>
      intro h m
      rw [List.map_cons, List.lookup_cons] at h
      cases c : z == q.1 with
      | true => rw [c] at h; cases h
      | false =>
        rw [c] at h
        rcases List.mem_cons.mp m with e | m
        · have e : z = q.1 := e
          rw [e, beq_self_eq_true] at c; cases c
        · exact ih h m
  refine ⟨es, n, D, fun z => ?_⟩
  cases q : (kvs.map fun q => (q.1, q.2.v K)).lookup z with
  | some v =>
    have : ∃ p ∈ kvs, p.1 = z ∧ p.2.v K = v := by
      have m := PySem.mem_of_lookup q
      obtain ⟨p, hp, e⟩ := List.mem_map.mp m
      exact ⟨p, hp, congrArg Prod.fst e, congrArg Prod.snd e⟩
    obtain ⟨p, hp, e1, e2⟩ := this
    obtain ⟨u, hu, ru⟩ := He.valsB_ok hv hp
    exact ⟨some u, by rw [← e1]; exact hu, .inl ⟨v, u, rfl, rfl, by rw [← e2]; exact ru⟩⟩
  | none =>
    obtain ⟨f1, f2⟩ := keys_find hk (look z kvs q)
    refine ⟨none, ?_, .inr ⟨rfl, rfl⟩⟩
    unfold PySem.W.nsIn
    rw [D.at_]
    show (match es.toList.find? (fun e => e.key.isStr z) with
      | some e => some (some e.val)
      | none => if es.toList.any (·.refKey) then none else some none) = _
    rw [f1, f2]; rfl
section
variable {fa : List FaM} {fn : List He.DefD} {ts : List He.Tab} {w : World} {K : PySem.W.Frag}
theorem SaysMT.m (c : SaysMT fa fn ts w K) : SaysM fa fn K := congrArg (fun z : He.AlT => z.1) c
theorem SaysMT.tab (c : SaysMT fa fn ts w K) (i : Nat) {t : He.Tab} (h : ts[i]? = some t) : He.dicW K (t.1 K) = some (He.keysIn w.params t.2) := by
  have e : ts.map (fun t => He.dicW K (t.1 K)) = ts.map fun t => some (He.keysIn w.params t.2) := congrArg (fun z : He.AlT => z.2) c
  have e2 : (ts.map fun t => He.dicW K (t.1 K))[i]? = (ts.map fun t => some (He.keysIn w.params t.2))[i]? := by rw [e]
  rw [List.getElem?_map, List.getElem?_map, h] at e2
  exact Option.some.inj e2
end
/-- x in d of such a table -/
theorem op_inTab {X : Cx} {d : Addr} {kvs : List (Str × V)} (T : KTab X.K X.w d kvs) : OpR X (compareOp .In) (fun x y H Q => ∃ z : Str, x = .str z ∧ y = .ref d ∧ Q (.bl (kvs.lookup z).isSome) H) := by
  obtain ⟨es, n, D, vals⟩ := T
  intro pins s σ H x y v u Q I rx ry h
  obtain ⟨z, rfl, rfl, q⟩ := h
  obtain ⟨r, e, c⟩ := vals z
  refine op_in_kd D pins s σ H _ _ v u Q I rx ry ⟨z, r, rfl, rfl, e, ?_⟩
  have er : r.isSome = (kvs.lookup z).isSome := by
    rcases c with ⟨v0, u0, e1, e2, _⟩ | ⟨e1, e2⟩
    · rw [e1, e2]; rfl
    · rw [e1, e2]; rfl
  rw [er]; exact q
theorem KTab.dct {K : PySem.W.Frag} {w : World} {d : Addr} {kvs : List (Str × V)} (T : KTab K w d kvs) {z : Str} {v : V} (h : kvs.lookup z = some v) : KDct K w d z v := by
  obtain ⟨es, n, D, vals⟩ := T
  obtain ⟨r, e, c⟩ := vals z
  rcases c with ⟨v0, u0, e1, e2, ru⟩ | ⟨e1, _⟩
  · rw [h] at e1
    cases e1
    rw [e2] at e
    exact ⟨es, n, u0, D.at_, D.lit, e, ru⟩
  · rw [h] at e1; cases e1

def NC1 : List Str := ["", "-", "-1", "0", "00", "01", "1.2", "1.", "1000000", "999999", "start", "row", "goes", "box", "cell"]
def NC2 : List Str := ["world", "drawn", "yes", "no", "free", "Yes", "true", "None", "a", "abcdef", "abcdefg", "A", "if"]
def NC3 : List Str := ["skip", "tell", "goes yes", "1.02", "-.1", "+1", "a1", "starts", "none", "boxes", "end", "7"]
theorem nc_ok : ∀ s ∈ (NC1 ++ NC2) ++ NC3, LnB 9 s := by decide +kernel

theorem len_lit4 : (Str.ofString "row ").length = 4 ∧ (Str.ofString "goes ").length = 5 ∧ (Str.ofString " ").length = 1 := by decide +kernel
theorem goT_len (g : Option Bool) : (goT g).length ≤ 4 := (lnb_goT g).1
/-- what stands in a place, and its text -/
def Pl.parts (ta : Addr) : Pl → List (V × Str)
  | .box ad nm => [(.str "box", "box"), (.ref ta, PyData.shown (.tuple (ad.map .int))), (.str nm, nm)]
  | .cell n => [(.str "cell", "cell"), (.int n, numT n)]
  | .world nm n => [(.str "world", "world"), (.str nm, nm), (.int n, numT n)]
  | .drawn nm => [(.str "drawn", "drawn"), (.str nm, nm)]
def PlH2 (H : Hp) (p : Pl) (ta t : Addr) : Prop := H t = some (.tup ((p.parts ta).map Prod.fst)) ∧ ∀ ad nm, p = .box ad nm → H ta = some (.tup (ad.map V.int))
theorem PlH.two {H : Hp} {v : V} : ∀ {p : Pl}, PlH H p v → ∃ ta t, v = .ref t ∧ PlH2 H p ta t
  | .box ad nm, ⟨t, ta, h1, h2, h3⟩ => ⟨ta, t, h1, h2, fun _ _ e => by cases e; exact h3⟩
  | .cell n, ⟨t, h1, h2⟩ => ⟨t, t, h1, h2, fun _ _ e => nomatch e⟩
  | .world nm n, ⟨t, h1, h2⟩ => ⟨t, t, h1, h2, fun _ _ e => nomatch e⟩
  | .drawn nm, ⟨t, h1, h2⟩ => ⟨t, t, h1, h2, fun _ _ e => nomatch e⟩
theorem Pl.parts_len (p : Pl) (ta : Addr) : (p.parts ta).length ≤ 3 := by
  cases p with
  | box ad nm => exact Nat.le_refl 3
  | cell n => exact Nat.le_succ 2
  | world nm n => exact Nat.le_refl 3
  | drawn nm => exact Nat.le_succ 2
theorem Pl.words_n (p : Pl) : p.words.length ≤ 3 := by
  cases p with
  | box ad nm => exact Nat.le_refl 3
  | cell n => exact Nat.le_succ 2
  | world nm n => exact Nat.le_refl 3
  | drawn nm => exact Nat.le_succ 2
theorem sizeL3 {n : Nat} (h : n ≤ 16777216) : n ≤ sizeLine := sizeL h
theorem start_text {p : Pl} {n : Int} : Txt.join (Str.ofString " ") (((["start"] : List Str) ++ p.words) ++ [numT n]) = (Chg.start p n).text := by
  show _ = Txt.join (Str.ofString " ") (Str.ofString "start" :: (p.words ++ [numT n]))
  rw [List.append_assoc]; rfl

theorem mem_joinL {c : Nat} (h : c ≠ 32) : ∀ L : List (List Nat), c ∈ joinL [32] L ↔ ∃ x ∈ L, c ∈ x
  | [] => by simp [joinL]
  | [x] => by simp [joinL]
  | x :: y :: r => by
    show c ∈ x ++ ([32] ++ joinL [32] (y :: r)) ↔ _
    have ih := mem_joinL h (y :: r)
    simp only [List.mem_append, List.mem_singleton, ih]
    constructor
    · rintro (a | a | ⟨z, hz, hc⟩)
      · exact ⟨x, List.mem_cons_self, a⟩
      · exact absurd a h
      · exact ⟨z, List.mem_cons_of_mem _ hz, hc⟩
    · rintro ⟨z, hz, hc⟩
      rcases List.mem_cons.mp hz with rfl | hz
      · exact .inl hc
      · exact .inr (.inr ⟨z, hz, hc⟩)
theorem nl_join {ws : List Str} : 10 ∈ tl (Txt.join (Str.ofString " ") ws) ↔ ∃ w ∈ ws, 10 ∈ tl w := by
  rw [join_eq, tl_join, tl_sp, mem_joinL (by decide)]
  constructor
  · rintro ⟨x, hx, hc⟩
    obtain ⟨w, hw, rfl⟩ := List.mem_map.mp hx
    exact ⟨w, hw, hc⟩
  · rintro ⟨w, hw, hc⟩
    exact ⟨_, List.mem_map.mpr ⟨w, hw, rfl⟩, hc⟩
theorem row_nl {ws : List Str} (c : wd ws 0 = "row") (h : 10 ∈ tl (Txt.join (Str.ofString " ") ws)) (h2 : 2 < ws.length) (hv : isValW (wd ws 1) = true) : 10 ∈ tl (Txt.join (Str.ofString " ") (ws.drop 2)) := by
  rw [nl_join] at h ⊢
  obtain ⟨w, hw, hc⟩ := h
  match ws, h2, c, hv, hw with
  | a :: b :: r, _, c, hv, hw =>
    rcases List.mem_cons.mp hw with rfl | hw
    · have c : w = "row" := c
      rw [c] at hc
      exact absurd hc (by decide +kernel)
    rcases List.mem_cons.mp hw with rfl | hw
    · have hd := (valW_parts (show isValW w = true from hv)).2.2
      have hd := hd 10 hc
      omega
    · exact ⟨w, hw, hc⟩
theorem row_nonl {ws : List Str} (h : 10 ∉ tl (Txt.join (Str.ofString " ") ws)) : 10 ∉ tl (Txt.join (Str.ofString " ") (ws.drop 2)) := by
  rw [nl_join] at h ⊢
  rintro ⟨w, hw, hc⟩
  exact h ⟨w, List.mem_of_mem_drop hw, hc⟩
theorem join_empty {L : List Str} (h : L ≠ []) : Txt.join (Str.ofString " ") L = Str.ofString "" ↔ L = [Str.ofString ""] := by
  constructor
  · intro e
    have e2 := congrArg tl e
    rw [join_eq, tl_join, tl_sp, tl_none] at e2
    match L, h, e2 with
    | [x], _, e2 =>
      have e3 : tl x = tl (Str.ofString "") := by rw [tl_none]; exact e2
      rw [ext_tl e3]
    | x :: y :: r, _, e2 =>
      have e3 : tl x ++ ([32] ++ joinL [32] ((y :: r).map tl)) = [] := e2
      simp at e3
  · intro e
    rw [e]
    refine ext_tl ?_
    rw [join_eq, tl_join]; rfl
theorem mid_short {ws : List Str} (h : ¬ (2 : Int) < (ws.length : Int)) : plF (midW ws) = none := by
  have e : midW ws = [] := by
    unfold midW
    rw [show ws.length - 2 = 0 by omega, List.take_zero]
  rw [e]
  decide +kernel
theorem chW_start_none {ws : List Str} (h : wd ws 0 = "start") (hp : plF (midW ws) = none) : chW ws = none := by rw [chW_start h, hp]; rfl
theorem chW_start_num {ws : List Str} (h : wd ws 0 = "start") (cv : isValW (wd ws (ws.length - 1)) = false) : chW ws = none := by
  rw [chW_start h]
  cases plF (midW ws) with
  | none => rfl
  | some p => exact if_neg (by rw [cv]; exact Bool.false_ne_true)
theorem chW_start_ok {ws : List Str} {p : Pl} (h : wd ws 0 = "start") (hp : plF (midW ws) = some p) (cv : isValW (wd ws (ws.length - 1)) = true) : chW ws = some (.start p (valOf (wd ws (ws.length - 1)))) := by
  rw [chW_start h, hp]
  exact if_pos cv
def KV3 : List (Key × V) := [(.inr "yes", .bl true), (.inr "no", .bl false), (.inr "free", .non)]
theorem kv3_merge : mergeK [] KV3 = KV3 := by decide +kernel
theorem kv3_get {w : Str} (h : w ∈ (["yes", "no", "free"] : List Str)) : ∃ g, GO.lookup w = some g ∧ valV KV3 (.inr w) = some (KO.oV g) := by
  simp only [List.mem_cons, List.not_mem_nil, or_false] at h
  rcases h with rfl | rfl | rfl
  · exact ⟨some true, by decide +kernel, by decide +kernel⟩
  · exact ⟨some false, by decide +kernel, by decide +kernel⟩
  · exact ⟨none, by decide +kernel, by decide +kernel⟩
theorem go_none {w : Str} (h : w ∉ (["yes", "no", "free"] : List Str)) : GO.lookup w = none := by
  simp only [List.mem_cons, List.not_mem_nil, or_false, not_or] at h
  unfold GO
  rw [List.lookup_cons, beq_false_of_ne h.1, List.lookup_cons, beq_false_of_ne h.2.1, List.lookup_cons, beq_false_of_ne h.2.2]; rfl

/-! ### the text of a change, read -/
theorem cut_exists : ∀ cs : List Nat, ∃ ps : List (List Nat), ps ≠ [] ∧ (∀ p ∈ ps, 32 ∉ p) ∧ joinL [32] ps = cs
  | [] => ⟨[[]], by simp, (fun p hp => by rw [List.mem_singleton.mp hp]; simp), rfl⟩
  | c :: r => by
    obtain ⟨ps, h1, h2, h3⟩ := cut_exists r
    match ps, h1, h2, h3 with
    | p :: q, _, h2, h3 =>
      by_cases e : c = 32
      · refine ⟨[] :: p :: q, by simp, fun x hx => ?_, ?_⟩
        · rcases List.mem_cons.mp hx with rfl | hx
          · simp
          · exact h2 x hx
        · show [] ++ ([32] ++ joinL [32] (p :: q)) = _
          rw [h3, e]; rfl
      · refine ⟨(c :: p) :: q, by simp, fun x hx => ?_, ?_⟩
        · rcases List.mem_cons.mp hx with rfl | hx
          · have := h2 p List.mem_cons_self
            intro hm
            rcases List.mem_cons.mp hm with e2 | hm
            · exact e e2.symm
            · exact this hm
          · exact h2 x (List.mem_cons_of_mem _ hx)
        · cases q with
          | nil => show c :: p = c :: r; rw [← h3]; rfl
          | cons y z => show (c :: p) ++ ([32] ++ joinL [32] (y :: z)) = c :: r; rw [← h3]; rfl
theorem split_free (s : Str) : ∀ p ∈ Txt.split s (Str.ofString " "), 32 ∉ tl p := by
  obtain ⟨ps, h1, h2, h3⟩ := cut_exists (tl s)
  have hm : (ps.map fun p => (⟨p.toArray⟩ : Str)).map tl = ps := by
    rw [List.map_map]
    conv => rhs; rw [← List.map_id ps]
    exact List.map_congr_left fun p _ => rfl
  have e : Txt.join (Str.ofString " ") (ps.map fun p => (⟨p.toArray⟩ : Str)) = s := by
    refine ext_tl ?_
    rw [join_eq, tl_join, tl_sp, hm, h3]
  have q := split_join tl_sp (by decide +kernel) (parts := ps.map fun p => (⟨p.toArray⟩ : Str)) (by simpa using h1) (fun p hp => by
    obtain ⟨x, hx, rfl⟩ := List.mem_map.mp hp
    exact h2 x hx)
  rw [← e, q]
  intro p hp
  obtain ⟨x, hx, rfl⟩ := List.mem_map.mp hp
  exact h2 x hx
theorem name_free32 {s : Str} (h : isNameW s = true) : 32 ∉ tl s := fun hm => by
  have := (nameW_parts h).2.2.2.2 _ hm
  omega
theorem lit_free : ∀ w ∈ (["box", "cell", "world", "drawn", "start", "row", "goes", "yes", "no", "free"] : List Str), 32 ∉ tl w := by decide +kernel
theorem goT_free (g : Option Bool) : 32 ∉ tl (goT g) := by
  rcases g with _ | (_ | _)
  · exact lit_free "free" (by simp)
  · exact lit_free "no" (by simp)
  · exact lit_free "yes" (by simp)
theorem Pl.words_free {p : Pl} (h : p.Wf) : ∀ w ∈ p.words, 32 ∉ tl w := by
  cases p with
  | box ad nm =>
    intro w hw
    simp only [Pl.words, List.mem_cons, List.not_mem_nil, or_false] at hw
    rcases hw with e | e | e <;> rw [e]
    · exact lit_free "box" (by simp)
    · exact adT_free h.1.1 (.inl rfl)
    · exact name_free32 h.2.1
  | cell n =>
    intro w hw
    simp only [Pl.words, List.mem_cons, List.not_mem_nil, or_false] at hw
    rcases hw with e | e <;> rw [e]
    · exact lit_free "cell" (by simp)
    · exact numT_free (.inr h) (.inl rfl)
  | world nm n =>
    intro w hw
    simp only [Pl.words, List.mem_cons, List.not_mem_nil, or_false] at hw
    rcases hw with e | e | e <;> rw [e]
    · exact lit_free "world" (by simp)
    · exact name_free32 h.1.1
    · exact numT_free (.inr h.2) (.inl rfl)
  | drawn nm =>
    intro w hw
    simp only [Pl.words, List.mem_cons, List.not_mem_nil, or_false] at hw
    rcases hw with e | e <;> rw [e]
    · exact lit_free "drawn" (by simp)
    · exact name_free32 h.1
theorem adT_ok {ad : List Int} (h : AdOk ad) : adOk (adT ad) = true ∧ adOf (adT ad) = ad := by
  by_cases c : ad = []
  · subst c; exact ⟨by decide +kernel, by decide +kernel⟩
  have hn : ¬ adT ad = Str.ofString "-" := fun e => c ((adT_dash h.1).mp e)
  unfold adOk adOf
  rw [if_neg hn, decide_eq_false hn, adT_split h.1 c, List.length_map, decide_eq_true h.2]
  refine ⟨?_, ?_⟩
  · rw [Bool.false_or, Bool.true_and, List.all_eq_true]
    intro w hw
    obtain ⟨n, hn, rfl⟩ := List.mem_map.mp hw
    exact (numT_valW (h.1 n hn).1 (h.1 n hn).2).1
  · rw [List.map_map]
    have hh := h.1
    have : ∀ l : List Int, (∀ n ∈ l, IsVal n) → l.map (valOf ∘ numT) = l := by
      intro l
      induction l with
      | nil => intro _; rfl
      | cons n r ih => intro hl; rw [List.map_cons, ih fun m hm => hl m (List.mem_cons_of_mem _ hm)]; exact congrArg (· :: r) (numT_valW (hl n List.mem_cons_self).1 (hl n List.mem_cons_self).2).2
    exact this ad hh
theorem pl_read {p : Pl} (h : p.Wf) : plF p.words = some p := by
  cases p with
  | box ad nm =>
    obtain ⟨h1, h2⟩ := adT_ok h.1
    have h1 : adOk (wd (Pl.words (.box ad nm)) 1) = true := h1
    have h3 : isNameW (wd (Pl.words (.box ad nm)) 2) = true := h.2.1
    unfold plF
    rw [if_pos ⟨rfl, rfl⟩, if_pos ⟨h1, h3⟩]
    show some (Pl.box (adOf (adT ad)) nm) = _
    rw [h2]
  | cell n =>
    obtain ⟨h1, h2⟩ := numT_valW h.1 h.2
    have h1 : isValW (wd (Pl.words (.cell n)) 1) = true := h1
    unfold plF
    rw [if_neg (fun e => by have := e.1; simp [Pl.words] at this), if_pos ⟨rfl, rfl⟩, if_pos h1]
    show some (Pl.cell (valOf (numT n))) = _
    rw [h2]
  | world nm n =>
    obtain ⟨h1, h2⟩ := numT_valW h.2.1 h.2.2
    have h1 : isValW (wd (Pl.words (.world nm n)) 2) = true := h1
    have h3 : isNameW (wd (Pl.words (.world nm n)) 1) = true := h.1.1
    have n1 : ¬ wd (Pl.words (.world nm n)) 0 = "box" := by show ¬ Str.ofString "world" = Str.ofString "box"; decide +kernel
    unfold plF
    rw [if_neg (fun e => n1 e.2), if_neg (fun e => by have := e.1; simp [Pl.words] at this), if_pos ⟨rfl, rfl⟩, if_pos ⟨h3, h1⟩]
    show some (Pl.world nm (valOf (numT n))) = _
    rw [h2]
  | drawn nm =>
    have h3 : isNameW (wd (Pl.words (.drawn nm)) 1) = true := h.1
    have n1 : ¬ wd (Pl.words (.drawn nm)) 0 = "cell" := by show ¬ Str.ofString "drawn" = Str.ofString "cell"; decide +kernel
    unfold plF
    rw [if_neg (fun e => by have := e.1; simp [Pl.words] at this), if_neg (fun e => n1 e.2), if_neg (fun e => by have := e.1; simp [Pl.words] at this), if_pos ⟨rfl, rfl⟩, if_pos h3]
    rfl
theorem chF_text {c : Chg} (h : c.Wf) : chF c.text = some c := by
  unfold chF Chg.text
  cases c with
  | start p n =>
    have e : Txt.split (Txt.join (Str.ofString " ") (Chg.words (.start p n))) (Str.ofString " ") = Chg.words (.start p n) := by
      refine split_join tl_sp (by decide +kernel) (by simp [Chg.words]) fun w hw => ?_
      rcases List.mem_cons.mp hw with rfl | hw
      · exact lit_free "start" (by simp)
      rcases List.mem_append.mp hw with hw | hw
      · exact Pl.words_free h.1 w hw
      · rw [List.mem_singleton.mp hw]; exact numT_free (.inr h.2) (.inl rfl)
    rw [e]
    obtain ⟨h1, h2⟩ := numT_valW h.2.1 h.2.2
    have hl : (Chg.words (.start p n)).length = p.words.length + 2 := by simp [Chg.words]
    have em : midW (Chg.words (.start p n)) = p.words := by
      unfold midW
      rw [hl]
      show (p.words ++ [numT n]).take (p.words.length + 2 - 2) = _
      rw [show p.words.length + 2 - 2 = p.words.length by omega, List.take_left]
    have ew : wd (Chg.words (.start p n)) ((Chg.words (.start p n)).length - 1) = numT n := by
      unfold wd
      rw [hl, show p.words.length + 2 - 1 = p.words.length + 1 by omega]
      show (Str.ofString "start" :: (p.words ++ [numT n])).getD (p.words.length + 1) _ = _
      rw [List.getD_eq_getElem?_getD, List.getElem?_cons_succ, List.getElem?_append_right (Nat.le_refl _), Nat.sub_self]; rfl
    rw [chW_start rfl, em, pl_read h.1]
    show (if isValW (wd (Chg.words (.start p n)) ((Chg.words (.start p n)).length - 1)) = true then _ else _) = _
    rw [ew, if_pos h1, h2]
  | row n l =>
    obtain ⟨h1, h2⟩ := numT_valW h.1.1 h.1.2
    have el : Txt.join (Str.ofString " ") (Txt.split l (Str.ofString " ")) = l := by rw [join_eq]; exact PySem.StrLaws.join_split l _
    have hne := split_nil l (Str.ofString " ")
    have hf := split_free l
    generalize Txt.split l (Str.ofString " ") = ls at el hne hf
    have et : Txt.join (Str.ofString " ") (Chg.words (.row n l)) = Txt.join (Str.ofString " ") (Str.ofString "row" :: numT n :: ls) := by
      refine ext_tl ?_
      show tl (Txt.join (Str.ofString " ") [Str.ofString "row", numT n, l]) = _
      rw [join3, ← el, join_eq, join_eq, tl_join, tl_join, tl_sp]
      match ls, hne with
      | x :: r, _ => rfl
    rw [et, split_join tl_sp (by decide +kernel) (by simp) (fun w hw => by
      rcases List.mem_cons.mp hw with rfl | hw
      · exact lit_free "row" (by simp)
      rcases List.mem_cons.mp hw with rfl | hw
      · exact numT_free (.inr h.1) (.inl rfl)
      · exact hf w hw)]
    have n1 : ¬ wd (Str.ofString "row" :: numT n :: ls) 0 = "start" := by show ¬ Str.ofString "row" = Str.ofString "start"; decide +kernel
    have hd : (Str.ofString "row" :: numT n :: ls).drop 2 = ls := rfl
    have h1 : isValW (wd (Str.ofString "row" :: numT n :: ls) 1) = true := h1
    have hlen : 2 < (Str.ofString "row" :: numT n :: ls).length := by
      have := List.length_pos_iff.mpr hne
      simp only [List.length_cons]; omega
    have l0 : l ≠ Str.ofString "" := fun e => by
      have := h.2.1
      rw [e] at this
      exact absurd this (by decide +kernel)
    have l10 : 10 ∉ tl l := fun hm => by have := h.2.2.2 _ hm; omega
    rw [chW_row n1 rfl, hd, el, if_pos ⟨hlen, l0, l10, h1⟩]
    show some (Chg.row (valOf (numT n)) l) = _
    rw [h2]
  | goes ad g =>
    have e : Txt.split (Txt.join (Str.ofString " ") (Chg.words (.goes ad g))) (Str.ofString " ") = Chg.words (.goes ad g) := by
      refine split_join tl_sp (by decide +kernel) (by simp [Chg.words]) fun w hw => ?_
      simp only [Chg.words, List.mem_cons, List.not_mem_nil, or_false] at hw
      rcases hw with e | e | e <;> rw [e]
      · exact lit_free "goes" (by simp)
      · exact adT_free h.1 (.inl rfl)
      · exact goT_free g
    rw [e]
    obtain ⟨h1, h2⟩ := adT_ok h
    have n1 : ¬ wd (Chg.words (.goes ad g)) 0 = "start" := by show ¬ Str.ofString "goes" = Str.ofString "start"; decide +kernel
    have n2 : ¬ wd (Chg.words (.goes ad g)) 0 = "row" := by show ¬ Str.ofString "goes" = Str.ofString "row"; decide +kernel
    have hg : GO.lookup (goT g) = some g := by rcases g with _ | (_ | _) <;> decide +kernel
    have h1 : adOk (wd (Chg.words (.goes ad g)) 1) = true := h1
    rw [chW_goes n1 n2, if_pos ⟨rfl, rfl⟩]
    show (GO.lookup (goT g)).bind _ = _
    rw [hg]
    show (if adOk (wd (Chg.words (.goes ad g)) 1) = true then _ else _) = _
    rw [if_pos h1]
    show some (Chg.goes (adOf (adT ad)) g) = _
    rw [h2]
theorem Chg.asc_of {c : Chg} (h : c.Wf) : c.Asc := by
  cases c with
  | start p n =>
    cases p with
    | box ad nm => exact h.1.2.2.2
    | cell m => trivial
    | world nm m => exact h.1.1.2.2
    | drawn nm => exact h.1.2.2
  | row n l => exact fun c hc => by have := h.2.2.2 c hc; omega
  | goes ad g => trivial

/-- str of a number, of a text -/
def rStr2 : List V → Hp → VK → Prop := fun xs H Q => (∃ i, xs = [.int i] ∧ i.natAbs.log2 < 1920 ∧ Q (.str (toString i)) H) ∨ (∃ a, xs = [.str a] ∧ Q (.str a) H)
theorem call_str2 {X : Cx} : CallR X (.type "str") rStr2 := by
  intro pins s σ H xs us Q I r h
  rcases h with h | h
  · exact call_str_int pins s σ H xs us Q I r h
  · exact SkE.call_str_str pins s σ H xs us Q I r h
def spPlText : Sp := fun vs H Q _ => ∃ (p : Pl) (v : V), vs = [v] ∧ PlH H p v ∧ p.Wf ∧ ∀ H', Same H H' → Q (.str (Txt.join (Str.ofString " ") p.words)) H'
def spChText : Sp := fun vs H Q _ => ∃ (c : Chg) (v : V), vs = [v] ∧ ChgH H c v ∧ c.Wf ∧ ∀ H', Same H H' → Q (.str c.text) H'
def spKinds3 : Sp := fun vs H Q _ => ∃ (c : Chg) (u v : V), vs = [u, v] ∧ ChgH H c u ∧ ChgH H c v ∧ ∀ H', Same H H' → Q (.bl true) H'
theorem start_text3 {p : Pl} {n : Int} : Txt.join (Str.ofString " ") [Str.ofString "start", Txt.join (Str.ofString " ") p.words, numT n] = (Chg.start p n).text := by
  refine ext_tl ?_
  rw [join3, join_eq, tl_join, tl_sp]
  show _ = tl (Txt.join (Str.ofString " ") (Str.ofString "start" :: (p.words ++ [numT n])))
  rw [join_eq, tl_join, tl_sp]
  cases p <;> simp [Pl.words, joinL, List.append_assoc]
def spLaw (K : PySem.W.Frag) : Sp := fun vs H Q _ => ∃ (a : Addr) (ns : List Int), vs = [.ref a] ∧ SqL K H a (ns.map V.int) ∧ ns.length ≤ 63 ∧ ∀ H', Q (.bl true) H'

end K83
namespace K83
open PySem L2 TL
def top (i : Nat) : Stmt := PySem.Challenge.pw_hadbeen_k83_changes_as_texts.main.body.getD i (.Pass ⟨0, 0, 0, 0⟩)
abbrev s_is_name : Stmt := top 9
abbrev s_is_value_word : Stmt := top 10
abbrev s_address_text : Stmt := top 14
abbrev s_place_text : Stmt := top 15
abbrev s_change_text : Stmt := top 16
abbrev s_check_text : Stmt := top 17
abbrev s_number_in : Stmt := top 18
abbrev s_address_in : Stmt := top 19
abbrev s_name_in : Stmt := top 20
abbrev s_place_in : Stmt := top 21
abbrev s_read_change : Stmt := top 22
abbrev s_l_cell : Stmt := top 24
abbrev s_l_mixed : Stmt := top 25
abbrev s_l_twice : Stmt := top 26
abbrev s_l_well : Stmt := top 27
abbrev s_l_draw : Stmt := top 28
abbrev s_l_number : Stmt := top 29
abbrev s_l_address : Stmt := top 30
abbrev s_l_address_text : Stmt := top 31
abbrev s_l_name : Stmt := top 32
abbrev s_l_place : Stmt := top 33
abbrev s_l_change : Stmt := top 34
abbrev s_l_text : Stmt := top 35
abbrev s_l_kinds : Stmt := top 36
abbrev s_law : Stmt := top 37
abbrev N_is_name : List Str := ["thing", "sign"]
theorem sc_is_name : FnScope ["thing", "sign"] ["thing"] (defScope s_is_name) := ⟨rfl, rfl, rfl, by decide +kernel, rfl, by decide +kernel, by decide +kernel⟩
abbrev N_is_value_word : List Str := ["word", "sign"]
theorem sc_is_value_word : FnScope ["word", "sign"] ["word"] (defScope s_is_value_word) := ⟨rfl, rfl, rfl, by decide +kernel, rfl, by decide +kernel, by decide +kernel⟩
abbrev N_address_text : List Str := ["address", "number"]
theorem sc_address_text : FnScope ["address", "number"] ["address"] (defScope s_address_text) := ⟨rfl, rfl, rfl, by decide +kernel, rfl, by decide +kernel, by decide +kernel⟩
abbrev N_place_text : List Str := ["place", "word"]
theorem sc_place_text : FnScope ["place", "word"] ["place"] (defScope s_place_text) := ⟨rfl, rfl, rfl, by decide +kernel, rfl, by decide +kernel, by decide +kernel⟩
abbrev N_change_text : List Str := ["change", "word"]
theorem sc_change_text : FnScope ["change", "word"] ["change"] (defScope s_change_text) := ⟨rfl, rfl, rfl, by decide +kernel, rfl, by decide +kernel, by decide +kernel⟩
abbrev N_check_text : List Str := ["good"]
theorem sc_check_text : FnScope ["good"] ["good"] (defScope s_check_text) := ⟨rfl, rfl, rfl, by decide +kernel, rfl, by decide +kernel, by decide +kernel⟩
abbrev N_number_in : List Str := ["word"]
theorem sc_number_in : FnScope ["word"] ["word"] (defScope s_number_in) := ⟨rfl, rfl, rfl, by decide +kernel, rfl, by decide +kernel, by decide +kernel⟩
abbrev N_address_in : List Str := ["word", "numbers", "one"]
theorem sc_address_in : FnScope ["word", "numbers", "one"] ["word"] (defScope s_address_in) := ⟨rfl, rfl, rfl, by decide +kernel, rfl, by decide +kernel, by decide +kernel⟩
abbrev N_name_in : List Str := ["word"]
theorem sc_name_in : FnScope ["word"] ["word"] (defScope s_name_in) := ⟨rfl, rfl, rfl, by decide +kernel, rfl, by decide +kernel, by decide +kernel⟩
abbrev N_place_in : List Str := ["words"]
theorem sc_place_in : FnScope ["words"] ["words"] (defScope s_place_in) := ⟨rfl, rfl, rfl, by decide +kernel, rfl, by decide +kernel, by decide +kernel⟩
abbrev N_read_change : List Str := ["text", "words", "line"]
theorem sc_read_change : FnScope ["text", "words", "line"] ["text"] (defScope s_read_change) := ⟨rfl, rfl, rfl, by decide +kernel, rfl, by decide +kernel, by decide +kernel⟩
abbrev N_l_cell : List Str := ["_law_script", "_law_k"]
theorem sc_l_cell : FnScope ["_law_script", "_law_k"] ["_law_script", "_law_k"] (defScope s_l_cell) := ⟨rfl, rfl, rfl, by decide +kernel, rfl, by decide +kernel, by decide +kernel⟩
abbrev N_l_mixed : List Str := ["_law_cell_here", "_law_k", "_law_number_here"]
theorem sc_l_mixed : FnScope ["_law_cell_here", "_law_k", "_law_number_here"] ["_law_cell_here", "_law_k"] (defScope s_l_mixed) := ⟨rfl, rfl, rfl, by decide +kernel, rfl, by decide +kernel, by decide +kernel⟩
abbrev N_l_twice : List Str := ["_law_cell_here", "_law_k", "_law_number_here"]
theorem sc_l_twice : FnScope ["_law_cell_here", "_law_k", "_law_number_here"] ["_law_cell_here", "_law_k"] (defScope s_l_twice) := ⟨rfl, rfl, rfl, by decide +kernel, rfl, by decide +kernel, by decide +kernel⟩
abbrev N_l_well : List Str := ["_law_script", "_law_k"]
theorem sc_l_well : FnScope ["_law_script", "_law_k"] ["_law_script", "_law_k"] (defScope s_l_well) := ⟨rfl, rfl, rfl, by decide +kernel, rfl, by decide +kernel, by decide +kernel⟩
abbrev N_l_draw : List Str := ["_law_well_here", "_law_most", "_law_number_here"]
theorem sc_l_draw : FnScope ["_law_well_here", "_law_most", "_law_number_here"] ["_law_well_here", "_law_most"] (defScope s_l_draw) := ⟨rfl, rfl, rfl, by decide +kernel, rfl, by decide +kernel, by decide +kernel⟩
abbrev N_l_number : List Str := ["_law_well_here", "_law_way"]
theorem sc_l_number : FnScope ["_law_well_here", "_law_way"] ["_law_well_here"] (defScope s_l_number) := ⟨rfl, rfl, rfl, by decide +kernel, rfl, by decide +kernel, by decide +kernel⟩
abbrev N_l_address : List Str := ["_law_well_here", "_law_most", "_law_k"]
theorem sc_l_address : FnScope ["_law_well_here", "_law_most", "_law_k"] ["_law_well_here"] (defScope s_l_address) := ⟨rfl, rfl, rfl, by decide +kernel, rfl, by decide +kernel, by decide +kernel⟩
abbrev N_l_address_text : List Str := ["_law_address_here", "_law_number_here"]
theorem sc_l_address_text : FnScope ["_law_address_here", "_law_number_here"] ["_law_address_here"] (defScope s_l_address_text) := ⟨rfl, rfl, rfl, by decide +kernel, rfl, by decide +kernel, by decide +kernel⟩
abbrev N_l_name : List Str := ["_law_well_here", "_law_some"]
theorem sc_l_name : FnScope ["_law_well_here", "_law_some"] ["_law_well_here"] (defScope s_l_name) := ⟨rfl, rfl, rfl, by decide +kernel, rfl, by decide +kernel, by decide +kernel⟩
abbrev N_l_place : List Str := ["_law_well_here", "_law_way"]
theorem sc_l_place : FnScope ["_law_well_here", "_law_way"] ["_law_well_here"] (defScope s_l_place) := ⟨rfl, rfl, rfl, by decide +kernel, rfl, by decide +kernel, by decide +kernel⟩
abbrev N_l_change : List Str := ["_law_well_here", "_law_way", "_law_signs", "_law_line", "_law_k"]
theorem sc_l_change : FnScope ["_law_well_here", "_law_way", "_law_signs", "_law_line", "_law_k"] ["_law_well_here"] (defScope s_l_change) := ⟨rfl, rfl, rfl, by decide +kernel, rfl, by decide +kernel, by decide +kernel⟩
abbrev N_l_text : List Str := ["_law_change_here", "_law_words", "_law_part"]
theorem sc_l_text : FnScope ["_law_change_here", "_law_words", "_law_part"] ["_law_change_here"] (defScope s_l_text) := ⟨rfl, rfl, rfl, by decide +kernel, rfl, by decide +kernel, by decide +kernel⟩
abbrev N_l_kinds : List Str := ["_law_found", "_law_change_here"]
theorem sc_l_kinds : FnScope ["_law_found", "_law_change_here"] ["_law_found", "_law_change_here"] (defScope s_l_kinds) := ⟨rfl, rfl, rfl, by decide +kernel, rfl, by decide +kernel, by decide +kernel⟩
abbrev N_law : List Str := ["_law_script", "_law_k", "_law_change_here", "_law_text_here", "_law_found"]
theorem sc_law : FnScope ["_law_script", "_law_k", "_law_change_here", "_law_text_here", "_law_found"] ["_law_script"] (defScope s_law) := ⟨rfl, rfl, rfl, by decide +kernel, rfl, by decide +kernel, by decide +kernel⟩
structure Ads where
  is_name : Addr
  is_name_d : FuncData
  is_value_word : Addr
  is_value_word_d : FuncData
  address_text : Addr
  address_text_d : FuncData
  place_text : Addr
  place_text_d : FuncData
  change_text : Addr
  change_text_d : FuncData
  check_text : Addr
  check_text_d : FuncData
  number_in : Addr
  number_in_d : FuncData
  address_in : Addr
  address_in_d : FuncData
  name_in : Addr
  name_in_d : FuncData
  place_in : Addr
  place_in_d : FuncData
  read_change : Addr
  read_change_d : FuncData
  l_cell : Addr
  l_cell_d : FuncData
  l_mixed : Addr
  l_mixed_d : FuncData
  l_twice : Addr
  l_twice_d : FuncData
  l_well : Addr
  l_well_d : FuncData
  l_draw : Addr
  l_draw_d : FuncData
  l_number : Addr
  l_number_d : FuncData
  l_address : Addr
  l_address_d : FuncData
  l_address_text : Addr
  l_address_text_d : FuncData
  l_name : Addr
  l_name_d : FuncData
  l_place : Addr
  l_place_d : FuncData
  l_change : Addr
  l_change_d : FuncData
  l_text : Addr
  l_text_d : FuncData
  l_kinds : Addr
  l_kinds_d : FuncData
  law : Addr
  law_d : FuncData
  PAIRS : Addr
  ROWS : Addr
  OTHERS : Addr
  NoText : Addr
  GOES : Addr
structure Txt (w : World) (K : PySem.W.Frag) (mg : Str → Option Value) (A : Ads) : Prop where
  F_is_name : Fun K "is_name" "is_name" s_is_name A.is_name A.is_name_d
  b_is_name : Binds K A.is_name_d ["thing"] []
  m_is_name : mg "is_name" = some (.ref A.is_name)
  F_is_value_word : Fun K "is_value_word" "is_value_word" s_is_value_word A.is_value_word A.is_value_word_d
  b_is_value_word : Binds K A.is_value_word_d ["word"] []
  m_is_value_word : mg "is_value_word" = some (.ref A.is_value_word)
  F_address_text : Fun K "address_text" "address_text" s_address_text A.address_text A.address_text_d
  b_address_text : Binds K A.address_text_d ["address"] []
  m_address_text : mg "address_text" = some (.ref A.address_text)
  F_place_text : Fun K "place_text" "place_text" s_place_text A.place_text A.place_text_d
  b_place_text : Binds K A.place_text_d ["place"] []
  m_place_text : mg "place_text" = some (.ref A.place_text)
  F_change_text : Fun K "change_text" "change_text" s_change_text A.change_text A.change_text_d
  b_change_text : Binds K A.change_text_d ["change"] []
  m_change_text : mg "change_text" = some (.ref A.change_text)
  F_check_text : Fun K "check_text" "check_text" s_check_text A.check_text A.check_text_d
  b_check_text : Binds K A.check_text_d ["good"] []
  m_check_text : mg "check_text" = some (.ref A.check_text)
  F_number_in : Fun K "number_in" "number_in" s_number_in A.number_in A.number_in_d
  b_number_in : Binds K A.number_in_d ["word"] []
  m_number_in : mg "number_in" = some (.ref A.number_in)
  F_address_in : Fun K "address_in" "address_in" s_address_in A.address_in A.address_in_d
  b_address_in : Binds K A.address_in_d ["word"] []
  m_address_in : mg "address_in" = some (.ref A.address_in)
  F_name_in : Fun K "name_in" "name_in" s_name_in A.name_in A.name_in_d
  b_name_in : Binds K A.name_in_d ["word"] []
  m_name_in : mg "name_in" = some (.ref A.name_in)
  F_place_in : Fun K "place_in" "place_in" s_place_in A.place_in A.place_in_d
  b_place_in : Binds K A.place_in_d ["words"] []
  m_place_in : mg "place_in" = some (.ref A.place_in)
  F_read_change : Fun K "read_change" "read_change" s_read_change A.read_change A.read_change_d
  b_read_change : Binds K A.read_change_d ["text"] []
  m_read_change : mg "read_change" = some (.ref A.read_change)
  F_l_cell : Fun K "_law_cell" "_law_cell" s_l_cell A.l_cell A.l_cell_d
  b_l_cell : Binds K A.l_cell_d ["_law_script", "_law_k"] []
  m_l_cell : mg "_law_cell" = some (.ref A.l_cell)
  F_l_mixed : Fun K "_law_mixed" "_law_mixed" s_l_mixed A.l_mixed A.l_mixed_d
  b_l_mixed : Binds K A.l_mixed_d ["_law_cell_here", "_law_k"] []
  m_l_mixed : mg "_law_mixed" = some (.ref A.l_mixed)
  F_l_twice : Fun K "_law_twice" "_law_twice" s_l_twice A.l_twice A.l_twice_d
  b_l_twice : Binds K A.l_twice_d ["_law_cell_here", "_law_k"] []
  m_l_twice : mg "_law_twice" = some (.ref A.l_twice)
  F_l_well : Fun K "_law_well" "_law_well" s_l_well A.l_well A.l_well_d
  b_l_well : Binds K A.l_well_d ["_law_script", "_law_k"] []
  m_l_well : mg "_law_well" = some (.ref A.l_well)
  F_l_draw : Fun K "_law_draw" "_law_draw" s_l_draw A.l_draw A.l_draw_d
  b_l_draw : Binds K A.l_draw_d ["_law_well_here", "_law_most"] []
  m_l_draw : mg "_law_draw" = some (.ref A.l_draw)
  F_l_number : Fun K "_law_number" "_law_number" s_l_number A.l_number A.l_number_d
  b_l_number : Binds K A.l_number_d ["_law_well_here"] []
  m_l_number : mg "_law_number" = some (.ref A.l_number)
  F_l_address : Fun K "_law_address" "_law_address" s_l_address A.l_address A.l_address_d
  b_l_address : Binds K A.l_address_d ["_law_well_here"] []
  m_l_address : mg "_law_address" = some (.ref A.l_address)
  F_l_address_text : Fun K "_law_address_text" "_law_address_text" s_l_address_text A.l_address_text A.l_address_text_d
  b_l_address_text : Binds K A.l_address_text_d ["_law_address_here"] []
  m_l_address_text : mg "_law_address_text" = some (.ref A.l_address_text)
  F_l_name : Fun K "_law_name" "_law_name" s_l_name A.l_name A.l_name_d
  b_l_name : Binds K A.l_name_d ["_law_well_here"] []
  m_l_name : mg "_law_name" = some (.ref A.l_name)
  F_l_place : Fun K "_law_place" "_law_place" s_l_place A.l_place A.l_place_d
  b_l_place : Binds K A.l_place_d ["_law_well_here"] []
  m_l_place : mg "_law_place" = some (.ref A.l_place)
  F_l_change : Fun K "_law_change" "_law_change" s_l_change A.l_change A.l_change_d
  b_l_change : Binds K A.l_change_d ["_law_well_here"] []
  m_l_change : mg "_law_change" = some (.ref A.l_change)
  F_l_text : Fun K "_law_text" "_law_text" s_l_text A.l_text A.l_text_d
  b_l_text : Binds K A.l_text_d ["_law_change_here"] []
  m_l_text : mg "_law_text" = some (.ref A.l_text)
  F_l_kinds : Fun K "_law_kinds" "_law_kinds" s_l_kinds A.l_kinds A.l_kinds_d
  b_l_kinds : Binds K A.l_kinds_d ["_law_found", "_law_change_here"] []
  m_l_kinds : mg "_law_kinds" = some (.ref A.l_kinds)
  F_law : Fun K "law" "law" s_law A.law A.law_d
  b_law : Binds K A.law_d ["_law_script"] []
  m_law : mg "law" = some (.ref A.law)
  m_PAIRS : mg "PAIRS" = some (.ref A.PAIRS)
  q_PAIRS : ∀ H, SqT K H A.PAIRS [V.str "plus", V.str "minus", V.str "times", V.str "over", V.str "rest", V.str "less", V.str "same"]
  m_ROWS : mg "ROWS" = some (.ref A.ROWS)
  q_ROWS : ∀ H, SqT K H A.ROWS [V.str "skip", V.str "set", V.str "put", V.str "ask", V.str "draw", V.str "tell", V.str "if", V.str "while", V.str "call"]
  m_OTHERS : mg "OTHERS" = some (.ref A.OTHERS)
  q_OTHERS : ∀ H, SqT K H A.OTHERS [V.str "else", V.str "end", V.str "fun", V.str "main", V.str "give", V.str "cell"]
  m_NoText : mg "NoText" = some (.ref A.NoText)
  x_NoText : PySem.W.excIn K A.NoText [.type "ValueError", .type "Exception", .type "BaseException", .type "object"] "ValueError.__new__" = true
  kk_NoText : PySem.W.keepIn K (.ref A.NoText) = true
  bb_NoText : PySem.W.subIn K (.ref A.NoText) (.type "BaseException") = some true
  tt_NoText : PySem.W.typeIn K (.ref A.NoText) = some (.type "type")
  c_LETTERS : ∃ t, mg "LETTERS" = some (.str "abcdefghijklmnopqrstuvwxyz" t)
  c_FIGURES : ∃ t, mg "FIGURES" = some (.str "0123456789" t)
  c_MOST_NUMBERS : ∃ t, mg "MOST_NUMBERS" = some (.int 100 t)
  z_str : mg "str" = none
  z_isinstance : mg "isinstance" = none
  z_len : mg "len" = none
  z_all : mg "all" = none
  z_int : mg "int" = none
  z_tuple : mg "tuple" = none
  z_range : mg "range" = none
  z_bool : mg "bool" = none
  m_GOES : mg "GOES" = some (.ref A.GOES)
  kd_GOES : KTab K w A.GOES [("yes", .bl true), ("no", .bl false), ("free", .non)]
end K83
open PySem L2 TL

local macro_rules | `(tactic| walk_at "rd") => `(tactic| repeat (first
  | refine ⟨_, rfl, ?_⟩
  | refine ⟨_, _, rfl, rfl, ?_⟩
  | refine ⟨Or.inl ⟨by decide, by decide⟩, ?_⟩
  | refine ⟨Or.inr ⟨by decide, by decide⟩, ?_⟩
  | refine ⟨(⟨by decide, by decide⟩ : CDiv _ _), ?_⟩
  | refine ⟨(⟨by decide, by decide, by decide⟩ : CPow _ _), ?_⟩
  | refine ⟨(by show (0 : Int) < _; decide), ?_⟩
  | refine ⟨K83.mod64, ?_⟩))
namespace K83
open PySem L2 TL
section
variable {P : Program} {w : World} {K : PySem.W.Frag} {mg : Str → Option Value} {base : Heap} {A : Ads}
theorem ok_l_cell (T : Txt w K mg A) : FnOk P w K mg base CX0 1 A.l_cell A.l_cell_d ["_law_script", "_law_k"] (spCell K) := by
  refine T.F_l_cell.ok sc_l_cell (fun vs H Q E h => ?_) (fun cdv A0 outer s H vs Q E hr h => ?_)
  · obtain ⟨a, ns, k, rfl, hS, hk, q⟩ := h
    rfl
  obtain ⟨a, ns, k, rfl, hS, hk, q⟩ := h
  refine ⟨_, (pss_cons (ps_if (pt_cmpR op_lt (pv 1) (pe_callB call_lenK (by rfl) T.z_len (by decide +kernel) (pa_cons (pv 0) pa_nil)) (nomark _))
    (pss_one (ps_ret (pe_ix ix_list (pv 0) (pv 1) (fun _ _ => rfl))))
    pss_nil)
   (pss_one (ps_ret pe_int))), ?_⟩
  refine ⟨_, rfl, _, rfl, a, _, rfl, .inl hS, _, _, rfl, rfl, _, rfl, ?_⟩
  refine iteD2 (fun c => ?_) (fun c => ?_)
  · obtain ⟨v, hv⟩ := at_int (ns := ns) hk (by rw [List.length_map] at c; exact c)
    exact ⟨_, rfl, _, rfl, a, _, _, _, rfl, rfl, hS, hv, q v⟩
  · exact q 0

theorem ok_l_mixed (T : Txt w K mg A) : FnOk P w K mg base CX0 1 A.l_mixed A.l_mixed_d ["_law_cell_here", "_law_k"] spI2 := by
  refine T.F_l_mixed.ok sc_l_mixed (fun vs H Q E h => ?_) (fun cdv A0 outer s H vs Q E hr h => ?_)
  · obtain ⟨a, b, rfl, q⟩ := h
    rfl
  obtain ⟨a, b, rfl, q⟩ := h
  refine ⟨_, (pss_cons (ps_set (i := 2) sc_l_mixed.nd rfl (Or.inl rfl) (pe_op op_mod (pe_op op_mul (pe_op op_add (pe_op op_add (pv 0) (pe_op op_mul pe_int (pv 1))) pe_int) pe_int) pe_int))
   (pss_one (ps_ret (pe_op op_mod (pe_op op_mul (pv 2) (pe_op op_add (pe_op op_fdiv (pv 2) pe_int) pe_int)) pe_int)))), ?_⟩
  walk_at "rd"
  exact q _

theorem ok_l_twice (T : Txt w K mg A) : FnOk P w K mg base CX0 2 A.l_twice A.l_twice_d ["_law_cell_here", "_law_k"] spI2 := by
  have G_l_mixed := ok_l_mixed (P := P) (w := w) (base := base) T
  refine T.F_l_twice.ok sc_l_twice (fun vs H Q E h => ?_) (fun cdv A0 outer s H vs Q E hr h => ?_)
  · obtain ⟨a, b, rfl, q⟩ := h
    rfl
  obtain ⟨a, b, rfl, q⟩ := h
  refine ⟨_, (pss_cons (ps_set (i := 2) sc_l_twice.nd rfl (Or.inl rfl) (pe_op op_mod (pe_op op_mul (pe_op op_add (pe_op op_add (pe_call G_l_mixed (hr.mono (by decide)) rfl T.m_l_mixed T.F_l_mixed.kp T.b_l_mixed .nil pass0 (pa_cons (pv 0) (pa_cons (pv 1) pa_nil))) (pe_op op_mul pe_int (pv 1))) pe_int) pe_int) pe_int))
   (pss_one (ps_ret (pe_op op_mod (pe_op op_mul (pv 2) (pe_op op_add (pe_op op_fdiv (pv 2) pe_int) pe_int)) pe_int)))), ?_⟩
  walk_at "rd"
  refine ⟨_, _, rfl, fun n => ?_⟩
  walk_at "rd"
  exact q _

theorem ok_l_well (T : Txt w K mg A) : FnOk P w K mg base CX0 2 A.l_well A.l_well_d ["_law_script", "_law_k"] (spWell K) := by
  have G_l_cell := ok_l_cell (P := P) (w := w) (base := base) T
  refine T.F_l_well.ok sc_l_well (fun vs H Q E h => ?_) (fun cdv A0 outer s H vs Q E hr h => ?_)
  · obtain ⟨a, ns, k, rfl, hS, hk, q⟩ := h
    rfl
  obtain ⟨a, ns, k, rfl, hS, hk, q⟩ := h
  refine ⟨_, (pss_one (ps_ret (pe_lst (pa_cons (pe_op op_mod (pe_call G_l_cell (hr.mono (by decide)) rfl T.m_l_cell T.F_l_cell.kp T.b_l_cell .nil pass0 (pa_cons (pv 0) (pa_cons pe_int pa_nil))) pe_int) (pa_cons (pe_call G_l_cell (hr.mono (by decide)) rfl T.m_l_cell T.F_l_cell.kp T.b_l_cell .nil pass0 (pa_cons (pv 0) (pa_cons (pv 1) pa_nil))) (pa_cons pe_int (pa_cons (pe_op op_add (pe_call G_l_cell (hr.mono (by decide)) rfl T.m_l_cell T.F_l_cell.kp T.b_l_cell .nil pass0 (pa_cons (pv 0) (pa_cons (pv 1) pa_nil))) (pv 1)) pa_nil))))))), ?_⟩
  refine ⟨_, rfl, a, ns, 0, rfl, hS, Int.le_refl 0, fun n1 => ?_⟩
  walk_at "rd"
  refine ⟨a, ns, k, rfl, hS, hk, fun n2 => ?_⟩
  walk_at "rd"
  refine ⟨a, ns, k, rfl, hS, hk, fun n3 => ?_⟩
  walk_at "rd"
  exact ⟨by show 4 ≤ sizeLine; decide, fun p hp => q p _ hp (same_new hp) ⟨_, _, _, _, upd_same⟩⟩

theorem ok_l_draw (T : Txt w K mg A) : FnOk P w K mg base CX0 3 A.l_draw A.l_draw_d ["_law_well_here", "_law_most"] spDraw := by
  have G_l_twice := ok_l_twice (P := P) (w := w) (base := base) T
  refine T.F_l_draw.ok sc_l_draw (fun vs H Q E h => ?_) (fun cdv A0 outer s H vs Q E hr h => ?_)
  · obtain ⟨p, m, rfl, ⟨a, b, c, d, h⟩, hm0, hm1, q⟩ := h
    rfl
  obtain ⟨p, m, rfl, ⟨a, b, c, d, h⟩, hm0, hm1, q⟩ := h
  refine ⟨_, (pss_cons (ps_if (PW.pt (pw_and (pt_cmpR op_eq (pe_ix ix_list (pv 0) pe_int (fun _ _ => rfl)) pe_int (nomark _)) (pw_and1 (pt_cmpR op_notIn_seq (pe_ix ix_list (pv 0) pe_int (fun _ _ => rfl)) (pe_tup (pa_cons pe_int (pa_cons (pe_un un_neg pe_int) pa_nil))) (by rfl)))))
    (pss_cons (ps_set (i := 2) sc_l_draw.nd rfl (Or.inl rfl) (pe_op op_modN (pe_ix ix_list (pv 0) pe_int (fun _ _ => rfl)) (pv 1)))
   (pss_cons (ps_asg (pe_op op_fdivN (pe_ix ix_list (pv 0) pe_int (fun _ _ => rfl)) (pv 1)) (pg_sub (pv 0) pe_int set_list))
   (pss_one (ps_ret (pv 2)))))
    pss_nil)
   (pss_cons (ps_asg (pe_op op_add (pe_ix ix_list (pv 0) pe_int (fun _ _ => rfl)) pe_int) (pg_sub (pv 0) pe_int set_list))
   (pss_one (ps_ret (pe_op op_modN (pe_call G_l_twice (hr.mono (by decide)) rfl T.m_l_twice T.F_l_twice.kp T.b_l_twice .nil pass0 (pa_cons (pe_ix ix_list (pv 0) pe_int (fun _ _ => rfl)) (pa_cons (pe_ix ix_list (pv 0) pe_int (fun _ _ => rfl)) pa_nil))) (pv 1)))))), ?_⟩
  have hm : m ≠ 0 := by omega
  refine ⟨_, rfl, p, _, _, _, rfl, rfl, SqL.of h, rfl, rfl, _, rfl, ?_⟩
  refine iteD2 (fun c1 => ?_) (fun c1 => ?_)
  · refine ⟨_, rfl, p, _, _, _, rfl, rfl, SqL.of h, rfl, _, rfl, by show 2 ≤ sizeLine; decide, fun t ht => ?_⟩
    have npt : p ≠ t := ne_of_none h ht
    have h1 : ∀ o, upd H t o p = some (.lst [.int a, .int b, .int c, .int d]) := fun o => by rw [upd_ne npt]; exact h
    refine ⟨t, _, rfl, .inr (SqT.of upd_same), rfl, rfl, _, rfl, ?_⟩
    refine iteB2 (fun c2 => ?_) (fun c2 => ?_)
    · refine ⟨_, rfl, p, _, _, _, rfl, rfl, SqL.of (h1 _), rfl, _, rfl, _, _, rfl, rfl, hm, ?_⟩
      refine ⟨_, rfl, p, _, _, _, rfl, rfl, SqL.of (h1 _), rfl, _, rfl, _, _, rfl, rfl, ⟨hm, by omega⟩, ?_⟩
      refine ⟨_, rfl, p, _, _, 1, rfl, rfl, h1 _, rfl, _, rfl, ?_⟩
      exact q _ _ (Int.fmod_nonneg_of_pos _ hm0) (Int.fmod_lt_of_pos _ hm0) ((keepX_of (same_new ht)).trans keepX_upd) ⟨_, _, _, _, upd_same⟩
    · refine ⟨_, rfl, p, _, _, _, rfl, rfl, SqL.of (h1 _), rfl, _, _, rfl, rfl, _, rfl, p, _, _, 2, rfl, rfl, h1 _, rfl, ?_⟩
      refine ⟨_, rfl, p, _, _, _, rfl, rfl, SqL.of upd_same, rfl, _, rfl, p, _, _, _, rfl, rfl, SqL.of upd_same, rfl, _, _, rfl, fun n => ?_⟩
      refine ⟨_, rfl, _, _, rfl, rfl, hm, ?_⟩
      exact q _ _ (Int.fmod_nonneg_of_pos _ hm0) (Int.fmod_lt_of_pos _ hm0) ((keepX_of (same_new ht)).trans keepX_upd) ⟨_, _, _, _, upd_same⟩
  · refine ⟨_, rfl, p, _, _, _, rfl, rfl, SqL.of h, rfl, _, _, rfl, rfl, _, rfl, p, _, _, 2, rfl, rfl, h, rfl, ?_⟩
    refine ⟨_, rfl, p, _, _, _, rfl, rfl, SqL.of upd_same, rfl, _, rfl, p, _, _, _, rfl, rfl, SqL.of upd_same, rfl, _, _, rfl, fun n => ?_⟩
    refine ⟨_, rfl, _, _, rfl, rfl, hm, ?_⟩
    exact q _ _ (Int.fmod_nonneg_of_pos _ hm0) (Int.fmod_lt_of_pos _ hm0) keepX_upd ⟨_, _, _, _, upd_same⟩

end
end K83
namespace K83
open PySem L2 TL
section
variable {P : Program} {w : World} {K : PySem.W.Frag} {mg : Str → Option Value} {base : Heap} {A : Ads}
theorem ok_is_name (T : Txt w K mg A) : FnOk P w K mg base CX0 1 A.is_name A.is_name_d ["thing"] (spTruthS isNameW) := by
  refine T.F_is_name.ok sc_is_name (fun vs H Q E h => ?_) (fun cdv A0 outer s H vs Q E hr h => ?_)
  · obtain ⟨s, rfl, hl, q⟩ := h
    rfl
  obtain ⟨s, rfl, hl, q⟩ := h
  refine ⟨_, (pss_cons (ps_if (PW.pt (pw_or (pt_not (pt_val (pe_callB call_isi (by rfl) T.z_isinstance (by decide +kernel) (pa_cons (pv 0) (pa_cons (pe_bltn (v := .ty "str") (by rfl) T.z_str (by decide +kernel) rfl) pa_nil))))) (pw_or1 (pt_not (pt_chain op_le op_le pe_int (pe_callB call_len_str (by rfl) T.z_len (by decide +kernel) (pa_cons (pv 0) pa_nil)) pe_int)))))
    (pss_one (ps_ret pe_bl))
    pss_nil)
   (pss_cons (ps_if (PW.pt (pw_or (pt_cmpR op_in_seq (pv 0) (pe_glob (v := .ref A.PAIRS) (by rfl) T.m_PAIRS rfl) (by rfl)) (pw_or (pt_cmpR op_in_seq (pv 0) (pe_glob (v := .ref A.ROWS) (by rfl) T.m_ROWS rfl) (by rfl)) (pw_or1 (pt_cmpR op_in_seq (pv 0) (pe_glob (v := .ref A.OTHERS) (by rfl) T.m_OTHERS rfl) (by rfl))))))
    (pss_one (ps_ret pe_bl))
    pss_nil)
   (pss_one (ps_ret (pe_callB (cr_all rfl) (by rfl) T.z_all (by decide +kernel) (pa_cons (pe_lc (own := [("sign", 1)]) (g := gName 1) (tt := tYes) rfl sc_is_name.nd (pi_str (pv 0)) (blkOk_by (own := [("sign", 1)]) (N := N_is_name) (sc := defScope s_is_name) (by decide +kernel)) (fun _ _ _ _ _ => pg_name (i := 1) sc_is_name.nd rfl (Or.inl rfl)) (fun _ _ _ _ _ => pts_nil) (fun _ _ _ _ _ => (pe_cmpR op_in_sign (pv 1) (pe_glob (v := .str "abcdefghijklmnopqrstuvwxyz") (by rfl) T.c_LETTERS.choose_spec ⟨_, rfl⟩) rfl))) pa_nil)))))), ?_⟩
  have hs : s.length = (tl s).length := len_tl s
  refine ⟨_, rfl, _, _, _, _, true, rfl, .ty _, .base (.str _), kit_ty (by decide +kernel), _, rfl, iteF ?_⟩
  refine ⟨_, rfl, _, rfl, len_line hl, _, _, rfl, rfl, _, rfl, ?_⟩
  refine iteD2 (fun c1 => ?_) (fun c1 => ?_)
  · refine ⟨_, _, rfl, rfl, _, rfl, iteN2 (fun c2 => ?_) (fun c2 => ?_)⟩
    · refine (nameW_false1 (s := s) (Or.inr ?_)) ▸ q _ (Same.refl H)
      omega
    · refine ⟨_, rfl, A.PAIRS, PAIRW.map V.str, rfl, .inr (T.q_PAIRS _), rfl, rfl, _, rfl, ?_⟩
      rw [if_neg Bool.false_ne_true, inV_str]
      refine iteD2 (fun c3 => (nameW_false2 (s := s) (.inl c3)) ▸ q _ (Same.refl H)) (fun c3 => ?_)
      refine ⟨_, rfl, A.ROWS, ROWW.map V.str, rfl, .inr (T.q_ROWS _), rfl, rfl, _, rfl, ?_⟩
      rw [if_neg Bool.false_ne_true, inV_str]
      refine iteD2 (fun c4 => (nameW_false2 (s := s) (.inr (.inl c4))) ▸ q _ (Same.refl H)) (fun c4 => ?_)
      refine ⟨_, rfl, A.OTHERS, OTHW.map V.str, rfl, .inr (T.q_OTHERS _), rfl, rfl, _, rfl, ?_⟩
      rw [if_neg Bool.false_ne_true, inV_str]
      refine iteD2 (fun c5 => (nameW_false2 (s := s) (.inr (.inr c5))) ▸ q _ (Same.refl H)) (fun c5 => ?_)
      exact rd_all (f := isLow) rfl (by show 1 < 2; decide) (by decide) (by omega) let_mem fun H' s' => (nameW_true (s := s) (by omega) (by omega) c3 c4 c5) ▸ q H' s'
  · refine ⟨_, rfl, iteT ?_⟩
    refine (nameW_false1 (s := s) (Or.inl ?_)) ▸ q _ (Same.refl H)
    omega

end
end K83
namespace K83
open PySem L2 TL
section
variable {P : Program} {w : World} {K : PySem.W.Frag} {mg : Str → Option Value} {base : Heap} {A : Ads}
theorem ok_is_value_word (T : Txt w K mg A) : FnOk P w K mg base CX0 1 A.is_value_word A.is_value_word_d ["word"] (spTruthS isValW) := by
  refine T.F_is_value_word.ok sc_is_value_word (fun vs H Q E h => ?_) (fun cdv A0 outer s H vs Q E hr h => ?_)
  · obtain ⟨s, rfl, hl, q⟩ := h
    rfl
  obtain ⟨s, rfl, hl, q⟩ := h
  refine ⟨_, (pss_cons (ps_if (PW.pt (pw_or (pt_not (pt_chain op_le op_le pe_int (pe_callB call_len_str (by rfl) T.z_len (by decide +kernel) (pa_cons (pv 0) pa_nil)) pe_int)) (pw_or1 (PW.pt (pw_and (pt_cmpR op_eq (pe_ix ix_str (pv 0) pe_int (fun _ _ => rfl)) pe_str (nomark _)) (pw_and1 (pt_cmpR op_ne (pv 0) pe_str (nomark _))))))))
    (pss_one (ps_ret pe_bl))
    pss_nil)
   (pss_one (ps_ret (pe_callB (cr_all rfl) (by rfl) T.z_all (by decide +kernel) (pa_cons (pe_lc (own := [("sign", 1)]) (g := gName 1) (tt := tYes) rfl sc_is_value_word.nd (pi_str (pv 0)) (blkOk_by (own := [("sign", 1)]) (N := N_is_value_word) (sc := defScope s_is_value_word) (by decide +kernel)) (fun _ _ _ _ _ => pg_name (i := 1) sc_is_value_word.nd rfl (Or.inl rfl)) (fun _ _ _ _ _ => pts_nil) (fun _ _ _ _ _ => (pe_cmpR op_in_sign (pv 1) (pe_glob (v := .str "0123456789") (by rfl) T.c_FIGURES.choose_spec ⟨_, rfl⟩) rfl))) pa_nil))))), ?_⟩
  have hs : s.length = (tl s).length := len_tl s
  refine ⟨_, rfl, _, rfl, len_line hl, _, _, rfl, rfl, _, rfl, ?_⟩
  refine iteD2 (fun c1 => ?_) (fun c1 => ?_)
  · refine ⟨_, _, rfl, rfl, _, rfl, iteN2 (fun c2 => ?_) (fun c2 => ?_)⟩
    · refine (valW_false1 (s := s) (Or.inr ?_)) ▸ q _ (Same.refl H)
      omega
    · have h6 : (tl s).length ≤ 6 ∧ 1 ≤ (tl s).length := by omega
      obtain ⟨c, r, hc⟩ : ∃ c r, tl s = c :: r := by
        cases e : tl s with
        | nil => rw [e] at h6; simp at h6
        | cons c r => exact ⟨c, r, rfl⟩
      refine ⟨_, rfl, s, 0, c, rfl, rfl, len_line hl, (by show atI (tl s) ((0 : Nat) : Int) = some c; rw [hc]; exact atI_nat rfl), rfl, _, rfl, ?_⟩
      refine iteD2 (fun c3 => ?_) (fun c3 => ?_)
      · refine ⟨_, rfl, rfl, _, rfl, iteN2 (fun c4 => ?_) (fun c4 => ?_)⟩
        · refine (valW_false2 (s := s) ?_ (fun e => c4 (congrArg V.str e))) ▸ q _ (Same.refl H)
          rw [hc]
          have := congrArg tl (V.str.inj c3)
          have z : tl (Str.ofString "0") = [48] := by decide +kernel
          rw [z] at this
          have e2 : [c] = [48] := this
          rw [List.cons.injEq] at e2
          rw [e2.1]; rfl
        · exact rd_all (f := isDig) rfl (by show 1 < 2; decide) (by decide) (by omega) fig_mem fun H' s' => (valW_true (s := s) h6.2 h6.1 (fun _ => V.str.inj c4)) ▸ q H' s'
      · refine rd_all (f := isDig) rfl (by show 1 < 2; decide) (by decide) (by omega) fig_mem fun H' s' => (valW_true (s := s) h6.2 h6.1 (fun e => ?_)) ▸ q H' s'
        rw [hc, List.head?_cons] at e
        refine absurd (congrArg V.str ?_) c3
        refine ext_tl ?_
        have z : tl (Str.ofString "0") = [48] := by decide +kernel
        rw [z, Option.some.inj e]
  · refine ⟨_, rfl, iteT ?_⟩
    refine (valW_false1 (s := s) (Or.inl ?_)) ▸ q _ (Same.refl H)
    omega

end
end K83
namespace K83
open PySem L2 TL
section
variable {P : Program} {w : World} {K : PySem.W.Frag} {mg : Str → Option Value} {base : Heap} {A : Ads}
theorem ok_address_text (T : Txt w K mg A) : FnOk P w K mg base CX0 1 A.address_text A.address_text_d ["address"] (spAdText K) := by
  refine T.F_address_text.ok sc_address_text (fun vs H Q E h => ?_) (fun cdv A0 outer s H vs Q E hr h => ?_)
  · obtain ⟨a, ns, rfl, hS, hv, hl, q⟩ := h
    rfl
  obtain ⟨a, ns, rfl, hS, hv, hl, q⟩ := h
  refine ⟨_, (pss_cons (ps_if (pt_cmpR (op_eqD hr.units) (pv 0) (pe_tup pa_nil) (nomark _))
    (pss_one (ps_ret pe_str))
    pss_nil)
   (pss_one (ps_ret (pe_join pe_str (pe_lc (own := [("number", 1)]) (g := gName 1) (tt := tYes) rfl sc_address_text.nd (pi_tup (pv 0)) (blkOk_by (own := [("number", 1)]) (N := N_address_text) (sc := defScope s_address_text) (by decide +kernel)) (fun _ _ _ _ _ => pg_name (i := 1) sc_address_text.nd rfl (Or.inl rfl)) (fun _ _ _ _ _ => pts_nil) (fun _ _ _ _ _ => (pe_callTy call_str_int (by rfl) T.z_str (by decide +kernel) (pa_cons (pv 1) pa_nil)))))))), ?_⟩
  refine ⟨_, rfl, by show 0 ≤ sizeLine; decide, fun t ht => ?_⟩
  have s1 := same_new (o := .tup []) ht
  refine ⟨.tuple (ns.map .int), .tuple [], .tup (same_tup s1 hS) (dpAll_ints ns), .tup (SqT.of upd_same) .nil, tup_shaped ns, rfl, _, rfl, ?_⟩
  rw [eqv_ints]
  refine iteD2 (fun c => ?_) (fun c => ?_)
  · subst c; exact q _ s1
  · refine ⟨⟨_, rfl⟩, _, rfl, a, rfl, ⟨_, same_tup s1 hS⟩, fun D hD => lc_mapA ns V.int (fun n => V.str (numT n)) 0 walk_tup hD (by omega) (by show 1 < 2; decide) (fun H' s' => same_tup (s1.trans s') hS) ?_ ?_⟩
    · intro n hn H' Z s' z
      have h0 := (hv n hn).1
      have h1 := (hv n hn).2
      exact ⟨_, rfl, n, rfl, log_small (by omega), z H' (Same.refl H')⟩
    · intro H' s' hD'
      have hj := join_len (Str.ofString ".") 6 (by decide +kernel) (ns.map numT) fun x hx => by
        obtain ⟨n, hn, rfl⟩ := List.mem_map.mp hx
        exact numT_len (.inr (hv n hn))
      rw [List.length_map] at hj
      refine ⟨_, D, ns.map numT, rfl, rfl, .inl (SqL.of (by rw [hD', List.map_map]; rfl)), by rw [List.length_map]; omega, ?_⟩
      have e : Txt.join (Str.ofString ".") (ns.map numT) = adT ns := (if_neg c).symm
      rw [e]
      exact q _ (s1.trans s')

end
end K83
namespace K83
open PySem L2 TL
section
variable {P : Program} {w : World} {K : PySem.W.Frag} {mg : Str → Option Value} {base : Heap} {A : Ads}
theorem ok_place_text (T : Txt w K mg A) : FnOk P w K mg base CX0 2 A.place_text A.place_text_d ["place"] spPlText := by
  have G_address_text := ok_address_text (P := P) (w := w) (base := base) T
  refine T.F_place_text.ok sc_place_text (fun vs H Q E h => ?_) (fun cdv A0 outer s H vs Q E hr h => ?_)
  · obtain ⟨p, v, rfl, hp, hw, q⟩ := h
    rfl
  obtain ⟨p, v, rfl, hp, hw, q⟩ := h
  refine ⟨_, (pss_cons (ps_if (pt_cmpR op_eq (pe_ix ix_tup (pv 0) pe_int (fun _ _ => rfl)) pe_str (nomark _))
    (pss_one (ps_ret (pe_join pe_str (pe_lst (pa_cons pe_str (pa_cons (pe_call G_address_text (hr.mono (by decide)) rfl T.m_address_text T.F_address_text.kp T.b_address_text .nil pass0 (pa_cons (pe_ix ix_tup (pv 0) pe_int (fun _ _ => rfl)) pa_nil)) (pa_cons (pe_ix ix_tup (pv 0) pe_int (fun _ _ => rfl)) pa_nil)))))))
    pss_nil)
   (pss_one (ps_ret (pe_join pe_str (pe_lc (own := [("word", 1)]) (g := gName 1) (tt := tYes) rfl sc_place_text.nd (pi_tup (pv 0)) (blkOk_by (own := [("word", 1)]) (N := N_place_text) (sc := defScope s_place_text) (by decide +kernel)) (fun _ _ _ _ _ => pg_name (i := 1) sc_place_text.nd rfl (Or.inl rfl)) (fun _ _ _ _ _ => pts_nil) (fun _ _ _ _ _ => (pe_callTy (r := rStr2) call_str2 (by rfl) T.z_str (by decide +kernel) (pa_cons (pv 1) pa_nil)))))))), ?_⟩
  have hwo := Pl.words_ok hw
  obtain ⟨ta, t, rfl, h4, h5⟩ := hp.two
  have hpl := p.parts_len ta
  have ok : ∀ a ∈ p.parts ta, (∀ ad nm, p ≠ .box ad nm) → (∃ i : Int, a.1 = .int i ∧ i.natAbs.log2 < 1920 ∧ a.2 = numT i) ∨ (∃ s : Str, a.1 = .str s ∧ a.2 = s) := by
    intro a ha hb
    cases p with
    | box ad nm => exact absurd rfl (hb ad nm)
    | cell m =>
      rcases List.mem_cons.mp ha with rfl | ha
      · exact .inr ⟨_, rfl, rfl⟩
      obtain rfl := List.mem_singleton.mp ha
      exact .inl ⟨m, rfl, log_small (by have := hw.1; have := hw.2; omega), rfl⟩
    | world nm m =>
      rcases List.mem_cons.mp ha with rfl | ha
      · exact .inr ⟨_, rfl, rfl⟩
      rcases List.mem_cons.mp ha with rfl | ha
      · exact .inr ⟨_, rfl, rfl⟩
      obtain rfl := List.mem_singleton.mp ha
      exact .inl ⟨m, rfl, log_small (by have := hw.2.1; have := hw.2.2; omega), rfl⟩
    | drawn nm =>
      rcases List.mem_cons.mp ha with rfl | ha
      · exact .inr ⟨_, rfl, rfl⟩
      obtain rfl := List.mem_singleton.mp ha
      exact .inr ⟨_, rfl, rfl⟩
  by_cases hb : ∃ ad nm, p = .box ad nm
  · obtain ⟨ad, nm, rfl⟩ := hb
    refine ⟨_, rfl, t, _, _, _, rfl, rfl, SqT.of h4, rfl, rfl, _, rfl, iteDT rfl ?_⟩
    refine ⟨⟨_, rfl⟩, _, rfl, t, _, _, _, rfl, rfl, SqT.of h4, rfl, ta, ad, rfl, SqT.of (h5 ad nm rfl), hw.1.1, hw.1.2, fun H1 s1 => ?_⟩
    refine ⟨_, rfl, t, _, _, _, rfl, rfl, SqT.of (s1 _ _ h4), rfl, by show 3 ≤ sizeLine; decide, fun l1 hl1 => ?_⟩
    generalize hG2 : upd H1 l1 _ = H2
    have s2 : Same H1 H2 := by rw [← hG2]; exact same_new hl1
    have g2 : H2 l1 = some (.lst ((Pl.words (.box ad nm)).map V.str)) := by rw [← hG2]; exact upd_same
    refine ⟨_, l1, Pl.words (.box ad nm), rfl, rfl, .inl (SqL.of g2), by rw [sum_tot len_sp]; have := hwo.1; omega, ?_⟩
    exact q _ (s1.trans s2)
  · have hb : ∀ ad nm, p ≠ .box ad nm := fun ad nm e => hb ⟨ad, nm, e⟩
    have h0 : ∃ w0, atI ((p.parts ta).map Prod.fst) 0 = some (V.str w0) ∧ w0 ≠ Str.ofString "box" := by
      cases p with
      | box ad nm => exact absurd rfl (hb ad nm)
      | cell m => exact ⟨_, rfl, by decide +kernel⟩
      | world nm m => exact ⟨_, rfl, by decide +kernel⟩
      | drawn nm => exact ⟨_, rfl, by decide +kernel⟩
    obtain ⟨w0, e0, n0⟩ := h0
    have em : (p.parts ta).map (fun a => V.str a.2) = p.words.map V.str := by
      cases p with
      | box ad nm => exact absurd rfl (hb ad nm)
      | cell m => rfl
      | world nm m => rfl
      | drawn nm => rfl
    refine ⟨_, rfl, t, _, _, _, rfl, rfl, SqT.of h4, e0, rfl, _, rfl, iteDF (vstr_ne n0) ?_⟩
    refine ⟨⟨_, rfl⟩, _, rfl, t, rfl, ⟨_, SqT.of h4⟩, fun D hD => lc_mapA (p.parts ta) Prod.fst (fun a => V.str a.2) (V.non, Str.ofString "") walk_tup hD (by omega) (by show 1 < 2; decide) (fun H' s' => SqT.of (s' _ _ h4)) ?_ ?_⟩
    · intro a ha H' Z s' z
      refine ⟨_, rfl, ?_⟩
      rcases ok a ha hb with ⟨i, e1, e2, e3⟩ | ⟨s, e1, e2⟩
      · exact .inl ⟨i, congrArg (fun x => [x]) e1, e2, by have := z H' (Same.refl H'); rw [e3] at this; exact this⟩
      · exact .inr ⟨s, congrArg (fun x => [x]) e1, by have := z H' (Same.refl H'); rw [e2] at this; exact this⟩
    · intro H1 s1 hD1
      rw [em] at hD1
      refine ⟨_, D, p.words, rfl, rfl, .inl (SqL.of hD1), by rw [sum_tot len_sp]; have := hwo.1; omega, ?_⟩
      exact q _ s1

end
end K83
namespace K83
open PySem L2 TL
section
variable {P : Program} {w : World} {K : PySem.W.Frag} {mg : Str → Option Value} {base : Heap} {A : Ads}
theorem ok_change_text (T : Txt w K mg A) : FnOk P w K mg base CX0 3 A.change_text A.change_text_d ["change"] spChText := by
  have G_place_text := ok_place_text (P := P) (w := w) (base := base) T
  have G_address_text := ok_address_text (P := P) (w := w) (base := base) T
  refine T.F_change_text.ok sc_change_text (fun vs H Q E h => ?_) (fun cdv A0 outer s H vs Q E hr h => ?_)
  · obtain ⟨c, v, rfl, hc, hw, q⟩ := h
    rfl
  obtain ⟨c, v, rfl, hc, hw, q⟩ := h
  refine ⟨_, (pss_cons (ps_if (pt_cmpR op_eq (pe_ix ix_tup (pv 0) pe_int (fun _ _ => rfl)) pe_str (nomark _))
    (pss_one (ps_ret (pe_join pe_str (pe_lst (pa_cons pe_str (pa_cons (pe_call G_place_text (hr.mono (by decide)) rfl T.m_place_text T.F_place_text.kp T.b_place_text .nil pass0 (pa_cons (pe_ix ix_tup (pv 0) pe_int (fun _ _ => rfl)) pa_nil)) (pa_cons (pe_callTy call_str_int (by rfl) T.z_str (by decide +kernel) (pa_cons (pe_ix ix_tup (pv 0) pe_int (fun _ _ => rfl)) pa_nil)) pa_nil)))))))
    pss_nil)
   (pss_cons (ps_if (pt_cmpR op_eq (pe_ix ix_tup (pv 0) pe_int (fun _ _ => rfl)) pe_str (nomark _))
    (pss_one (ps_ret (pe_join pe_str (pe_lst (pa_cons pe_str (pa_cons (pe_callTy call_str_int (by rfl) T.z_str (by decide +kernel) (pa_cons (pe_ix ix_tup (pv 0) pe_int (fun _ _ => rfl)) pa_nil)) (pa_cons (pe_ix ix_tup (pv 0) pe_int (fun _ _ => rfl)) pa_nil)))))))
    pss_nil)
   (pss_cons (ps_set (i := 1) sc_change_text.nd rfl (Or.inl rfl) pe_str)
   (pss_cons (ps_cut (ps_if (pt_cmpR op_notN (pe_ix ix_tup (pv 0) pe_int (fun _ _ => rfl)) pe_non (nomark _))
    (pss_one (ps_set (i := 1) sc_change_text.nd rfl (Or.inl rfl) (pe_ix ix_list (pe_lst (pa_cons pe_str (pa_cons pe_str pa_nil))) (pe_callTy call_int1 (by rfl) T.z_int (by decide +kernel) (pa_cons (pe_ix ix_tup (pv 0) pe_int (fun _ _ => rfl)) pa_nil)) (fun _ _ => rfl))))
    pss_nil))
   (pss_one (ps_ret (pe_join pe_str (pe_lst (pa_cons pe_str (pa_cons (pe_call G_address_text (hr.mono (by decide)) rfl T.m_address_text T.F_address_text.kp T.b_address_text .nil pass0 (pa_cons (pe_ix ix_tup (pv 0) pe_int (fun _ _ => rfl)) pa_nil)) (pa_cons (pv 1) pa_nil))))))))))), ?_⟩
  have hwo := Chg.words_ok hw
  have htl := (Chg.text_ok hw).1
  cases c with
  | start pl n =>
    obtain ⟨t, pv, rfl, h2, h3⟩ := hc
    refine ⟨_, rfl, t, _, _, _, rfl, rfl, SqT.of h2, rfl, rfl, _, rfl, iteDT rfl ?_⟩
    refine ⟨⟨_, rfl⟩, _, rfl, t, _, _, _, rfl, rfl, SqT.of h2, rfl, pl, pv, rfl, h3, hw.1, fun H1 s1 => ?_⟩
    refine ⟨_, rfl, t, _, _, _, rfl, rfl, SqT.of (s1 _ _ h2), rfl, n, rfl, log_small (by have := hw.2.1; have := hw.2.2; omega), by show 3 ≤ sizeLine; decide, fun l1 hl1 => ?_⟩
    generalize hG2 : upd H1 l1 _ = H2
    have s2 : Same H1 H2 := by rw [← hG2]; exact same_new hl1
    have g2 : H2 l1 = some (.lst (([Str.ofString "start", Txt.join (Str.ofString " ") pl.words, numT n] : List Str).map V.str)) := by rw [← hG2]; exact upd_same
    have hpo := Pl.words_ok hw.1
    have hj : (Txt.join (Str.ofString " ") pl.words).length ≤ 720 := Nat.le_trans (join_tot tl_sp) hpo.1
    have ln : (numT n).length ≤ 6 := numT_len (.inr hw.2)
    have l5 : (Str.ofString "start").length = 5 := by decide +kernel
    refine ⟨_, l1, _, rfl, rfl, .inl (SqL.of g2), ?_, ?_⟩
    · rw [sum_tot len_sp]
      rw [show [Str.ofString "start", Txt.join (Str.ofString " ") pl.words, numT n] = [Str.ofString "start"] ++ ([Txt.join (Str.ofString " ") pl.words] ++ [numT n]) from rfl, tot_append, tot_append, tot_one, tot_one, tot_one]
      omega
    rw [show Txt.join (Str.ofString " ") [Str.ofString "start", Txt.join (Str.ofString " ") pl.words, numT n] = (Chg.start pl n).text from start_text3]
    exact q _ (s1.trans s2)
  | row n l =>
    obtain ⟨t, rfl, h2⟩ := hc
    refine ⟨_, rfl, t, _, _, _, rfl, rfl, SqT.of h2, rfl, rfl, _, rfl, iteDF (vstr_ne (by decide +kernel)) ?_⟩
    refine ⟨_, rfl, t, _, _, _, rfl, rfl, SqT.of h2, rfl, rfl, _, rfl, iteDT rfl ?_⟩
    refine ⟨⟨_, rfl⟩, _, rfl, t, _, _, _, rfl, rfl, SqT.of h2, rfl, n, rfl, log_small (by have := hw.1.1; have := hw.1.2; omega), _, rfl, t, _, _, _, rfl, rfl, SqT.of h2, rfl, by show 3 ≤ sizeLine; decide, fun l1 hl1 => ?_⟩
    generalize hG2 : upd H l1 _ = H2
    have s2 : Same H H2 := by rw [← hG2]; exact same_new hl1
    have g2 : H2 l1 = some (.lst ((Chg.words (.row n l)).map V.str)) := by rw [← hG2]; exact upd_same
    refine ⟨_, l1, Chg.words (.row n l), rfl, rfl, .inl (SqL.of g2), by rw [sum_tot len_sp]; have := hwo.1; omega, ?_⟩
    exact q _ s2
  | goes ad g =>
    obtain ⟨t, ta, rfl, h2, h3⟩ := hc
    refine ⟨_, rfl, t, _, _, _, rfl, rfl, SqT.of h2, rfl, rfl, _, rfl, iteDF (vstr_ne (by decide +kernel)) ?_⟩
    refine ⟨_, rfl, t, _, _, _, rfl, rfl, SqT.of h2, rfl, rfl, _, rfl, iteDF (vstr_ne (by decide +kernel)) ?_⟩
    refine ⟨fun σ' H' => σ' = [some (.ref t), some (.str (goT g))] ∧ Same H H', ?_, ?_⟩
    · refine ⟨_, rfl, t, _, _, _, rfl, rfl, SqT.of h2, rfl, rfl, _, rfl, ?_⟩
      cases g with
      | none => exact iteNF rfl ⟨rfl, Same.refl H⟩
      | some b =>
        refine iteNT (fun h => by cases h) ?_
        refine ⟨by show 2 ≤ sizeLine; decide, fun l1 hl1 => ?_⟩
        have s1 := same_new (o := .lst [V.str "no", V.str "yes"]) hl1
        refine ⟨_, rfl, t, _, _, _, rfl, rfl, SqT.of (s1 _ _ h2), rfl, .inr ⟨b, rfl, ?_⟩⟩
        cases b with
        | true => exact ⟨l1, _, _, _, rfl, rfl, SqL.of upd_same, rfl, rfl, s1⟩
        | false => exact ⟨l1, _, _, _, rfl, rfl, SqL.of upd_same, rfl, rfl, s1⟩
    rintro σ H1 ⟨rfl, s1⟩
    refine ⟨⟨_, rfl⟩, _, rfl, t, _, _, _, rfl, rfl, SqT.of (s1 _ _ h2), rfl, ta, ad, rfl, SqT.of (s1 _ _ h3), hw.1, hw.2, fun H2 s2 => ?_⟩
    refine ⟨_, rfl, by show 3 ≤ sizeLine; decide, fun l1 hl1 => ?_⟩
    generalize hG3 : upd H2 l1 _ = H3
    have s3 : Same H2 H3 := by rw [← hG3]; exact same_new hl1
    have g3 : H3 l1 = some (.lst ((Chg.words (.goes ad g)).map V.str)) := by rw [← hG3]; exact upd_same
    refine ⟨_, l1, Chg.words (.goes ad g), rfl, rfl, .inl (SqL.of g3), by rw [sum_tot len_sp]; have := hwo.1; omega, ?_⟩
    exact q _ (s1.trans (s2.trans s3))

end
end K83
namespace K83
open PySem L2 TL
section
variable {P : Program} {w : World} {K : PySem.W.Frag} {mg : Str → Option Value} {base : Heap} {A : Ads}
theorem ok_check_text (T : Txt w K mg A) : FnOk P w K mg base (L2.CX P w) 1 A.check_text A.check_text_d ["good"] (spCheck A.NoText) := by
  refine T.F_check_text.okX sc_check_text (fun vs H Q E h => ?_) (fun cdv A0 outer s H vs Q E hr h => ?_)
  · obtain ⟨b, rfl, q1, q2⟩ := h
    rfl
  obtain ⟨b, rfl, q1, q2⟩ := h
  refine ⟨_, (pss_one (ps_if (pt_not (pt_val (pv 0)))
    (pss_one (ps_raise rfl (takes_of rfl rfl rfl rfl) (pmk_own PySem.F.excBase_ValueError T.x_NoText T.m_NoText T.kk_NoText (raises_own T.bb_NoText T.tt_NoText) (by exact rfl))))
    pss_nil)), ?_⟩
  refine ⟨_, rfl, _, rfl, ?_⟩
  cases b with
  | true => exact iteF (q1 rfl)
  | false => exact iteT (q2 rfl)

end
end K83
namespace K83
open PySem L2 TL
section
variable {P : Program} {w : World} {K : PySem.W.Frag} {mg : Str → Option Value} {base : Heap} {A : Ads}
theorem ok_number_in (T : Txt w K mg A) : FnOk P w K mg base (L2.CX P w) 2 A.number_in A.number_in_d ["word"] (spNumIn A.NoText) := by
  have G_check_text := ok_check_text (P := P) (w := w) (base := base) T
  have G_is_value_word := ok_is_value_word (P := P) (w := w) (base := base) T
  refine T.F_number_in.okX sc_number_in (fun vs H Q E h => ?_) (fun cdv A0 outer s H vs Q E hr h => ?_)
  · obtain ⟨s, rfl, hl, q1, q2⟩ := h
    rfl
  obtain ⟨s, rfl, hl, q1, q2⟩ := h
  refine ⟨_, (pss_cons (ps_expr (pe_call G_check_text (hr.mono (by decide)) rfl T.m_check_text T.F_check_text.kp T.b_check_text .nil (passes_call (takes_of rfl rfl rfl rfl) (fun _ _ _ _ h => h)) (pa_cons (pe_call G_is_value_word (hr.mono (by decide)) rfl T.m_is_value_word T.F_is_value_word.kp T.b_is_value_word .nil pass0 (pa_cons (pv 0) pa_nil)) pa_nil)))
   (pss_one (ps_ret (pe_callTy call_int_str (by rfl) T.z_int (by decide +kernel) (pa_cons (pv 0) pa_nil))))), ?_⟩
  refine ⟨_, rfl, s, rfl, hl, fun H1 s1 => ?_⟩
  refine ⟨_, rfl, fun c => ?_, fun c => q2 c H1 s1⟩
  have hv := valW_int c
  exact ⟨_, rfl, s, valOf s, rfl, hv.1, hv.2.1, q1 c H1 s1⟩

end
end K83
namespace K83
open PySem L2 TL
section
variable {P : Program} {w : World} {K : PySem.W.Frag} {mg : Str → Option Value} {base : Heap} {A : Ads}
theorem ok_address_in (T : Txt w K mg A) : FnOk P w K mg base (L2.CX P w) 3 A.address_in A.address_in_d ["word"] (spAdInX A.NoText) := by
  have G_check_text := ok_check_text (P := P) (w := w) (base := base) T
  have G_number_in := ok_number_in (P := P) (w := w) (base := base) T
  refine T.F_address_in.okX sc_address_in (fun vs H Q E h => ?_) (fun cdv A0 outer s H vs Q E hr h => ?_)
  · obtain ⟨s, rfl, hl, q1, q2⟩ := h
    rfl
  obtain ⟨s, rfl, hl, q1, q2⟩ := h
  refine ⟨_, (pss_cons (ps_if (pt_cmpR op_eq (pv 0) pe_str (nomark _))
    (pss_one (ps_ret (pe_tup pa_nil)))
    pss_nil)
   (pss_cons (ps_set (i := 1) sc_address_in.nd rfl (Or.inl rfl) (pe_split (pv 0) pe_str))
   (pss_cons (ps_expr (pe_call G_check_text (hr.mono (by decide)) rfl T.m_check_text T.F_check_text.kp T.b_check_text .nil (passes_call (takes_of rfl rfl rfl rfl) (fun _ _ _ _ h => h)) (pa_cons (pe_cmpR op_le (pe_callB call_lenK (by rfl) T.z_len (by decide +kernel) (pa_cons (pv 1) pa_nil)) (pe_glob (v := .int 100) (by rfl) T.c_MOST_NUMBERS.choose_spec ⟨_, rfl⟩) (nomark _)) pa_nil)))
   (pss_one (ps_ret (pe_callTy call_tuple_ofK (by rfl) T.z_tuple (by decide +kernel) (pa_cons (KX.pe_lcX (E := E) (own := [("one", 2)]) (g := gName 2) (tt := tYes) rfl (takes_of rfl rfl rfl rfl) rfl rfl sc_address_in.nd (pi_list (pv 1)) (blkOk_by (own := [("one", 2)]) (N := N_address_in) (sc := defScope s_address_in) (by decide +kernel)) (fun _ _ _ _ _ _ => pg_name (i := 2) sc_address_in.nd rfl (Or.inl rfl)) (fun _ _ _ _ _ _ => pts_nil) (fun _ _ _ _ _ _ pass => (pe_callS G_number_in (hr.mono (by decide)) rfl T.m_number_in T.F_number_in.kp T.b_number_in pass (pa_cons (pv 2) pa_nil)))) pa_nil))))))), ?_⟩
  refine ⟨_, rfl, rfl, _, rfl, ?_⟩
  refine iteD2 (fun c => ?_) (fun c => ?_)
  · have c := V.str.inj c
    refine ⟨by show 0 ≤ sizeLine; decide, fun t ht => q1 (by unfold adOk; rw [decide_eq_true c]; rfl) t _ (same_new ht) ?_⟩
    unfold adOf
    rw [if_pos c]
    exact upd_same
  have hne : ¬ s = Str.ofString "-" := fun e => c (congrArg V.str e)
  have eok : adOk s = (decide ((Txt.split s (Str.ofString ".")).length ≤ 100) && (Txt.split s (Str.ofString ".")).all isValW) := by
    unfold adOk
    rw [decide_eq_false hne, Bool.false_or]
  have eof : adOf s = (Txt.split s (Str.ofString ".")).map valOf := if_neg hne
  refine ⟨_, rfl, ⟨_, rfl⟩, s, _, rfl, rfl, (by decide +kernel), sizeL (by omega), fun l hn => ?_⟩
  rw [show Txt.split s "." = Txt.split s (Str.ofString ".") from rfl]
  have hpl : ∀ w ∈ Txt.split s (Str.ofString "."), w.length ≤ 100000 := fun w hw => Nat.le_trans (part_len tl_dot hw) hl
  generalize hws : Txt.split s (Str.ofString ".") = ws at eok eof hpl ⊢
  have s1 := same_new (o := .lst (ws.map V.str)) hn
  have g1 : upd H l (.lst (ws.map V.str)) l = some (.lst (ws.map V.str)) := upd_same
  refine ⟨_, rfl, l, _, rfl, .inl (SqL.of g1), _, _, rfl, rfl, _, rfl, fun hok => ?_, fun hno => ?_⟩
  · rw [List.length_map] at hok
    have hok : ws.length ≤ 100 := by have := of_decide_eq_true hok; omega
    rw [decide_eq_true hok, Bool.true_and] at eok
    refine ⟨_, rfl, l, rfl, ⟨_, SqL.of g1⟩, fun D hD => lc_rel ws (fun _ w y => isValW w = true ∧ y = V.int (valOf w)) (all2_strs ws) (fun _ _ _ _ _ h => h) (fun _ _ _ _ _ h _ => h) walk_list hD (by omega) (by show 2 < 3; decide) (fun H' s' => SqL.of (s' _ _ g1)) ?_ ?_⟩
    · intro w v hw hv hb H' Z s' _ z
      subst hb
      refine ⟨_, rfl, w, rfl, hpl w hw, fun c H2 s2 => z H2 _ s2 ⟨c, rfl⟩, fun c H2 s2 => q2 ?_ H2 (s1.trans (s'.trans s2))⟩
      rw [eok, all_not hw c]
    · intro H' ys s' h2 hD'
      obtain ⟨e1, e2⟩ := all2_map h2
      refine ⟨D, _, rfl, .inl ⟨SqL.of hD', fun t ht => q1 (by rw [eok, e2]) t _ (s1.trans (s'.trans (same_new ht))) ?_⟩⟩
      rw [e1, eof, List.map_map]
      exact upd_same
  · rw [List.length_map] at hno
    refine q2 ?_ _ s1
    have : ¬ ws.length ≤ 100 := fun h => of_decide_eq_false hno (by omega)
    rw [eok, decide_eq_false this, Bool.false_and]

end
end K83
namespace K83
open PySem L2 TL
section
variable {P : Program} {w : World} {K : PySem.W.Frag} {mg : Str → Option Value} {base : Heap} {A : Ads}
theorem ok_name_in (T : Txt w K mg A) : FnOk P w K mg base (L2.CX P w) 2 A.name_in A.name_in_d ["word"] (spNameIn A.NoText) := by
  have G_check_text := ok_check_text (P := P) (w := w) (base := base) T
  have G_is_name := ok_is_name (P := P) (w := w) (base := base) T
  refine T.F_name_in.okX sc_name_in (fun vs H Q E h => ?_) (fun cdv A0 outer s H vs Q E hr h => ?_)
  · obtain ⟨s, rfl, hl, q1, q2⟩ := h
    rfl
  obtain ⟨s, rfl, hl, q1, q2⟩ := h
  refine ⟨_, (pss_cons (ps_expr (pe_call G_check_text (hr.mono (by decide)) rfl T.m_check_text T.F_check_text.kp T.b_check_text .nil (passes_call (takes_of rfl rfl rfl rfl) (fun _ _ _ _ h => h)) (pa_cons (pe_call G_is_name (hr.mono (by decide)) rfl T.m_is_name T.F_is_name.kp T.b_is_name .nil pass0 (pa_cons (pv 0) pa_nil)) pa_nil)))
   (pss_one (ps_ret (pv 0)))), ?_⟩
  refine ⟨_, rfl, s, rfl, hl, fun H1 s1 => ?_⟩
  exact ⟨_, rfl, (fun c => ⟨_, rfl, q1 c H1 s1⟩), fun c => q2 c H1 s1⟩

end
end K83
namespace K83
open PySem L2 TL
section
variable {P : Program} {w : World} {K : PySem.W.Frag} {mg : Str → Option Value} {base : Heap} {A : Ads}
theorem ok_place_in (T : Txt w K mg A) : FnOk P w K mg base (L2.CX P w) 4 A.place_in A.place_in_d ["words"] (spPlIn K A.NoText) := by
  have G_address_in := ok_address_in (P := P) (w := w) (base := base) T
  have G_name_in := ok_name_in (P := P) (w := w) (base := base) T
  have G_number_in := ok_number_in (P := P) (w := w) (base := base) T
  have G_check_text := ok_check_text (P := P) (w := w) (base := base) T
  refine T.F_place_in.okX sc_place_in (fun vs H Q E h => ?_) (fun cdv A0 outer s H vs Q E hr h => ?_)
  · obtain ⟨a, ws, rfl, hS, hw, q1, q2⟩ := h
    rfl
  obtain ⟨a, ws, rfl, hS, hw, q1, q2⟩ := h
  refine ⟨_, (pss_cons (ps_cut (ps_if (PW.pt (pw_and (pt_cmpR (op_eqD hr.units) (pe_slice sl_list (pv 0) po_none (po_some pe_int)) (pe_lst (pa_cons pe_str pa_nil)) (nomark _)) (pw_and1 (pt_cmpR op_eq (pe_callB call_lenK (by rfl) T.z_len (by decide +kernel) (pa_cons (pv 0) pa_nil)) pe_int (nomark _)))))
    (pss_one (ps_ret (pe_tup (pa_cons pe_str (pa_cons (pe_call G_address_in (hr.mono (by decide)) rfl T.m_address_in T.F_address_in.kp T.b_address_in .nil (passes_call (takes_of rfl rfl rfl rfl) (fun _ _ _ _ h => h)) (pa_cons (pe_ix ix_list (pv 0) pe_int (fun _ _ => rfl)) pa_nil)) (pa_cons (pe_call G_name_in (hr.mono (by decide)) rfl T.m_name_in T.F_name_in.kp T.b_name_in .nil (passes_call (takes_of rfl rfl rfl rfl) (fun _ _ _ _ h => h)) (pa_cons (pe_ix ix_list (pv 0) pe_int (fun _ _ => rfl)) pa_nil)) pa_nil))))))
    pss_nil))
   (pss_cons (ps_cut (ps_if (PW.pt (pw_and (pt_cmpR (op_eqD hr.units) (pe_slice sl_list (pv 0) po_none (po_some pe_int)) (pe_lst (pa_cons pe_str pa_nil)) (nomark _)) (pw_and1 (pt_cmpR op_eq (pe_callB call_lenK (by rfl) T.z_len (by decide +kernel) (pa_cons (pv 0) pa_nil)) pe_int (nomark _)))))
    (pss_one (ps_ret (pe_tup (pa_cons pe_str (pa_cons (pe_call G_number_in (hr.mono (by decide)) rfl T.m_number_in T.F_number_in.kp T.b_number_in .nil (passes_call (takes_of rfl rfl rfl rfl) (fun _ _ _ _ h => h)) (pa_cons (pe_ix ix_list (pv 0) pe_int (fun _ _ => rfl)) pa_nil)) pa_nil)))))
    pss_nil))
   (pss_cons (ps_cut (ps_if (PW.pt (pw_and (pt_cmpR (op_eqD hr.units) (pe_slice sl_list (pv 0) po_none (po_some pe_int)) (pe_lst (pa_cons pe_str pa_nil)) (nomark _)) (pw_and1 (pt_cmpR op_eq (pe_callB call_lenK (by rfl) T.z_len (by decide +kernel) (pa_cons (pv 0) pa_nil)) pe_int (nomark _)))))
    (pss_one (ps_ret (pe_tup (pa_cons pe_str (pa_cons (pe_call G_name_in (hr.mono (by decide)) rfl T.m_name_in T.F_name_in.kp T.b_name_in .nil (passes_call (takes_of rfl rfl rfl rfl) (fun _ _ _ _ h => h)) (pa_cons (pe_ix ix_list (pv 0) pe_int (fun _ _ => rfl)) pa_nil)) (pa_cons (pe_call G_number_in (hr.mono (by decide)) rfl T.m_number_in T.F_number_in.kp T.b_number_in .nil (passes_call (takes_of rfl rfl rfl rfl) (fun _ _ _ _ h => h)) (pa_cons (pe_ix ix_list (pv 0) pe_int (fun _ _ => rfl)) pa_nil)) pa_nil))))))
    pss_nil))
   (pss_cons (ps_expr (pe_call G_check_text (hr.mono (by decide)) rfl T.m_check_text T.F_check_text.kp T.b_check_text .nil (passes_call (takes_of rfl rfl rfl rfl) (fun _ _ _ _ h => h)) (pa_cons (pe_and (pe_cmpR (op_eqD hr.units) (pe_slice sl_list (pv 0) po_none (po_some pe_int)) (pe_lst (pa_cons pe_str pa_nil)) (nomark _)) (pe_one (pe_cmpR op_eq (pe_callB call_lenK (by rfl) T.z_len (by decide +kernel) (pa_cons (pv 0) pa_nil)) pe_int (nomark _)))) pa_nil)))
   (pss_one (ps_ret (pe_tup (pa_cons pe_str (pa_cons (pe_call G_name_in (hr.mono (by decide)) rfl T.m_name_in T.F_name_in.kp T.b_name_in .nil (passes_call (takes_of rfl rfl rfl rfl) (fun _ _ _ _ h => h)) (pa_cons (pe_ix ix_list (pv 0) pe_int (fun _ _ => rfl)) pa_nil)) pa_nil))))))))), ?_⟩
  have wlen := hw.1
  have wok := hw.2
  have cod1 : Codes (ws.take 1) := fun y hy => strOk_ascii (wok y (List.mem_of_mem_take hy)).2

  refine ⟨fun σ' H' => σ' = start ["words"] [V.ref a] ∧ Same H H' ∧ ¬ (ws.length = 3 ∧ wd ws 0 = "box"), ?_, ?_⟩
  · skip

    refine ⟨_, rfl, 1, rfl, a, _, rfl, (Same.refl H).seq hS, fun la hla => ?_⟩
    rw [show cutV (ws.map V.str) none (some 1) = (ws.take 1).map V.str from by rw [show (1 : Int) = ((1 : Nat) : Int) from rfl, cut_take]]
    generalize hGA : upd H la _ = HA
    have sA : Same H HA := by rw [← hGA]; exact same_new hla
    have gA : HA la = some (.lst ((ws.take 1).map V.str)) := by rw [← hGA]; exact upd_same
    refine ⟨by show 1 ≤ sizeLine; decide, fun lb hlb => ?_⟩
    generalize hGB : upd HA lb _ = T1
    have sB : Same HA T1 := by rw [← hGB]; exact same_new hlb
    have gB : T1 lb = some (.lst ((["box"] : List Str).map V.str)) := by rw [← hGB]; exact upd_same
    have t1 := (Same.refl H).trans (sA.trans sB)
    refine ⟨strsD (ws.take 1), strsD ["box"], .lst (SqL.of (sB _ _ gA)) (dp_strs _), .lst (SqL.of gB) (dp_strs _), strs_shaped cod1, strs_shaped (fun y hy => by rw [List.mem_singleton.mp hy]; decide +kernel), _, rfl, ?_⟩
    rw [strs_eqv]

    by_cases c0 : ws.take 1 = ([Str.ofString "box"] : List Str)
    rotate_left
    · exact iteDF c0 ⟨rfl, t1, fun h => c0 (take1.mpr ⟨by omega, h.2⟩)⟩
    refine iteDT c0 ?_
    refine ⟨_, rfl, a, _, rfl, .inl ((t1).seq hS), rfl, _, rfl, ?_⟩
    rw [List.length_map]
    by_cases c1 : ws.length = 3
    rotate_left
    · exact iteDF (fun e => c1 (by have := V.int.inj e; omega)) ⟨rfl, t1, fun h => c1 h.1⟩
    refine iteDT (by rw [c1]; rfl) ?_
    have cc : ws.length = 3 ∧ wd ws 0 = "box" := ⟨c1, (take1.mp c0).2⟩
    have hwd : ∀ i : Nat, i < 3 → atI (ws.map V.str) (i : Int) = some (V.str (wd ws i)) ∧ (wd ws i).length ≤ 100000 ∧ Ascii (wd ws i) := fun i hi => ⟨wd_at (by omega), wok _ (wd_mem (by omega))⟩

    have ep : plF ws = if adOk (wd ws 1) = true ∧ isNameW (wd ws 2) = true then some (.box (adOf (wd ws 1)) (wd ws 2)) else none := by unfold plF; rw [if_pos cc]
    refine ⟨_, rfl, a, _, _, _, rfl, rfl, (t1).seq hS, (hwd 1 (by decide)).1, wd ws 1, rfl, (hwd 1 (by decide)).2.1, fun ca ta H2 s2 h2 => ?_, fun ca H2 s2 => q2 (by rw [ep, if_neg (fun h => by rw [ca] at h; cases h.1)]) H2 (t1.trans s2)⟩
    refine ⟨_, rfl, a, _, _, _, rfl, rfl, (t1.trans s2).seq hS, (hwd 2 (by decide)).1, wd ws 2, rfl, (hwd 2 (by decide)).2.1, fun cn H3 s3 => ?_, fun cn H3 s3 => q2 (by rw [ep, if_neg (fun h => by rw [cn] at h; cases h.2)]) H3 (t1.trans (s2.trans s3))⟩
    refine ⟨by show 3 ≤ sizeLine; decide, fun t ht => ?_⟩
    have s4 := same_new (o := .tup [.str "box", .ref ta, .str (wd ws 2)]) ht
    exact q1 (.box (adOf (wd ws 1)) (wd ws 2)) (by rw [ep, if_pos ⟨ca, cn⟩]) _ _ (t1.trans (s2.trans (s3.trans s4))) ⟨t, ta, rfl, upd_same, s4 _ _ (s3 _ _ h2)⟩

  rintro _ H1 ⟨rfl, s1, no1⟩

  refine ⟨fun σ' H' => σ' = start ["words"] [V.ref a] ∧ Same H H' ∧ ¬ (ws.length = 2 ∧ wd ws 0 = "cell"), ?_, ?_⟩
  · skip

    refine ⟨_, rfl, 1, rfl, a, _, rfl, (s1).seq hS, fun la hla => ?_⟩
    rw [show cutV (ws.map V.str) none (some 1) = (ws.take 1).map V.str from by rw [show (1 : Int) = ((1 : Nat) : Int) from rfl, cut_take]]
    generalize hGA : upd H1 la _ = HA
    have sA : Same H1 HA := by rw [← hGA]; exact same_new hla
    have gA : HA la = some (.lst ((ws.take 1).map V.str)) := by rw [← hGA]; exact upd_same
    refine ⟨by show 1 ≤ sizeLine; decide, fun lb hlb => ?_⟩
    generalize hGB : upd HA lb _ = T2
    have sB : Same HA T2 := by rw [← hGB]; exact same_new hlb
    have gB : T2 lb = some (.lst ((["cell"] : List Str).map V.str)) := by rw [← hGB]; exact upd_same
    have t2 := (s1).trans (sA.trans sB)
    refine ⟨strsD (ws.take 1), strsD ["cell"], .lst (SqL.of (sB _ _ gA)) (dp_strs _), .lst (SqL.of gB) (dp_strs _), strs_shaped cod1, strs_shaped (fun y hy => by rw [List.mem_singleton.mp hy]; decide +kernel), _, rfl, ?_⟩
    rw [strs_eqv]

    by_cases c0 : ws.take 1 = ([Str.ofString "cell"] : List Str)
    rotate_left
    · exact iteDF c0 ⟨rfl, t2, fun h => c0 (take1.mpr ⟨by omega, h.2⟩)⟩
    refine iteDT c0 ?_
    refine ⟨_, rfl, a, _, rfl, .inl ((t2).seq hS), rfl, _, rfl, ?_⟩
    rw [List.length_map]
    by_cases c1 : ws.length = 2
    rotate_left
    · exact iteDF (fun e => c1 (by have := V.int.inj e; omega)) ⟨rfl, t2, fun h => c1 h.1⟩
    refine iteDT (by rw [c1]; rfl) ?_
    have cc : ws.length = 2 ∧ wd ws 0 = "cell" := ⟨c1, (take1.mp c0).2⟩
    have hwd : ∀ i : Nat, i < 2 → atI (ws.map V.str) (i : Int) = some (V.str (wd ws i)) ∧ (wd ws i).length ≤ 100000 ∧ Ascii (wd ws i) := fun i hi => ⟨wd_at (by omega), wok _ (wd_mem (by omega))⟩

    have ep : plF ws = if isValW (wd ws 1) = true then some (.cell (valOf (wd ws 1))) else none := by unfold plF; rw [if_neg no1, if_pos cc]
    refine ⟨_, rfl, a, _, _, _, rfl, rfl, (t2).seq hS, (hwd 1 (by decide)).1, wd ws 1, rfl, (hwd 1 (by decide)).2.1, fun ca H2 s2 => ?_, fun ca H2 s2 => q2 (by rw [ep, ca, if_neg Bool.false_ne_true]) H2 (t2.trans s2)⟩
    refine ⟨by show 2 ≤ sizeLine; decide, fun t ht => ?_⟩
    have s4 := same_new (o := .tup [.str "cell", .int (valOf (wd ws 1))]) ht
    exact q1 (.cell (valOf (wd ws 1))) (by rw [ep, if_pos ca]) _ _ (t2.trans (s2.trans s4)) ⟨t, rfl, upd_same⟩

  rintro _ H2 ⟨rfl, s2, no2⟩

  refine ⟨fun σ' H' => σ' = start ["words"] [V.ref a] ∧ Same H H' ∧ ¬ (ws.length = 3 ∧ wd ws 0 = "world"), ?_, ?_⟩
  · skip

    refine ⟨_, rfl, 1, rfl, a, _, rfl, (s2).seq hS, fun la hla => ?_⟩
    rw [show cutV (ws.map V.str) none (some 1) = (ws.take 1).map V.str from by rw [show (1 : Int) = ((1 : Nat) : Int) from rfl, cut_take]]
    generalize hGA : upd H2 la _ = HA
    have sA : Same H2 HA := by rw [← hGA]; exact same_new hla
    have gA : HA la = some (.lst ((ws.take 1).map V.str)) := by rw [← hGA]; exact upd_same
    refine ⟨by show 1 ≤ sizeLine; decide, fun lb hlb => ?_⟩
    generalize hGB : upd HA lb _ = T3
    have sB : Same HA T3 := by rw [← hGB]; exact same_new hlb
    have gB : T3 lb = some (.lst ((["world"] : List Str).map V.str)) := by rw [← hGB]; exact upd_same
    have t3 := (s2).trans (sA.trans sB)
    refine ⟨strsD (ws.take 1), strsD ["world"], .lst (SqL.of (sB _ _ gA)) (dp_strs _), .lst (SqL.of gB) (dp_strs _), strs_shaped cod1, strs_shaped (fun y hy => by rw [List.mem_singleton.mp hy]; decide +kernel), _, rfl, ?_⟩
    rw [strs_eqv]

    by_cases c0 : ws.take 1 = ([Str.ofString "world"] : List Str)
    rotate_left
    · exact iteDF c0 ⟨rfl, t3, fun h => c0 (take1.mpr ⟨by omega, h.2⟩)⟩
    refine iteDT c0 ?_
    refine ⟨_, rfl, a, _, rfl, .inl ((t3).seq hS), rfl, _, rfl, ?_⟩
    rw [List.length_map]
    by_cases c1 : ws.length = 3
    rotate_left
    · exact iteDF (fun e => c1 (by have := V.int.inj e; omega)) ⟨rfl, t3, fun h => c1 h.1⟩
    refine iteDT (by rw [c1]; rfl) ?_
    have cc : ws.length = 3 ∧ wd ws 0 = "world" := ⟨c1, (take1.mp c0).2⟩
    have hwd : ∀ i : Nat, i < 3 → atI (ws.map V.str) (i : Int) = some (V.str (wd ws i)) ∧ (wd ws i).length ≤ 100000 ∧ Ascii (wd ws i) := fun i hi => ⟨wd_at (by omega), wok _ (wd_mem (by omega))⟩

    have ep : plF ws = if isNameW (wd ws 1) = true ∧ isValW (wd ws 2) = true then some (.world (wd ws 1) (valOf (wd ws 2))) else none := by unfold plF; rw [if_neg no1, if_neg no2, if_pos cc]
    refine ⟨_, rfl, a, _, _, _, rfl, rfl, (t3).seq hS, (hwd 1 (by decide)).1, wd ws 1, rfl, (hwd 1 (by decide)).2.1, fun ca H2 s2 => ?_, fun ca H2 s2 => q2 (by rw [ep, if_neg (fun h => by rw [ca] at h; cases h.1)]) H2 (t3.trans s2)⟩
    refine ⟨_, rfl, a, _, _, _, rfl, rfl, (t3.trans s2).seq hS, (hwd 2 (by decide)).1, wd ws 2, rfl, (hwd 2 (by decide)).2.1, fun cn H3 s3 => ?_, fun cn H3 s3 => q2 (by rw [ep, if_neg (fun h => by rw [cn] at h; cases h.2)]) H3 (t3.trans (s2.trans s3))⟩
    refine ⟨by show 3 ≤ sizeLine; decide, fun t ht => ?_⟩
    have s4 := same_new (o := .tup [.str "world", .str (wd ws 1), .int (valOf (wd ws 2))]) ht
    exact q1 (.world (wd ws 1) (valOf (wd ws 2))) (by rw [ep, if_pos ⟨ca, cn⟩]) _ _ (t3.trans (s2.trans (s3.trans s4))) ⟨t, rfl, upd_same⟩

  rintro _ H3 ⟨rfl, s3, no3⟩

  refine ⟨_, rfl, 1, rfl, a, _, rfl, (s3).seq hS, fun la hla => ?_⟩
  rw [show cutV (ws.map V.str) none (some 1) = (ws.take 1).map V.str from by rw [show (1 : Int) = ((1 : Nat) : Int) from rfl, cut_take]]
  generalize hGA : upd H3 la _ = HA
  have sA : Same H3 HA := by rw [← hGA]; exact same_new hla
  have gA : HA la = some (.lst ((ws.take 1).map V.str)) := by rw [← hGA]; exact upd_same
  refine ⟨by show 1 ≤ sizeLine; decide, fun lb hlb => ?_⟩
  generalize hGB : upd HA lb _ = T4
  have sB : Same HA T4 := by rw [← hGB]; exact same_new hlb
  have gB : T4 lb = some (.lst ((["drawn"] : List Str).map V.str)) := by rw [← hGB]; exact upd_same
  have t4 := (s3).trans (sA.trans sB)
  refine ⟨strsD (ws.take 1), strsD ["drawn"], .lst (SqL.of (sB _ _ gA)) (dp_strs _), .lst (SqL.of gB) (dp_strs _), strs_shaped cod1, strs_shaped (fun y hy => by rw [List.mem_singleton.mp hy]; decide +kernel), _, rfl, ?_⟩
  rw [strs_eqv]

  have ep : plF ws = if ws.length = 2 ∧ wd ws 0 = "drawn" then (if isNameW (wd ws 1) = true then some (.drawn (wd ws 1)) else none) else none := by unfold plF; rw [if_neg no1, if_neg no2, if_neg no3]
  by_cases c0 : ws.take 1 = ([Str.ofString "drawn"] : List Str)
  rotate_left
  · exact iteDF c0 ⟨_, rfl, (fun h => nomatch h), fun _ => q2 (by rw [ep, if_neg (fun h => c0 (take1.mpr ⟨by omega, h.2⟩))]) _ t4⟩
  refine iteDT c0 ?_
  refine ⟨_, rfl, a, _, rfl, .inl (t4.seq hS), rfl, _, rfl, fun h => ?_, fun h => ?_⟩
  rotate_left
  · have h := of_decide_eq_false h
    rw [List.length_map] at h
    refine q2 ?_ _ t4
    rw [ep, if_neg (fun k => h (by rw [k.1]; rfl))]
  have h := of_decide_eq_true h
  rw [List.length_map] at h
  have c1 : ws.length = 2 := by have := V.int.inj h; omega
  rw [if_pos ⟨c1, (take1.mp c0).2⟩] at ep
  have hwd : ∀ i : Nat, i < 2 → atI (ws.map V.str) (i : Int) = some (V.str (wd ws i)) ∧ (wd ws i).length ≤ 100000 ∧ Ascii (wd ws i) := fun i hi => ⟨wd_at (by omega), wok _ (wd_mem (by omega))⟩
  refine ⟨_, rfl, a, _, _, _, rfl, rfl, (t4).seq hS, (hwd 1 (by decide)).1, wd ws 1, rfl, (hwd 1 (by decide)).2.1, fun ca H2 s2 => ?_, fun ca H2 s2 => q2 (by rw [ep, ca, if_neg Bool.false_ne_true]) H2 (t4.trans s2)⟩
  refine ⟨by show 2 ≤ sizeLine; decide, fun t ht => ?_⟩
  have s4 := same_new (o := .tup [.str "drawn", .str (wd ws 1)]) ht
  exact q1 (.drawn (wd ws 1)) (by rw [ep, if_pos ca]) _ _ (t4.trans (s2.trans s4)) ⟨t, rfl, upd_same⟩

end
end K83
namespace K83
open PySem L2 TL
section
variable {P : Program} {w : World} {K : PySem.W.Frag} {mg : Str → Option Value} {base : Heap} {A : Ads}
theorem ok_read_change (T : Txt w K mg A) : FnOk P w K mg base (L2.CX P w) 5 A.read_change A.read_change_d ["text"] (spChIn K A.NoText) := by
  have G_check_text := ok_check_text (P := P) (w := w) (base := base) T
  have G_place_in := ok_place_in (P := P) (w := w) (base := base) T
  have G_number_in := ok_number_in (P := P) (w := w) (base := base) T
  have G_address_in := ok_address_in (P := P) (w := w) (base := base) T
  refine T.F_read_change.okX sc_read_change (fun vs H Q E h => ?_) (fun cdv A0 outer s H vs Q E hr h => ?_)
  · obtain ⟨x, rfl, h⟩ := h
    rfl
  obtain ⟨x, rfl, h⟩ := h
  refine ⟨_, (pss_cons (ps_expr (pe_call G_check_text (hr.mono (by decide)) rfl T.m_check_text T.F_check_text.kp T.b_check_text .nil (passes_call (takes_of rfl rfl rfl rfl) (fun _ _ _ _ h => h)) (pa_cons (pe_callB call_isi (by rfl) T.z_isinstance (by decide +kernel) (pa_cons (pv 0) (pa_cons (pe_bltn (v := .ty "str") (by rfl) T.z_str (by decide +kernel) rfl) pa_nil))) pa_nil)))
   (pss_cons (ps_set (i := 1) sc_read_change.nd rfl (Or.inl rfl) (pe_split (pv 0) pe_str))
   (pss_cons (ps_if (pt_cmpR op_eq (pe_ix ix_list (pv 1) pe_int (fun _ _ => rfl)) pe_str (nomark _))
    (pss_one (ps_ret (pe_tup (pa_cons pe_str (pa_cons (pe_call G_place_in (hr.mono (by decide)) rfl T.m_place_in T.F_place_in.kp T.b_place_in .nil (passes_call (takes_of rfl rfl rfl rfl) (fun _ _ _ _ h => h)) (pa_cons (pe_slice sl_list (pv 1) (po_some pe_int) (po_some (pe_un un_neg pe_int))) pa_nil)) (pa_cons (pe_call G_number_in (hr.mono (by decide)) rfl T.m_number_in T.F_number_in.kp T.b_number_in .nil (passes_call (takes_of rfl rfl rfl rfl) (fun _ _ _ _ h => h)) (pa_cons (pe_ix ix_list (pv 1) (pe_un un_neg pe_int) (fun _ _ => rfl)) pa_nil)) pa_nil))))))
    pss_nil)
   (pss_cons (ps_if (pt_cmpR op_eq (pe_ix ix_list (pv 1) pe_int (fun _ _ => rfl)) pe_str (nomark _))
    (pss_cons (ps_set (i := 2) sc_read_change.nd rfl (Or.inl rfl) (pe_join pe_str (pe_slice sl_list (pv 1) (po_some pe_int) po_none)))
   (pss_cons (ps_expr (pe_call G_check_text (hr.mono (by decide)) rfl T.m_check_text T.F_check_text.kp T.b_check_text .nil (passes_call (takes_of rfl rfl rfl rfl) (fun _ _ _ _ h => h)) (pa_cons (pe_and (pe_cmpR op_gt (pe_callB call_lenK (by rfl) T.z_len (by decide +kernel) (pa_cons (pv 1) pa_nil)) pe_int (nomark _)) (pe_and (pe_cmpR op_ne (pv 2) pe_str (nomark _)) (pe_one (pe_cmpR op_notIn_sign pe_str (pv 2) (by rfl))))) pa_nil)))
   (pss_one (ps_ret (pe_tup (pa_cons pe_str (pa_cons (pe_call G_number_in (hr.mono (by decide)) rfl T.m_number_in T.F_number_in.kp T.b_number_in .nil (passes_call (takes_of rfl rfl rfl rfl) (fun _ _ _ _ h => h)) (pa_cons (pe_ix ix_list (pv 1) pe_int (fun _ _ => rfl)) pa_nil)) (pa_cons (pv 2) pa_nil))))))))
    pss_nil)
   (pss_cons (ps_expr (pe_call G_check_text (hr.mono (by decide)) rfl T.m_check_text T.F_check_text.kp T.b_check_text .nil (passes_call (takes_of rfl rfl rfl rfl) (fun _ _ _ _ h => h)) (pa_cons (pe_and (pe_cmpR op_eq (pe_ix ix_list (pv 1) pe_int (fun _ _ => rfl)) pe_str (nomark _)) (pe_and (pe_cmpR op_eq (pe_callB call_lenK (by rfl) T.z_len (by decide +kernel) (pa_cons (pv 1) pa_nil)) pe_int (nomark _)) (pe_one (pe_cmpR (op_inTab T.kd_GOES) (pe_ix ix_list (pv 1) pe_int (fun _ _ => rfl)) (pe_glob (v := .ref A.GOES) (by rfl) T.m_GOES rfl) (by rfl))))) pa_nil)))
   (pss_one (ps_ret (pe_tup (pa_cons pe_str (pa_cons (pe_call G_address_in (hr.mono (by decide)) rfl T.m_address_in T.F_address_in.kp T.b_address_in .nil (passes_call (takes_of rfl rfl rfl rfl) (fun _ _ _ _ h => h)) (pa_cons (pe_ix ix_list (pv 1) pe_int (fun _ _ => rfl)) pa_nil)) (pa_cons (pe_ix ix_kdict (pe_glob (v := .ref A.GOES) (by rfl) T.m_GOES rfl) (pe_ix ix_list (pv 1) pe_int (fun _ _ => rfl)) (fun _ _ => rfl)) pa_nil))))))))))), ?_⟩
  rcases h with ⟨s, rfl, hl, hasc, q1, q2⟩ | ⟨t, ht, hk, q⟩
  rotate_left
  · exact ⟨_, rfl, _, _, _, _, false, rfl, .ty _, ht, hk, _, rfl, (fun h => nomatch h), fun _ => q⟩
  refine ⟨_, rfl, _, _, _, _, true, rfl, .ty _, .base (.str _), kit_ty (by decide +kernel), _, rfl, fun _ => ?_, fun h => nomatch h⟩

  refine ⟨_, rfl, ⟨_, rfl⟩, s, _, rfl, rfl, (by decide +kernel), sizeL (by omega), fun l hn => ?_⟩
  rw [show Txt.split s " " = Txt.split s (Str.ofString " ") from rfl]
  have hp0 := word_pos s
  have hpl : ∀ w ∈ Txt.split s (Str.ofString " "), w.length ≤ 100000 := fun w hw => Nat.le_trans (part_len tl_sp hw) hl
  have hpa : ∀ w ∈ Txt.split s (Str.ofString " "), Ascii w := ascii_split hasc
  have hnw := parts_n (s := s) tl_sp
  have htot := tot_split (s := s) tl_sp
  have hcF : chF s = chW (Txt.split s (Str.ofString " ")) := rfl
  have hjs : Txt.join (Str.ofString " ") (Txt.split s (Str.ofString " ")) = s := by rw [join_eq]; exact PySem.StrLaws.join_split s _
  generalize hws : Txt.split s (Str.ofString " ") = ws at hp0 hpl hpa hnw htot hcF hjs ⊢
  have hat : ∀ i : Nat, i < ws.length → atI (ws.map V.str) (i : Int) = some (V.str (wd ws i)) ∧ (wd ws i).length ≤ 100000 ∧ Ascii (wd ws i) := fun i h => ⟨wd_at h, hpl _ (wd_mem h), hpa _ (wd_mem h)⟩
  generalize hG1 : upd H l _ = H1
  have s1 : Same H H1 := by rw [← hG1]; exact same_new hn
  have g1 : H1 l = some (.lst (ws.map V.str)) := by rw [← hG1]; exact upd_same
  have hjt : (Txt.join (Str.ofString " ") (ws.drop 2)).length ≤ 100001 := by
    have c := tot_cut ws 2
    have := join_tot (ws := ws.drop 2) tl_sp
    omega
  have htd : tot (ws.drop 2) ≤ 100001 := by
    have c := tot_cut ws 2
    omega
  have hcut2 : cutV (ws.map V.str) (some 2) none = (ws.drop 2).map V.str := by rw [show (2 : Int) = ((2 : Nat) : Int) from rfl, cut_drop]
  have hmid : Wds (midW ws) := by
    refine ⟨?_, fun w hw => ?_⟩
    · unfold midW
      rw [List.length_take, List.length_drop]
      omega
    · have := List.mem_of_mem_drop (List.mem_of_mem_take hw)
      exact ⟨hpl w this, hpa w this⟩

  refine ⟨_, rfl, l, _, _, _, rfl, rfl, SqL.of g1, (hat 0 hp0).1, rfl, _, rfl, ?_⟩
  refine iteD2 (fun c => ?_) (fun c => ?_)
  · have c := V.str.inj c
    have ec := hcF.trans (chW_start c)
    refine ⟨_, rfl, 1, rfl, 1, rfl, _, rfl, l, _, rfl, SqL.of g1, fun l2 hl2 => ?_⟩
    rw [show cutV (ws.map V.str) (some 1) (some (-1)) = (midW ws).map V.str from cut_midW ws]
    generalize hG2 : upd H1 l2 _ = H2
    have s2 : Same H1 H2 := by rw [← hG2]; exact same_new hl2
    have g2 : H2 l2 = some (.lst ((midW ws).map V.str)) := by rw [← hG2]; exact upd_same
    refine ⟨l2, midW ws, rfl, SqL.of g2, hmid, fun pl hp v H3 s3 hv => ?_, fun hp H3 s3 => q2 (by rw [ec, hp]; rfl) H3 (s1.trans (s2.trans s3))⟩
    have g3 := s3 _ _ (s2 _ _ g1)
    have hz := wd_mem (ws := ws) (i := ws.length - 1) (by omega)
    refine ⟨_, rfl, 1, rfl, l, _, _, _, rfl, rfl, SqL.of g3, wd_last hp0, _, rfl, hpl _ hz, fun cv H4 s4 => ?_, fun cv H4 s4 => q2 (by rw [ec, hp]; exact if_neg (by rw [cv]; exact Bool.false_ne_true)) H4 (s1.trans (s2.trans (s3.trans s4)))⟩
    refine ⟨by show 3 ≤ sizeLine; decide, fun t ht => ?_⟩
    have s5 := same_new (o := .tup [.str "start", v, .int (valOf (wd ws (ws.length - 1)))]) ht
    refine q1 (.start pl (valOf (wd ws (ws.length - 1)))) (by rw [ec, hp]; exact if_pos cv) _ _ (s1.trans (s2.trans (s3.trans (s4.trans s5)))) ⟨t, v, rfl, upd_same, hv.keep (tupKeep_same (s4.trans s5))⟩
  have n1 : ¬ wd ws 0 = "start" := fun e => c (congrArg V.str e)
  refine ⟨_, rfl, l, _, _, _, rfl, rfl, SqL.of g1, (hat 0 hp0).1, rfl, _, rfl, ?_⟩
  refine iteD2 (fun c => ?_) (fun c => ?_)
  · have c := V.str.inj c
    have ec := hcF.trans (chW_row n1 c)
    refine ⟨⟨_, rfl⟩, _, rfl, 2, rfl, l, _, rfl, SqL.of g1, fun l2 hl2 => ?_⟩
    rw [hcut2]
    generalize hG2 : upd H1 l2 _ = H2
    have s2 : Same H1 H2 := by rw [← hG2]; exact same_new hl2
    have g2 : H2 l2 = some (.lst ((ws.drop 2).map V.str)) := by rw [← hG2]; exact upd_same
    refine ⟨_, l2, ws.drop 2, rfl, rfl, .inl (SqL.of g2), by rw [sum_tot len_sp]; omega, ?_⟩
    have s12 := s1.trans s2
    have gl := s2 _ _ g1
    refine ⟨_, rfl, l, _, rfl, .inl (SqL.of gl), _, _, rfl, rfl, _, rfl, ?_⟩
    rw [List.length_map]
    by_cases c1 : (2 : Int) < (ws.length : Int)
    rotate_left
    · exact iteDF c1 ⟨_, rfl, (fun h => nomatch h), fun _ => q2 (by rw [ec, if_neg (fun h => c1 (by have := h.1; omega))]) _ s12⟩
    refine iteDT c1 ?_
    refine ⟨_, rfl, rfl, _, rfl, ?_⟩
    by_cases c2 : Txt.join (Str.ofString " ") (ws.drop 2) = Str.ofString ""
    · exact iteNF (congrArg V.str c2) ⟨_, rfl, (fun h => nomatch h), fun _ => q2 (by rw [ec, if_neg (fun h => h.2.1 c2)]) _ s12⟩
    refine iteNT (fun e => c2 (V.str.inj e)) ?_
    refine ⟨_, rfl, 10, _, congrArg V.str (by decide +kernel), rfl, _, rfl, fun h => ?_, fun h => ?_⟩
    rotate_left
    · refine q2 ?_ _ s12
      rw [ec, if_neg (fun k => ?_)]
      have : decide (10 ∈ tl (Txt.join " " (ws.drop 2))) = true := by
        have h : (!decide (10 ∈ tl (Txt.join " " (ws.drop 2)))) = false := h
        simpa using h
      exact k.2.2.1 (of_decide_eq_true this)
    have h10 : 10 ∉ tl (Txt.join " " (ws.drop 2)) := by
      have h : (!decide (10 ∈ tl (Txt.join " " (ws.drop 2)))) = true := h
      simpa using h
    have c1 : 2 < ws.length := by omega
    refine ⟨_, rfl, l, _, _, _, rfl, rfl, SqL.of gl, (hat 1 (by omega)).1, _, rfl, (hat 1 (by omega)).2.1, fun cv H3 s3 => ?_, fun cv H3 s3 => q2 (by rw [ec, if_neg (fun h => by rw [cv] at h; cases h.2.2.2)]) H3 (s12.trans s3)⟩
    refine ⟨_, rfl, by show 3 ≤ sizeLine; decide, fun t ht => ?_⟩
    have s5 := same_new (o := .tup [.str "row", .int (valOf (wd ws 1)), .str (Txt.join (Str.ofString " ") (ws.drop 2))]) ht
    exact q1 (.row (valOf (wd ws 1)) (Txt.join " " (ws.drop 2))) (by rw [ec, if_pos ⟨c1, c2, h10, cv⟩]) _ _ (s12.trans (s3.trans s5)) ⟨t, rfl, upd_same⟩
  have n2 : ¬ wd ws 0 = "row" := fun e => c (congrArg V.str e)
  have ec := hcF.trans (chW_goes n1 n2)
  refine ⟨_, rfl, l, _, _, _, rfl, rfl, SqL.of g1, (hat 0 hp0).1, rfl, _, rfl, ?_⟩
  by_cases c1 : wd ws 0 = "goes"
  rotate_left
  · exact iteDF (fun e => c1 (V.str.inj e)) ⟨_, rfl, (fun h => nomatch h), fun _ => q2 (by rw [ec, if_neg (fun h => c1 h.1)]) _ s1⟩
  refine iteDT (congrArg V.str c1) ?_
  refine ⟨_, rfl, l, _, rfl, .inl (SqL.of g1), rfl, _, rfl, ?_⟩
  rw [List.length_map]
  by_cases c2 : ws.length = 3
  rotate_left
  · exact iteDF (fun e => c2 (by have := V.int.inj e; omega)) ⟨_, rfl, (fun h => nomatch h), fun _ => q2 (by rw [ec, if_neg (fun h => c2 h.2)]) _ s1⟩
  refine iteDT (by rw [c2]; rfl) ?_
  rw [if_pos ⟨c1, c2⟩] at ec
  refine ⟨_, rfl, l, _, _, _, rfl, rfl, SqL.of g1, (hat 2 (by omega)).1, _, rfl, rfl, _, rfl, fun h => ?_, fun h => ?_⟩
  rotate_left
  · refine q2 ?_ _ s1
    have h : (GOV.lookup (wd ws 2)).isSome = false := h
    rw [gov_eq] at h
    cases e : GO.lookup (wd ws 2) with
    | none => rw [ec, e]; rfl
    | some g => rw [e] at h; cases h
  have h : (GOV.lookup (wd ws 2)).isSome = true := h
  rw [gov_eq] at h
  cases e : GO.lookup (wd ws 2) with
  | none => rw [e] at h; cases h
  | some g =>
  have el : GOV.lookup (wd ws 2) = some (KO.oV g) := by rw [gov_eq, e]; rfl
  rw [e] at ec
  refine ⟨_, rfl, l, _, _, _, rfl, rfl, SqL.of g1, (hat 1 (by omega)).1, _, rfl, (hat 1 (by omega)).2.1, fun ca ta H2 s2 h2 => ?_, fun ca H2 s2 => q2 (by rw [ec]; exact if_neg (by rw [ca]; exact Bool.false_ne_true)) H2 (s1.trans s2)⟩
  have g2 := s2 _ _ g1
  refine ⟨_, rfl, l, _, _, _, rfl, rfl, SqL.of g2, (hat 2 (by omega)).1, A.GOES, _, _, rfl, rfl, KTab.dct (kvs := GOV) T.kd_GOES el, ?_⟩
  refine ⟨by show 3 ≤ sizeLine; decide, fun t ht => ?_⟩
  have s5 := same_new (o := .tup [.str "goes", .ref ta, KO.oV g]) ht
  exact q1 (.goes (adOf (wd ws 1)) g) (by rw [ec]; exact if_pos ca) _ _ (s1.trans (s2.trans s5)) ⟨t, ta, rfl, upd_same, s5 _ _ h2⟩

end
end K83
namespace K83
open PySem L2 TL
section
variable {P : Program} {w : World} {K : PySem.W.Frag} {mg : Str → Option Value} {base : Heap} {A : Ads}
theorem ok_l_number (T : Txt w K mg A) : FnOk P w K mg base CX0 4 A.l_number A.l_number_d ["_law_well_here"] spNumber := by
  have G_l_draw := ok_l_draw (P := P) (w := w) (base := base) T
  refine T.F_l_number.ok sc_l_number (fun vs H Q E h => ?_) (fun cdv A0 outer s H vs Q E hr h => ?_)
  · obtain ⟨p, rfl, W, q⟩ := h
    rfl
  obtain ⟨p, rfl, W, q⟩ := h
  refine ⟨_, (pss_cons (ps_set (i := 1) sc_l_number.nd rfl (Or.inl rfl) (pe_call G_l_draw (hr.mono (by decide)) rfl T.m_l_draw T.F_l_draw.kp T.b_l_draw .nil pass0 (pa_cons (pv 0) (pa_cons pe_int pa_nil))))
   (pss_cons (ps_if (pt_cmpR op_eq (pv 1) pe_int (nomark _))
    (pss_one (ps_ret (pe_call G_l_draw (hr.mono (by decide)) rfl T.m_l_draw T.F_l_draw.kp T.b_l_draw .nil pass0 (pa_cons (pv 0) (pa_cons (pe_op op_pow pe_int pe_int) pa_nil)))))
    pss_nil)
   (pss_cons (ps_if (pt_cmpR op_eq (pv 1) pe_int (nomark _))
    (pss_one (ps_ret (pe_ix ix_list (pe_lst (pa_cons pe_int (pa_cons pe_int (pa_cons pe_int (pa_cons pe_int (pa_cons pe_int (pa_cons pe_int pa_nil))))))) (pe_call G_l_draw (hr.mono (by decide)) rfl T.m_l_draw T.F_l_draw.kp T.b_l_draw .nil pass0 (pa_cons (pv 0) (pa_cons pe_int pa_nil))) (fun _ _ => rfl))))
    pss_nil)
   (pss_one (ps_ret (pe_call G_l_draw (hr.mono (by decide)) rfl T.m_l_draw T.F_l_draw.kp T.b_l_draw .nil pass0 (pa_cons (pv 0) (pa_cons pe_int pa_nil)))))))), ?_⟩
  refine ⟨_, rfl, p, 4, rfl, W, by decide, by decide, fun n H1 hn0 hn1 k1 W1 => ?_⟩
  refine ⟨_, rfl, rfl, _, rfl, ?_⟩
  refine iteD2 (fun c1 => ?_) (fun c1 => ?_)
  · refine ⟨_, rfl, _, _, rfl, rfl, ⟨by decide, by decide, by decide⟩, p, _, rfl, W1, by decide, by decide, fun m H2 hm0 hm1 k2 W2 => ?_⟩
    have e6 : (10 : Int) ^ ((6 : Int).toNat) = 1000000 := by decide
    rw [e6] at hm1
    exact q m H2 ⟨hm0, hm1⟩ (k1.trans k2) W2
  refine ⟨_, rfl, rfl, _, rfl, ?_⟩
  refine iteD2 (fun c2 => ?_) (fun c2 => ?_)
  · refine ⟨by show 6 ≤ sizeLine; decide, fun l hl => ?_⟩
    have s := same_new (o := .lst (([0, 9, 10, 99999, 100000, 999999] : List Int).map V.int)) hl
    have npl : l ≠ p := fun e => by obtain ⟨_, _, _, _, w⟩ := W1; rw [← e, hl] at w; cases w
    refine ⟨_, rfl, p, 6, rfl, W1.same s, by decide, by decide, fun m H2 hm0 hm1 k2 W2 => ?_⟩
    have hl2 := k2 _ _ npl (upd_same (H := H1) (o := .lst (([0, 9, 10, 99999, 100000, 999999] : List Int).map V.int)))
    obtain ⟨z, hz, ez⟩ := at_ints (ns := [0, 9, 10, 99999, 100000, 999999]) hm0 hm1
    have v6 : ∀ z ∈ ([0, 9, 10, 99999, 100000, 999999] : List Int), 0 ≤ z ∧ z < 1000000 := by decide
    exact ⟨l, _, _, _, rfl, rfl, SqL.of hl2, ez, q z H2 (v6 z hz) (k1.trans ((keepX_of s).trans k2)) W2⟩
  · refine ⟨_, rfl, p, 30, rfl, W1, by decide, by decide, fun m H2 hm0 hm1 k2 W2 => ?_⟩
    exact q m H2 ⟨hm0, by omega⟩ (k1.trans k2) W2

end
end K83
namespace K83
open PySem L2 TL
section
variable {P : Program} {w : World} {K : PySem.W.Frag} {mg : Str → Option Value} {base : Heap} {A : Ads}
theorem ok_l_address (T : Txt w K mg A) : FnOk P w K mg base CX0 5 A.l_address A.l_address_d ["_law_well_here"] spAddress := by
  have G_l_draw := ok_l_draw (P := P) (w := w) (base := base) T
  have G_l_number := ok_l_number (P := P) (w := w) (base := base) T
  refine T.F_l_address.ok sc_l_address (fun vs H Q E h => ?_) (fun cdv A0 outer s H vs Q E hr h => ?_)
  · obtain ⟨p, rfl, W, q⟩ := h
    rfl
  obtain ⟨p, rfl, W, q⟩ := h
  refine ⟨_, (pss_cons (ps_set (i := 1) sc_l_address.nd rfl (Or.inl rfl) (pe_ix ix_list (pe_lst (pa_cons pe_int (pa_cons pe_int (pa_cons pe_int pa_nil)))) (pe_op op_add (pe_op op_fdiv (pe_call G_l_draw (hr.mono (by decide)) rfl T.m_l_draw T.F_l_draw.kp T.b_l_draw .nil pass0 (pa_cons (pv 0) (pa_cons pe_int pa_nil))) pe_int) (pe_callTy call_int1 (by rfl) T.z_int (by decide +kernel) (pa_cons (pe_cmpR op_eq (pe_call G_l_draw (hr.mono (by decide)) rfl T.m_l_draw T.F_l_draw.kp T.b_l_draw .nil pass0 (pa_cons (pv 0) (pa_cons pe_int pa_nil))) pe_int (nomark _)) pa_nil))) (fun _ _ => rfl)))
   (pss_one (ps_ret (pe_callTy call_tuple_ofK (by rfl) T.z_tuple (by decide +kernel) (pa_cons (pe_lc (own := [("_law_k", 2)]) (g := gName 2) (tt := tYes) rfl sc_l_address.nd (pi_range1 (by rfl) T.z_range (pa_cons (pe_call G_l_draw (hr.mono (by decide)) rfl T.m_l_draw T.F_l_draw.kp T.b_l_draw .nil pass0 (pa_cons (pv 0) (pa_cons (pv 1) pa_nil))) pa_nil)) (blkOk_by (own := [("_law_k", 2)]) (N := N_l_address) (sc := defScope s_l_address) (by decide +kernel)) (fun _ _ _ _ _ => pg_name (i := 2) sc_l_address.nd rfl (Or.inl rfl)) (fun _ _ _ _ _ => pts_nil) (fun _ _ _ _ _ => (pe_call G_l_number (hr.mono (by decide)) rfl T.m_l_number T.F_l_number.kp T.b_l_number .nil pass0 (pa_cons (pv 0) pa_nil)))) pa_nil))))), ?_⟩
  refine ⟨by show 3 ≤ sizeLine; decide, fun l hl => ?_⟩
  have s0 := same_new (o := .lst (([3, 6, 101] : List Int).map V.int)) hl
  have npl : l ≠ p := fun e => by obtain ⟨_, _, _, _, w⟩ := W; rw [← e, hl] at w; cases w
  refine ⟨_, rfl, p, 8, rfl, W.same s0, by decide, by decide, fun n1 H1 a0 a1 k1 W1 => ?_⟩
  refine ⟨_, _, rfl, rfl, ⟨by decide, by decide⟩, ?_⟩
  refine ⟨_, rfl, p, 8, rfl, W1, by decide, by decide, fun n2 H2 b0 b1 k2 W2 => ?_⟩
  refine ⟨rfl, .inr ⟨_, rfl, ?_⟩⟩
  refine ⟨_, _, rfl, rfl, ?_⟩
  have hl2 := k2 _ _ npl (k1 _ _ npl (upd_same (H := H) (o := .lst (([3, 6, 101] : List Int).map V.int))))
  obtain ⟨z, hz, ez⟩ := at_ints (ns := [3, 6, 101]) (n := n1 / 4 + (if decide (V.int n2 = V.int 7) = true then 1 else 0)) (by split <;> omega) (by show _ < ((3 : Nat) : Int); split <;> omega)
  have hz2 : 3 ≤ z ∧ z ≤ 101 := by
    have v6 : ∀ z ∈ ([3, 6, 101] : List Int), 3 ≤ z ∧ z ≤ 101 := by decide
    exact v6 z hz
  refine ⟨l, _, _, _, rfl, rfl, SqL.of hl2, ez, ?_⟩
  have k02 := (keepX_of s0).trans (k1.trans k2)
  refine ⟨_, rfl, _, rfl, p, z, rfl, W2, by omega, by omega, fun m H3 m0 m1 k3 W3 => ?_⟩

  refine ⟨m, rfl, by omega, by omega, fun D hD => lc_drawn (walk_range (lo := 0) (n := m.toNat)) (fun y => ∃ n, y = V.int n ∧ IsVal n) W3 hD (by omega) (by show 2 < 3; decide) (fun _ => trivial) (fun _ _ _ _ y => y.1) ?_ ?_⟩
  · intro i x H' Z hi k W' y z
    exact ⟨_, rfl, p, rfl, W', fun n H4 hn k4 W4 => z H4 _ k4 W4 ⟨n, rfl, hn⟩⟩
  · intro H' ys k W' hln hP hD'
    obtain ⟨ns, rfl, hns, hl3⟩ := ints_of hP
    exact ⟨D, _, rfl, .inl ⟨SqL.of hD', fun t ht => q t ns _ hns (by omega) upd_same (k02.trans (k3.trans (k.trans (keepX_of (same_new ht))))) (W'.same (same_new ht))⟩⟩

end
end K83
namespace K83
open PySem L2 TL
section
variable {P : Program} {w : World} {K : PySem.W.Frag} {mg : Str → Option Value} {base : Heap} {A : Ads}
theorem ok_l_address_text (T : Txt w K mg A) : FnOk P w K mg base CX0 1 A.l_address_text A.l_address_text_d ["_law_address_here"] (spAdText K) := by
  refine T.F_l_address_text.ok sc_l_address_text (fun vs H Q E h => ?_) (fun cdv A0 outer s H vs Q E hr h => ?_)
  · obtain ⟨a, ns, rfl, hS, hv, hl, q⟩ := h
    rfl
  obtain ⟨a, ns, rfl, hS, hv, hl, q⟩ := h
  refine ⟨_, (pss_cons (ps_if (pt_cmpR (op_eqD hr.units) (pv 0) (pe_tup pa_nil) (nomark _))
    (pss_one (ps_ret pe_str))
    pss_nil)
   (pss_one (ps_ret (pe_join pe_str (pe_lc (own := [("_law_number_here", 1)]) (g := gName 1) (tt := tYes) rfl sc_l_address_text.nd (pi_tup (pv 0)) (blkOk_by (own := [("_law_number_here", 1)]) (N := N_l_address_text) (sc := defScope s_l_address_text) (by decide +kernel)) (fun _ _ _ _ _ => pg_name (i := 1) sc_l_address_text.nd rfl (Or.inl rfl)) (fun _ _ _ _ _ => pts_nil) (fun _ _ _ _ _ => (pe_callTy call_str_int (by rfl) T.z_str (by decide +kernel) (pa_cons (pv 1) pa_nil)))))))), ?_⟩
  refine ⟨_, rfl, by show 0 ≤ sizeLine; decide, fun t ht => ?_⟩
  have s1 := same_new (o := .tup []) ht
  refine ⟨.tuple (ns.map .int), .tuple [], .tup (same_tup s1 hS) (dpAll_ints ns), .tup (SqT.of upd_same) .nil, tup_shaped ns, rfl, _, rfl, ?_⟩
  rw [eqv_ints]
  refine iteD2 (fun c => ?_) (fun c => ?_)
  · subst c; exact q _ s1
  · refine ⟨⟨_, rfl⟩, _, rfl, a, rfl, ⟨_, same_tup s1 hS⟩, fun D hD => lc_mapA ns V.int (fun n => V.str (numT n)) 0 walk_tup hD (by omega) (by show 1 < 2; decide) (fun H' s' => same_tup (s1.trans s') hS) ?_ ?_⟩
    · intro n hn H' Z s' z
      have h0 := (hv n hn).1
      have h1 := (hv n hn).2
      exact ⟨_, rfl, n, rfl, log_small (by omega), z H' (Same.refl H')⟩
    · intro H' s' hD'
      have hj := join_len (Str.ofString ".") 6 (by decide +kernel) (ns.map numT) fun x hx => by
        obtain ⟨n, hn, rfl⟩ := List.mem_map.mp hx
        exact numT_len (.inr (hv n hn))
      rw [List.length_map] at hj
      refine ⟨_, D, ns.map numT, rfl, rfl, .inl (SqL.of (by rw [hD', List.map_map]; rfl)), by rw [List.length_map]; omega, ?_⟩
      have e : Txt.join (Str.ofString ".") (ns.map numT) = adT ns := (if_neg c).symm
      rw [e]
      exact q _ (s1.trans s')

end
end K83
namespace K83
open PySem L2 TL
section
variable {P : Program} {w : World} {K : PySem.W.Frag} {mg : Str → Option Value} {base : Heap} {A : Ads}
theorem ok_l_name (T : Txt w K mg A) : FnOk P w K mg base CX0 4 A.l_name A.l_name_d ["_law_well_here"] spNm := by
  have G_l_draw := ok_l_draw (P := P) (w := w) (base := base) T
  refine T.F_l_name.ok sc_l_name (fun vs H Q E h => ?_) (fun cdv A0 outer s H vs Q E hr h => ?_)
  · obtain ⟨p, rfl, W, q⟩ := h
    rfl
  obtain ⟨p, rfl, W, q⟩ := h
  refine ⟨_, (pss_cons (ps_set (i := 1) sc_l_name.nd rfl (Or.inl rfl) (pe_lst (pa_cons pe_str (pa_cons pe_str (pa_cons pe_str (pa_cons pe_str (pa_cons pe_str (pa_cons pe_str (pa_cons pe_str (pa_cons pe_str (pa_cons pe_str (pa_cons pe_str (pa_cons pe_str (pa_cons pe_str (pa_cons pe_str (pa_cons pe_str pa_nil))))))))))))))))
   (pss_cons (ps_set (i := 1) sc_l_name.nd rfl (Or.inl rfl) (pe_op op_cat (pv 1) (pe_lst (pa_cons pe_str (pa_cons pe_str (pa_cons pe_str (pa_cons pe_str (pa_cons pe_str (pa_cons pe_str pa_nil)))))))))
   (pss_one (ps_ret (pe_ix ix_list (pv 1) (pe_call G_l_draw (hr.mono (by decide)) rfl T.m_l_draw T.F_l_draw.kp T.b_l_draw .nil pass0 (pa_cons (pv 0) (pa_cons (pe_callB call_lenK (by rfl) T.z_len (by decide +kernel) (pa_cons (pv 1) pa_nil)) pa_nil))) (fun _ _ => rfl)))))), ?_⟩
  refine ⟨by show 14 ≤ sizeLine; decide, fun l1 hl1 => ?_⟩
  generalize hG1 : upd H l1 _ = H1
  have s1 : Same H H1 := by rw [← hG1]; exact same_new hl1
  have g1 : H1 l1 = some (.lst ((["a", "b", "zz", "boxes", "cells", "world", "drawn", "start", "row", "goes", "yes", "no", "free", "part"] : List Str).map V.str)) := by rw [← hG1]; exact upd_same
  refine ⟨_, rfl, by show 6 ≤ sizeLine; decide, fun l2 hl2 => ?_⟩
  generalize hG2 : upd H1 l2 _ = H2
  have s2 : Same H1 H2 := by rw [← hG2]; exact same_new hl2
  have g2 : H2 l2 = some (.lst ((["kept", "done", "box", "iff", "abcdef", "zzzzzz"] : List Str).map V.str)) := by rw [← hG2]; exact upd_same
  refine ⟨l1, l2, _, _, rfl, rfl, s2 _ _ g1, g2, by show 20 ≤ sizeLine; decide, fun l3 hl3 => ?_⟩
  generalize hG3 : upd H2 l3 _ = H3
  have s3 : Same H2 H3 := by rw [← hG3]; exact same_new hl3
  have g3 : H3 l3 = some (.lst (NM.map V.str)) := by rw [← hG3, upd_same]; unfold NM; rw [List.map_append]
  have sA := s1.trans (s2.trans s3)
  have npl : l3 ≠ p := (W.same (s1.trans s2)).fresh hl3
  refine ⟨_, rfl, _, rfl, _, rfl, l3, _, rfl, .inl (SqL.of g3), p, _, rfl, W.same sA, by show (0 : Int) < ((20 : Nat) : Int); decide, by show ((20 : Nat) : Int) ≤ 1000000; decide, fun m H4 hm0 hm1 k4 W4 => ?_⟩
  rw [List.length_map] at hm1
  obtain ⟨s, hs, es⟩ := at_strs (ss := NM) hm0 hm1
  refine ⟨l3, _, _, _, rfl, rfl, SqL.of (k4 _ _ npl g3), es, ?_⟩
  exact q s H4 (nm_ok s hs) ((keepX_of sA).trans k4) W4

end
end K83
namespace K83
open PySem L2 TL
section
variable {P : Program} {w : World} {K : PySem.W.Frag} {mg : Str → Option Value} {base : Heap} {A : Ads}
theorem ok_l_place (T : Txt w K mg A) : FnOk P w K mg base CX0 6 A.l_place A.l_place_d ["_law_well_here"] spLPlace := by
  have G_l_draw := ok_l_draw (P := P) (w := w) (base := base) T
  have G_l_address := ok_l_address (P := P) (w := w) (base := base) T
  have G_l_name := ok_l_name (P := P) (w := w) (base := base) T
  have G_l_number := ok_l_number (P := P) (w := w) (base := base) T
  refine T.F_l_place.ok sc_l_place (fun vs H Q E h => ?_) (fun cdv A0 outer s H vs Q E hr h => ?_)
  · obtain ⟨p, rfl, W, q⟩ := h
    rfl
  obtain ⟨p, rfl, W, q⟩ := h
  refine ⟨_, (pss_cons (ps_set (i := 1) sc_l_place.nd rfl (Or.inl rfl) (pe_call G_l_draw (hr.mono (by decide)) rfl T.m_l_draw T.F_l_draw.kp T.b_l_draw .nil pass0 (pa_cons (pv 0) (pa_cons pe_int pa_nil))))
   (pss_cons (ps_if (pt_cmpR op_eq (pv 1) pe_int (nomark _))
    (pss_one (ps_ret (pe_tup (pa_cons pe_str (pa_cons (pe_call G_l_address (hr.mono (by decide)) rfl T.m_l_address T.F_l_address.kp T.b_l_address .nil pass0 (pa_cons (pv 0) pa_nil)) (pa_cons (pe_call G_l_name (hr.mono (by decide)) rfl T.m_l_name T.F_l_name.kp T.b_l_name .nil pass0 (pa_cons (pv 0) pa_nil)) pa_nil))))))
    pss_nil)
   (pss_cons (ps_if (pt_cmpR op_eq (pv 1) pe_int (nomark _))
    (pss_one (ps_ret (pe_tup (pa_cons pe_str (pa_cons (pe_call G_l_number (hr.mono (by decide)) rfl T.m_l_number T.F_l_number.kp T.b_l_number .nil pass0 (pa_cons (pv 0) pa_nil)) pa_nil)))))
    pss_nil)
   (pss_cons (ps_if (pt_cmpR op_eq (pv 1) pe_int (nomark _))
    (pss_one (ps_ret (pe_tup (pa_cons pe_str (pa_cons (pe_call G_l_name (hr.mono (by decide)) rfl T.m_l_name T.F_l_name.kp T.b_l_name .nil pass0 (pa_cons (pv 0) pa_nil)) (pa_cons (pe_call G_l_number (hr.mono (by decide)) rfl T.m_l_number T.F_l_number.kp T.b_l_number .nil pass0 (pa_cons (pv 0) pa_nil)) pa_nil))))))
    pss_nil)
   (pss_one (ps_ret (pe_tup (pa_cons pe_str (pa_cons (pe_call G_l_name (hr.mono (by decide)) rfl T.m_l_name T.F_l_name.kp T.b_l_name .nil pass0 (pa_cons (pv 0) pa_nil)) pa_nil))))))))), ?_⟩
  refine ⟨_, rfl, p, 4, rfl, W, by decide, by decide, fun way H1 w0 w1 k1 W1 => ?_⟩

  refine ⟨_, rfl, rfl, _, rfl, iteD2 (fun c => ?_) (fun c => ?_)⟩
  · skip

    refine ⟨_, rfl, p, rfl, W1, fun ta ad H2 hv hl2 h2 k2 W2 => ?_⟩
    refine ⟨_, rfl, p, rfl, W2, fun nm H3 hnm k3 W3 => ?_⟩
    refine ⟨by show 3 ≤ sizeLine; decide, fun t ht => ?_⟩
    have s4 := same_new (o := .tup [.str "box", .ref ta, .str nm]) ht
    exact q (.box ad nm) _ _ ⟨t, ta, rfl, upd_same, s4 _ _ (k3.tup W2 h2)⟩ ⟨⟨hv, hl2⟩, hnm⟩ (k1.trans (k2.trans (k3.trans (keepX_of s4)))) (W3.same s4)

  refine ⟨_, rfl, rfl, _, rfl, iteD2 (fun c => ?_) (fun c => ?_)⟩
  · skip

    refine ⟨_, rfl, p, rfl, W1, fun n H2 hn k2 W2 => ?_⟩
    refine ⟨by show 2 ≤ sizeLine; decide, fun t ht => ?_⟩
    have s4 := same_new (o := .tup [.str "cell", .int n]) ht
    exact q (.cell n) _ _ ⟨t, rfl, upd_same⟩ hn (k1.trans (k2.trans (keepX_of s4))) (W2.same s4)

  refine ⟨_, rfl, rfl, _, rfl, iteD2 (fun c => ?_) (fun c => ?_)⟩
  · skip

    refine ⟨_, rfl, p, rfl, W1, fun nm H2 hnm k2 W2 => ?_⟩
    refine ⟨_, rfl, p, rfl, W2, fun n H3 hn k3 W3 => ?_⟩
    refine ⟨by show 3 ≤ sizeLine; decide, fun t ht => ?_⟩
    have s4 := same_new (o := .tup [.str "world", .str nm, .int n]) ht
    exact q (.world nm n) _ _ ⟨t, rfl, upd_same⟩ ⟨hnm, hn⟩ (k1.trans (k2.trans (k3.trans (keepX_of s4)))) (W3.same s4)
  refine ⟨_, rfl, p, rfl, W1, fun nm H2 hnm k2 W2 => ?_⟩
  refine ⟨by show 2 ≤ sizeLine; decide, fun t ht => ?_⟩
  have s4 := same_new (o := .tup [.str "drawn", .str nm]) ht
  exact q (.drawn nm) _ _ ⟨t, rfl, upd_same⟩ hnm (k1.trans (k2.trans (keepX_of s4))) (W2.same s4)

end
end K83
namespace K83
open PySem L2 TL
section
variable {P : Program} {w : World} {K : PySem.W.Frag} {mg : Str → Option Value} {base : Heap} {A : Ads}
theorem ok_l_change (T : Txt w K mg A) : FnOk P w K mg base CX0 7 A.l_change A.l_change_d ["_law_well_here"] spLChange := by
  have G_l_draw := ok_l_draw (P := P) (w := w) (base := base) T
  have G_l_place := ok_l_place (P := P) (w := w) (base := base) T
  have G_l_number := ok_l_number (P := P) (w := w) (base := base) T
  have G_l_address := ok_l_address (P := P) (w := w) (base := base) T
  refine T.F_l_change.ok sc_l_change (fun vs H Q E h => ?_) (fun cdv A0 outer s H vs Q E hr h => ?_)
  · obtain ⟨p, rfl, W, q⟩ := h
    rfl
  obtain ⟨p, rfl, W, q⟩ := h
  refine ⟨_, (pss_cons (ps_set (i := 1) sc_l_change.nd rfl (Or.inl rfl) (pe_call G_l_draw (hr.mono (by decide)) rfl T.m_l_draw T.F_l_draw.kp T.b_l_draw .nil pass0 (pa_cons (pv 0) (pa_cons pe_int pa_nil))))
   (pss_cons (ps_if (pt_cmpR op_eq (pv 1) pe_int (nomark _))
    (pss_one (ps_ret (pe_tup (pa_cons pe_str (pa_cons (pe_call G_l_place (hr.mono (by decide)) rfl T.m_l_place T.F_l_place.kp T.b_l_place .nil pass0 (pa_cons (pv 0) pa_nil)) (pa_cons (pe_call G_l_number (hr.mono (by decide)) rfl T.m_l_number T.F_l_number.kp T.b_l_number .nil pass0 (pa_cons (pv 0) pa_nil)) pa_nil))))))
    pss_nil)
   (pss_cons (ps_if (pt_cmpR op_eq (pv 1) pe_int (nomark _))
    (pss_cons (ps_set (i := 2) sc_l_change.nd rfl (Or.inr rfl) pe_str)
   (pss_cons (ps_set (i := 3) sc_l_change.nd rfl (Or.inl rfl) (pe_join pe_str (pe_lc (own := [("_law_k", 4)]) (g := gName 4) (tt := tYes) rfl sc_l_change.nd (pi_range1 (by rfl) T.z_range (pa_cons (pe_op op_add pe_int (pe_call G_l_draw (hr.mono (by decide)) rfl T.m_l_draw T.F_l_draw.kp T.b_l_draw .nil pass0 (pa_cons (pv 0) (pa_cons pe_int pa_nil)))) pa_nil)) (blkOk_by (own := [("_law_k", 4)]) (N := N_l_change) (sc := defScope s_l_change) (by decide +kernel)) (fun _ _ _ _ _ => pg_name (i := 4) sc_l_change.nd rfl (Or.inl rfl)) (fun _ _ _ _ _ => pts_nil) (fun _ _ _ _ _ => (pe_ix ix_str (pv 2) (pe_call G_l_draw (hr.mono (by decide)) rfl T.m_l_draw T.F_l_draw.kp T.b_l_draw .nil pass0 (pa_cons (pv 0) (pa_cons (pe_callB call_len_str (by rfl) T.z_len (by decide +kernel) (pa_cons (pv 2) pa_nil)) pa_nil))) (fun _ _ => rfl))))))
   (pss_one (ps_ret (pe_tup (pa_cons pe_str (pa_cons (pe_call G_l_number (hr.mono (by decide)) rfl T.m_l_number T.F_l_number.kp T.b_l_number .nil pass0 (pa_cons (pv 0) pa_nil)) (pa_cons (pv 3) pa_nil))))))))
    pss_nil)
   (pss_one (ps_ret (pe_tup (pa_cons pe_str (pa_cons (pe_call G_l_address (hr.mono (by decide)) rfl T.m_l_address T.F_l_address.kp T.b_l_address .nil pass0 (pa_cons (pv 0) pa_nil)) (pa_cons (pe_ix ix_list (pe_lst (pa_cons pe_bl (pa_cons pe_bl (pa_cons pe_non pa_nil)))) (pe_call G_l_draw (hr.mono (by decide)) rfl T.m_l_draw T.F_l_draw.kp T.b_l_draw .nil pass0 (pa_cons (pv 0) (pa_cons pe_int pa_nil))) (fun _ _ => rfl)) pa_nil))))))))), ?_⟩
  refine ⟨_, rfl, p, 3, rfl, W, by decide, by decide, fun way H1 w0 w1 k1 W1 => ?_⟩

  refine ⟨_, rfl, rfl, _, rfl, iteD2 (fun c => ?_) (fun c => ?_)⟩
  · skip

    refine ⟨_, rfl, p, rfl, W1, fun pl v H2 hv hw k2 W2 => ?_⟩
    refine ⟨_, rfl, p, rfl, W2, fun n H3 hn k3 W3 => ?_⟩
    refine ⟨by show 3 ≤ sizeLine; decide, fun t ht => ?_⟩
    have s4 := same_new (o := .tup [.str "start", v, .int n]) ht
    have kk : TupKeep H2 (upd H3 t (.tup [.str "start", v, .int n])) := fun a xs h => s4 _ _ (k3.tup W2 h)
    exact q (.start pl n) _ _ ⟨t, v, rfl, upd_same, hv.keep kk⟩ ⟨hw, hn⟩ (k1.trans (k2.trans (k3.trans (keepX_of s4)))) (W3.same s4)

  refine ⟨_, rfl, rfl, _, rfl, iteD2 (fun c => ?_) (fun c => ?_)⟩
  · skip

    refine ⟨⟨_, rfl⟩, _, rfl, p, 30, rfl, W1, by decide, by decide, fun m H2 m0 m1 k2 W2 => ?_⟩
    refine ⟨_, _, rfl, rfl, 1 + m, rfl, by omega, by omega, fun D hD => lc_drawn (walk_range (lo := 0) (n := (1 + m).toNat)) (fun y => ∃ w, y = V.str w ∧ ∃ c, w = ⟨#[c]⟩ ∧ 32 ≤ c ∧ c ≤ 126) W2 hD (by omega) (by show 4 < 5; decide) (fun _ => trivial) (fun _ _ _ _ y => y.1) ?_ ?_⟩
    · intro i x H' Z hi k W' y z
      refine ⟨_, rfl, _, rfl, _, rfl, SIGNS, rfl, by decide +kernel, p, _, rfl, W', by decide +kernel, by decide +kernel, fun n H4 n0 n1 k4 W4 => ?_⟩
      obtain ⟨c, hc, ec⟩ := at_sign (s := SIGNS) n0 n1
      have hs := signs_ok c hc
      exact ⟨SIGNS, n, c, rfl, rfl, by decide +kernel, ec, z H4 _ k4 W4 ⟨_, rfl, c, rfl, hs.1, hs.2⟩⟩
    · intro H' ys k W' hlen hP hD'
      obtain ⟨rs, rfl, hrs, hl3⟩ := strs_of hP
      obtain ⟨j1, j2⟩ := join_signs hrs
      have e0 : (Str.ofString "").length = 0 := by decide +kernel
      have hsum : (rs.map (·.length)).sum ≤ rs.length := by
        have : ∀ l : List Str, (∀ y ∈ l, ∃ c, y = ⟨#[c]⟩ ∧ 32 ≤ c ∧ c ≤ 126) → (l.map (·.length)).sum ≤ l.length := by
          intro l
          induction l with
          | nil => intro _; exact Nat.le_refl _
          | cons y r ih =>
            intro h
            obtain ⟨c, rfl, _⟩ := h y List.mem_cons_self
            have := ih fun z hz => h z (List.mem_cons_of_mem _ hz)
            show 1 + (r.map (·.length)).sum ≤ r.length + 1
            omega
        exact this rs hrs
      have hn : rs.length = (1 + m).toNat := by rw [← hl3] at hlen; rw [← hlen]
      refine ⟨_, D, rs, rfl, rfl, .inl (SqL.of hD'), by rw [e0]; omega, ?_⟩
      refine ⟨_, rfl, p, rfl, W', fun n H5 hn5 k5 W5 => ?_⟩
      refine ⟨_, rfl, by show 3 ≤ sizeLine; decide, fun t ht => ?_⟩
      have s6 := same_new (o := .tup [.str "row", .int n, .str (Txt.join (Str.ofString "") rs)]) ht
      exact q (.row n (Txt.join (Str.ofString "") rs)) _ _ ⟨t, rfl, upd_same⟩ ⟨hn5, by rw [j1]; omega, by rw [j1]; omega, j2⟩ (k1.trans (k2.trans (k.trans (k5.trans (keepX_of s6))))) (W5.same s6)
  refine ⟨_, rfl, p, rfl, W1, fun ta ad H2 hv hl2 h2 k2 W2 => ?_⟩
  refine ⟨by show 3 ≤ sizeLine; decide, fun l3 hl3 => ?_⟩
  generalize hG3 : upd H2 l3 _ = H3
  have s3 : Same H2 H3 := by rw [← hG3]; exact same_new hl3
  have g3 : H3 l3 = some (.lst (([some true, some false, none] : List (Option Bool)).map KO.oV)) := by rw [← hG3]; exact upd_same
  have n3 : l3 ≠ p := W2.fresh hl3
  refine ⟨_, rfl, p, 3, rfl, W2.same s3, by decide, by decide, fun m H4 m0 m1 k4 W4 => ?_⟩
  have hg : ∃ g : Option Bool, atI (([some true, some false, none] : List (Option Bool)).map KO.oV) m = some (KO.oV g) := by
    have hm : m = 0 ∨ m = 1 ∨ m = 2 := by omega
    rcases hm with rfl | rfl | rfl
    · exact ⟨_, rfl⟩
    · exact ⟨_, rfl⟩
    · exact ⟨_, rfl⟩
  obtain ⟨g, eg⟩ := hg
  refine ⟨l3, _, _, _, rfl, rfl, SqL.of (k4 _ _ n3 g3), eg, ?_⟩
  refine ⟨by show 3 ≤ sizeLine; decide, fun t ht => ?_⟩
  have s5 := same_new (o := .tup [.str "goes", .ref ta, KO.oV g]) ht
  exact q (.goes ad g) _ _ ⟨t, ta, rfl, upd_same, s5 _ _ (k4.tup (W2.same s3) (s3 _ _ h2))⟩ ⟨hv, hl2⟩ (k1.trans (k2.trans ((keepX_of s3).trans (k4.trans (keepX_of s5))))) (W4.same s5)

end
end K83
namespace K83
open PySem L2 TL
section
variable {P : Program} {w : World} {K : PySem.W.Frag} {mg : Str → Option Value} {base : Heap} {A : Ads}
theorem ok_l_text (T : Txt w K mg A) : KG.FnG P w K mg base CX0 2 A.l_text A.l_text_d ["_law_change_here"] spLText := by
  have G_l_address_text := ok_l_address_text (P := P) (w := w) (base := base) T
  refine KG.okG T.F_l_text sc_l_text (fun vs H Q E h => ?_) (fun cdv A0 outer s H vs Q E hgd hr h => ?_)
  · obtain ⟨c, v, rfl, hc, hw, q⟩ := h
    rfl
  obtain ⟨c, v, rfl, hc, hw, q⟩ := h
  refine ⟨_, (pss_cons (ps_if (pt_cmpR op_eq (pe_ix ix_tup (pv 0) pe_int (fun _ _ => rfl)) pe_str (nomark _))
    (pss_one (ps_ret (pe_op op_add_str (pe_op op_add_str (pe_op op_add_str pe_str (pe_callTy call_str_int (by rfl) T.z_str (by decide +kernel) (pa_cons (pe_ix ix_tup (pv 0) pe_int (fun _ _ => rfl)) pa_nil))) pe_str) (pe_ix ix_tup (pv 0) pe_int (fun _ _ => rfl)))))
    pss_nil)
   (pss_cons (ps_if (pt_cmpR op_eq (pe_ix ix_tup (pv 0) pe_int (fun _ _ => rfl)) pe_str (nomark _))
    (pss_cons (ps_set (i := 1) sc_l_text.nd rfl (Or.inl rfl) (KO.pe_dispO (pps_cons pe_bl pe_str (pps_cons pe_bl pe_str (pps_cons pe_non pe_str pps_nil))) (by rfl) (by rfl) (fun z => by cases z) (by decide)))
   (pss_one (ps_ret (pe_op op_add_str (pe_op op_add_str (pe_op op_add_str pe_str (pe_call G_l_address_text (hr.mono (by decide)) rfl T.m_l_address_text T.F_l_address_text.kp T.b_l_address_text .nil pass0 (pa_cons (pe_ix ix_tup (pv 0) pe_int (fun _ _ => rfl)) pa_nil))) pe_str) (KO.pe_dgetO (pv 1) (pe_ix ix_tup (pv 0) pe_int (fun _ _ => rfl)) (fun _ _ => rfl))))))
    pss_nil)
   (pss_cons (ps_setLc (i := 1) (own := [("_law_part", 2)]) (g := gName 2) (tt := tYes) rfl sc_l_text.nd rfl rfl (sw_true rfl rfl rfl (by decide +kernel)) (pi_tup (pe_ix ix_tup (pv 0) pe_int (fun _ _ => rfl))) (blkOk_by (own := [("_law_part", 2)]) (N := N_l_text) (sc := defScope s_l_text) (by decide +kernel)) (fun _ _ _ _ _ => pg_name (i := 2) sc_l_text.nd rfl (Or.inl rfl)) (fun _ _ _ _ _ => pts_nil) (fun _ _ _ _ _ => (pe_callTy (r := rStrPart K) (call_str_part hgd hr.units) (by rfl) T.z_str (by decide +kernel) (pa_cons (pv 2) pa_nil))))
   (pss_cons (ps_cut (ps_if (pt_cmpR op_eq (pe_ix ix_list (pv 1) pe_int (fun _ _ => rfl)) pe_str (nomark _))
    (pss_one (ps_asg (pe_call G_l_address_text (hr.mono (by decide)) rfl T.m_l_address_text T.F_l_address_text.kp T.b_l_address_text .nil pass0 (pa_cons (pe_ix ix_tup (pe_ix ix_tup (pv 0) pe_int (fun _ _ => rfl)) pe_int (fun _ _ => rfl)) pa_nil)) (pg_sub (pv 1) pe_int set_list)))
    pss_nil))
   (pss_one (ps_ret (pe_join pe_str (pe_op op_cat (pe_op op_cat (pe_lst (pa_cons pe_str pa_nil)) (pv 1)) (pe_lst (pa_cons (pe_callTy call_str_int (by rfl) T.z_str (by decide +kernel) (pa_cons (pe_ix ix_tup (pv 0) pe_int (fun _ _ => rfl)) pa_nil)) pa_nil)))))))))), ?_⟩
  obtain ⟨L4, L5, L1⟩ := len_lit4
  cases c with
  | row n l =>
    obtain ⟨t, rfl, h2⟩ := hc
    have ln : (numT n).length ≤ 6 := numT_len (.inr hw.1)
    have ll := hw.2.2.1
    refine ⟨_, rfl, t, _, _, _, rfl, rfl, SqT.of h2, rfl, rfl, _, rfl, iteDT rfl ?_⟩
    refine ⟨_, rfl, t, _, _, _, rfl, rfl, SqT.of h2, rfl, n, rfl, log_small (by have := hw.1.1; have := hw.1.2; omega), _, _, rfl, rfl, (by show (Str.ofString "row ").length + (numT n).length ≤ _; exact sizeL3 (by omega)), _, _, rfl, rfl, (by show (Str.ofString "row " ++ numT n).length + (Str.ofString " ").length ≤ _; rw [len_app]; exact sizeL3 (by omega)),
      _, rfl, t, _, _, _, rfl, rfl, SqT.of h2, rfl, _, _, rfl, rfl, (by show ((Str.ofString "row " ++ numT n) ++ Str.ofString " ").length + l.length ≤ _; rw [len_app, len_app]; exact sizeL3 (by omega)), ?_⟩
    have q := q H (Same.refl H)
    rw [← text_row n l] at q
    exact q
  | goes ad g =>
    obtain ⟨t, ta, rfl, h2, h3⟩ := hc
    refine ⟨_, rfl, t, _, _, _, rfl, rfl, SqT.of h2, rfl, rfl, _, rfl, iteDF (vstr_ne (by decide +kernel)) ?_⟩
    refine ⟨_, rfl, t, _, _, _, rfl, rfl, SqT.of h2, rfl, rfl, _, rfl, iteDT rfl ?_⟩
    refine fun p hp => ⟨upd_same, _, _, _, rfl, ?_⟩
    rw [upd_upd]
    generalize hG1 : upd H p _ = H1
    have s1 : Same H H1 := by rw [← hG1]; exact same_new hp
    have g1 : H1 p = some (KO.OD P w p [(some true, .str "yes"), (some false, .str "no"), (none, .str "free")]) := by rw [← hG1]; exact upd_same
    have la : (adT ad).length ≤ 700 := adT_len hw.1 hw.2
    have lg := goT_len g
    refine ⟨_, rfl, t, _, _, _, rfl, rfl, SqT.of (s1 _ _ h2), rfl, ta, ad, rfl, SqT.of (s1 _ _ h3), hw.1, hw.2, fun H2 s2 => ?_⟩
    have s12 := s1.trans s2
    refine ⟨_, _, rfl, rfl, (by show (Str.ofString "goes ").length + (adT ad).length ≤ _; exact sizeL3 (by omega)), _, _, rfl, rfl, (by show (Str.ofString "goes " ++ adT ad).length + (Str.ofString " ").length ≤ _; rw [len_app]; exact sizeL3 (by omega)), ?_⟩
    refine ⟨_, rfl, _, rfl, t, _, _, _, rfl, rfl, SqT.of (s12 _ _ h2), rfl, p, _, g, .str (goT g), rfl, s2 _ _ g1, rfl, by rcases g with _ | (_ | _) <;> rfl, ?_⟩
    refine ⟨_, _, rfl, rfl, (by show ((Str.ofString "goes " ++ adT ad) ++ Str.ofString " ").length + (goT g).length ≤ _; rw [len_app, len_app]; exact sizeL3 (by omega)), ?_⟩
    have q := q H2 s12
    rw [← text_goes ad g] at q
    exact q
  | start pl n =>
    obtain ⟨t, pv, rfl, h2, h3⟩ := hc
    obtain ⟨ta, tp, rfl, h4, h5⟩ := h3.two
    refine ⟨_, rfl, t, _, _, _, rfl, rfl, SqT.of h2, rfl, rfl, _, rfl, iteDF (vstr_ne (by decide +kernel)) ?_⟩
    refine ⟨_, rfl, t, _, _, _, rfl, rfl, SqT.of h2, rfl, rfl, _, rfl, iteDF (vstr_ne (by decide +kernel)) ?_⟩
    have hpl := pl.parts_len ta
    refine ⟨_, rfl, t, _, _, _, rfl, rfl, SqT.of h2, rfl, tp, rfl, ⟨_, SqT.of h4⟩, fun D hD => lc_mapA (pl.parts ta) Prod.fst (fun a => V.str a.2) (V.non, Str.ofString "") walk_tup hD (by omega) (by show 2 < 3; decide) (fun H' s' => SqT.of (s' _ _ h4)) ?_ ?_⟩
    · intro a ha H' Z s' z
      refine ⟨_, rfl, ?_⟩
      cases pl with
      | box ad nm =>
        have hw' : AdOk ad := hw.1.1
        rcases List.mem_cons.mp ha with rfl | ha
        · exact .inr (.inl ⟨_, rfl, z H' (Same.refl H')⟩)
        rcases List.mem_cons.mp ha with rfl | ha
        · refine .inr (.inr ⟨ta, .tuple (ad.map .int), rfl, .tup (SqT.of (s' _ _ (h5 ad nm rfl))) (dpAll_ints _), ?_, ?_, ?_, tuple_len hw', z H' (Same.refl H')⟩)
          · exact ints_show ad hw'.1
          · exact ints_nodict ad
          · show PyData.depthAll (ad.map .int) + 1 ≤ 32
            rw [deep_ints]; decide
        obtain rfl := List.mem_singleton.mp ha
        exact .inr (.inl ⟨_, rfl, z H' (Same.refl H')⟩)
      | cell m =>
        rcases List.mem_cons.mp ha with rfl | ha
        · exact .inr (.inl ⟨_, rfl, z H' (Same.refl H')⟩)
        obtain rfl := List.mem_singleton.mp ha
        exact .inl ⟨m, rfl, log_small (by have := hw.1.1; have := hw.1.2; omega), z H' (Same.refl H')⟩
      | world nm m =>
        rcases List.mem_cons.mp ha with rfl | ha
        · exact .inr (.inl ⟨_, rfl, z H' (Same.refl H')⟩)
        rcases List.mem_cons.mp ha with rfl | ha
        · exact .inr (.inl ⟨_, rfl, z H' (Same.refl H')⟩)
        obtain rfl := List.mem_singleton.mp ha
        have hm : IsVal m := hw.1.2
        exact .inl ⟨m, rfl, log_small (by have := hm.1; have := hm.2; omega), z H' (Same.refl H')⟩
      | drawn nm =>
        rcases List.mem_cons.mp ha with rfl | ha
        · exact .inr (.inl ⟨_, rfl, z H' (Same.refl H')⟩)
        obtain rfl := List.mem_singleton.mp ha
        exact .inr (.inl ⟨_, rfl, z H' (Same.refl H')⟩)
    intro H1 s1 hD1
    refine ⟨fun σ' H' => ∃ z2, σ' = [some (.ref t), some (.ref D), z2] ∧ H' D = some (.lst (pl.words.map V.str)) ∧ Same H H', ?_, ?_⟩
    · cases pl with
      | box ad nm =>
        have hw' : AdOk ad := hw.1.1
        refine ⟨_, rfl, D, _, _, _, rfl, rfl, SqL.of hD1, rfl, rfl, _, rfl, iteDT rfl ?_⟩
        refine ⟨_, rfl, t, _, _, _, rfl, rfl, SqT.of (s1 _ _ h2), rfl, tp, _, _, _, rfl, rfl, SqT.of (s1 _ _ h4), rfl, ta, ad, rfl, SqT.of (s1 _ _ (h5 ad nm rfl)), hw'.1, hw'.2, fun H2 s2 => ?_⟩
        refine ⟨_, rfl, D, _, _, 1, rfl, rfl, s2 _ _ hD1, rfl, ?_⟩
        refine ⟨_, rfl, upd_same, fun a o ha => ?_⟩
        rw [upd_ne (ne_of_none ha hD)]
        exact s2 _ _ (s1 _ _ ha)
      | cell m =>
        refine ⟨_, rfl, D, _, _, _, rfl, rfl, SqL.of hD1, rfl, rfl, _, rfl, iteDF (vstr_ne (by decide +kernel)) ?_⟩
        exact ⟨_, rfl, hD1, s1⟩
      | world nm m =>
        refine ⟨_, rfl, D, _, _, _, rfl, rfl, SqL.of hD1, rfl, rfl, _, rfl, iteDF (vstr_ne (by decide +kernel)) ?_⟩
        exact ⟨_, rfl, hD1, s1⟩
      | drawn nm =>
        refine ⟨_, rfl, D, _, _, _, rfl, rfl, SqL.of hD1, rfl, rfl, _, rfl, iteDF (vstr_ne (by decide +kernel)) ?_⟩
        exact ⟨_, rfl, hD1, s1⟩
    rintro σ H3 ⟨z2, rfl, hD3, s3⟩
    have hwo := Chg.words_ok (c := .start pl n) hw
    have hwl : pl.words.length ≤ 3 := pl.words_n
    refine ⟨⟨_, rfl⟩, by show 1 ≤ sizeLine; decide, fun la hla => ?_⟩
    generalize hGA : upd H3 la _ = HA
    have sA : Same H3 HA := by rw [← hGA]; exact same_new hla
    have gA : HA la = some (.lst ((["start"] : List Str).map V.str)) := by rw [← hGA]; exact upd_same
    refine ⟨_, rfl, la, D, _, _, rfl, rfl, gA, sA _ _ hD3, by rw [List.length_map, List.length_map]; exact sizeL3 (by show 1 + pl.words.length ≤ _; omega), fun lb hlb => ?_⟩
    rw [← List.map_append]
    generalize hGB : upd HA lb _ = HB
    have sB : Same HA HB := by rw [← hGB]; exact same_new hlb
    have gB : HB lb = some (.lst (((["start"] : List Str) ++ pl.words).map V.str)) := by rw [← hGB]; exact upd_same
    refine ⟨_, rfl, t, _, _, _, rfl, rfl, SqT.of (sB _ _ (sA _ _ (s3 _ _ h2))), rfl, n, rfl, log_small (by have := hw.2.1; have := hw.2.2; omega), by show 1 ≤ sizeLine; decide, fun lc hlc => ?_⟩
    generalize hGC : upd HB lc _ = HC
    have sC : Same HB HC := by rw [← hGC]; exact same_new hlc
    have gC : HC lc = some (.lst (([numT n] : List Str).map V.str)) := by rw [← hGC]; exact upd_same
    refine ⟨lb, lc, _, _, rfl, rfl, sC _ _ gB, gC, by rw [List.length_map, List.length_map, List.length_append]; exact sizeL3 (by show 1 + pl.words.length + 1 ≤ _; omega), fun ld hld => ?_⟩
    rw [← List.map_append]
    generalize hGD : upd HC ld _ = HD
    have sD : Same HC HD := by rw [← hGD]; exact same_new hld
    have gD : HD ld = some (.lst ((((["start"] : List Str) ++ pl.words) ++ [numT n]).map V.str)) := by rw [← hGD]; exact upd_same
    have ee : (Chg.start pl n).words = ((["start"] : List Str) ++ pl.words) ++ [numT n] := by
      rw [List.append_assoc]; rfl
    refine ⟨_, ld, _, rfl, rfl, .inl (SqL.of gD), by rw [sum_tot len_sp, ← ee]; have := hwo.1; have := (Chg.text_ok (c := .start pl n) hw).1; omega, ?_⟩
    have q := q HD (s3.trans (sA.trans (sB.trans (sC.trans sD))))
    rw [← start_text] at q
    exact q

end
end K83
namespace K83
open PySem L2 TL
section
variable {P : Program} {w : World} {K : PySem.W.Frag} {mg : Str → Option Value} {base : Heap} {A : Ads}
theorem ok_l_kinds (T : Txt w K mg A) : FnOk P w K mg base CX0 1 A.l_kinds A.l_kinds_d ["_law_found", "_law_change_here"] spKinds3 := by
  refine T.F_l_kinds.ok sc_l_kinds (fun vs H Q E h => ?_) (fun cdv A0 outer s H vs Q E hr h => ?_)
  · obtain ⟨c, u, v, rfl, hu, hv, q⟩ := h
    rfl
  obtain ⟨c, u, v, rfl, hu, hv, q⟩ := h
  refine ⟨_, (pss_cons (ps_if (PW.pt (pw_or (pt_not (pt_val (pe_callB call_isi (by rfl) T.z_isinstance (by decide +kernel) (pa_cons (pv 0) (pa_cons (pe_bltn (v := .ty "tuple") (by rfl) T.z_tuple (by decide +kernel) rfl) pa_nil))))) (pw_or1 (pt_cmpR op_ne (pe_callB call_lenK (by rfl) T.z_len (by decide +kernel) (pa_cons (pv 0) pa_nil)) pe_int (nomark _)))))
    (pss_one (ps_ret pe_bl))
    pss_nil)
   (pss_cons (ps_if (pt_cmpR op_eq (pe_ix ix_tup (pv 1) pe_int (fun _ _ => rfl)) pe_str (nomark _))
    (pss_one (ps_ret (pe_and (pe_callB call_isi (by rfl) T.z_isinstance (by decide +kernel) (pa_cons (pe_ix ix_tup (pv 0) pe_int (fun _ _ => rfl)) (pa_cons (pe_bltn (v := .ty "tuple") (by rfl) T.z_tuple (by decide +kernel) rfl) pa_nil))) (pe_one (pe_or (pe_cmpR op_isN (pe_ix ix_tup (pv 0) pe_int (fun _ _ => rfl)) pe_non (nomark _)) (pe_one (pe_callB call_isi (by rfl) T.z_isinstance (by decide +kernel) (pa_cons (pe_ix ix_tup (pv 0) pe_int (fun _ _ => rfl)) (pa_cons (pe_bltn (v := .ty "bool") (by rfl) T.z_bool (by decide +kernel) rfl) pa_nil)))))))))
    pss_nil)
   (pss_cons (ps_if (pt_cmpR op_eq (pe_ix ix_tup (pv 1) pe_int (fun _ _ => rfl)) pe_str (nomark _))
    (pss_one (ps_ret (pe_and (pe_not (pe_callB call_isi (by rfl) T.z_isinstance (by decide +kernel) (pa_cons (pe_ix ix_tup (pv 0) pe_int (fun _ _ => rfl)) (pa_cons (pe_bltn (v := .ty "bool") (by rfl) T.z_bool (by decide +kernel) rfl) pa_nil)))) (pe_one (pe_callB call_isi (by rfl) T.z_isinstance (by decide +kernel) (pa_cons (pe_ix ix_tup (pv 0) pe_int (fun _ _ => rfl)) (pa_cons (pe_bltn (v := .ty "str") (by rfl) T.z_str (by decide +kernel) rfl) pa_nil)))))))
    pss_nil)
   (pss_one (ps_ret (pe_and (pe_callB call_isi (by rfl) T.z_isinstance (by decide +kernel) (pa_cons (pe_ix ix_tup (pv 0) pe_int (fun _ _ => rfl)) (pa_cons (pe_bltn (v := .ty "tuple") (by rfl) T.z_tuple (by decide +kernel) rfl) pa_nil))) (pe_one (pe_not (pe_callB call_isi (by rfl) T.z_isinstance (by decide +kernel) (pa_cons (pe_ix ix_tup (pv 0) pe_int (fun _ _ => rfl)) (pa_cons (pe_bltn (v := .ty "bool") (by rfl) T.z_bool (by decide +kernel) rfl) pa_nil))))))))))), ?_⟩
  have q := q H (Same.refl H)
  cases c with
  | start pl n =>
    obtain ⟨t2, pv, rfl, h2, h3⟩ := hu
    obtain ⟨t, pv', rfl, g2, _⟩ := hv
    obtain ⟨ta, tp, rfl, h4, _⟩ := h3.two
    refine ⟨_, rfl, _, _, _, _, true, rfl, .ty _, .base (.tup h2), kit_ty (by decide +kernel), _, rfl, iteF ?_⟩
    refine ⟨_, rfl, t2, _, rfl, .inr (SqT.of h2), rfl, _, rfl, iteNF rfl ?_⟩
    refine ⟨_, rfl, t, _, _, _, rfl, rfl, SqT.of g2, rfl, rfl, _, rfl, iteDF (vstr_ne (by decide +kernel)) ?_⟩
    refine ⟨_, rfl, t, _, _, _, rfl, rfl, SqT.of g2, rfl, rfl, _, rfl, iteDF (vstr_ne (by decide +kernel)) ?_⟩
    exact ⟨_, rfl, t2, _, _, _, rfl, rfl, SqT.of h2, rfl, _, _, _, _, true, rfl, .ty _, .base (.tup h4), kit_ty (by decide +kernel), _, rfl, iteT ⟨_, rfl, t2, _, _, _, rfl, rfl, SqT.of h2, rfl, _, _, _, _, false, rfl, .ty _, .base (.int _), kit_ty (by decide +kernel), _, rfl, q⟩⟩
  | row n l =>
    obtain ⟨t2, rfl, h2⟩ := hu
    obtain ⟨t, rfl, g2⟩ := hv
    refine ⟨_, rfl, _, _, _, _, true, rfl, .ty _, .base (.tup h2), kit_ty (by decide +kernel), _, rfl, iteF ?_⟩
    refine ⟨_, rfl, t2, _, rfl, .inr (SqT.of h2), rfl, _, rfl, iteNF rfl ?_⟩
    refine ⟨_, rfl, t, _, _, _, rfl, rfl, SqT.of g2, rfl, rfl, _, rfl, iteDF (vstr_ne (by decide +kernel)) ?_⟩
    refine ⟨_, rfl, t, _, _, _, rfl, rfl, SqT.of g2, rfl, rfl, _, rfl, iteDT rfl ?_⟩
    exact ⟨_, rfl, t2, _, _, _, rfl, rfl, SqT.of h2, rfl, _, _, _, _, false, rfl, .ty _, .base (.int _), kit_ty (by decide +kernel), _, rfl, _, rfl, iteT ⟨_, rfl, t2, _, _, _, rfl, rfl, SqT.of h2, rfl, _, _, _, _, true, rfl, .ty _, .base (.str _), kit_ty (by decide +kernel), q⟩⟩
  | goes ad g =>
    obtain ⟨t2, ta, rfl, h2, h3⟩ := hu
    obtain ⟨t, ta', rfl, g2, _⟩ := hv
    refine ⟨_, rfl, _, _, _, _, true, rfl, .ty _, .base (.tup h2), kit_ty (by decide +kernel), _, rfl, iteF ?_⟩
    refine ⟨_, rfl, t2, _, rfl, .inr (SqT.of h2), rfl, _, rfl, iteNF rfl ?_⟩
    refine ⟨_, rfl, t, _, _, _, rfl, rfl, SqT.of g2, rfl, rfl, _, rfl, iteDT rfl ?_⟩
    refine ⟨_, rfl, t2, _, _, _, rfl, rfl, SqT.of h2, rfl, _, _, _, _, true, rfl, .ty _, .base (.tup h3), kit_ty (by decide +kernel), _, rfl, iteT ?_⟩
    cases g with
    | none => exact ⟨_, rfl, t2, _, _, _, rfl, rfl, SqT.of h2, rfl, rfl, _, rfl, iteT q⟩
    | some b => exact ⟨_, rfl, t2, _, _, _, rfl, rfl, SqT.of h2, rfl, rfl, _, rfl, iteF ⟨_, rfl, t2, _, _, _, rfl, rfl, SqT.of h2, rfl, _, _, _, _, true, rfl, .ty _, .base (.bl _), kit_ty (by decide +kernel), q⟩⟩

end
end K83
namespace K83
open PySem L2 TL
section
variable {P : Program} {w : World} {K : PySem.W.Frag} {mg : Str → Option Value} {base : Heap} {A : Ads}
theorem ok_law (T : Txt w K mg A) : KG.FnG P w K mg base CX0 8 A.law A.law_d ["_law_script"] (spLaw K) := by
  have G_l_change := ok_l_change (P := P) (w := w) (base := base) T
  have G_l_well := ok_l_well (P := P) (w := w) (base := base) T
  have G_l_text := ok_l_text (P := P) (w := w) (base := base) T
  have G_change_text := ok_change_text (P := P) (w := w) (base := base) T
  have G_read_change := ok_read_change (P := P) (w := w) (base := base) T
  have G_l_kinds := ok_l_kinds (P := P) (w := w) (base := base) T
  refine KG.okG T.F_law sc_law (fun vs H Q E h => ?_) (fun cdv A0 outer s H vs Q E hgd hr h => ?_)
  · obtain ⟨a, ns, rfl, hS, hlen, q⟩ := h
    rfl
  obtain ⟨a, ns, rfl, hS, hlen, q⟩ := h
  refine ⟨_, (pss_cons (ps_for PassesOwn.never rfl (pi_range2 (by rfl) T.z_range (pa_cons pe_int (pa_cons pe_int pa_nil))) (pg_name (i := 1) sc_law.nd rfl (Or.inl rfl))
    (pss_cons (ps_set (i := 2) sc_law.nd rfl (Or.inl rfl) (pe_call G_l_change (hr.mono (by decide)) rfl T.m_l_change T.F_l_change.kp T.b_l_change .nil pass0 (pa_cons (pe_call G_l_well (hr.mono (by decide)) rfl T.m_l_well T.F_l_well.kp T.b_l_well .nil pass0 (pa_cons (pv 0) (pa_cons (pv 1) pa_nil))) pa_nil)))
   (pss_cons (ps_set (i := 3) sc_law.nd rfl (Or.inl rfl) (KG.pe_callG hgd G_l_text (hr.mono (by decide)) rfl T.m_l_text T.F_l_text.kp T.b_l_text pass0 (pa_cons (pv 2) pa_nil)))
   (pss_cons (ps_if (pt_cmpR op_ne (pe_call G_change_text (hr.mono (by decide)) rfl T.m_change_text T.F_change_text.kp T.b_change_text .nil pass0 (pa_cons (pv 2) pa_nil)) (pv 3) (nomark _))
    (pss_one (ps_ret pe_bl))
    pss_nil)
   (pss_cons (ps_set (i := 4) sc_law.nd rfl (Or.inl rfl) (pe_call G_read_change (hr.mono (by decide)) rfl T.m_read_change T.F_read_change.kp T.b_read_change .nil passL (pa_cons (pv 3) pa_nil)))
   (pss_one (ps_if (PW.pt (pw_or (pt_cmpR (op_neD hr.units) (pv 4) (pv 2) (nomark _)) (pw_or1 (pt_not (pt_val (pe_call G_l_kinds (hr.mono (by decide)) rfl T.m_l_kinds T.F_l_kinds.kp T.b_l_kinds .nil pass0 (pa_cons (pv 4) (pa_cons (pv 2) pa_nil))))))))
    (pss_one (ps_ret pe_bl))
    pss_nil)))))))
   (pss_one (ps_ret pe_bl))), ?_⟩
  refine ⟨1, 25, rfl, ⟨by decide, by decide, by decide, by decide⟩, for_range (lo := 1) (n := 24) (fun i σ H' => ∃ (z1 z2 z3 z4 : Option V), σ = [some (.ref a), z1, z2, z3, z4] ∧ Same H H') ⟨none, none, none, none, rfl, Same.refl H⟩ ?_ ?_⟩
  rotate_left
  · rintro σ H2 ⟨z1, z2, z3, z4, rfl, s2⟩
    exact q _
  rintro i σ H2 hi ⟨z1, z2, z3, z4, rfl, s2⟩
  refine ⟨_, rfl, _, rfl, a, ns, 1 + (i : Int), rfl, s2.seq hS, by omega, fun p H3 hp s3 W3 => ?_⟩
  refine ⟨p, rfl, W3, fun c v H4 hv hw k4 W4 => ?_⟩
  have s24 : Same H2 H4 := KeepX.same hp ((keepX_of s3).trans k4)
  refine ⟨_, rfl, c, v, rfl, hv, hw, fun H5 s5 => ?_⟩
  have hv5 := hv.keep (tupKeep_same s5)
  refine ⟨_, rfl, c, v, rfl, hv5, hw, fun H6 s6 => ?_⟩
  have hv6 := hv5.keep (tupKeep_same s6)
  refine ⟨_, rfl, rfl, _, rfl, iteNF rfl ?_⟩
  have htx := Chg.text_ok hw
  have hcf := chF_text hw
  refine ⟨_, rfl, _, rfl, .inl ⟨c.text, rfl, Nat.le_trans htx.1 (by decide), htx.2, fun c2 hc2 v2 H7 s7 hv2 => ?_, fun hn => by rw [hcf] at hn; cases hn⟩⟩
  rw [hcf] at hc2
  cases hc2
  have hv7 := hv6.keep (tupKeep_same s7)
  refine ⟨_, rfl, _, rfl, c.data, c.data, hv2.dp, hv7.dp, Chg.shaped (Chg.asc_of hw), Chg.shaped (Chg.asc_of hw), _, rfl, ?_⟩
  rw [SeqAt.eqv_refl _ (Chg.lay (Chg.asc_of hw))]
  refine iteF ?_
  refine ⟨_, rfl, _, rfl, c, v2, v, rfl, hv2, hv7, fun H8 s8 => ?_⟩
  refine ⟨_, rfl, iteF ?_⟩
  exact ⟨_, _, _, _, rfl, s2.trans (s24.trans (s5.trans (s6.trans (s7.trans s8))))⟩

end
end K83
namespace K83
open PySem PySem.Spec PyProof.Rows L2 TL
def hD_is_name : He.DefD := ⟨("is_name", none), "is_name", "is_name", defArgs s_is_name, defBody s_is_name, defScope s_is_name, [], []⟩
def hD_is_value_word : He.DefD := ⟨("is_value_word", none), "is_value_word", "is_value_word", defArgs s_is_value_word, defBody s_is_value_word, defScope s_is_value_word, [], []⟩
def hD_address_text : He.DefD := ⟨("address_text", none), "address_text", "address_text", defArgs s_address_text, defBody s_address_text, defScope s_address_text, [], []⟩
def hD_place_text : He.DefD := ⟨("place_text", none), "place_text", "place_text", defArgs s_place_text, defBody s_place_text, defScope s_place_text, [], []⟩
def hD_change_text : He.DefD := ⟨("change_text", none), "change_text", "change_text", defArgs s_change_text, defBody s_change_text, defScope s_change_text, [], []⟩
def hD_check_text : He.DefD := ⟨("check_text", none), "check_text", "check_text", defArgs s_check_text, defBody s_check_text, defScope s_check_text, [], []⟩
def hD_number_in : He.DefD := ⟨("number_in", none), "number_in", "number_in", defArgs s_number_in, defBody s_number_in, defScope s_number_in, [], []⟩
def hD_address_in : He.DefD := ⟨("address_in", none), "address_in", "address_in", defArgs s_address_in, defBody s_address_in, defScope s_address_in, [], []⟩
def hD_name_in : He.DefD := ⟨("name_in", none), "name_in", "name_in", defArgs s_name_in, defBody s_name_in, defScope s_name_in, [], []⟩
def hD_place_in : He.DefD := ⟨("place_in", none), "place_in", "place_in", defArgs s_place_in, defBody s_place_in, defScope s_place_in, [], []⟩
def hD_read_change : He.DefD := ⟨("read_change", none), "read_change", "read_change", defArgs s_read_change, defBody s_read_change, defScope s_read_change, [], []⟩
def hD_l_cell : He.DefD := ⟨("_law_cell", none), "_law_cell", "_law_cell", defArgs s_l_cell, defBody s_l_cell, defScope s_l_cell, [], []⟩
def hD_l_mixed : He.DefD := ⟨("_law_mixed", none), "_law_mixed", "_law_mixed", defArgs s_l_mixed, defBody s_l_mixed, defScope s_l_mixed, [], []⟩
def hD_l_twice : He.DefD := ⟨("_law_twice", none), "_law_twice", "_law_twice", defArgs s_l_twice, defBody s_l_twice, defScope s_l_twice, [], []⟩
def hD_l_well : He.DefD := ⟨("_law_well", none), "_law_well", "_law_well", defArgs s_l_well, defBody s_l_well, defScope s_l_well, [], []⟩
def hD_l_draw : He.DefD := ⟨("_law_draw", none), "_law_draw", "_law_draw", defArgs s_l_draw, defBody s_l_draw, defScope s_l_draw, [], []⟩
def hD_l_number : He.DefD := ⟨("_law_number", none), "_law_number", "_law_number", defArgs s_l_number, defBody s_l_number, defScope s_l_number, [], []⟩
def hD_l_address : He.DefD := ⟨("_law_address", none), "_law_address", "_law_address", defArgs s_l_address, defBody s_l_address, defScope s_l_address, [], []⟩
def hD_l_address_text : He.DefD := ⟨("_law_address_text", none), "_law_address_text", "_law_address_text", defArgs s_l_address_text, defBody s_l_address_text, defScope s_l_address_text, [], []⟩
def hD_l_name : He.DefD := ⟨("_law_name", none), "_law_name", "_law_name", defArgs s_l_name, defBody s_l_name, defScope s_l_name, [], []⟩
def hD_l_place : He.DefD := ⟨("_law_place", none), "_law_place", "_law_place", defArgs s_l_place, defBody s_l_place, defScope s_l_place, [], []⟩
def hD_l_change : He.DefD := ⟨("_law_change", none), "_law_change", "_law_change", defArgs s_l_change, defBody s_l_change, defScope s_l_change, [], []⟩
def hD_l_text : He.DefD := ⟨("_law_text", none), "_law_text", "_law_text", defArgs s_l_text, defBody s_l_text, defScope s_l_text, [], []⟩
def hD_l_kinds : He.DefD := ⟨("_law_kinds", none), "_law_kinds", "_law_kinds", defArgs s_l_kinds, defBody s_l_kinds, defScope s_l_kinds, [], []⟩
def hD_law : He.DefD := ⟨("law", none), "law", "law", defArgs s_law, defBody s_law, defScope s_law, [], []⟩
def hFn : List He.DefD := ([hD_is_name, hD_is_value_word, hD_address_text, hD_place_text, hD_change_text, hD_check_text, hD_number_in, hD_address_in, hD_name_in, hD_place_in, hD_read_change, hD_l_cell, hD_l_mixed, hD_l_twice, hD_l_well, hD_l_draw, hD_l_number, hD_l_address, hD_l_address_text, hD_l_name, hD_l_place, hD_l_change, hD_l_text, hD_l_kinds, hD_law] : List He.DefD)
def hFa : List FaM := ([fun K => (He.Fa.glo "is_name").ok K,
  fun K => (He.Fa.glo "is_value_word").ok K,
  fun K => (He.Fa.glo "address_text").ok K,
  fun K => (He.Fa.glo "place_text").ok K,
  fun K => (He.Fa.glo "change_text").ok K,
  fun K => (He.Fa.glo "check_text").ok K,
  fun K => (He.Fa.glo "number_in").ok K,
  fun K => (He.Fa.glo "address_in").ok K,
  fun K => (He.Fa.glo "name_in").ok K,
  fun K => (He.Fa.glo "place_in").ok K,
  fun K => (He.Fa.glo "read_change").ok K,
  fun K => (He.Fa.glo "_law_cell").ok K,
  fun K => (He.Fa.glo "_law_mixed").ok K,
  fun K => (He.Fa.glo "_law_twice").ok K,
  fun K => (He.Fa.glo "_law_well").ok K,
  fun K => (He.Fa.glo "_law_draw").ok K,
  fun K => (He.Fa.glo "_law_number").ok K,
  fun K => (He.Fa.glo "_law_address").ok K,
  fun K => (He.Fa.glo "_law_address_text").ok K,
  fun K => (He.Fa.glo "_law_name").ok K] : List FaM) ++
  ([fun K => (He.Fa.glo "_law_place").ok K,
  fun K => (He.Fa.glo "_law_change").ok K,
  fun K => (He.Fa.glo "_law_text").ok K,
  fun K => (He.Fa.glo "_law_kinds").ok K,
  fun K => (He.Fa.glo "law").ok K,
  fun K => (He.Fa.glo "PAIRS").ok K,
  fun K => He.tupB K "PAIRS" [.str "plus", .str "minus", .str "times", .str "over", .str "rest", .str "less", .str "same"],
  fun K => (He.Fa.glo "ROWS").ok K,
  fun K => He.tupB K "ROWS" [.str "skip", .str "set", .str "put", .str "ask", .str "draw", .str "tell", .str "if", .str "while", .str "call"],
  fun K => (He.Fa.glo "OTHERS").ok K,
  fun K => He.tupB K "OTHERS" [.str "else", .str "end", .str "fun", .str "main", .str "give", .str "cell"],
  fun K => (He.Fa.exc "NoText").ok K,
  fun K => (He.Fa.glo "NoText").ok K,
  fun K => (He.Fa.str "LETTERS" "abcdefghijklmnopqrstuvwxyz").ok K,
  fun K => (He.Fa.str "FIGURES" "0123456789").ok K,
  fun K => (He.Fa.int "MOST_NUMBERS" 100).ok K,
  fun K => (He.Fa.glo "GOES").ok K,
  fun K => He.valsB K (He.ga K "GOES") [("yes", .bl true), ("no", .bl false), ("free", .non)],
  fun K => (He.Fa.free "str").ok K,
  fun K => (He.Fa.free "isinstance").ok K] : List FaM) ++
  ([fun K => (He.Fa.free "len").ok K,
  fun K => (He.Fa.free "all").ok K,
  fun K => (He.Fa.free "int").ok K,
  fun K => (He.Fa.free "tuple").ok K,
  fun K => (He.Fa.free "range").ok K,
  fun K => (He.Fa.free "bool").ok K] : List FaM)
def loose : List Str := (["HadError", "NoText", "LETTERS", "FIGURES", "PAIRS", "ROWS", "OTHERS", "is_name", "is_value_word", "MOST_NUMBERS", "GOES", "address_text", "place_text", "change_text", "check_text"] : List Str) ++ (["number_in", "address_in", "name_in", "place_in", "read_change", "_law_cell", "_law_mixed", "_law_twice", "_law_well", "_law_draw", "_law_number", "_law_address", "_law_address_text", "_law_name", "_law_place"] : List Str) ++ (["_law_change", "_law_text", "_law_kinds"] : List Str)
abbrev R : PySem.W.OpenRow := PySem.W.OpenLaw.row PySem.Challenge.rw_hadbeen_k83_changes_as_texts
def hTs : List He.Tab := [(fun K => He.ga K "GOES", ["yes", "no", "free"])]
abbrev hk : PySem.W.Hook := hookMT ("law" :: loose) hFa hFn hTs
def ob (s : PySem.W.SharedT) : He.AlT := obsMTG ("law" :: loose) hFa hFn hTs (HandSHeadRun.getT s)
theorem ob_eq (s : PySem.W.SharedT) : ob s = hk.obs s.abs := obsMTG_eq (HandSHeadRun.getT_eq s)
end K83
namespace K83
open PySem PySem.Spec PyProof.Rows L2 TL
theorem run (w : World) : HandSHeadRun.RunEq R (PySem.W.view R.prog [37]) hk ob 12000 loose w := PySem.W.byRow2 "special-get-raises" (P := fun w => HandSHeadRun.RunEq R (PySem.W.view R.prog [37]) hk ob 12000 loose w) (fun w => by
  intro os
  kernel_rfl) (fun w => by
  intro os
  kernel_rfl) w
end K83
namespace K83
open PySem PySem.Spec PyProof.Rows L2 TL
set_option maxHeartbeats 0 in
theorem facts {P : Program} {w : World} {K : PySem.W.Frag} {h : Heap} {mg : Str → Option Value} {f : Addr} (X : K.In h) (G : h.Ns mainGlobals mg) (hfa : mg ("law" : Str) = some (.ref f)) (c0 : SaysMT hFa hFn hTs w K) :
    ∃ fd : FuncData, (∀ (s : Shared) (v : Value), BindsTo s fd ⟨[v], []⟩ [("_law_script", v)]) ∧ ∀ base : Heap, K.In base → base.Ns mainGlobals mg → KG.FnG P w K mg base CX0 8 f fd ["_law_script"] (spLaw K) := by
  have c := c0.m
  obtain ⟨d0, F0⟩ := c.def_ 0 (d := hD_is_name) rfl
  obtain ⟨d1, F1⟩ := c.def_ 1 (d := hD_is_value_word) rfl
  obtain ⟨d2, F2⟩ := c.def_ 2 (d := hD_address_text) rfl
  obtain ⟨d3, F3⟩ := c.def_ 3 (d := hD_place_text) rfl
  obtain ⟨d4, F4⟩ := c.def_ 4 (d := hD_change_text) rfl
  obtain ⟨d5, F5⟩ := c.def_ 5 (d := hD_check_text) rfl
  obtain ⟨d6, F6⟩ := c.def_ 6 (d := hD_number_in) rfl
  obtain ⟨d7, F7⟩ := c.def_ 7 (d := hD_address_in) rfl
  obtain ⟨d8, F8⟩ := c.def_ 8 (d := hD_name_in) rfl
  obtain ⟨d9, F9⟩ := c.def_ 9 (d := hD_place_in) rfl
  obtain ⟨d10, F10⟩ := c.def_ 10 (d := hD_read_change) rfl
  obtain ⟨d11, F11⟩ := c.def_ 11 (d := hD_l_cell) rfl
  obtain ⟨d12, F12⟩ := c.def_ 12 (d := hD_l_mixed) rfl
  obtain ⟨d13, F13⟩ := c.def_ 13 (d := hD_l_twice) rfl
  obtain ⟨d14, F14⟩ := c.def_ 14 (d := hD_l_well) rfl
  obtain ⟨d15, F15⟩ := c.def_ 15 (d := hD_l_draw) rfl
  obtain ⟨d16, F16⟩ := c.def_ 16 (d := hD_l_number) rfl
  obtain ⟨d17, F17⟩ := c.def_ 17 (d := hD_l_address) rfl
  obtain ⟨d18, F18⟩ := c.def_ 18 (d := hD_l_address_text) rfl
  obtain ⟨d19, F19⟩ := c.def_ 19 (d := hD_l_name) rfl
  obtain ⟨d20, F20⟩ := c.def_ 20 (d := hD_l_place) rfl
  obtain ⟨d21, F21⟩ := c.def_ 21 (d := hD_l_change) rfl
  obtain ⟨d22, F22⟩ := c.def_ 22 (d := hD_l_text) rfl
  obtain ⟨d23, F23⟩ := c.def_ 23 (d := hD_l_kinds) rfl
  obtain ⟨d24, F24⟩ := c.def_ 24 (d := hD_law) rfl
  have e := hfa.symm.trans (He.glo_ok (x := "law") X G (c.fact 24 rfl))
  cases e
  let A : Ads := ⟨He.fAd K ("is_name", none), d0, He.fAd K ("is_value_word", none), d1, He.fAd K ("address_text", none), d2, He.fAd K ("place_text", none), d3, He.fAd K ("change_text", none), d4, He.fAd K ("check_text", none), d5, He.fAd K ("number_in", none), d6, He.fAd K ("address_in", none), d7, He.fAd K ("name_in", none), d8, He.fAd K ("place_in", none), d9, He.fAd K ("read_change", none), d10, He.fAd K ("_law_cell", none), d11, He.fAd K ("_law_mixed", none), d12, He.fAd K ("_law_twice", none), d13, He.fAd K ("_law_well", none), d14, He.fAd K ("_law_draw", none), d15, He.fAd K ("_law_number", none), d16, He.fAd K ("_law_address", none), d17, He.fAd K ("_law_address_text", none), d18, He.fAd K ("_law_name", none), d19, He.fAd K ("_law_place", none), d20, He.fAd K ("_law_change", none), d21, He.fAd K ("_law_text", none), d22, He.fAd K ("_law_kinds", none), d23, He.fAd K ("law", none), d24, He.ga K "PAIRS", He.ga K "ROWS", He.ga K "OTHERS", He.ga K "NoText", He.ga K "GOES"⟩
  have T : Txt w K mg A :=
    { F_is_name := fun_of F0,
      b_is_name := FunD.bindsN (ps := ["thing"]) F0 fun _ _ _ _ _ _ us hl => match us, hl with | [_], _ => rfl,
      m_is_name := He.glo_ok (x := "is_name") X G (c.fact 0 rfl),
      F_is_value_word := fun_of F1,
      b_is_value_word := FunD.bindsN (ps := ["word"]) F1 fun _ _ _ _ _ _ us hl => match us, hl with | [_], _ => rfl,
      m_is_value_word := He.glo_ok (x := "is_value_word") X G (c.fact 1 rfl),
      F_address_text := fun_of F2,
      b_address_text := FunD.bindsN (ps := ["address"]) F2 fun _ _ _ _ _ _ us hl => match us, hl with | [_], _ => rfl,
      m_address_text := He.glo_ok (x := "address_text") X G (c.fact 2 rfl),
      F_place_text := fun_of F3,
      b_place_text := FunD.bindsN (ps := ["place"]) F3 fun _ _ _ _ _ _ us hl => match us, hl with | [_], _ => rfl,
      m_place_text := He.glo_ok (x := "place_text") X G (c.fact 3 rfl),
      F_change_text := fun_of F4,
      b_change_text := FunD.bindsN (ps := ["change"]) F4 fun _ _ _ _ _ _ us hl => match us, hl with | [_], _ => rfl,
      m_change_text := He.glo_ok (x := "change_text") X G (c.fact 4 rfl),
      F_check_text := fun_of F5,
      b_check_text := FunD.bindsN (ps := ["good"]) F5 fun _ _ _ _ _ _ us hl => match us, hl with | [_], _ => rfl,
      m_check_text := He.glo_ok (x := "check_text") X G (c.fact 5 rfl),
      F_number_in := fun_of F6,
      b_number_in := FunD.bindsN (ps := ["word"]) F6 fun _ _ _ _ _ _ us hl => match us, hl with | [_], _ => rfl,
      m_number_in := He.glo_ok (x := "number_in") X G (c.fact 6 rfl),
      F_address_in := fun_of F7,
      b_address_in := FunD.bindsN (ps := ["word"]) F7 fun _ _ _ _ _ _ us hl => match us, hl with | [_], _ => rfl,
      m_address_in := He.glo_ok (x := "address_in") X G (c.fact 7 rfl),
      F_name_in := fun_of F8,
      b_name_in := FunD.bindsN (ps := ["word"]) F8 fun _ _ _ _ _ _ us hl => match us, hl with | [_], _ => rfl,
      m_name_in := He.glo_ok (x := "name_in") X G (c.fact 8 rfl),
      F_place_in := fun_of F9,
      b_place_in := FunD.bindsN (ps := ["words"]) F9 fun _ _ _ _ _ _ us hl => match us, hl with | [_], _ => rfl,
      m_place_in := He.glo_ok (x := "place_in") X G (c.fact 9 rfl),
      F_read_change := fun_of F10,
      b_read_change := FunD.bindsN (ps := ["text"]) F10 fun _ _ _ _ _ _ us hl => match us, hl with | [_], _ => rfl,
      m_read_change := He.glo_ok (x := "read_change") X G (c.fact 10 rfl),
      F_l_cell := fun_of F11,
      b_l_cell := FunD.bindsN (ps := ["_law_script", "_law_k"]) F11 fun _ _ _ _ _ _ us hl => match us, hl with | [_, _], _ => rfl,
      m_l_cell := He.glo_ok (x := "_law_cell") X G (c.fact 11 rfl),
      F_l_mixed := fun_of F12,
      b_l_mixed := FunD.bindsN (ps := ["_law_cell_here", "_law_k"]) F12 fun _ _ _ _ _ _ us hl => match us, hl with | [_, _], _ => rfl,
      m_l_mixed := He.glo_ok (x := "_law_mixed") X G (c.fact 12 rfl),
      F_l_twice := fun_of F13,
      b_l_twice := FunD.bindsN (ps := ["_law_cell_here", "_law_k"]) F13 fun _ _ _ _ _ _ us hl => match us, hl with | [_, _], _ => rfl,
      m_l_twice := He.glo_ok (x := "_law_twice") X G (c.fact 13 rfl),
      F_l_well := fun_of F14,
      b_l_well := FunD.bindsN (ps := ["_law_script", "_law_k"]) F14 fun _ _ _ _ _ _ us hl => match us, hl with | [_, _], _ => rfl,
      m_l_well := He.glo_ok (x := "_law_well") X G (c.fact 14 rfl),
      F_l_draw := fun_of F15,
      b_l_draw := FunD.bindsN (ps := ["_law_well_here", "_law_most"]) F15 fun _ _ _ _ _ _ us hl => match us, hl with | [_, _], _ => rfl,
      m_l_draw := He.glo_ok (x := "_law_draw") X G (c.fact 15 rfl),
      F_l_number := fun_of F16,
      b_l_number := FunD.bindsN (ps := ["_law_well_here"]) F16 fun _ _ _ _ _ _ us hl => match us, hl with | [_], _ => rfl,
      m_l_number := He.glo_ok (x := "_law_number") X G (c.fact 16 rfl),
      F_l_address := fun_of F17,
      b_l_address := FunD.bindsN (ps := ["_law_well_here"]) F17 fun _ _ _ _ _ _ us hl => match us, hl with | [_], _ => rfl,
      m_l_address := He.glo_ok (x := "_law_address") X G (c.fact 17 rfl),
      F_l_address_text := fun_of F18,
      b_l_address_text := FunD.bindsN (ps := ["_law_address_here"]) F18 fun _ _ _ _ _ _ us hl => match us, hl with | [_], _ => rfl,
      m_l_address_text := He.glo_ok (x := "_law_address_text") X G (c.fact 18 rfl),
      F_l_name := fun_of F19,
      b_l_name := FunD.bindsN (ps := ["_law_well_here"]) F19 fun _ _ _ _ _ _ us hl => match us, hl with | [_], _ => rfl,
      m_l_name := He.glo_ok (x := "_law_name") X G (c.fact 19 rfl),
      F_l_place := fun_of F20,
      b_l_place := FunD.bindsN (ps := ["_law_well_here"]) F20 fun _ _ _ _ _ _ us hl => match us, hl with | [_], _ => rfl,
      m_l_place := He.glo_ok (x := "_law_place") X G (c.fact 20 rfl),
      F_l_change := fun_of F21,
      b_l_change := FunD.bindsN (ps := ["_law_well_here"]) F21 fun _ _ _ _ _ _ us hl => match us, hl with | [_], _ => rfl,
      m_l_change := He.glo_ok (x := "_law_change") X G (c.fact 21 rfl),
      F_l_text := fun_of F22,
      b_l_text := FunD.bindsN (ps := ["_law_change_here"]) F22 fun _ _ _ _ _ _ us hl => match us, hl with | [_], _ => rfl,
      m_l_text := He.glo_ok (x := "_law_text") X G (c.fact 22 rfl),
      F_l_kinds := fun_of F23,
      b_l_kinds := FunD.bindsN (ps := ["_law_found", "_law_change_here"]) F23 fun _ _ _ _ _ _ us hl => match us, hl with | [_, _], _ => rfl,
      m_l_kinds := He.glo_ok (x := "_law_kinds") X G (c.fact 23 rfl),
      F_law := fun_of F24,
      b_law := FunD.bindsN (ps := ["_law_script"]) F24 fun _ _ _ _ _ _ us hl => match us, hl with | [_], _ => rfl,
      m_law := He.glo_ok (x := "law") X G (c.fact 24 rfl),
      m_PAIRS := He.glo_ok (x := "PAIRS") X G (c.fact 25 rfl),
      q_PAIRS := fun H => He.tupB_ok (x := "PAIRS") (vs := [.str "plus", .str "minus", .str "times", .str "over", .str "rest", .str "less", .str "same"]) (c.fact 26 rfl) H,
      m_ROWS := He.glo_ok (x := "ROWS") X G (c.fact 27 rfl),
      q_ROWS := fun H => He.tupB_ok (x := "ROWS") (vs := [.str "skip", .str "set", .str "put", .str "ask", .str "draw", .str "tell", .str "if", .str "while", .str "call"]) (c.fact 28 rfl) H,
      m_OTHERS := He.glo_ok (x := "OTHERS") X G (c.fact 29 rfl),
      q_OTHERS := fun H => He.tupB_ok (x := "OTHERS") (vs := [.str "else", .str "end", .str "fun", .str "main", .str "give", .str "cell"]) (c.fact 30 rfl) H,
      m_NoText := He.glo_ok (x := "NoText") X G (c.fact 32 rfl),
      x_NoText := (He.exc_ok (x := "NoText") (c.fact 31 rfl)).1,
      kk_NoText := (He.exc_ok (x := "NoText") (c.fact 31 rfl)).2.1,
      bb_NoText := (He.exc_ok (x := "NoText") (c.fact 31 rfl)).2.2.1,
      tt_NoText := (He.exc_ok (x := "NoText") (c.fact 31 rfl)).2.2.2,
      c_LETTERS := He.str_ok (x := "LETTERS") X G (c.fact 33 rfl),
      c_FIGURES := He.str_ok (x := "FIGURES") X G (c.fact 34 rfl),
      c_MOST_NUMBERS := He.int_ok (x := "MOST_NUMBERS") X G (c.fact 35 rfl),
      m_GOES := He.glo_ok (x := "GOES") X G (c.fact 36 rfl),
      kd_GOES := ktab_of (kvs := [("yes", .bl true), ("no", .bl false), ("free", .non)]) (c0.tab 0 rfl) (c.fact 37 rfl),
      z_str := He.free_ok (x := "str") X G (c.fact 38 rfl),
      z_isinstance := He.free_ok (x := "isinstance") X G (c.fact 39 rfl),
      z_len := He.free_ok (x := "len") X G (c.fact 40 rfl),
      z_all := He.free_ok (x := "all") X G (c.fact 41 rfl),
      z_int := He.free_ok (x := "int") X G (c.fact 42 rfl),
      z_tuple := He.free_ok (x := "tuple") X G (c.fact 43 rfl),
      z_range := He.free_ok (x := "range") X G (c.fact 44 rfl),
      z_bool := He.free_ok (x := "bool") X G (c.fact 45 rfl) }
  exact ⟨d24, fun s v => (FunD.bindsA (ps := ["_law_script"]) F24 fun _ _ _ _ _ _ us hl => match us, hl with | [_], _ => rfl) s [v] rfl, fun base _ _ => ok_law T⟩
end K83
open PySem PySem.W PySem.Calls PyProof.Rows
set_option maxRecDepth 100000 in
set_option maxHeartbeats 0 in
theorem PySem.Challenge.cw_hadbeen_k83_changes_as_texts_holds : PySem.Challenge.rw_hadbeen_k83_changes_as_texts.Holds := by
  w_on; o_law
  refine HandSHeadRun.head_any (r := OpenLaw.row PySem.Challenge.rw_hadbeen_k83_changes_as_texts) (q := view (OpenLaw.row PySem.Challenge.rw_hadbeen_k83_changes_as_texts).prog [37]) (H := K83.hk) (ob := K83.ob) (M := 12000) (loose := K83.loose) (d := HandSHeadRun.topDef (OpenLaw.row PySem.Challenge.rw_hadbeen_k83_changes_as_texts).prog 37) (kwd := []) K83.ob_eq
    (by kernel_rfl) (fun s => by kernel_rfl) K83.run (by kernel_rfl) (by kernel_rfl) (by kernel_rfl) (by rfl) (by first | assumption | decide +kernel) (by decide +kernel) ⟨rfl, rfl, rfl, rfl, rfl, by decide +kernel⟩ ?hw ?hc
  case hw => w_witness2
  case hc =>
    refine K83.KG.walk_ofG (l := PySem.Challenge.rw_hadbeen_k83_changes_as_texts) (n := 63) (k := 8) (x := "_law_script") (CX := L2.CX0) rfl (by decide) (by kernel_rfl) ⟨rfl, by decide, by decide⟩ ?F (fun _ _ _ _ z => z)
    intro w mg fa h Y G hmg0
    obtain ⟨K, KX, c⟩ := Y
    have hmg : mg ("law" : PySem.Str) = some (.ref fa) := by
      have e : (HandSHeadRun.topDef (OpenLaw.row PySem.Challenge.rw_hadbeen_k83_changes_as_texts).prog 37).name = ("law" : PySem.Str) := by kernel_rfl
      rw [← e]
      exact hmg0
    obtain ⟨fd, hb, hF⟩ := K83.facts (P := (PySem.Challenge.rw_hadbeen_k83_changes_as_texts).prog) (w := w) KX G hmg c
    exact ⟨K, fd, K83.spLaw K, KX, hb, fun H a ns hl _ hS => ⟨a, ns, rfl, hS, hl, fun _ => rfl⟩, hF⟩
