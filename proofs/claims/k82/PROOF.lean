import PyProof.Rows.All
import Wide.All
import OpenK.AllK
import Wide.FinOn
import KE.GoesComp
import KE.GoesRaise
import HandS.ExcCtx
import HandS.Deep
import HandS.ForMost
import HandS.IsInst
import HandS.NoneIn
import HandS.ForExc
import HandS.Walk
import HandS.TupAny
import HandS.RaiseMore
import PyProof.StrLawsChain
import KE.IntTextText
import KE.KStateDown
import Lean
import HandS.More
import HandS.WordsExc
import HandS.Defaults
import HandS.Head0
import HandS.Head1
import HandS.Head2
import HandS.HeadEnd
import HandS.HeadHook1
import HandS.HeadHook2
import HandS.ExcIs
import HandS.IsInst
import HandS.Flow
import HandS.Dict
import PySem.Challenge.RW_hadbeen_k82_no_book
set_option Elab.async false
set_option maxRecDepth 100000
set_option maxHeartbeats 4000000
set_option linter.all false
namespace K82
open PySem L2 TL
namespace KX
open PySem PySem.Spec PyProof.Rows L2
section
variable {X : Cx} {E : XK}
/-- an exception that came out of a call, over the frames of X, with this wish -/
def Aloft (X : Cx) (E : XK) (u : Value) (z : Shared) : Prop :=
  ∃ (a : Addr) (G : Heap) (y : Shared) (ps : List (Addr × Obj)) (τ : L2.St) (J : Hp) (c : Value) (d : Option Addr),
    u = .ref a ∧ Inv X ps τ J y ∧ (∀ b o, y.heap.get? b = some o → b ∉ frs X.stack → G.get? b = some o) ∧ y.heap.UpToSlots z.heap ∧
      HandSPX.FlyingZ G X.stack a (Zc c d) z.heap ∧ J a = none ∧ z.os = y.os ∧ AllBare z.gens ∧ E c d J
theorem aloft {ps : List (Addr × Obj)} {τ : L2.St} {J : Hp} {y z : Shared} {u : Value} (hI : Inv X ps τ J y) (hc : L2.CX X.prog X.w X.stack J y E u z) : Aloft X E u z := by
  obtain ⟨a0, _, _, _, _, hu, hfl, _⟩ := id hc
  obtain ⟨a, G, y', ps', τ', J', c, d, e, h1, h2, h3, sky, h5, h6, h7, h8⟩ := XE.of_call (W := fun c d _ J => E c d J) hI (fun _ _ _ q => q) hc
  rw [hu] at e
  cases e
  obtain ⟨_, _, _, oe, vs, t, ot, ts, q1, _, q3, q4, _, _, q7, q8, q9⟩ := hfl
  refine ⟨a0, G, y', ps', τ', J', c, d, hu, h1, h2, h3, ?_, h5, h6, h7, h8⟩
  rcases sky with ⟨_, _, _, oe', vs', r1, _, r3, r4⟩ | r | ⟨_, _, _, oe', vs', t', ot', ts', r1, _, r3, r4, _, _, r7, r8, r9⟩
  · rw [q1] at r1; cases r1
    rw [q3] at r3; cases r3
    rw [q4] at r4; cases r4
  · exact r
  · rw [q1] at r1; cases r1
    rw [q3] at r3; cases r3
    rw [q4] at r4; cases r4
    rw [q7] at r7; cases r7
    rw [q8] at r8; cases r8
    rw [q9] at r9
    simp [rawInt] at r9
/-- what a block's element may let out, told of the def's own context: C the block's names -/
def Aside (X : Cx) (ps : List (Addr × Obj)) (τ : L2.St) (C : Addr) (E : XK) (u : Value) (z : Shared) : Prop :=
  ∃ (a : Addr) (G : Heap) (y : Shared) (J : Hp) (c : Value) (d : Option Addr) (m : Str → Option Value),
    u = .ref a ∧ Inv X ps τ J y ∧ (∀ b o, y.heap.get? b = some o → b ∉ frs X.stack → G.get? b = some o) ∧ y.heap.UpToSlots z.heap ∧
      HandSPX.FlyingZ G X.stack a (Zc c d) z.heap ∧ J a = none ∧ z.os = y.os ∧ AllBare z.gens ∧ E c d J ∧ y.heap.Ns C m ∧ FpOk X ps J C
theorem aside_noted {ps : List (Addr × Obj)} {τ : L2.St} {C : Addr} {u : Value} {z : Shared} {ce : Env} (tk : Takes X fun c d _ J => E c d J) (hs : X.stack = X.env :: X.outer) (hf : X.env.frame = some X.env.locals)
    (cL : ce.locals = C) (cF : ce.frame = X.env.frame) (h : Aside X ps τ C E u z) :
    notedBy (model X.prog X.w) X.A ce (CompFails (model X.prog X.w) X.A X.xe ce) u z := by
  obtain ⟨a, G, y, J, c, d, m, rfl, hI, nb, up, fl, na, ho, hb, hE, hn, hfp⟩ := h
  subst cL
  obtain ⟨f0, f1, f2, f3, f4, f5⟩ := hfp
  have hfr : X.A.frames = some (X.env :: X.outer) := by rw [hI.ok.frames, hs]
  rw [hs] at fl
  show wpAny _ _ (noteFrame (.ref a) ce) _ _ z
  rw [noteFrame_env _ cF]
  refine HandSPX.looks_onZ Zc.steady hfr hf fl fun h1 held up1 => ?_
  obtain ⟨g1, g2, g3, oe, vs, t, ot, ts, q1, qz, q3, q4, q5, q6, q7, q8, q9⟩ := held
  have n1 : h1.Ns ce.locals m := (hn.upToSlots up).upToSlots up1
  refine ⟨m, n1, fun h2 m2 hn2 hs2 => ?_⟩
  have isDict : ∀ {o : Obj} {vs : Array Value} {b : Addr}, h1.get? b = some o → o.data = .fields vs → b ≠ ce.locals := fun {o vs b} e1 e2 e3 => by
    obtain ⟨o', es, ep, e4, e5, _⟩ := n1
    rw [← e3, e1] at e4
    cases e4
    rw [e2] at e5
    cases e5
  have na' : a ≠ ce.locals := isDict q1 q3
  have nt' : t ≠ ce.locals := isDict q7 q8
  have w1 : h2.get? a = some oe := (hs2.2 a na').trans q1
  have w2 : h2.get? t = some ot := (hs2.2 t nt').trans q7
  unfold PySem.passOn
  refine wpAny_bind (wpAny_field w1 q3 q4 ?_)
  rw [if_neg (show ¬ ((Value.ref t == Value.none) = true) from by simp)]
  rw [cF, hf]
  have hG : ∀ b o, (PySem.W.hideAll G [ce.locals]).get? b = some o → b ≠ ce.locals ∧ G.get? b = some o := fun b o e => by
    refine ⟨fun e' => ?_, PySem.W.of_hideAll _ e⟩
    rw [e', PySem.W.hideAll_none _ (List.mem_singleton.mpr rfl)] at e
    cases e
  have hel : HandSPX.HeldZ (PySem.W.hideAll G [ce.locals]) (X.env :: X.outer) a (Zc c d) X.env.locals h2 := by
    refine ⟨fun b o e => ?_, ?_, ?_, oe, vs, t, ot, ts, w1, qz, q3, q4, ?_, q6, w2, q8, q9⟩
    · obtain ⟨e1, e2⟩ := hG b o e
      exact (hs2.2 b e1).trans (g1 b o e2)
    · cases e : (PySem.W.hideAll G [ce.locals]).get? a with
      | none => rfl
      | some o => exact absurd (hG a o e).2 (by rw [g2]; intro z; cases z)
    · refine funFrames_none (Heap.FunFrames.sameBut hs2 hn2 g3) fun L hL => ?_
      cases e : (PySem.W.hideAll G [ce.locals]).get? L with
      | none => rfl
      | some o =>
        obtain ⟨w, _⟩ := g3.mem hL
        rw [(hG L o e).2] at w
        cases w
    · cases e : (PySem.W.hideAll G [ce.locals]).get? t with
      | none => rfl
      | some o => exact absurd (hG t o e).2 (by rw [q5]; intro z; cases z)
  refine wpAny_bind (HandSPX.setFlight_onZ hel fun h3 held3 up3 => ?_)
  refine wpAny_throw ?_
  have hy : ∀ b o, (PySem.W.hideAll y.heap [ce.locals]).get? b = some o → b ≠ ce.locals ∧ y.heap.get? b = some o := fun b o e => by
    refine ⟨fun e' => ?_, PySem.W.of_hideAll _ e⟩
    rw [e', PySem.W.hideAll_none _ (List.mem_singleton.mpr rfl)] at e
    cases e
  refine tk _ _ ⟨a, PySem.W.hideAll G [ce.locals], { y with heap := PySem.W.hideAll y.heap [ce.locals] }, ps, τ, J, c, d, rfl, ?_, fun b o e hb' => ?_, fun b o e hnf => ?_, .inr (.inr ?_), na, ho, hb, hE⟩
  · exact hI.turned (t' := y.toks) (fun b o hb e => PySem.W.hideAll_get _ e fun hm => hb (List.mem_singleton.mp hm)) f0 f1 f3 f4 f5
  · obtain ⟨e1, e2⟩ := hy b o e
    exact PySem.W.hideAll_get _ (nb b o e2 hb') fun hm => e1 (List.mem_singleton.mp hm)
  · obtain ⟨e1, e2⟩ := hy b o e
    obtain ⟨s1, r1⟩ := up b o e2 hnf
    obtain ⟨s2, r2⟩ := up1 b _ r1 hnf
    obtain ⟨s3, r3⟩ := up3 b _ ((hs2.2 b e1).trans r2) hnf
    exact ⟨s3, r3⟩
  · rw [hs]
    exact held3
end
/-- the context of a block whose element may raise -/
abbrev blkX (X : Cx) (b0 : Shared) (G0 : Hp) (sc : Scope) (ce : Env) (fps : List Addr) (xe : Value → Shared → Prop) : Cx := (X.blk b0 G0 sc ce fps).wish xe
section
variable {X : Cx} {E : XK}
theorem lcX {pins : List (Addr × Obj)} {b0 : Shared} {τ : L2.St} {G0 : Hp} {Q : VK} {el tgt it : Expr} {ifs : List Expr} {sc : Scope} {own : List (Str × Nat)} {pos pos' : Pos} {wi : TI} {g : TG} {tt : TT} {te : TE}
    (calm : X.calm = true) (tk : Takes X fun c d _ J => E c d J) (hst : X.stack = X.env :: X.outer) (hfr : X.env.frame = some X.env.locals) (nd : X.N.Nodup) (I : Inv X pins τ G0 b0) (hi : PI X tgt it wi) (ok : BlkOk X.N X.env.scope sc own)
    (hg : ∀ (b : Shared) (G : Hp) (C : Addr) (cl : List (Str × Addr)) (fps : List Addr) (xe : Value → Shared → Prop), PG (blkX X b G sc (compEnvC sc cl C X.env) fps xe) tgt g)
    (ht : ∀ (b : Shared) (G : Hp) (C : Addr) (cl : List (Str × Addr)) (fps : List Addr) (xe : Value → Shared → Prop), PTs (blkX X b G sc (compEnvC sc cl C X.env) fps xe) ifs tt)
    (he : ∀ (b : Shared) (G : Hp) (C : Addr) (cl : List (Str × Addr)) (fps : List Addr) (xe : Value → Shared → Prop), (∀ ρ, PassesAt (L2.CX X.prog X.w) (blkX X b G sc (compEnvC sc cl C X.env) fps xe) ρ E) → PE (blkX X b G sc (compEnvC sc cl C X.env) fps xe) el te)
    (hset : ∀ x, foldedSetIterable it X.env x = pure x) (h : tLc wi g tt te (own.map (·.2)) τ G0 Q) :
    wpAny (model X.prog X.w) X.A (comprehension (.ListComp el [⟨tgt, it, ifs, 0⟩] sc pos) sc X.env pos' (newList []) false (eval it X.env) none) (EP X pins τ Q) X.xe b0 := by
  have hcap : ∀ y ∈ sc.names, y.2 = .free → ∃ c, X.env.cells.lookup y.1 = some c := fun y hy e => (ok.free y hy e).elim (fun k => I.ok.has _ (.inl k)) fun k => I.ok.has _ (.inr k)
  refine comprehension_at (use := none) rfl hset (closure_ok hcap) ok.kind (fun y hy e => by rw [ok.uniq y hy, e]) (thn (hi.run pins b0 τ G0 _ I h) fun xv b1 hx => thn hx fun itv b2 hb2 => ?_)
  obtain ⟨ia, fps, tn, J, G2, rfl, I2, T, at2, ff2, todo⟩ := hb2
  refine wpAny_newObj_type (newEnv_comp ?_) (by show 0 ≤ sizeLine; decide)
  generalize hL : b2.heap.objs.size = L
  obtain ⟨W, ⟨k0, w0⟩, each⟩ := todo L (I2.hok.fresh (Nat.le_of_eq hL))
  generalize hb3 : ({ b2 with heap := b2.heap.push { cls := .type "list", data := .seq ([] : List Value).toArray } } : Shared) = b3
  have e3 : b3.heap = b2.heap.push { cls := .type "list", data := .seq ([] : List Value).toArray } := by rw [← hb3]
  have I3 : Inv X pins τ (upd G2 L (.lst [])) b3 := by
    rw [← hb3]
    exact I2.laid (t' := b2.toks) (fun b o e => Heap.get?_push_of_some _ e) (Nat.le_of_eq hL) ⟨Nat.zero_le _, [], 0, .nil, by rw [← hL]; exact Heap.get?_push_size _ rfl⟩
  have ff3 : ∀ b ∈ fps, FpOk X pins (upd G2 L (.lst [])) b ∧ b < b3.heap.objs.size := fun b hb => by
    obtain ⟨o, e, _⟩ := T.obj _ _ at2 b hb
    have lt := Heap.lt_size e
    refine ⟨⟨?_, (ff2 b hb).2⟩, by rw [e3, Heap.size_push]; exact Nat.lt_succ_of_lt lt⟩
    rw [upd_ne (by rw [← hL]; exact Nat.ne_of_lt lt)]
    exact (ff2 b hb).1
  have at3 : tn 0 b3.heap := T.keep _ _ _ at2 fun b _ o e => by rw [e3]; exact Heap.get?_push_of_some _ e
  have I4 := block_start I3 ok nd ff3
  show codeAny _ _ (.compStart (.ListComp el [⟨tgt, it, ifs, 0⟩] sc pos) 0 (.ref ia) (.ref L) (compEnvC sc (cellsFrom (b3.heap.objs.size + 1) sc.names (cloFrom X.env.cells sc.names [])) b3.heap.objs.size X.env))
    (compEnds (model X.prog X.w) X.A X.xe none (EP X pins τ Q) (.ref L) (compEnvC sc (cellsFrom (b3.heap.objs.size + 1) sc.names (cloFrom X.env.cells sc.names [])) b3.heap.objs.size X.env)) { b3 with heap := pushCells (b3.heap.push { cls := .type "dict", data := .dict #[] }) sc.names }
  generalize hcl : cellsFrom (b3.heap.objs.size + 1) sc.names (cloFrom X.env.cells sc.names []) = cl at I4 ⊢
  have pg := hg b3 (upd G2 L (.lst [])) b3.heap.objs.size cl fps
  have pt := ht b3 (upd G2 L (.lst [])) b3.heap.objs.size cl fps
  have pe := he b3 (upd G2 L (.lst [])) b3.heap.objs.size cl fps
  have free3 : ∀ b ∈ fps, (upd G2 L (.lst [])) b = none := fun b hb => (ff3 b hb).1.1
  generalize hce : compEnvC sc cl b3.heap.objs.size X.env = ce at I4 pg pt pe ⊢
  have cL : ce.locals = b3.heap.objs.size := by subst hce; rfl
  have cF : ce.frame = X.env.frame := by subst hce; rfl
  generalize hG3 : upd G2 L (.lst []) = G3 at I3 I4 pg pt pe w0 free3 ff3
  generalize hb4 : ({ b3 with heap := pushCells (b3.heap.push { cls := .type "dict", data := .dict #[] }) sc.names } : Shared) = b4 at I4 ⊢
  have at4 : tn 0 b4.heap := T.keep _ _ _ at3 fun b _ o e => by rw [← hb4]; exact pushCells_keeps _ _ _ _ (Heap.get?_push_of_some _ e)
  -- back in the def's own context
  have home : ∀ {xe : Value → Shared → Prop} {ps : List (Addr × Obj)} {ρ : L2.St} {J : Hp} {z : Shared}, Inv (blkX X b3 G3 sc ce fps xe) ps ρ J z → Inv X pins τ J z ∧ J b3.heap.objs.size = none ∧ (∃ m, z.heap.Ns b3.heap.objs.size m) ∧ FpOk X pins J b3.heap.objs.size := fun {xe ps ρ J z} I' => by
    have fr : J ce.locals = none := I'.free
    rw [cL] at fr
    obtain ⟨m, hn, _⟩ := I'.loc
    have hn : z.heap.Ns ce.locals m := hn
    rw [cL] at hn
    exact ⟨I3.call' (ch := fps) I'.os I'.base I'.hok I'.bare fun b hb => ⟨(ff3 b hb).1.2.2.2.1, (ff3 b hb).1.2.1, (ff3 b hb).1.2.2.2.2.1, (ff3 b hb).1.2.2.2.2.2⟩, fr, ⟨m, hn⟩, I3.fpOk (Nat.le_refl _) fr⟩
  have pass : ∀ ρ, PassesAt (L2.CX X.prog X.w) (blkX X b3 G3 sc ce fps (Aside X pins τ b3.heap.objs.size E)) ρ E := fun ρ ps J z u z' I' c => by
    obtain ⟨a, G, y, ps', ρ', J', cls, d, hu, I'', nb, up, fl, na, hos, hb, hE⟩ := aloft I' c
    obtain ⟨i1, i2, ⟨m, i3⟩, i4⟩ := home I''
    exact ⟨a, G, y, J', cls, d, m, hu, i1, nb, up, fl, na, hos, hb, hE, i3, i4⟩
  have pg := pg (Aside X pins τ b3.heap.objs.size E)
  have pt := pt (Aside X pins τ b3.heap.objs.size E)
  have pe := pe (Aside X pins τ b3.heap.objs.size E) pass
  have out : ∀ u z, Aside X pins τ b3.heap.objs.size E u z → notedBy (model X.prog X.w) X.A ce (fun e s' => compEnds (model X.prog X.w) X.A X.xe none (EP X pins τ Q) (.ref L) ce (.error e) s') u z := fun u z q => aside_noted tk hst hfr cL cF q
  have still : ∀ {ρ : L2.St} {J : Hp} {z : Shared}, Inv (X.blk b3 G3 sc ce fps) [] ρ J z → (∀ b ∈ fps, J b = none) → ∀ b ∈ fps, FpOk (X.blk b3 G3 sc ce fps) [] J b := fun {ρ J z} I' hn b hb =>
    ⟨hn b hb, (I'.ok.exf b hb).1, I'.ok.exfs b hb, .inl hb, fun x c e => (I'.ok.exf b hb).2 x c e, fun p hp => absurd (show p ∈ ([] : List (Addr × Obj)) ++ [] from hp) (by simp)⟩
  have round : codeAny (model X.prog X.w) X.A (.compLoop (.ListComp el [⟨tgt, it, ifs, 0⟩] sc pos) 0 (.ref ia) (.ref L) ce) (compEnds (model X.prog X.w) X.A X.xe none (EP X pins τ Q) (.ref L) ce) b4 := by
    refine compLoop_any (fun n z => ∃ i J', Inv (X.blk b3 G3 sc ce fps) [] (wipe τ (own.map (·.2))) J' z ∧ tn i z.heap ∧ (∀ b ∈ fps, J' b = none) ∧ W i n J') ?_ k0 ⟨0, G3, I4, at4, free3, w0⟩
    rintro n b5 ⟨i, G5, I5, at5, free5, w5⟩
    rcases each i n G5 w5 with ⟨hstop, hq⟩ | ⟨hgo, Nx, hNx, turn⟩
    · refine thnF (T.done (X.blk b3 G3 sc ce fps) rfl rfl rfl calm i [] b5 _ G5 (fun _ _ => False) I5 (still I5 free5) at5 hstop) fun r b6 ⟨hr, I6⟩ => ?_
      subst hr
      obtain ⟨i1, i2, ⟨m, i3⟩, f0, f1, f2, f3, f4, f5⟩ := home (I6.wish fun _ _ => False)
      refine ⟨m, by rw [cL]; exact i3, fun h'' sb => ⟨.ref L, G5, ?_, rfl, hq⟩⟩
      rw [cL] at sb
      exact i1.turned (t' := b6.toks) (fun b o hb e => (sb.2 b hb).trans e) f0 f1 f3 f4 f5
    · refine thnF (T.item (X.blk b3 G3 sc ce fps) rfl rfl rfl calm i [] b5 _ G5 (fun _ _ => False) I5 (still I5 free5) at5 hgo) fun r b6 ⟨u, hr, hb6⟩ => ?_
      subst hr
      refine thnF hb6 fun _ b7 ⟨x, G7, I7, r7, y7, at7, free7⟩ => ?_
      have J7 := (I7.pinned (still I7 free7) (T.obj _ _ at7)).wish (Aside X pins τ b3.heap.objs.size E)
      refine wpAny_mono (pg.run _ b7 _ G7 x u _ J7 r7 (turn x G7 y7)) (fun _ b8 ⟨τ8, G8, I8, hw8, q8⟩ => ?_) out
      refine wpAny_mono (pt.run _ b8 τ8 G8 _ I8 q8) (fun b b9 ⟨G9, I9, q9⟩ => ?_) out
      have fin : ∀ {z : Shared} {J' : Hp}, Inv (blkX X b3 G3 sc ce fps (Aside X pins τ b3.heap.objs.size E)) ([] ++ pinsAt fps b7.heap) τ8 J' z → Nx J' → ∃ m, m < n ∧ ∃ i J', Inv (X.blk b3 G3 sc ce fps) [] (wipe τ (own.map (·.2))) J' z ∧ tn i z.heap ∧ (∀ b ∈ fps, J' b = none) ∧ W i m J' := fun {z J'} I'' nx => by
        have I' : Inv (X.blk b3 G3 sc ce fps) ([] ++ pinsAt fps b7.heap) τ8 J' z := I''.unwish
        obtain ⟨m', hm, w'⟩ := hNx J' nx
        have held : ∀ b ∈ fps, ∀ o, b7.heap.get? b = some o → z.heap.get? b = some o ∧ J' b = none := fun b hb o e =>
          let p := I'.pin (b, o) (List.mem_append_right _ (List.mem_append_right _ (mem_pinsAt hb e)))
          ⟨p.1, p.2.1⟩
        have len : (wipe τ (own.map (·.2))).length = τ8.length := by rw [← hw8, wipe_length]
        refine ⟨m', hm, i + 1, J', (I'.unpinned (pins := [])).weak len (fun j v e => ?_), T.keep _ _ _ at7 fun b hb o e => (held b hb o e).1, fun b hb => ?_, w'⟩
        · rw [← hw8] at e
          exact (wipe_some e).1
        · obtain ⟨o, e, _⟩ := T.obj _ _ at7 b hb
          exact (held b hb o e).2
      cases b with
      | false =>
        simp only [Bool.false_eq_true, if_false] at q9 ⊢
        exact fin I9 q9
      | true =>
        simp only [if_true] at q9 ⊢
        refine wpAny_mono (pe.run _ b9 τ8 G9 _ I9 q9) (fun z b10 ⟨yv, G10, I10, r10, acc, hL10, len10, nx⟩ => ?_) out
        exact app_ok (X := blkX X b3 G3 sc ce fps (Aside X pins τ b3.heap.objs.size E)) I10 hL10 len10 r10 fun b11 I11 => fin I11 nx
  exact codeAny_compStart_list round (T.self X.A 0 _ _ _ at4 round)
/-- [el for tgt in it if ..] as a value, the element may raise what the def may -/
theorem pe_lcX {el tgt it : Expr} {ifs : List Expr} {sc : Scope} {own : List (Str × Nat)} {pos : Pos} {wi : TI} {g : TG} {tt : TT} {te : TE}
    (calm : X.calm = true) (tk : Takes X fun c d _ J => E c d J) (hst : X.stack = X.env :: X.outer) (hfr : X.env.frame = some X.env.locals) (nd : X.N.Nodup) (hi : PI X tgt it wi) (ok : BlkOk X.N X.env.scope sc own)
    (hg : ∀ (b : Shared) (G : Hp) (C : Addr) (cl : List (Str × Addr)) (fps : List Addr) (xe : Value → Shared → Prop), PG (blkX X b G sc (compEnvC sc cl C X.env) fps xe) tgt g)
    (ht : ∀ (b : Shared) (G : Hp) (C : Addr) (cl : List (Str × Addr)) (fps : List Addr) (xe : Value → Shared → Prop), PTs (blkX X b G sc (compEnvC sc cl C X.env) fps xe) ifs tt)
    (he : ∀ (b : Shared) (G : Hp) (C : Addr) (cl : List (Str × Addr)) (fps : List Addr) (xe : Value → Shared → Prop), (∀ ρ, PassesAt (L2.CX X.prog X.w) (blkX X b G sc (compEnvC sc cl C X.env) fps xe) ρ E) → PE (blkX X b G sc (compEnvC sc cl C X.env) fps xe) el te)
    (hset : ∀ x, foldedSetIterable it X.env x = pure x := by intro _; rfl) :
    PE X (.ListComp el [⟨tgt, it, ifs, 0⟩] sc pos) (tLc wi g tt te (own.map (·.2))) := by
  refine ⟨fun pins b0 τ G0 Q I h => ?_⟩
  rw [eval_ListComp]
  exact lcX calm tk hst hfr nd I hi ok hg ht he hset h
end
end KX

end K82
namespace K82
open PySem L2 TL

theorem same_new {H : Hp} {p : Addr} {o : HO} (h : H p = none) : Same H (upd H p o) := fun b u q => by rw [upd_ne (ne_of_none q h)]; exact q
theorem iteDT {p A B : Prop} [Decidable p] (h : p) (a : A) : if decide p = true then A else B := by rw [decide_eq_true h]; exact iteT a
theorem iteDF {p A B : Prop} [Decidable p] (h : ¬ p) (b : B) : if decide p = true then A else B := by rw [decide_eq_false h]; exact iteF b
theorem iteNT {p A B : Prop} [Decidable p] (h : ¬ p) (a : A) : if (!decide p) = true then A else B := by rw [decide_eq_false h]; exact iteT a
theorem iteNF {p A B : Prop} [Decidable p] (h : p) (b : B) : if (!decide p) = true then A else B := by rw [decide_eq_true h]; exact iteF b
theorem iteD2 {p A B : Prop} [Decidable p] (h1 : p → A) (h2 : ¬ p → B) : if decide p = true then A else B := by
  by_cases h : p
  · exact iteDT h (h1 h)
  · exact iteDF h (h2 h)
theorem iteN2 {p A B : Prop} [Decidable p] (h1 : ¬ p → A) (h2 : p → B) : if (!decide p) = true then A else B := by
  by_cases h : p
  · exact iteNF h (h2 h)
  · exact iteNT h (h1 h)
theorem iteB2 {b : Bool} {A B : Prop} (h1 : b = true → A) (h2 : b = false → B) : if b = true then A else B := by
  cases b with
  | true => exact iteT (h1 rfl)
  | false => exact iteF (h2 rfl)
theorem vint_ne {i j : Int} (h : i ≠ j) : ¬ V.int i = V.int j := fun e => h (V.int.inj e)
theorem vstr_ne {i j : Str} (h : i ≠ j) : ¬ V.str i = V.str j := fun e => h (V.str.inj e)
/-- all that was tracked stands, but what is at p -/
def KeepX (p : Addr) (H H' : Hp) : Prop := ∀ q o, q ≠ p → H q = some o → H' q = some o
theorem KeepX.refl (p : Addr) (H : Hp) : KeepX p H H := fun _ _ _ h => h
theorem KeepX.trans {p : Addr} {H H1 H2 : Hp} (a : KeepX p H H1) (b : KeepX p H1 H2) : KeepX p H H2 := fun q o n h => b q o n (a q o n h)
theorem keepX_of {p : Addr} {H H' : Hp} (a : Same H H') : KeepX p H H' := fun q o _ h => a q o h
theorem keepX_upd {p : Addr} {H : Hp} {o : HO} : KeepX p H (upd H p o) := fun q u n h => by rw [upd_ne n]; exact h
theorem KeepX.seq {K : PySem.W.Frag} {H H' : Hp} {p a : Addr} {xs : List V} (e : KeepX p H H') (n : a ≠ p) (h : SqL K H a xs) : SqL K H' a xs := by
  rcases h with (h | ⟨o, h⟩) | h
  · exact .inl (.inl (e _ _ n h))
  · exact .inl (.inr ⟨o, e _ _ n h⟩)
  · exact .inr h
theorem same_tup {K : PySem.W.Frag} {H H' : Hp} {a : Addr} {xs : List V} (e : Same H H') (h : SqT K H a xs) : SqT K H' a xs := by
  rcases h with (h | ⟨o, h⟩) | h
  · exact .inl (.inl (e _ _ h))
  · exact .inl (.inr ⟨o, e _ _ h⟩)
  · exact .inr h
/-- what is new behind H -/
theorem KeepX.same {p : Addr} {H H' : Hp} (n : H p = none) (e : KeepX p H H') : Same H H' := fun q o h => e q o (ne_of_none h n) h
theorem none_before {H H' : Hp} {q : Addr} (s : Same H H') (h : H' q = none) : H q = none := by
  cases e : H q with
  | none => rfl
  | some o => have := s _ _ e; rw [h] at this; cases this
theorem none_keepX {p : Addr} {H H' : Hp} {q : Addr} (k : KeepX p H H') (n : q ≠ p) (h : H' q = none) : H q = none := by
  cases e : H q with
  | none => rfl
  | some o => have := k _ _ n e; rw [h] at this; cases this
/-- a def of which nothing is asked -/
theorem fn_none {P : Program} {w : World} {K : PySem.W.Frag} {mg : Str → Option Value} {base : Heap} {CX : CXT} {k : Nat} {f : Addr} {fd : FuncData} {ps : List Str} {sp : Sp} (no : ∀ vs H Q E, sp vs H Q E → False) : FnOk P w K mg base CX k f fd ps sp :=
  ⟨fun vs H Q E h => (no vs H Q E h).elim, fun A outer s H args us vs Q E _ _ _ _ h => (no vs H Q E h).elim⟩
theorem absV_rel {u : Value} {x : V} (h : absV u = some x) : RelV x u := by
  cases u <;> simp only [absV, Option.some.injEq, reduceCtorEq] at h <;> subst h <;> first | rfl | exact ⟨_, rfl⟩
theorem vals_of_absV : ∀ {us : List Value} {xs : List V}, us.map absV = xs.map some → Vals xs us
  | [], [], _ => .nil
  | [], _ :: _, h => by simp at h
  | _ :: _, [], h => by simp at h
  | u :: us, x :: xs, h => by
    rw [List.map_cons, List.map_cons, List.cons.injEq] at h
    exact .cons (absV_rel h.1) (vals_of_absV h.2)
theorem sqT_k {K : PySem.W.Frag} {H : Hp} {a : Addr} {xs : List V} {od : Option Addr} {its : Array Value} {n : Nat} {sl : Array (Option Value)} (l : K.lookup a = some ⟨.type "tuple", od, .seq its n, sl⟩) (w : its.toList.map absV = xs.map some) (z : xs.length ≤ sizeLine) : SqT K H a xs := by
  have v := vals_of_absV w
  have e := v.length
  refine .inr ⟨_, its, n, l, rfl, rfl, ?_, v⟩
  rw [← Array.length_toList, ← e]
  exact z
/-- the promise of one class's method -/
def Disp (P : Program) (w : World) (K : PySem.W.Frag) (mg : Str → Option Value) (base : Heap) (CX : CXT) (m : Str) (k : Nat) (C : Addr) (sp : Sp) : Prop :=
  ∃ f fd ps, Cls K C ∧ Meth K C m f ∧ FnOk P w K mg base CX k f fd ps sp ∧ Binds K fd ps []
/-- o.m(..) where o is an instance of one of some classes -/
def tMethP (Fam : Addr → Prop) (SP : Addr → Sp) (m : Str) (E : XK) (ta : TE) (t : TA) : TE := fun σ H Q => ta σ H fun x H1 => ∃ a C dx fs, x = .ref a ∧ H1 a = some (.ins C dx fs) ∧ fs.lookup m = none ∧ Fam C ∧
  t σ H1 fun vs H2 => SP C (x :: (vs ++ [])) H2 Q E
section
variable {X : Cx} {CX : CXT} {m : Str} {k : Nat} {Fam : Addr → Prop} {SP : Addr → Sp} {E : XK} {e o : Expr} {es : List Expr} {ta : TE} {t : TA} {pos apos : Pos}
theorem pe_methP {pl : Sem Bool} (he : PE X o ta) (D : ∀ C, Fam C → Disp X.prog X.w X.K X.mg X.base CX m k C (SP C)) (hr : Room k X.A) (hx : Passes CX X E) (ha : PA X (e :: es) t)
    (hst : starEach (e :: es) X.env = (false, eval e X.env) :: starEach es X.env := by rfl) (hpl : (backTo pos (starEach es X.env)).any (·.1) = false := by rfl)
    (ht : eval (.Call (.Attribute o m apos) (e :: es) [] pos) X.env = (do
      let ov ← eval o X.env
      standAt apos.atName
      let (f, first) ← holding [ov] (getMethod ov m pl)
      callWith pos f first (backTo pos (starEach (e :: es) X.env)) (backToKw pos (keywordEach [] X.env))) := by rfl) :
    PE X (.Call (.Attribute o m apos) (e :: es) [] pos) (tMethP Fam SP m E ta t) := by
  refine ⟨fun pins s σ H Q I h => ?_⟩
  refine PySem.W.methodCall_KW (pl := pl) (thn (he.run pins s σ H _ I h) fun u s1 ⟨x, H1, I1, rx, a, C, dx, fs, ex, ea, l, fam, q⟩ => ?_) ht
  subst ex
  obtain rfl : u = Value.ref a := rx
  obtain ⟨f, fd, ps, c, hm, F, hb⟩ := D C fam
  refine getmeth_ok I1 ea c hm l ?_
  refine PySem.W.callWith_K (first := [.ref a]) (h₀ := X.base) I.ok.mod.kin hm.kp (thn (ha.run pos pins s1 σ H1 _ I1 q) fun us s2 ⟨vs, H2, I2, r, q2⟩ => ⟨I2.kIn, ?_⟩) hst hpl
  exact run_fn (us := .ref a :: us) (vs := .ref a :: vs) F hr hb .nil hx I2 (.cons rfl r) q2
theorem pe_methP0 {pl : Sem Bool} (he : PE X o ta) (D : ∀ C, Fam C → Disp X.prog X.w X.K X.mg X.base CX m k C (SP C)) (hr : Room k X.A) (hx : Passes CX X E)
    (ht : eval (.Call (.Attribute o m apos) [] [] pos) X.env = (do
      let ov ← eval o X.env
      standAt apos.atName
      let (f, first) ← holding [ov] (getMethod ov m pl)
      callWith pos f first (backTo pos (starEach [] X.env)) (backToKw pos (keywordEach [] X.env))) := by rfl) :
    PE X (.Call (.Attribute o m apos) [] [] pos) (tMethP Fam SP m E ta tNil) := by
  refine ⟨fun pins s σ H Q I h => ?_⟩
  refine PySem.W.methodCall_KW (pl := pl) (thn (he.run pins s σ H _ I h) fun u s1 ⟨x, H1, I1, rx, a, C, dx, fs, ex, ea, l, fam, q⟩ => ?_) ht
  subst ex
  obtain rfl : u = Value.ref a := rx
  obtain ⟨f, fd, ps, c, hm, F, hb⟩ := D C fam
  refine getmeth_ok I1 ea c hm l ?_
  exact PySem.W.callWith_K0 (first := [.ref a]) I1.kIn hm.kp (run_fn (us := [.ref a]) (vs := [.ref a]) F hr hb .nil hx I1 (.cons rfl .nil) q)
end
theorem fresh_ne {H H' : Hp} {p q : Addr} {o : HO} (h : H p = some o) (n : H q = none) : q ≠ p := fun e => by rw [e, h] at n; cases n

def rTupOf (K : PySem.W.Frag) : List V → Hp → VK → Prop := fun xs H Q => ∃ p ys, xs = [.ref p] ∧ ((SqL K H p ys ∧ ∀ l, H l = none → Q (.ref l) (upd H l (.tup ys))) ∨ (SqT K H p ys ∧ Q (.ref p) H))
def rListOf (K : PySem.W.Frag) : List V → Hp → VK → Prop := fun xs H Q => ∃ p ys, xs = [.ref p] ∧ (SqL K H p ys ∨ SqT K H p ys) ∧ ∀ l, H l = none → Q (.ref l) (upd H l (.lst ys))
theorem call_tuple_ofK {X : Cx} : CallR X (.type "tuple") (rTupOf X.K) := call_tuple_of
theorem call_list_ofK {X : Cx} : CallR X (.type "list") (rListOf X.K) := call_list_of
theorem pi_tupK {X : Cx} {tg l : Expr} {tl : TE} (K : PySem.W.Frag) (hK : X.K = K) (hl : PE X l tl) : PI X tg l (iTup K tl) := by subst hK; exact pi_tup hl
theorem pi_listK {X : Cx} {tg l : Expr} {tl : TE} (K : PySem.W.Frag) (hK : X.K = K) (hl : PE X l tl) : PI X tg l (iList K tl) := by subst hK; exact pi_list hl
def rLenK (K : PySem.W.Frag) : List V → Hp → VK → Prop := fun xs H Q => ∃ p ys, xs = [.ref p] ∧ (SqL K H p ys ∨ SqT K H p ys) ∧ Q (.int ys.length) H
theorem call_lenK {X : Cx} : CallR X (.builtin "len") (rLenK X.K) := call_len_seq
/-- a choice whose test is reckoned ahead: b, and the heap behind it -/
def tIfC (c : TT) (t u : TS) : TS := fun D σ H => ∃ (b : Bool) (H1 : Hp), (∀ Z : Bool → Hp → Prop, Z b H1 → c σ H Z) ∧ (if b = true then t D σ H1 else u D σ H1)
theorem ps_ifC {X : Cx} {c : Expr} {a b : List Stmt} {tc : TT} {t u : TS} {pos : Pos} (hc : PT X c tc) (ha : PSs X a t) (hb : PSs X b u) : PS X (.If c a b pos) (tIfC tc t u) :=
  ⟨fun pins s σ H D I h => by
    obtain ⟨b, H1, h1, h2⟩ := h
    exact (ps_if hc ha hb).run pins s σ H D I (h1 _ h2)⟩
/-- a statement, then what it leaves, told by P -/
def tCut (t : TS) : TS := fun D σ H => ∃ Z : St → Hp → Prop, t { D with nx := Z } σ H ∧ ∀ σ' H', Z σ' H' → D.nx σ' H'
theorem ps_cut {X : Cx} {st : Stmt} {t : TS} (h : PS X st t) : PS X st (tCut t) := by
  refine ⟨fun pins s σ H D I hq => ?_⟩
  obtain ⟨Z, h1, h2⟩ := hq
  refine thn (h.run pins s σ H { D with nx := Z } I h1) fun f s1 hs => ?_
  cases f with
  | next =>
    obtain ⟨σ', H', I', z⟩ := hs
    exact ⟨σ', H', I', h2 _ _ z⟩
  | _ => exact hs
theorem zTrue {p : Prop} [Decidable p] {Z : Bool → Hp → Prop} {H : Hp} (h : Z (decide p) H) (q : p) : Z true H := by rw [decide_eq_true q] at h; exact h
theorem zFalse {p : Prop} [Decidable p] {Z : Bool → Hp → Prop} {H : Hp} (h : Z (decide p) H) (q : ¬ p) : Z false H := by rw [decide_eq_false q] at h; exact h

/-! ### a caught error of an own class, asked for its class -/
def rIsX (K : PySem.W.Frag) (cls : Value) (d : Option Addr) (a : Addr) : List V → Hp → VK → Prop := fun xs H Q => ∃ (D : Addr) (c : V) (cv : Value) (b : Bool), cls = .ref D ∧ d = none ∧ ExcC K D ∧ xs = [.ref a, c] ∧ (∀ u, RelV c u → u = cv) ∧ PySem.W.kitOne K (.ref D) cv = some b ∧ Q (.bl b) H
theorem call_isX {X : Cx} {a : Addr} {oe : Obj} {pn : List (Addr × Obj)} {cls : Value} {d : Option Addr} (hz : Zc cls d oe) (hf : ∃ vs, oe.data = .fields vs) : CallR (X.suite a ((a, oe) :: pn)) (.builtin "isinstance") (rIsX X.K cls d a) := by
  intro pins s σ H xs us Q I r h
  obtain ⟨D, c, cv, b, rfl, rfl, C, e, hcv, hk, q⟩ := h
  exact call_isE C hz hf pins s σ H xs us Q I r ⟨c, cv, b, e, hcv, hk, q⟩
def rIsXT (K : PySem.W.Frag) (cls : Value) (d : Option Addr) (a : Addr) : List V → Hp → VK → Prop := fun xs H Q => ∃ (D tp : Addr) (cs : List V) (us : List Value) (b : Bool), cls = .ref D ∧ d = none ∧ ExcC K D ∧ xs = [.ref a, .ref tp] ∧ H tp = some (.tup cs) ∧ Paired ClsV cs us ∧ PySem.W.kitAny K (.ref D) us = some b ∧ Q (.bl b) H
theorem call_isXT {X : Cx} {a : Addr} {oe : Obj} {pn : List (Addr × Obj)} {cls : Value} {d : Option Addr} (hz : Zc cls d oe) (hf : ∃ vs, oe.data = .fields vs) : CallR (X.suite a ((a, oe) :: pn)) (.builtin "isinstance") (rIsXT X.K cls d a) := by
  intro pins s σ H xs us Q I r h
  obtain ⟨D, tp, cs, ws, b, rfl, rfl, C, rfl, hT, k, e, q⟩ := h
  obtain ⟨u1, u2, rfl, r1, r2⟩ := vals2 r
  cases (show u1 = Value.ref a from r1)
  cases (show u2 = Value.ref tp from r2)
  obtain ⟨hget, _⟩ := I.pin (a, oe) (List.mem_append.mpr (.inl List.mem_cons_self))
  obtain ⟨vs, hv⟩ := hf
  have J : PySem.W.InstAt s.heap a oe D none := by
    obtain ⟨oc, od, oda, osl⟩ := oe
    obtain ⟨h1, h2⟩ := hz
    dsimp only at h1 h2 hv
    subst h1 h2 hv
    exact ⟨hget, rfl, rfl, trivial⟩
  obtain ⟨_, its, rv, o, h1, h2, n, h3⟩ := (show ObjOk X.prog X.w H s.heap tp (.tup cs) from I.hok tp _ hT)
  have e3 := ClsV.all k rv
  subst e3
  obtain ⟨oc, od, dt, sl⟩ := o
  simp only at h2 h3
  subst h2 h3
  exact PySem.W.kia_tup (PySem.W.handS_kitx_exc C.hg C.hk C.hs C.hd C.ha C.hn C.ht C.hm) I.kIn J h1 e (fun z => nomatch z) fun tk => ⟨.bl b, H, I.tok tk, rfl, q⟩

/-! the head's facts, by tests of one's own -/
abbrev FaM : Type := PySem.W.Frag → Bool
def obsM (fa : List FaM) (fn : List He.DefD) (K : PySem.W.Frag) : He.AlD := ((fa.all fun f => f K) && fn.all fun d => d.ok K, fn.map fun d => He.fnW K d.at_)
def SaysM (fa : List FaM) (fn : List He.DefD) (K : PySem.W.Frag) : Prop := obsM fa fn K = He.valD fn
def forceL {α : Type} : List Addr → (List Addr → α) → α
  | [], k => k []
  | a :: r, k => HandSHeadRun.frNat a fun a => forceL r fun r => k (a :: r)
theorem forceL_eq {α : Type} : ∀ (l : List Addr) (k : List Addr → α), forceL l k = k l
  | [], _ => rfl
  | a :: r, k => by
    show HandSHeadRun.frNat a (fun a => forceL r fun r => k (a :: r)) = _
    rw [HandSHeadRun.frNat_eq, forceL_eq r]
def nsOfM (g : Addr → Option Obj) (a : Addr) : List Addr := match g a with
  | some ⟨_, _, .cls cd, _⟩ => [cd.ns]
  | _ => []
def valsOfM (g : Addr → Option Obj) (a : Addr) : List Addr := match g a with
  | some ⟨_, _, .dict es _, _⟩ => es.toList.flatMap fun e => He.refV e.val
  | _ => []
def codeOfM (g : Addr → Option Obj) (a : Addr) : List Addr := match g a with
  | some ⟨_, _, .func fd, _⟩ => He.refV fd.code ++ (He.refV fd.defaults ++ He.refV fd.kwdefaults)
  | _ => []
/-- the module's names, the classes' own names, the functions' codes -/
def asM {α : Type} (names : List Str) (g : Addr → Option Obj) (k : List Addr → α) : α :=
  forceL (names.map (He.ga (He.frG g [mainGlobals]))) fun l1 => forceL (l1.flatMap (nsOfM g)) fun l2 => forceL (l2.flatMap (valsOfM g)) fun l3 => forceL ((l1 ++ l3).flatMap (codeOfM g)) fun l4 => k (mainGlobals :: cStatics :: (l1 ++ (l2 ++ (l3 ++ l4))))
def l1M (names : List Str) (g : Addr → Option Obj) : List Addr := names.map (He.ga (He.frG g [mainGlobals]))
def l2M (names : List Str) (g : Addr → Option Obj) : List Addr := (l1M names g).flatMap (nsOfM g)
def l3M (names : List Str) (g : Addr → Option Obj) : List Addr := (l2M names g).flatMap (valsOfM g)
def l4M (names : List Str) (g : Addr → Option Obj) : List Addr := (l1M names g ++ l3M names g).flatMap (codeOfM g)
theorem asM_eq {α : Type} (names : List Str) (g : Addr → Option Obj) : ∃ as : List Addr, ∀ k : List Addr → α, asM names g k = k as := by
  refine ⟨mainGlobals :: cStatics :: (l1M names g ++ (l2M names g ++ (l3M names g ++ l4M names g))), fun k => ?_⟩
  unfold asM
  rw [forceL_eq, forceL_eq, forceL_eq, forceL_eq]
  rfl
def obsMG (names : List Str) (fa : List FaM) (fn : List He.DefD) (g : Addr → Option Obj) : He.AlD := asM names g fun as => obsM fa fn (He.frG g as)
def hookM (names : List Str) (fa : List FaM) (fn : List He.DefD) : PySem.W.Hook where
  α := He.AlD
  obs := fun s => obsMG names fa fn s.heap.get?
  val := fun _ => He.valD fn
  says := fun _ h => ∃ K : PySem.W.Frag, K.In h ∧ SaysM fa fn K
  of := fun _ s e => by
    obtain ⟨as, ea⟩ := asM_eq (α := He.AlD) names s.heap.get?
    exact ⟨_, He.frG_in, (ea _).symm.trans e⟩
  keeps := fun _ _ _ ⟨K, hK, c⟩ k => ⟨K, PySem.W.Frag.In.keeps hK k, c⟩
theorem obsMG_eq {names : List Str} {fa : List FaM} {fn : List He.DefD} {g : Addr → Option Obj} {s : Shared} (h : ∀ a, g a = s.heap.get? a) : obsMG names fa fn g = (hookM names fa fn).obs s := by
  have e : g = s.heap.get? := funext h
  rw [e] <;> rfl
section
variable {fa : List FaM} {fn : List He.DefD} {K : PySem.W.Frag}
theorem SaysM.fact (c : SaysM fa fn K) (i : Nat) {f : FaM} (h : fa[i]? = some f) : f K = true := by
  have c1 := (He.ba (show ((fa.all fun f => f K) && fn.all fun d => d.ok K) = true from congrArg (fun z : He.AlD => z.1) c)).1
  exact List.all_eq_true.mp c1 f (List.mem_of_getElem? h)
theorem SaysM.def_ (c : SaysM fa fn K) (i : Nat) {d : He.DefD} (h : fn[i]? = some d) : ∃ fd, FunD K d.name d.qual d.params d.body d.scope (d.dvs K) (d.kws K) (He.fAd K d.at_) fd := by
  have c2 := (He.ba (show ((fa.all fun f => f K) && fn.all fun d => d.ok K) = true from congrArg (fun z : He.AlD => z.1) c)).2
  have e : fn.map (fun d => He.fnW K d.at_) = fn.map He.DefD.val := congrArg (fun z : He.AlD => z.2) c
  have e2 : (fn.map fun d => He.fnW K d.at_)[i]? = (fn.map He.DefD.val)[i]? := by rw [e]
  rw [List.getElem?_map, List.getElem?_map, h] at e2
  exact He.DefD.funD (Option.some.inj e2) (List.all_eq_true.mp c2 d (List.mem_of_getElem? h))
end
theorem fun_of {K : PySem.W.Frag} {x qual : Str} {st : Stmt} {f : Addr} {fd : FuncData} (F : FunD K x qual (defArgs st) (defBody st) (defScope st) [] [] f fd) : Fun K x qual st f fd := by
  obtain ⟨oc, od, dV, kV, doc, pm, an, cdv, ct, osl, rfl, lk, hcd, hD, hK⟩ := F.ex
  rcases hD with ⟨_, rfl⟩ | ⟨e, _⟩
  · exact ⟨⟨oc, od, kV, doc, pm, an, cdv, ct, osl, rfl, lk, hcd⟩, F.kp⟩
  · exact absurd rfl e

/-! ### words: values by their figures, names -/
def isLow (c : Nat) : Bool := decide (97 ≤ c) && decide (c ≤ 122)
def isDig (c : Nat) : Bool := decide (48 ≤ c) && decide (c ≤ 57)
theorem fig_mem (c : Nat) : decide (c ∈ (Str.ofString "0123456789").cps.toList) = isDig c := by
  have e : (Str.ofString "0123456789").cps.toList = [48, 49, 50, 51, 52, 53, 54, 55, 56, 57] := by decide +kernel
  rw [e]
  unfold isDig
  rw [Bool.eq_iff_iff]
  simp only [decide_eq_true_eq, Bool.and_eq_true, List.mem_cons, List.not_mem_nil, or_false]
  omega
theorem let_mem (c : Nat) : decide (c ∈ (Str.ofString "abcdefghijklmnopqrstuvwxyz").cps.toList) = isLow c := by
  have e : (Str.ofString "abcdefghijklmnopqrstuvwxyz").cps.toList = [97, 98, 99, 100, 101, 102, 103, 104, 105, 106, 107, 108, 109, 110, 111, 112, 113, 114, 115, 116, 117, 118, 119, 120, 121, 122] := by decide +kernel
  rw [e]
  unfold isLow
  rw [Bool.eq_iff_iff]
  simp only [decide_eq_true_eq, Bool.and_eq_true, List.mem_cons, List.not_mem_nil, or_false]
  omega
def PAIRW : List Str := ["plus", "minus", "times", "over", "rest", "less", "same"]
def ROWW : List Str := ["skip", "set", "put", "ask", "draw", "tell", "if", "while", "call"]
def OTHW : List Str := ["else", "end", "fun", "main", "give", "cell"]
def lenOk (s : Str) : Bool := decide (1 ≤ (tl s).length) && decide ((tl s).length ≤ 6)
def isValW (s : Str) : Bool := lenOk s && !((tl s).head? == some 48 && decide (s ≠ "0")) && (tl s).all isDig
def isNameW (s : Str) : Bool := lenOk s && !(decide (s ∈ PAIRW) || (decide (s ∈ ROWW) || decide (s ∈ OTHW))) && (tl s).all isLow
def valOf (s : Str) : Int := ((NumText.digitsVal (tl s) : Nat) : Int)
def numT (n : Int) : Str := Str.ofString (toString n)
theorem inV_str (s : Str) : ∀ l : List Str, inV (.str s) (l.map V.str) = decide (s ∈ l)
  | [] => by simp [inV]
  | x :: r => by
    have ih := inV_str s r
    unfold inV at ih ⊢
    rw [List.map_cons, List.any_cons, ih]
    have e : eqV (.str x) (.str s) = decide (s = x) := by
      show (x == s) = decide (s = x)
      by_cases h : s = x
      · subst h; simp
      · rw [decide_eq_false h]; exact beq_eq_false_iff_ne.mpr fun e => h e.symm
    rw [e]
    by_cases h : s = x <;> simp [h]
theorem digits_of_all {l : List Nat} (h : l.all isDig = true) : NumText.AllDigits l := fun c hc => by
  have := List.all_eq_true.mp h c hc
  unfold isDig at this
  simp only [Bool.and_eq_true, decide_eq_true_eq] at this
  exact this
theorem all_of_digits {l : List Nat} (h : NumText.AllDigits l) : l.all isDig = true := List.all_eq_true.mpr fun c hc => by
  have := h c hc
  unfold isDig
  simp only [Bool.and_eq_true, decide_eq_true_eq]
  exact this
theorem foldl_lt : ∀ (l : List Nat) (a : Nat), NumText.AllDigits l → l.foldl (fun acc c => acc * 10 + (c - 48)) a < (a + 1) * 10 ^ l.length
  | [], a, _ => by simp
  | c :: r, a, h => by
    have hc := h c List.mem_cons_self
    have ih := foldl_lt r (a * 10 + (c - 48)) fun d hd => h d (List.mem_cons_of_mem _ hd)
    have e : (a + 1) * 10 ^ (r.length + 1) = ((a + 1) * 10) * 10 ^ r.length := by rw [Nat.pow_succ, Nat.mul_comm (10 ^ r.length) 10, ← Nat.mul_assoc]
    rw [List.foldl_cons, List.length_cons, e]
    exact Nat.lt_of_lt_of_le ih (Nat.mul_le_mul_right _ (by omega))
theorem digitsVal_lt {l : List Nat} (h : NumText.AllDigits l) : NumText.digitsVal l < 10 ^ l.length := by
  have := foldl_lt l 0 h
  rw [Nat.zero_add, Nat.one_mul] at this
  exact this
theorem valW_parts {s : Str} (h : isValW s = true) : (1 ≤ (tl s).length ∧ (tl s).length ≤ 6) ∧ ((tl s).head? = some 48 → s = "0") ∧ NumText.AllDigits (tl s) := by
  unfold isValW lenOk at h
  simp only [Bool.and_eq_true, decide_eq_true_eq, Bool.not_eq_true', Bool.and_eq_false_iff, beq_eq_false_iff_ne, decide_eq_false_iff_not] at h
  obtain ⟨⟨⟨h1, h2⟩, h3⟩, h4⟩ := h
  refine ⟨⟨h1, h2⟩, fun e => ?_, digits_of_all h4⟩
  rcases h3 with h3 | h3
  · exact absurd e h3
  · exact Classical.not_not.mp h3
theorem valW_int {s : Str} (h : isValW s = true) : PySem.intText? s = some (valOf s) ∧ s.length ≤ 640 ∧ 0 ≤ valOf s ∧ valOf s < 1000000 := by
  obtain ⟨⟨h1, h2⟩, _, h4⟩ := valW_parts h
  have hl : s.length = (tl s).length := len_tl s
  refine ⟨PySem.intText_digits (x := s) h4 (fun e => ?_) (by omega), by omega, Int.natCast_nonneg _, ?_⟩
  · have e' : tl s = [] := e
    rw [e'] at h1; simp at h1
  · have := digitsVal_lt h4
    have p : 10 ^ (tl s).length ≤ 10 ^ 6 := Nat.pow_le_pow_right (by decide) h2
    unfold valOf
    omega
theorem numL_head : ∀ n : Nat, (numL n).head? = some 48 → n = 0 := by
  intro n
  induction n using Nat.strongRecOn with
  | _ n ih =>
    intro h
    by_cases c : n < 10
    · rw [numL_lt c] at h
      simp at h
      omega
    · rw [numL_step (by omega)] at h
      cases q : numL (n / 10) with
      | nil => exact absurd q (numL_ne _)
      | cons x r =>
        rw [q, List.cons_append, List.head?_cons] at h
        have := ih (n / 10) (by omega) (by rw [q, List.head?_cons]; exact h)
        omega
theorem tl_numT {n : Int} (h : 0 ≤ n) : tl (numT n) = numL n.toNat := by
  have e : n = ((n.toNat : Nat) : Int) := by omega
  unfold numT
  rw [e]
  exact tl_num _
theorem numT_valW {n : Int} (h0 : 0 ≤ n) (h1 : n < 1000000) : isValW (numT n) = true ∧ valOf (numT n) = n := by
  have et := tl_numT h0
  have hl : (numL n.toNat).length ≤ 6 := numL_len (by decide) (by omega)
  have hp : 1 ≤ (numL n.toNat).length := by
    cases q : numL n.toNat with
    | nil => exact absurd q (numL_ne _)
    | cons x r => simp
  refine ⟨?_, ?_⟩
  · unfold isValW lenOk
    rw [et]
    simp only [Bool.and_eq_true, decide_eq_true_eq, Bool.not_eq_true', Bool.and_eq_false_iff, beq_eq_false_iff_ne, decide_eq_false_iff_not]
    refine ⟨⟨⟨hp, hl⟩, ?_⟩, all_of_digits (numL_digits _)⟩
    by_cases c : (numL n.toNat).head? = some 48
    · have z := numL_head _ c
      right
      have : n = 0 := by omega
      subst this
      exact fun e => e (by decide +kernel)
    · exact .inl c
  · unfold valOf
    rw [et, numL_val]
    omega
theorem numT_inj {m n : Int} (hm : 0 ≤ m) (hn : 0 ≤ n) (e : numT m = numT n) : m = n := by
  have e' := congrArg tl e
  rw [tl_numT hm, tl_numT hn] at e'
  have := numL_inj e'
  omega
theorem toDigits_digitsVal' {l : List Nat} (h : NumText.AllDigits l) (h1 : 1 ≤ l.length) (c : ¬ l.head? = some 48) : numL (NumText.digitsVal l) = l := by
  unfold numL
  rw [NumText.toDigits_digitsVal (l.length - 1) l (by omega) h (Or.inr ?_), List.map_map]
  · conv => rhs; rw [← List.map_id l]
    refine List.map_congr_left fun d hd => ?_
    have hd' := h d hd
    show (Char.ofNat d).toNat = d
    obtain ⟨a, b⟩ := hd'
    have : ∀ k, k < 10 → (Char.ofNat (48 + k)).toNat = 48 + k := by decide
    have e : d = 48 + (d - 48) := by omega
    rw [e]
    exact this _ (by omega)
  · cases l with
    | nil => simp at h1
    | cons x r =>
      refine ⟨x, r, rfl, ?_⟩
      have := h x List.mem_cons_self
      have : x ≠ 48 := fun e => c (by rw [e]; rfl)
      omega
theorem valW_canon {s : Str} (h : isValW s = true) : numT (valOf s) = s := by
  obtain ⟨⟨h1, h2⟩, h3, h4⟩ := valW_parts h
  refine ext_tl ?_
  rw [tl_numT (valW_int h).2.2.1]
  show numL ((NumText.digitsVal (tl s) : Nat) : Int).toNat = tl s
  rw [Int.toNat_natCast]
  by_cases c : (tl s).head? = some 48
  · rw [h3 c]; decide +kernel
  · have key := toDigits_digitsVal' h4 h1 c
    exact key
theorem nameW_parts {s : Str} (h : isNameW s = true) : (1 ≤ (tl s).length ∧ (tl s).length ≤ 6) ∧ s ∉ PAIRW ∧ s ∉ ROWW ∧ s ∉ OTHW ∧ ∀ c ∈ tl s, 97 ≤ c ∧ c ≤ 122 := by
  unfold isNameW lenOk at h
  simp only [Bool.and_eq_true, decide_eq_true_eq, Bool.not_eq_true', Bool.or_eq_false_iff, decide_eq_false_iff_not] at h
  obtain ⟨⟨⟨h1, h2⟩, h3, h5, h6⟩, h4⟩ := h
  refine ⟨⟨h1, h2⟩, h3, h5, h6, fun c hc => ?_⟩
  have := List.all_eq_true.mp h4 c hc
  unfold isLow at this
  simp only [Bool.and_eq_true, decide_eq_true_eq] at this
  exact this
theorem name_not_val {s : Str} (h : isNameW s = true) : isValW s = false := by
  obtain ⟨⟨h1, _⟩, _, _, _, h4⟩ := nameW_parts h
  cases c : isValW s with
  | false => rfl
  | true =>
    obtain ⟨_, _, h5⟩ := valW_parts c
    cases q : tl s with
    | nil => rw [q] at h1; simp at h1
    | cons x r =>
      have a1 := h4 x (by rw [q]; exact List.mem_cons_self)
      have a2 := h5 x (by rw [q]; exact List.mem_cons_self)
      omega
theorem val_free {s : Str} {c : Nat} (h : isValW s = true) (hc : c < 48 ∨ 57 < c) : c ∉ tl s := fun hm => by
  obtain ⟨_, _, h5⟩ := valW_parts h
  have a2 := h5 c hm
  omega
theorem name_free {s : Str} {c : Nat} (h : isNameW s = true) (hc : c < 97 ∨ 122 < c) : c ∉ tl s := fun hm => by
  obtain ⟨_, _, _, _, h4⟩ := nameW_parts h
  have a1 := h4 c hm
  omega
theorem pair_free : ∀ s ∈ PAIRW, ∀ c ∈ tl s, 97 ≤ c ∧ c ≤ 122 := by decide +kernel
theorem pair_not_val : ∀ s ∈ PAIRW, isValW s = false ∧ isNameW s = false ∧ s ≠ "cell" ∧ (tl s).length ≤ 6 := by decide +kernel
theorem cell_not : isValW "cell" = false ∧ isNameW "cell" = false := by decide +kernel
/-! ### expressions -/
inductive Ex where
  | num (n : Int)
  | box (s : Str)
  | cell (e : Ex)
  | two (w : Str) (l r : Ex)
namespace Ex
def depth : Ex → Nat
  | num _ => 1
  | box _ => 1
  | cell e => e.depth + 1
  | two _ l r => max l.depth r.depth + 1
def parts : Ex → Nat
  | num _ => 1
  | box _ => 1
  | cell e => 1 + e.parts
  | two _ l r => 1 + l.parts + r.parts
def toks : Ex → List Str
  | num n => [numT n]
  | box s => [s]
  | cell e => "cell" :: e.toks
  | two w l r => w :: (l.toks ++ r.toks)
def Wf : Ex → Prop
  | num n => 0 ≤ n ∧ n < 1000000
  | box s => isNameW s = true
  | cell e => e.Wf
  | two w l r => w ∈ PAIRW ∧ l.Wf ∧ r.Wf
def told : Ex → PyData
  | num n => .tuple [.str "number", .int n]
  | box s => .tuple [.str "box", .str s]
  | cell e => .tuple [.str "cell", e.told]
  | two w l r => .tuple [.str w, l.told, r.told]
theorem depth_pos : ∀ e : Ex, 1 ≤ e.depth
  | num _ => Nat.le_refl 1
  | box _ => Nat.le_refl 1
  | cell _ => Nat.le_add_left _ _
  | two _ _ _ => Nat.le_add_left _ _
theorem parts_pos : ∀ e : Ex, 1 ≤ e.parts
  | num _ => Nat.le_refl 1
  | box _ => Nat.le_refl 1
  | cell _ => Nat.le_add_right _ _
  | two _ _ _ => Nat.le_trans (Nat.le_add_right 1 _) (Nat.le_add_right _ _)
theorem toks_len : ∀ e : Ex, e.toks.length = e.parts
  | num _ => rfl
  | box _ => rfl
  | cell e => by show e.toks.length + 1 = 1 + e.parts; rw [toks_len e]; omega
  | two w l r => by
    show (l.toks ++ r.toks).length + 1 = 1 + l.parts + r.parts
    rw [List.length_append, toks_len l, toks_len r]; omega
theorem parts_depth : ∀ e : Ex, e.depth ≤ e.parts
  | num _ => Nat.le_refl 1
  | box _ => Nat.le_refl 1
  | cell e => by have := parts_depth e; show e.depth + 1 ≤ 1 + e.parts; omega
  | two w l r => by have := parts_depth l; have := parts_depth r; show max l.depth r.depth + 1 ≤ 1 + l.parts + r.parts; omega
theorem toks_ok : ∀ {e : Ex}, e.Wf → ∀ s ∈ e.toks, (tl s).length ≤ 6 ∧ ∀ c ∈ tl s, (48 ≤ c ∧ c ≤ 57) ∨ (97 ≤ c ∧ c ≤ 122)
  | num n, h, s, hs => by
    rw [List.mem_singleton.mp hs]
    obtain ⟨⟨_, h2⟩, _, h4⟩ := valW_parts (numT_valW h.1 h.2).1
    exact ⟨h2, fun c hc => .inl (h4 c hc)⟩
  | box b, h, s, hs => by
    rw [List.mem_singleton.mp hs]
    obtain ⟨⟨_, h2⟩, _, _, _, h4⟩ := nameW_parts h
    exact ⟨h2, fun c hc => .inr (h4 c hc)⟩
  | cell e, h, s, hs => by
    rcases List.mem_cons.mp hs with rfl | hs
    · exact ⟨by decide +kernel, fun c hc => .inr ((by decide +kernel : ∀ c ∈ tl (Str.ofString "cell"), 97 ≤ c ∧ c ≤ 122) c hc)⟩
    · exact toks_ok (e := e) h s hs
  | two w l r, h, s, hs => by
    rcases List.mem_cons.mp hs with rfl | hs
    · exact ⟨(pair_not_val _ h.1).2.2.2, fun c hc => .inr (pair_free _ h.1 c hc)⟩
    · rcases List.mem_append.mp hs with hs | hs
      · exact toks_ok (e := l) h.2.1 s hs
      · exact toks_ok (e := r) h.2.2 s hs
end Ex
/-- the expression that begins the words, of at most so many parts within one another; what is behind it -/
def parseE : Nat → List Str → Option (Ex × List Str)
  | 0, _ => none
  | _ + 1, [] => none
  | d + 1, w :: r =>
    if isValW w = true then some (.num (valOf w), r)
    else if isNameW w = true then some (.box w, r)
    else if w = "cell" then (match parseE d r with
      | none => none
      | some (e, r1) => some (.cell e, r1))
    else if w ∈ PAIRW then (match parseE d r with
      | none => none
      | some (l, r1) => (match parseE d r1 with
        | none => none
        | some (e, r2) => some (.two w l e, r2)))
    else none
theorem parse_toks : ∀ {d : Nat} {e : Ex}, e.Wf → e.depth ≤ d → ∀ r, parseE d (e.toks ++ r) = some (e, r)
  | 0, e, _, hd, _ => absurd (e.depth_pos) (by omega)
  | d + 1, .num n, h, _, r => by
    have q := numT_valW h.1 h.2
    show parseE (d + 1) (numT n :: r) = _
    unfold parseE
    rw [if_pos q.1, q.2]
  | d + 1, .box s, h, _, r => by
    show parseE (d + 1) (s :: r) = _
    unfold parseE
    rw [if_neg (by rw [name_not_val h]; decide), if_pos (show isNameW s = true from h)]
  | d + 1, .cell e, h, hd, r => by
    show parseE (d + 1) ("cell" :: (e.toks ++ r)) = _
    unfold parseE
    rw [if_neg (by rw [cell_not.1]; decide), if_neg (by rw [cell_not.2]; decide), if_pos rfl, parse_toks (d := d) (e := e) h (by have : e.depth + 1 ≤ d + 1 := hd; omega) r]
  | d + 1, .two w l e, h, hd, r => by
    obtain ⟨hw, hl, he⟩ := h
    have hd' : max l.depth e.depth + 1 ≤ d + 1 := hd
    obtain ⟨q1, q2, q3, _⟩ := pair_not_val w hw
    show parseE (d + 1) (w :: ((l.toks ++ e.toks) ++ r)) = _
    unfold parseE
    rw [if_neg (by rw [q1]; decide), if_neg (by rw [q2]; decide), if_neg q3, if_pos hw, List.append_assoc, parse_toks (d := d) hl (by omega) (e.toks ++ r)]
    show (match parseE d (e.toks ++ r) with | none => none | some (e, r2) => some (Ex.two w l e, r2)) = _
    rw [parse_toks (d := d) he (by omega) r]
theorem parse_wf : ∀ {d : Nat} {ws : List Str} {e : Ex} {r : List Str}, parseE d ws = some (e, r) → e.Wf ∧ e.depth ≤ d ∧ ws = e.toks ++ r
  | 0, _, _, _, h => by simp [parseE] at h
  | _ + 1, [], _, _, h => by simp [parseE] at h
  | d + 1, w :: t, e, r, h => by
    unfold parseE at h
    by_cases c1 : isValW w = true
    · rw [if_pos c1] at h
      cases h
      obtain ⟨_, _, h3, h4⟩ := valW_int c1
      exact ⟨⟨h3, h4⟩, Nat.le_add_left _ _, by show w :: t = [numT (valOf w)] ++ t; rw [valW_canon c1]; rfl⟩
    rw [if_neg c1] at h
    by_cases c2 : isNameW w = true
    · rw [if_pos c2] at h
      cases h
      exact ⟨c2, Nat.le_add_left _ _, rfl⟩
    rw [if_neg c2] at h
    by_cases c3 : w = "cell"
    · rw [if_pos c3] at h
      cases q : parseE d t with
      | none => rw [q] at h; cases h
      | some p =>
        obtain ⟨e1, r1⟩ := p
        rw [q] at h
        cases h
        obtain ⟨a1, a2, a3⟩ := parse_wf q
        exact ⟨a1, Nat.succ_le_succ a2, by rw [c3, a3]; rfl⟩
    rw [if_neg c3] at h
    by_cases c4 : w ∈ PAIRW
    · rw [if_pos c4] at h
      cases q : parseE d t with
      | none => rw [q] at h; cases h
      | some p =>
        obtain ⟨e1, r1⟩ := p
        rw [q] at h
        simp only at h
        cases q2 : parseE d r1 with
        | none => rw [q2] at h; cases h
        | some p2 =>
          obtain ⟨e2, r2⟩ := p2
          rw [q2] at h
          cases h
          obtain ⟨a1, a2, a3⟩ := parse_wf q
          obtain ⟨b1, b2, b3⟩ := parse_wf q2
          exact ⟨⟨c4, a1, b1⟩, by show max e1.depth e2.depth + 1 ≤ d + 1; omega, by rw [a3, b3]; show _ = w :: (e1.toks ++ e2.toks) ++ r; rw [List.cons_append, List.append_assoc]⟩
    · rw [if_neg c4] at h; cases h
/-- all the expressions of a row of words -/
def parseAll : Nat → List Str → Option (List Ex)
  | _, [] => some []
  | 0, _ :: _ => none
  | n + 1, ws => match parseE 6 ws with
    | none => none
    | some (e, r) => if e.parts ≤ 15 then (match parseAll n r with
      | none => none
      | some es => some (e :: es)) else none

/-! ### objects -/
structure EC where
  num : Addr
  box : Addr
  cell : Addr
  two : Addr
def EC.Fam (c : EC) (C : Addr) : Prop := C = c.num ∨ C = c.box ∨ C = c.cell ∨ C = c.two
def EC.of (c : EC) : Ex → Addr
  | .num _ => c.num
  | .box _ => c.box
  | .cell _ => c.cell
  | .two _ _ _ => c.two
theorem EC.fam (c : EC) : ∀ e : Ex, c.Fam (c.of e)
  | .num _ => .inl rfl
  | .box _ => .inr (.inl rfl)
  | .cell _ => .inr (.inr (.inl rfl))
  | .two _ _ _ => .inr (.inr (.inr rfl))
def fNum (n : Int) : List (Str × V) := [("value", .int n)]
def fBox (s : Str) : List (Str × V) := [("name", .str s)]
def fCell (i : V) : List (Str × V) := [("inner", i)]
def fTwo (w : Str) (a b : V) : List (Str × V) := [("word", .str w), ("left", a), ("right", b)]
/-- v is an object of the expression e -/
def ObjE (c : EC) (H : Hp) : Ex → V → Prop
  | .num n, v => ∃ p dx, v = .ref p ∧ H p = some (.ins c.num dx (fNum n))
  | .box s, v => ∃ p dx, v = .ref p ∧ H p = some (.ins c.box dx (fBox s))
  | .cell e, v => ∃ p dx i, v = .ref p ∧ H p = some (.ins c.cell dx (fCell i)) ∧ ObjE c H e i
  | .two w l r, v => ∃ p dx a b, v = .ref p ∧ H p = some (.ins c.two dx (fTwo w a b)) ∧ ObjE c H l a ∧ ObjE c H r b
theorem ObjE.same {c : EC} {H H' : Hp} (s : Same H H') : ∀ {e : Ex} {v : V}, ObjE c H e v → ObjE c H' e v
  | .num n, v, ⟨p, dx, h1, h2⟩ => ⟨p, dx, h1, s _ _ h2⟩
  | .box n, v, ⟨p, dx, h1, h2⟩ => ⟨p, dx, h1, s _ _ h2⟩
  | .cell e, v, ⟨p, dx, i, h1, h2, h3⟩ => ⟨p, dx, i, h1, s _ _ h2, ObjE.same s h3⟩
  | .two w l r, v, ⟨p, dx, a, b, h1, h2, h3, h4⟩ => ⟨p, dx, a, b, h1, s _ _ h2, ObjE.same s h3, ObjE.same s h4⟩
abbrev exMeth (m : Str) : Prop := m ∈ (["told", "words", "parts", "levels", "reckon"] : List Str)
theorem look_none {m : Str} (h : exMeth m) : (∀ n, (fNum n).lookup m = none) ∧ (∀ s, (fBox s).lookup m = none) ∧ (∀ i, (fCell i).lookup m = none) ∧ (∀ w a b, (fTwo w a b).lookup m = none) := by
  have n : ∀ k ∈ (["value", "name", "inner", "word", "left", "right"] : List Str), (m == k) = false := by
    intro k hk
    have : ∀ x ∈ (["told", "words", "parts", "levels", "reckon"] : List Str), ∀ y ∈ (["value", "name", "inner", "word", "left", "right"] : List Str), (x == y) = false := by decide +kernel
    exact this m h k hk
  refine ⟨fun z => ?_, fun z => ?_, fun z => ?_, fun w a b => ?_⟩
  · show (match m == "value" with | true => some (V.int z) | false => none) = none
    rw [n "value" (by decide +kernel)]
  · show (match m == "name" with | true => some (V.str z) | false => none) = none
    rw [n "name" (by decide +kernel)]
  · show (match m == "inner" with | true => some z | false => none) = none
    rw [n "inner" (by decide +kernel)]
  · unfold fTwo
    rw [List.lookup_cons, n "word" (by decide +kernel)]
    simp only
    rw [List.lookup_cons, n "left" (by decide +kernel)]
    simp only
    rw [List.lookup_cons, n "right" (by decide +kernel)]
    rfl
theorem ObjE.at {c : EC} {H : Hp} {m : Str} (hm : exMeth m) : ∀ {e : Ex} {v : V}, ObjE c H e v → ∃ p dx fs, v = .ref p ∧ H p = some (.ins (c.of e) dx fs) ∧ fs.lookup m = none
  | .num n, v, ⟨p, dx, h1, h2⟩ => ⟨p, dx, _, h1, h2, (look_none hm).1 _⟩
  | .box n, v, ⟨p, dx, h1, h2⟩ => ⟨p, dx, _, h1, h2, (look_none hm).2.1 _⟩
  | .cell e, v, ⟨p, dx, i, h1, h2, h3⟩ => ⟨p, dx, _, h1, h2, (look_none hm).2.2.1 _⟩
  | .two w l r, v, ⟨p, dx, a, b, h1, h2, h3, h4⟩ => ⟨p, dx, _, h1, h2, (look_none hm).2.2.2 _ _ _⟩
/-! ### data told -/
theorem dp_same {K : PySem.W.Frag} {H H' : Hp} (s : Same H H') {v : V} {d : PyData} (h : Dp K H v d) : Dp K H' v d := by
  refine Dp.rec (motive_1 := fun v d _ => Dp K H' v d) (motive_2 := fun vs ds _ => DpAll K H' vs ds) ?_ ?_ ?_ ?_ ?_ ?_ ?_ ?_ h
  · exact .non
  · exact fun b => .bl b
  · exact fun i => .int i
  · exact fun x => .str x
  · exact fun h1 _ h2 => .lst (s.seq h1) h2
  · exact fun h1 _ h2 => .tup (same_tup s h1) h2
  · exact .nil
  · exact fun _ _ h1 h2 => .cons h1 h2
theorem dpAll_same {K : PySem.W.Frag} {H H' : Hp} (s : Same H H') : ∀ {vs : List V} {ds : List PyData}, DpAll K H vs ds → DpAll K H' vs ds
  | _, _, .nil => .nil
  | _, _, .cons a b => .cons (dp_same s a) (dpAll_same s b)
/-- v is told data, a tuple that stands by itself -/
def TupD (K : PySem.W.Frag) (H : Hp) (v : V) (ds : List PyData) : Prop := ∃ t xs, v = .ref t ∧ H t = some (.tup xs) ∧ DpAll K H xs ds
theorem TupD.dp {K : PySem.W.Frag} {H : Hp} {v : V} {ds : List PyData} (h : TupD K H v ds) : Dp K H v (.tuple ds) := by
  obtain ⟨t, xs, rfl, h1, h2⟩ := h
  exact .tup (SqT.of h1) h2
theorem TupD.same {K : PySem.W.Frag} {H H' : Hp} (s : Same H H') {v : V} {ds : List PyData} (h : TupD K H v ds) : TupD K H' v ds := by
  obtain ⟨t, xs, rfl, h1, h2⟩ := h
  exact ⟨t, xs, rfl, s _ _ h1, dpAll_same s h2⟩
def Ex.items : Ex → List PyData
  | .num n => [.str "number", .int n]
  | .box s => [.str "box", .str s]
  | .cell e => [.str "cell", e.told]
  | .two w l r => [.str w, l.told, r.told]
theorem Ex.told_items : ∀ e : Ex, e.told = .tuple e.items
  | .num _ => rfl
  | .box _ => rfl
  | .cell _ => rfl
  | .two _ _ _ => rfl
/-- v is the told tuple of e: each inner tuple stands by itself -/
def ToldE (K : PySem.W.Frag) (H : Hp) : Ex → V → Prop
  | .num n, v => ∃ t, v = .ref t ∧ H t = some (.tup [.str "number", .int n])
  | .box s, v => ∃ t, v = .ref t ∧ H t = some (.tup [.str "box", .str s])
  | .cell e, v => ∃ t i, v = .ref t ∧ H t = some (.tup [.str "cell", i]) ∧ ToldE K H e i
  | .two w l r, v => ∃ t a b, v = .ref t ∧ H t = some (.tup [.str w, a, b]) ∧ ToldE K H l a ∧ ToldE K H r b
theorem ToldE.same {K : PySem.W.Frag} {H H' : Hp} (s : Same H H') : ∀ {e : Ex} {v : V}, ToldE K H e v → ToldE K H' e v
  | .num n, v, ⟨p, h1, h2⟩ => ⟨p, h1, s _ _ h2⟩
  | .box n, v, ⟨p, h1, h2⟩ => ⟨p, h1, s _ _ h2⟩
  | .cell e, v, ⟨p, i, h1, h2, h3⟩ => ⟨p, i, h1, s _ _ h2, ToldE.same s h3⟩
  | .two w l r, v, ⟨p, a, b, h1, h2, h3, h4⟩ => ⟨p, a, b, h1, s _ _ h2, ToldE.same s h3, ToldE.same s h4⟩
theorem ToldE.dp {K : PySem.W.Frag} {H : Hp} : ∀ {e : Ex} {v : V}, ToldE K H e v → Dp K H v e.told
  | .num n, v, ⟨p, h1, h2⟩ => by rw [h1]; exact .tup (SqT.of h2) (.cons (.str _) (.cons (.int _) .nil))
  | .box n, v, ⟨p, h1, h2⟩ => by rw [h1]; exact .tup (SqT.of h2) (.cons (.str _) (.cons (.str _) .nil))
  | .cell e, v, ⟨p, i, h1, h2, h3⟩ => by rw [h1]; exact .tup (SqT.of h2) (.cons (.str _) (.cons (ToldE.dp h3) .nil))
  | .two w l r, v, ⟨p, a, b, h1, h2, h3, h4⟩ => by rw [h1]; exact .tup (SqT.of h2) (.cons (.str _) (.cons (ToldE.dp h3) (.cons (ToldE.dp h4) .nil)))
theorem ToldE.ref {K : PySem.W.Frag} {H : Hp} : ∀ {e : Ex} {v : V}, ToldE K H e v → ∃ t xs, v = .ref t ∧ H t = some (.tup xs)
  | .num n, v, ⟨p, h1, h2⟩ => ⟨p, _, h1, h2⟩
  | .box n, v, ⟨p, h1, h2⟩ => ⟨p, _, h1, h2⟩
  | .cell e, v, ⟨p, i, h1, h2, h3⟩ => ⟨p, _, h1, h2⟩
  | .two w l r, v, ⟨p, a, b, h1, h2, h3, h4⟩ => ⟨p, _, h1, h2⟩
theorem strOk_of {s : Str} (h : ∀ c ∈ tl s, c ≤ 122) : PyData.strOk s = true := by
  unfold PyData.strOk
  rw [← Array.all_toList]
  refine List.all_eq_true.mpr fun c hc => ?_
  have := h c hc
  simp only [decide_eq_true_eq]
  omega
theorem Ex.lay : ∀ {e : Ex}, e.Wf → e.told.canLay0 = true
  | .num n, _ => by
    show (PyData.strOk _ && (true && true)) = true
    rw [strOk_of (by decide +kernel)]; rfl
  | .box s, h => by
    obtain ⟨_, _, _, _, h4⟩ := nameW_parts (s := s) h
    show (PyData.strOk _ && (PyData.strOk s && true)) = true
    rw [strOk_of (by decide +kernel), strOk_of fun c hc => (h4 c hc).2]; rfl
  | .cell e, h => by
    have ih := Ex.lay (e := e) h
    show (PyData.strOk _ && (e.told.canLay0 && true)) = true
    rw [strOk_of (by decide +kernel), ih]; rfl
  | .two w l r, h => by
    have h1 := Ex.lay (e := l) h.2.1
    have h2 := Ex.lay (e := r) h.2.2
    show (PyData.strOk w && (l.told.canLay0 && (r.told.canLay0 && true))) = true
    rw [strOk_of fun c hc => (pair_free w h.1 c hc).2, h1, h2]; rfl
theorem Ex.told_depth : ∀ e : Ex, e.told.depth ≤ e.depth
  | .num _ => by show max 0 (max 0 0) + 1 ≤ 1; omega
  | .box _ => by show max 0 (max 0 0) + 1 ≤ 1; omega
  | .cell e => by
    have := Ex.told_depth e
    show max 0 (max e.told.depth 0) + 1 ≤ e.depth + 1; omega
  | .two w l r => by
    have := Ex.told_depth l
    have := Ex.told_depth r
    show max 0 (max l.told.depth (max r.told.depth 0)) + 1 ≤ max l.depth r.depth + 1; omega
theorem Ex.shaped {e : Ex} (h : e.Wf) (hd : e.depth ≤ 60) : SeqAt.shaped e.told = true := by
  have h1 := Ex.lay h
  have h2 := Ex.told_depth e
  show (e.told.canLay0 && decide (e.told.depth ≤ 64)) = true
  rw [h1, decide_eq_true (by omega)]; rfl
theorem Ex.eqv {e : Ex} (h : e.Wf) : PyData.eqv e.told e.told = true := SeqAt.eqv_refl _ (Ex.lay h)
/-! ### texts -/
def Ex.text : Ex → Str
  | .num n => numT n
  | .box s => s
  | .cell e => (Str.ofString "cell ") ++ e.text
  | .two w l r => Txt.join (Str.ofString " ") [w, l.text, r.text]
theorem Ex.text_len : ∀ {e : Ex}, e.Wf → e.text.length + 1 ≤ 7 * e.parts
  | .num n, h => by
    have := Ex.toks_ok (e := .num n) h (numT n) (List.mem_singleton.mpr rfl)
    show (numT n).length + 1 ≤ 7 * 1
    rw [len_tl]; omega
  | .box s, h => by
    have := Ex.toks_ok (e := .box s) h s (List.mem_singleton.mpr rfl)
    show s.length + 1 ≤ 7 * 1
    rw [len_tl]; omega
  | .cell e, h => by
    have ih := Ex.text_len (e := e) h
    show (Str.ofString "cell " ++ e.text).length + 1 ≤ 7 * (1 + e.parts)
    rw [len_tl, tl_append, List.length_append]
    have : (tl (Str.ofString "cell ")).length = 5 := by decide +kernel
    rw [len_tl] at ih
    omega
  | .two w l r, h => by
    have h1 := Ex.text_len (e := l) h.2.1
    have h2 := Ex.text_len (e := r) h.2.2
    have h3 := (pair_not_val w h.1).2.2.2
    have b : (tl (Str.ofString " ")).length = 1 := by decide +kernel
    show (Txt.join (Str.ofString " ") [w, l.text, r.text]).length + 1 ≤ 7 * (1 + l.parts + r.parts)
    rw [join_eq, len_tl, tl_join]
    rw [len_tl] at h1 h2
    simp only [List.map_cons, List.map_nil, joinL, List.length_append, b]
    omega
theorem Ex.text_toks : ∀ {e : Ex}, tl e.text = joinL [32] (e.toks.map tl)
  | .num n => rfl
  | .box s => rfl
  | .cell e => by
    have ih := Ex.text_toks (e := e)
    show tl (Str.ofString "cell " ++ e.text) = joinL [32] ((Str.ofString "cell" :: e.toks).map tl)
    rw [tl_append, ih]
    have c1 : tl (Str.ofString "cell ") = tl (Str.ofString "cell") ++ [32] := by decide +kernel
    rw [c1]
    cases q : e.toks with
    | nil => have := e.toks_len; rw [q] at this; have := e.parts_pos; simp at *; omega
    | cons x r =>
      show _ = tl (Str.ofString "cell") ++ ([32] ++ joinL [32] ((x :: r).map tl))
      rw [List.append_assoc]
  | .two w l r => by
    have h1 := Ex.text_toks (e := l)
    have h2 := Ex.text_toks (e := r)
    show tl (Txt.join (Str.ofString " ") [w, l.text, r.text]) = joinL [32] ((w :: (l.toks ++ r.toks)).map tl)
    have b : tl (Str.ofString " ") = [32] := by decide +kernel
    rw [join_eq, tl_join, b]
    show tl w ++ ([32] ++ (tl l.text ++ ([32] ++ tl r.text))) = _
    rw [h1, h2, List.map_cons, List.map_append]
    have key : ∀ (a b : List (List Nat)), a ≠ [] → b ≠ [] → joinL [32] a ++ ([32] ++ joinL [32] b) = joinL [32] (a ++ b) := by
      intro a
      induction a with
      | nil => intro b h; exact absurd rfl h
      | cons x a ih =>
        intro b _ hb
        cases a with
        | nil =>
          cases b with
          | nil => exact absurd rfl hb
          | cons y b => rfl
        | cons x2 a =>
          have := ih b (by simp) hb
          show (x ++ ([32] ++ joinL [32] (x2 :: a))) ++ _ = x ++ ([32] ++ joinL [32] ((x2 :: a) ++ b))
          rw [← this]
          simp only [List.append_assoc]
    have n1 : l.toks.map tl ≠ [] := fun e => by have := congrArg List.length e; rw [List.length_map, l.toks_len] at this; have := l.parts_pos; simp at *; omega
    have n2 : r.toks.map tl ≠ [] := fun e => by have := congrArg List.length e; rw [List.length_map, r.toks_len] at this; have := r.parts_pos; simp at *; omega
    rw [key _ _ n1 n2]
    cases q : (l.toks.map tl ++ r.toks.map tl) with
    | nil => exact absurd (List.append_eq_nil_iff.mp q).1 n1
    | cons x z => rfl
theorem Ex.split_text {e : Ex} (h : e.Wf) : Txt.split e.text (Str.ofString " ") = e.toks := by
  have b : tl (Str.ofString " ") = 32 :: [] := by decide +kernel
  have ej : e.text = Txt.join (Str.ofString " ") e.toks := by
    refine ext_tl ?_
    rw [join_eq, tl_join, b, Ex.text_toks]
  rw [ej]
  refine split_join b (by decide +kernel) (fun q => ?_) fun p hp => ?_
  · have := e.toks_len; rw [q] at this; have := e.parts_pos; simp at *; omega
  · intro hm
    rcases (Ex.toks_ok h p hp).2 32 hm with c | c <;> omega
/-! ### promises -/
/-- one text in, a truth out; nothing else is touched -/
def spTruthS (f : Str → Bool) : Sp := fun vs H Q _ => ∃ s : Str, vs = [.str s] ∧ s.length ≤ 100000 ∧ ∀ H', Same H H' → Q (.bl (f s)) H'
def spInit1 (C : Addr) (f : Str) : Sp := fun vs H Q _ => ∃ (p dx : Addr) (x : V), vs = [.ref p, x] ∧ H p = some (.ins C dx []) ∧ Q .non (upd H p (.ins C dx [(f, x)]))
def spTwoI (C : Addr) : Sp := fun vs H Q _ => ∃ (p dx : Addr) (w : Str) (a b : V), vs = [.ref p, .str w, a, b] ∧ H p = some (.ins C dx []) ∧ Q .non (upd H p (.ins C dx (fTwo w a b)))
def spTold (K : PySem.W.Frag) (c : EC) (n : Nat) (C : Addr) : Sp := fun vs H Q _ => ∃ (e : Ex) (v : V), vs = [v] ∧ ObjE c H e v ∧ c.of e = C ∧ e.depth ≤ n ∧ ∀ r H', Same H H' → ToldE K H' e r → Q r H'
def spWords (c : EC) (n : Nat) (C : Addr) : Sp := fun vs H Q _ => ∃ (e : Ex) (v : V), vs = [v] ∧ ObjE c H e v ∧ c.of e = C ∧ e.depth ≤ n ∧ e.Wf ∧ e.parts ≤ 1000 ∧ ∀ H', Same H H' → Q (.str e.text) H'
def spParts (c : EC) (n : Nat) (C : Addr) : Sp := fun vs H Q _ => ∃ (e : Ex) (v : V), vs = [v] ∧ ObjE c H e v ∧ c.of e = C ∧ e.depth ≤ n ∧ Q (.int e.parts) H
def spExprAt (K : PySem.W.Frag) (c : EC) (N : Addr) (n : Nat) : Sp := fun vs H Q E => ∃ (a : Addr) (ws : List Str) (i d : Nat), vs = [.ref a, .int i, .int (7 - (d : Int))] ∧ SqL K H a (ws.map V.str) ∧ ws.length ≤ 100000 ∧ (∀ s ∈ ws, s.length ≤ 100000) ∧ d < n ∧ d ≤ 7 ∧
  (∀ e r, parseE d (ws.drop i) = some (e, r) → ∀ t H' v, Same H H' → H' t = some (.tup [v, .int ((ws.length - r.length : Nat) : Int)]) → ObjE c H' e v → Q (.ref t) H') ∧
  (parseE d (ws.drop i) = none → ∀ H', Same H H' → E (.ref N) none H')
inductive AllE (c : EC) (H : Hp) : List Ex → List V → Prop where
  | nil : AllE c H [] []
  | cons {e : Ex} {v : V} {es : List Ex} {vs : List V} : ObjE c H e v → AllE c H es vs → AllE c H (e :: es) (v :: vs)
theorem AllE.same {c : EC} {H H' : Hp} (s : Same H H') : ∀ {es : List Ex} {vs : List V}, AllE c H es vs → AllE c H' es vs
  | _, _, .nil => .nil
  | _, _, .cons a b => .cons (a.same s) (b.same s)
theorem AllE.snoc {c : EC} {H : Hp} {e : Ex} {v : V} (h : ObjE c H e v) : ∀ {es : List Ex} {vs : List V}, AllE c H es vs → AllE c H (es ++ [e]) (vs ++ [v])
  | _, _, .nil => .cons h .nil
  | _, _, .cons a b => .cons a (b.snoc h)
theorem AllE.length {c : EC} {H : Hp} : ∀ {es : List Ex} {vs : List V}, AllE c H es vs → es.length = vs.length
  | _, _, .nil => rfl
  | _, _, .cons _ b => congrArg (· + 1) b.length
def spExprs (K : PySem.W.Frag) (c : EC) (N : Addr) : Sp := fun vs H Q E => ∃ (a : Addr) (ws : List Str), vs = [.ref a] ∧ SqL K H a (ws.map V.str) ∧ ws.length ≤ 100000 ∧ (∀ s ∈ ws, s.length ≤ 100000) ∧
  (∀ es, parseAll ws.length ws = some es → ∀ l H' os, Same H H' → H l = none → H' l = some (.lst os) → AllE c H' es os → Q (.ref l) H') ∧ (parseAll ws.length ws = none → ∀ H', Same H H' → E (.ref N) none H')
def spReadE (c : EC) (N : Addr) : Sp := fun vs H Q E => ∃ (s : Str), vs = [.str s] ∧ s.length ≤ 99999 ∧
  (∀ e, parseAll (Txt.split s " ").length (Txt.split s " ") = some [e] → ∀ v H', Same H H' → ObjE c H' e v → Q v H') ∧
  ((∀ e, parseAll (Txt.split s " ").length (Txt.split s " ") ≠ some [e]) → ∀ H', Same H H' → E (.ref N) none H')
def spReadAny (K : PySem.W.Frag) (c : EC) (N : Addr) : Sp := fun vs H Q E => ∃ x : V, vs = [x] ∧ ((∃ (s : Str), x = .str s ∧ s.length ≤ 99999 ∧
  (∀ e, parseAll (Txt.split s " ").length (Txt.split s " ") = some [e] → ∀ v H', Same H H' → ObjE c H' e v → Q v H') ∧
  ((∀ e, parseAll (Txt.split s " ").length (Txt.split s " ") ≠ some [e]) → ∀ H', Same H H' → E (.ref N) none H')) ∨
  (∃ t, TyX K H x t ∧ PySem.W.kitOne K t (.type "str") = some false ∧ E (.ref N) none H))

theorem valW_false1 {s : Str} (h : ¬ 1 ≤ (tl s).length ∨ ¬ (tl s).length ≤ 6) : isValW s = false := by
  unfold isValW lenOk
  rcases h with h | h
  · rw [decide_eq_false h]; rfl
  · rw [decide_eq_false h, Bool.and_false]; rfl
theorem valW_false2 {s : Str} (h : (tl s).head? = some 48) (h2 : s ≠ "0") : isValW s = false := by
  unfold isValW
  have e : ((tl s).head? == some 48) = true := by rw [h]; rfl
  rw [e, decide_eq_true h2]
  simp
theorem valW_true {s : Str} (h1 : 1 ≤ (tl s).length) (h2 : (tl s).length ≤ 6) (h3 : (tl s).head? = some 48 → s = "0") : isValW s = (tl s).all isDig := by
  unfold isValW lenOk
  rw [decide_eq_true h1, decide_eq_true h2]
  by_cases c : (tl s).head? = some 48
  · rw [h3 c, decide_eq_false (fun e => e rfl)]; simp
  · have e : ((tl s).head? == some 48) = false := beq_eq_false_iff_ne.mpr c
    rw [e]; simp
theorem nameW_false1 {s : Str} (h : ¬ 1 ≤ (tl s).length ∨ ¬ (tl s).length ≤ 6) : isNameW s = false := by
  unfold isNameW lenOk
  rcases h with h | h
  · rw [decide_eq_false h]; rfl
  · rw [decide_eq_false h, Bool.and_false]; rfl
theorem nameW_false2 {s : Str} (h : s ∈ PAIRW ∨ s ∈ ROWW ∨ s ∈ OTHW) : isNameW s = false := by
  unfold isNameW
  have e : (decide (s ∈ PAIRW) || (decide (s ∈ ROWW) || decide (s ∈ OTHW))) = true := by
    rcases h with h | h | h <;> simp [h]
  rw [e]; simp
theorem nameW_true {s : Str} (h1 : 1 ≤ (tl s).length) (h2 : (tl s).length ≤ 6) (h3 : s ∉ PAIRW) (h4 : s ∉ ROWW) (h5 : s ∉ OTHW) : isNameW s = (tl s).all isLow := by
  unfold isNameW lenOk
  rw [decide_eq_true h1, decide_eq_true h2, decide_eq_false h3, decide_eq_false h4, decide_eq_false h5]; simp
theorem len_line {s : Str} (h : s.length ≤ 100000) : s.length ≤ sizeLine := Nat.le_trans h (by decide)

theorem log_small {n : Nat} (h : n < 2 ^ 20) : n.log2 < 1920 := by
  by_cases h0 : n = 0
  · subst h0; decide
  · exact Nat.lt_of_lt_of_le ((Nat.log2_lt h0).mpr h) (by decide)

theorem while_m {c : TT} {tb : TS} {D : Ends} {σ : St} {H : Hp} (Pv : Nat → St → Hp → Prop) (m0 : Nat) (h0 : Pv m0 σ H)
    (hs : ∀ m σ H, Pv m σ H → c σ H fun b H1 => if b = true then ∃ N : St → Hp → Prop, (∀ σ' H', N σ' H' → ∃ m', m' < m ∧ Pv m' σ' H') ∧ tb { D with nx := N, ct := N, bk := D.nx } σ H1 else D.nx σ H1) : tWhile c tb D σ H := ⟨Pv, ⟨m0, h0⟩, hs⟩
theorem made_same {H : Hp} {x dx : Addr} {o o1 o2 : HO} (hx : H x = none) (hd : H dx = none) : Same H (upd (upd (upd H dx o) x o1) x o2) := fun b u e => by
  have n1 : b ≠ x := ne_of_none e hx
  rw [upd_ne n1, upd_ne n1, upd_ne (ne_of_none e hd)]
  exact e
theorem mk_init {C : Addr} {f : Str} {H : Hp} {v : V} {Q : Hp → Prop} {E : XK} {x dx : Addr} (hx : H x = none) (hd : H dx = none) (k : ∀ H', Same H H' → H' x = some (.ins C dx [(f, v)]) → Q H') :
    spInit1 C f [.ref x, v] (upd (upd H dx (.own x)) x (.ins C dx [])) (fun v H2 => v = .non ∧ Q H2) E :=
  ⟨x, dx, v, rfl, upd_same, rfl, k _ (made_same hx hd) upd_same⟩
theorem mk_two {C : Addr} {H : Hp} {wd : Str} {a b : V} {Q : Hp → Prop} {E : XK} {x dx : Addr} (hx : H x = none) (hd : H dx = none) (k : ∀ H', Same H H' → H' x = some (.ins C dx (fTwo wd a b)) → Q H') :
    spTwoI C [.ref x, .str wd, a, b] (upd (upd H dx (.own x)) x (.ins C dx [])) (fun v H2 => v = .non ∧ Q H2) E :=
  ⟨x, dx, wd, a, b, rfl, upd_same, rfl, k _ (made_same hx hd) upd_same⟩
theorem parse_len {d : Nat} {ws : List Str} {e : Ex} {r : List Str} (h : parseE d ws = some (e, r)) : r.length < ws.length ∧ ws.drop (ws.length - r.length) = r := by
  obtain ⟨_, _, h3⟩ := parse_wf h
  have n1 := e.toks_len
  have n2 := e.parts_pos
  have hl : ws.length = e.toks.length + r.length := by rw [h3, List.length_append]
  refine ⟨by omega, ?_⟩
  have e1 : ws.length - r.length = e.toks.length := by omega
  rw [e1, h3, List.drop_left]
theorem parse_at {d i : Nat} {ws : List Str} {e : Ex} {r : List Str} (h : parseE d (ws.drop i) = some (e, r)) : i < ws.length - r.length ∧ ws.length - r.length ≤ ws.length ∧ ws.drop (ws.length - r.length) = r := by
  obtain ⟨_, _, h3⟩ := parse_wf h
  have n1 := e.toks_len
  have n2 := e.parts_pos
  have hl : (ws.drop i).length = e.toks.length + r.length := by rw [h3, List.length_append]
  rw [List.length_drop] at hl
  refine ⟨by omega, Nat.sub_le _ _, ?_⟩
  have e1 : ws.length - r.length = i + e.toks.length := by omega
  rw [e1, ← List.drop_drop, h3, List.drop_left]
theorem at_str {ws : List Str} {i : Nat} {s : Str} {r : List Str} (h : ws.drop i = s :: r) : i < ws.length ∧ atI (ws.map V.str) (i : Int) = some (.str s) ∧ ws.drop (i + 1) = r ∧ r.length = ws.length - (i + 1) ∧ s ∈ ws := by
  have hl : (ws.drop i).length = r.length + 1 := by rw [h]; rfl
  rw [List.length_drop] at hl
  have hi : i < ws.length := by omega
  have e1 : ws.drop i = ws[i] :: ws.drop (i + 1) := List.drop_eq_getElem_cons hi
  rw [h, List.cons.injEq] at e1
  refine ⟨hi, atI_nat (by rw [List.getElem?_map, List.getElem?_eq_getElem hi, ← e1.1]; rfl), e1.2.symm, by omega, ?_⟩
  rw [e1.1]; exact List.getElem_mem hi
theorem parseE_cons {d : Nat} {w : Str} {r : List Str} : parseE (d + 1) (w :: r) = (if isValW w = true then some (.num (valOf w), r)
    else if isNameW w = true then some (.box w, r)
    else if w = "cell" then (match parseE d r with
      | none => none
      | some (e, r1) => some (.cell e, r1))
    else if w ∈ PAIRW then (match parseE d r with
      | none => none
      | some (l, r1) => (match parseE d r1 with
        | none => none
        | some (e, r2) => some (.two w l e, r2)))
    else none) := rfl
theorem parseAll_fuel : ∀ (n : Nat) (ws : List Str), ws.length ≤ n → parseAll n ws = parseAll ws.length ws := by
  intro n
  induction n using Nat.strongRecOn with
  | _ n ih =>
    intro ws h
    cases ws with
    | nil => cases n <;> rfl
    | cons x t =>
      cases n with
      | zero => simp at h
      | succ n =>
        show (match parseE 6 (x :: t) with | none => none | some (e, r) => if e.parts ≤ 15 then (match parseAll n r with | none => none | some es => some (e :: es)) else none) = parseAll (t.length + 1) (x :: t)
        show _ = (match parseE 6 (x :: t) with | none => none | some (e, r) => if e.parts ≤ 15 then (match parseAll t.length r with | none => none | some es => some (e :: es)) else none)
        cases q : parseE 6 (x :: t) with
        | none => rfl
        | some p =>
          obtain ⟨e, r⟩ := p
          have hr := (parse_len q).1
          have hr' : r.length < t.length + 1 := hr
          have ht : t.length + 1 ≤ n + 1 := h
          show (if e.parts ≤ 15 then (match parseAll n r with | none => none | some es => some (e :: es)) else none) = (if e.parts ≤ 15 then (match parseAll t.length r with | none => none | some es => some (e :: es)) else none)
          rw [ih n (by omega) r (by omega)]
          by_cases c : t.length = n
          · rw [c, ih n (by omega) r (by omega)]
          · rw [ih t.length (by omega) r (by omega)]
/-- the words from here on, in one step -/
theorem parseAll_step {x : Str} {t : List Str} : parseAll (x :: t).length (x :: t) = (match parseE 6 (x :: t) with | none => none | some (e, r) => if e.parts ≤ 15 then (match parseAll r.length r with | none => none | some es => some (e :: es)) else none) := by
  show (match parseE 6 (x :: t) with | none => none | some (e, r) => if e.parts ≤ 15 then (match parseAll t.length r with | none => none | some es => some (e :: es)) else none) = _
  cases q : parseE 6 (x :: t) with
  | none => rfl
  | some p =>
    obtain ⟨e, r⟩ := p
    have hr := (parse_len q).1
    have hr' : r.length < t.length + 1 := hr
    show (if e.parts ≤ 15 then (match parseAll t.length r with | none => none | some es => some (e :: es)) else none) = (if e.parts ≤ 15 then (match parseAll r.length r with | none => none | some es => some (e :: es)) else none)
    rw [parseAll_fuel t.length r (by omega)]
def after (es : List Ex) : Option (List Ex) → Option (List Ex)
  | none => none
  | some fs => some (es ++ fs)

theorem objE_upd {c : EC} {H : Hp} {l : Addr} {xs ys : List V} (h : H l = some (.lst xs)) : ∀ {e : Ex} {v : V}, ObjE c H e v → ObjE c (upd H l (.lst ys)) e v
  | .num n, v, ⟨p, dx, h1, h2⟩ => ⟨p, dx, h1, by rw [upd_ne (ne_of h2 h (by intro z; cases z))]; exact h2⟩
  | .box n, v, ⟨p, dx, h1, h2⟩ => ⟨p, dx, h1, by rw [upd_ne (ne_of h2 h (by intro z; cases z))]; exact h2⟩
  | .cell e, v, ⟨p, dx, i, h1, h2, h3⟩ => ⟨p, dx, i, h1, by rw [upd_ne (ne_of h2 h (by intro z; cases z))]; exact h2, objE_upd h h3⟩
  | .two w l r, v, ⟨p, dx, a, b, h1, h2, h3, h4⟩ => ⟨p, dx, a, b, h1, by rw [upd_ne (ne_of h2 h (by intro z; cases z))]; exact h2, objE_upd h h3, objE_upd h h4⟩
theorem allE_upd {c : EC} {H : Hp} {l : Addr} {xs ys : List V} (h : H l = some (.lst xs)) : ∀ {es : List Ex} {vs : List V}, AllE c H es vs → AllE c (upd H l (.lst ys)) es vs
  | _, _, .nil => .nil
  | _, _, .cons a b => .cons (objE_upd h a) (allE_upd h b)
theorem allE_snoc_upd {c : EC} {H : Hp} {l : Addr} {xs ys : List V} {e : Ex} {v : V} {es : List Ex} {vs : List V} (h : H l = some (.lst xs)) (a : AllE c H es vs) (o : ObjE c H e v) : AllE c (upd H l (.lst ys)) (es ++ [e]) (vs ++ [v]) := (allE_upd h a).snoc (objE_upd h o)

theorem joinL_len : ∀ L : List (List Nat), L.length ≤ (joinL [32] L).length + 1 ∧ ∀ p ∈ L, p.length ≤ (joinL [32] L).length
  | [] => ⟨Nat.zero_le _, fun _ h => by cases h⟩
  | [x] => ⟨by simp, fun p h => by rw [List.mem_singleton.mp h]; exact Nat.le_refl _⟩
  | x :: y :: r => by
    have ih := joinL_len (y :: r)
    have e : joinL [32] (x :: y :: r) = x ++ ([32] ++ joinL [32] (y :: r)) := rfl
    rw [e, List.length_append, List.length_append]
    refine ⟨by have := ih.1; simp only [List.length_cons, List.length_nil] at this ⊢; omega, fun p h => ?_⟩
    rcases List.mem_cons.mp h with rfl | h
    · omega
    · have := ih.2 p h; omega
theorem split_small {s : Str} (h : s.length ≤ 100000 - 1) : (Txt.split s " ").length ≤ 100000 ∧ ∀ p ∈ Txt.split s " ", p.length ≤ 100000 := by
  have e := PySem.StrLaws.join_split s (Str.ofString " ")
  have e2 := congrArg tl e
  have b : tl (Str.ofString " ") = [32] := by decide +kernel
  rw [tl_join, b] at e2
  have q := joinL_len ((Txt.split s (Str.ofString " ")).map tl)
  rw [e2, List.length_map, ← len_tl s] at q
  refine ⟨by have := q.1; omega, fun p hp => ?_⟩
  have := q.2 (tl p) (List.mem_map.mpr ⟨p, hp, rfl⟩)
  rw [← len_tl p] at this
  omega

/-- all([sign in F for sign in s]) -/
theorem rd_all {K : PySem.W.Frag} {σ : St} {H : Hp} {s F : Str} {f : Nat → Bool} {Q : VK} {i j : Nat} (hi : σ[i]? = some (some (.str s))) (hj : j < σ.length) (hn : j ≠ i) (hl : s.length ≤ 16000000) (hf : ∀ c, decide (c ∈ F.cps.toList) = f c)
    (q : ∀ H', Same H H' → Q (.bl ((tl s).all f)) H') :
    tCB (rAll K) (tCons (tLc (iStr (tVar i)) (gName j) tYes (tOp (fun x y H Q => ∃ (c : Nat) (z : Str), x = .str ⟨#[c]⟩ ∧ y = .str z ∧ Q (.bl (decide (c ∈ z.cps.toList))) H) (tVar j) (tC (.str F))) [j]) tNil) σ H Q := by
  refine ⟨_, hi, s, rfl, fun D hD => lc_it walk_str (fun k H' => H' D = some (.lst ((((tl s).take k).map f).map V.bl)) ∧ Same H H') ⟨by rw [upd_same]; rfl, same_new hD⟩ (fun _ _ _ _ => trivial) ?_ ?_⟩
  · rintro k x H1 H2 hk ⟨h1, h2⟩ ⟨rfl, c, hc, rfl⟩
    have hjl : (wipe σ [j]).length = σ.length := wipe_length _ _
    refine ⟨by show ((σ.set j none).set j _).set j none = _; simp [wipe], ?_⟩
    refine ⟨_, by rw [List.getElem?_set_self (by rw [hjl]; exact hj)], c, F, rfl, rfl, ?_⟩
    have hs : k < (tl s).length := by
      have : s.cps.size = (tl s).length := by simp [tl]
      omega
    refine ⟨_, h1, ?_, ?_⟩
    · rw [List.length_map, List.length_map]
      have : s.length = (tl s).length := len_tl s
      refine Nat.lt_of_le_of_lt (List.length_take_le _ _) (by show k < 16777216; omega)
    · refine ⟨?_, fun b o e => ?_⟩
      · rw [upd_same]
        have e1 : (tl s)[k]? = some c := by rw [← hc]; simp [tl]
        rw [List.take_add_one, e1, hf c]
        simp
      · rw [upd_ne (ne_of_none e hD)]
        exact h2 b o e
  · rintro H' ⟨h1, h2⟩
    have hs : s.cps.size = (tl s).length := by simp [tl]
    rw [hs, List.take_length] at h1
    refine ⟨D, _, rfl, SqL.of h1, ?_⟩
    have e : ((tl s).map f).all id = (tl s).all f := by rw [List.all_map]; rfl
    rw [e]
    exact q H' h2

def spCell (K : PySem.W.Frag) : Sp := fun vs H Q _ => ∃ (a : Addr) (ns : List Int) (k : Int), vs = [.ref a, .int k] ∧ SqL K H a (ns.map V.int) ∧ 0 ≤ k ∧ ∀ n : Int, Q (.int n) H
/-- two ints go in, some int comes out -/
def spI2 : Sp := fun vs H Q _ => ∃ (a b : Int), vs = [.int a, .int b] ∧ ∀ n : Int, Q (.int n) H
def WellAt (H : Hp) (p : Addr) : Prop := ∃ a b c d : Int, H p = some (.lst [.int a, .int b, .int c, .int d])
def spWell (K : PySem.W.Frag) : Sp := fun vs H Q _ => ∃ (a : Addr) (ns : List Int) (k : Int), vs = [.ref a, .int k] ∧ SqL K H a (ns.map V.int) ∧ 0 ≤ k ∧ ∀ p H', H p = none → Same H H' → WellAt H' p → Q (.ref p) H'
def spDraw : Sp := fun vs H Q _ => ∃ (p : Addr) (m : Int), vs = [.ref p, .int m] ∧ WellAt H p ∧ 0 < m ∧ m ≤ 1000000 ∧ ∀ (n : Int) H', 0 ≤ n → n < m → KeepX p H H' → WellAt H' p → Q (.int n) H'
theorem at_int {ns : List Int} {k : Int} (h0 : 0 ≤ k) (h : k < (ns.length : Int)) : ∃ v : Int, atI (ns.map V.int) k = some (.int v) := by
  have hk : k.toNat < ns.length := by omega
  have ek : k = ((k.toNat : Nat) : Int) := by omega
  have q : atI (ns.map V.int) ((k.toNat : Nat) : Int) = some (.int ns[k.toNat]) := atI_nat (by rw [List.getElem?_map, List.getElem?_eq_getElem hk] <;> rfl)
  rw [← ek] at q
  exact ⟨_, q⟩
theorem mod64 {x y : Int} : CMul (x % 2147483647) y := Or.inl ⟨by omega, by omega⟩
theorem WellAt.ne {H : Hp} {p t : Addr} (W : WellAt H p) {o : HO} (h : H t = some o) (no : ∀ xs, o ≠ .lst xs) : t ≠ p := fun e => by
  obtain ⟨a, b, c, d, w⟩ := W
  rw [e, w] at h
  exact no _ (Option.some.inj h).symm
theorem KeepX.tup {p : Addr} {H H' : Hp} (k : KeepX p H H') (W : WellAt H p) {t : Addr} {xs : List V} (h : H t = some (.tup xs)) : H' t = some (.tup xs) := k _ _ (W.ne h (by intro _ e; cases e)) h
theorem WellAt.fresh {H : Hp} {p q : Addr} (W : WellAt H p) (h : H q = none) : q ≠ p := fun e => by
  obtain ⟨_, _, _, _, w⟩ := W
  rw [← e, h] at w; cases w
theorem WellAt.same {H H' : Hp} {p : Addr} (s : Same H H') : WellAt H p → WellAt H' p := fun ⟨a, b, c, d, w⟩ => ⟨a, b, c, d, s _ _ w⟩
/-- f i for all i below n -/
def seqV (f : Nat → V) (n : Nat) : List V := (List.range n).map f
theorem seqV_succ (f : Nat → V) (n : Nat) : seqV f (n + 1) = seqV f n ++ [f n] := by
  unfold seqV
  rw [List.range_succ, List.map_append]; rfl
theorem seqV_length (f : Nat → V) (n : Nat) : (seqV f n).length = n := by unfold seqV; rw [List.length_map, List.length_range]
/-- [e(x) for x in w]: each e gives a value that is known ahead -/
theorem lc_map {J : It} {n : Nat} {G : Hp → Prop} {Y : Nat → Hp → V → Hp → Prop} (w : Walk J n G Y) (f : Nat → V) {j : Nat} {te : TE} {σ : St} {H1 : Hp} {D : Addr} {Qd : Hp → Prop} (hD : H1 D = none) (hn : n < 16777216) (hj : j < σ.length)
    (hG : ∀ H, Same H1 H → G H) (hY : ∀ i H x H', Y i H x H' → H' = H)
    (step : ∀ i x H (Z : VK), i < n → Same H1 H → Y i H x H → (∀ H', Same H H' → Z (f i) H') → te ((σ.set j none).set j (some x)) H Z)
    (hd : ∀ H, Same H1 H → H D = some (.lst (seqV f n)) → Qd H) :
    ∃ W : Nat → Nat → Hp → Prop, (∃ m, W 0 m (upd H1 D (.lst []))) ∧ ∀ i m H, W i m H →
      (J.stop i H ∧ Qd H) ∨ (J.go i H ∧ ∃ Nx : Hp → Prop, (∀ H', Nx H' → ∃ m', m' < m ∧ W (i + 1) m' H') ∧ ∀ x H', J.yld i H x H' → gName j x (wipe σ [j]) H' fun σ2 H2 => wipe σ2 [j] = wipe σ [j] ∧ tYes σ2 H2 fun b H3 =>
        if b = true then te σ2 H3 fun y H4 => ∃ acc, H4 D = some (.lst acc) ∧ acc.length < sizeLine ∧ Nx (upd H4 D (.lst (acc ++ [y]))) else Nx H3) := by
  refine lc_it w (fun i H => H D = some (.lst (seqV f i)) ∧ Same H1 H) ⟨upd_same, same_new hD⟩ (fun i H _ h => hG H h.2) ?_ fun H h => hd H h.2 h.1
  rintro i x H H2 hi ⟨h1, h2⟩ y
  have e := hY _ _ _ _ y
  subst e
  have hw : wipe ((wipe σ [j]).set j (some x)) [j] = wipe σ [j] := by
    show ((σ.set j none).set j (some x)).set j none = σ.set j none
    simp
  refine ⟨hw, ?_⟩
  refine step i x _ _ hi h2 y fun H3 s3 => ⟨_, s3 _ _ h1, ?_, ?_⟩
  · rw [seqV_length]; exact Nat.lt_of_lt_of_le (Nat.lt_trans hi hn) (by decide)
  · refine ⟨by rw [upd_same, seqV_succ], fun b o hb => ?_⟩
    rw [upd_ne (ne_of_none hb hD)]
    exact s3 _ _ (h2 b o hb)
theorem at_strs {ss : List Str} {n : Int} (h0 : 0 ≤ n) (h1 : n < (ss.length : Int)) : ∃ s ∈ ss, atI (ss.map V.str) n = some (.str s) := by
  have hk : n.toNat < ss.length := by omega
  have ek : n = ((n.toNat : Nat) : Int) := by omega
  have q : atI (ss.map V.str) ((n.toNat : Nat) : Int) = some (.str ss[n.toNat]) := atI_nat (by rw [List.getElem?_map, List.getElem?_eq_getElem hk] <;> rfl)
  rw [← ek] at q
  exact ⟨_, List.getElem_mem hk, q⟩
/-- one proof for a goal that is asked more than once -/
theorem twice_asked {A B : Prop} (b : B) (f : B → A) : A := f b
def spValue : Sp := fun vs H Q _ => ∃ (p : Addr), vs = [.ref p] ∧ WellAt H p ∧ ∀ (n : Int) H', 0 ≤ n → n < 1000000 → KeepX p H H' → WellAt H' p → Q (.int n) H'
def spName : Sp := fun vs H Q _ => ∃ (p : Addr), vs = [.ref p] ∧ WellAt H p ∧ ∀ (s : Str) H', isNameW s = true → KeepX p H H' → WellAt H' p → Q (.str s) H'

/-! ### lists that go together -/
inductive All2 {α β : Type} (R : α → β → Prop) : List α → List β → Prop where
  | nil : All2 R [] []
  | cons {a : α} {b : β} {as : List α} {bs : List β} : R a b → All2 R as bs → All2 R (a :: as) (b :: bs)
theorem All2.length {α β : Type} {R : α → β → Prop} : ∀ {as : List α} {bs : List β}, All2 R as bs → as.length = bs.length
  | _, _, .nil => rfl
  | _, _, .cons _ h => congrArg (· + 1) h.length
theorem All2.mono {α β : Type} {R S : α → β → Prop} (f : ∀ a b, R a b → S a b) : ∀ {as : List α} {bs : List β}, All2 R as bs → All2 S as bs
  | _, _, .nil => .nil
  | _, _, .cons h t => .cons (f _ _ h) (t.mono f)
theorem All2.mono_mem {α β : Type} {R S : α → β → Prop} : ∀ {as : List α} {bs : List β}, (∀ a b, a ∈ as → b ∈ bs → R a b → S a b) → All2 R as bs → All2 S as bs
  | _, _, _, .nil => .nil
  | _, _, f, .cons h t => .cons (f _ _ List.mem_cons_self List.mem_cons_self h) (t.mono_mem fun a b ha hb => f a b (List.mem_cons_of_mem _ ha) (List.mem_cons_of_mem _ hb))
theorem All2.snoc {α β : Type} {R : α → β → Prop} {a : α} {b : β} (h : R a b) : ∀ {as : List α} {bs : List β}, All2 R as bs → All2 R (as ++ [a]) (bs ++ [b])
  | _, _, .nil => .cons h .nil
  | _, _, .cons g t => .cons g (t.snoc h)
theorem All2.at {α β : Type} {R : α → β → Prop} : ∀ {as : List α} {bs : List β} {i : Nat} {b : β}, All2 R as bs → bs[i]? = some b → ∃ a, as[i]? = some a ∧ R a b
  | _, _, 0, _, .cons h _, e => ⟨_, rfl, by cases e; exact h⟩
  | _, _, i + 1, _, .cons _ t, e => t.at (i := i) e
  | _, _, _, _, .nil, e => by simp at e
theorem All2.at2 {α β : Type} {R : α → β → Prop} : ∀ {as : List α} {bs : List β} {i : Nat} {a : α}, All2 R as bs → as[i]? = some a → ∃ b, bs[i]? = some b ∧ R a b
  | _, _, 0, _, .cons h _, e => ⟨_, rfl, by cases e; exact h⟩
  | _, _, i + 1, _, .cons _ t, e => t.at2 (i := i) e
  | _, _, _, _, .nil, e => by simp at e
theorem ints_of : ∀ {ys : List V} {P : Int → Prop}, (∀ y ∈ ys, ∃ n, y = V.int n ∧ P n) → ∃ ns : List Int, ys = ns.map V.int ∧ (∀ n ∈ ns, P n) ∧ ns.length = ys.length
  | [], _, _ => ⟨[], rfl, (fun _ h => by cases h), rfl⟩
  | y :: r, P, h => by
    obtain ⟨n, e, hn⟩ := h y List.mem_cons_self
    obtain ⟨ns, e2, hs, hl⟩ := ints_of (ys := r) fun z hz => h z (List.mem_cons_of_mem _ hz)
    refine ⟨n :: ns, by rw [e, e2]; rfl, fun z hz => ?_, congrArg (· + 1) hl⟩
    rcases List.mem_cons.mp hz with rfl | hz
    · exact hn
    · exact hs z hz
theorem strs_of : ∀ {ys : List V} {P : Str → Prop}, (∀ y ∈ ys, ∃ n, y = V.str n ∧ P n) → ∃ ns : List Str, ys = ns.map V.str ∧ (∀ n ∈ ns, P n) ∧ ns.length = ys.length
  | [], _, _ => ⟨[], rfl, (fun _ h => by cases h), rfl⟩
  | y :: r, P, h => by
    obtain ⟨n, e, hn⟩ := h y List.mem_cons_self
    obtain ⟨ns, e2, hs, hl⟩ := strs_of (ys := r) fun z hz => h z (List.mem_cons_of_mem _ hz)
    refine ⟨n :: ns, by rw [e, e2]; rfl, fun z hz => ?_, congrArg (· + 1) hl⟩
    rcases List.mem_cons.mp hz with rfl | hz
    · exact hn
    · exact hs z hz
/-- where a list may go on being written: nothing else moves -/
def LcGoal (J : It) (D : Addr) (te : TE) (j : Nat) (σ : St) (H1 : Hp) (Qd : Hp → Prop) : Prop :=
    ∃ W : Nat → Nat → Hp → Prop, (∃ m, W 0 m (upd H1 D (.lst []))) ∧ ∀ i m H, W i m H →
      (J.stop i H ∧ Qd H) ∨ (J.go i H ∧ ∃ Nx : Hp → Prop, (∀ H', Nx H' → ∃ m', m' < m ∧ W (i + 1) m' H') ∧ ∀ x H', J.yld i H x H' → gName j x (wipe σ [j]) H' fun σ2 H2 => wipe σ2 [j] = wipe σ [j] ∧ tYes σ2 H2 fun b H3 =>
        if b = true then te σ2 H3 fun y H4 => ∃ acc, H4 D = some (.lst acc) ∧ acc.length < sizeLine ∧ Nx (upd H4 D (.lst (acc ++ [y]))) else Nx H3)
theorem seqV_map {α : Type} (f : α → V) (d : α) (xs : List α) : seqV (fun i => f (xs.getD i d)) xs.length = xs.map f := by
  unfold seqV
  refine List.ext_getElem (by rw [List.length_map, List.length_map, List.length_range]) fun i h1 h2 => ?_
  rw [List.getElem_map, List.getElem_map, List.getElem_range]
  have : i < xs.length := by rw [List.length_map] at h2; exact h2
  rw [List.getD_eq_getElem?_getD, List.getElem?_eq_getElem this]
  rfl
/-- [f(x) for x in xs], known ahead -/
theorem lc_mapA {α : Type} (xs : List α) (g f : α → V) (d : α) {J : It} {G : Hp → Prop} {j : Nat} {te : TE} {σ : St} {H1 : Hp} {D : Addr} {Qd : Hp → Prop} (w : Walk J (xs.map g).length G (YAt (xs.map g))) (hD : H1 D = none) (hn : xs.length < 16777216) (hj : j < σ.length)
    (hG : ∀ H, Same H1 H → G H)
    (step : ∀ a ∈ xs, ∀ H (Z : VK), Same H1 H → (∀ H', Same H H' → Z (f a) H') → te ((σ.set j none).set j (some (g a))) H Z)
    (hd : ∀ H, Same H1 H → H D = some (.lst (xs.map f)) → Qd H) : LcGoal J D te j σ H1 Qd := by
  refine lc_map w (fun i => f (xs.getD i d)) hD (by rw [List.length_map]; exact hn) hj hG (fun _ _ _ _ y => y.1) ?_ fun H s h => hd H s ?_
  · rintro i x H Z hi s ⟨_, hx⟩ z
    rw [List.length_map] at hi
    have e : xs[i]? = some (xs.getD i d) := by rw [List.getD_eq_getElem?_getD, List.getElem?_eq_getElem hi]; rfl
    rw [List.getElem?_map, e] at hx
    cases hx
    exact step _ (List.mem_of_getElem? e) H Z s z
  · rw [h, List.length_map, seqV_map]
/-- [e for x in xs]: what each gives stands in R to its x -/
theorem lc_rel {H1 : Hp} {D : Addr} {α : Type} (xs : List α) {β : α → V → Prop} (R : Hp → α → V → Prop) {ws : List V} (hw : All2 β xs ws) (mono : ∀ H H' a y, Same H H' → R H a y → R H' a y) (lst : ∀ H a y ys ys', R H a y → H D = some (.lst ys) → R (upd H D (.lst ys')) a y) {J : It} {G : Hp → Prop} {j : Nat} {te : TE} {σ : St} {Qd : Hp → Prop} (w : Walk J ws.length G (YAt ws)) (hD : H1 D = none) (hn : xs.length < 16777216) (hj : j < σ.length)
    (hG : ∀ H, Same H1 H → G H)
    (step : ∀ a v, a ∈ xs → v ∈ ws → β a v → ∀ H (Z : VK), Same H1 H → (∃ ys, H D = some (.lst ys)) → (∀ H' y, Same H H' → R H' a y → Z y H') → te ((σ.set j none).set j (some v)) H Z)
    (hd : ∀ H ys, Same H1 H → All2 (R H) xs ys → H D = some (.lst ys) → Qd H) : LcGoal J D te j σ H1 Qd := by
  refine lc_it w (fun i H => ∃ ys, H D = some (.lst ys) ∧ Same H1 H ∧ All2 (R H) (xs.take i) ys) ⟨[], upd_same, same_new hD, by rw [List.take_zero]; exact .nil⟩ (fun i H _ h => hG H h.choose_spec.2.1) ?_ fun H ⟨ys, h1, h2, h3⟩ => hd H ys h2 (by rw [← hw.length, List.take_length] at h3; exact h3) h1
  rintro i v H H2 hi ⟨ys, h1, h2, h3⟩ ⟨e, hv⟩
  subst e
  have hw2 : wipe ((wipe σ [j]).set j (some v)) [j] = wipe σ [j] := by
    show ((σ.set j none).set j (some v)).set j none = σ.set j none
    simp
  refine ⟨hw2, ?_⟩
  obtain ⟨a, ha, hb⟩ := hw.at hv
  have hl := h3.length
  have hi' : i < xs.length := by rw [hw.length]; exact hi
  rw [List.length_take] at hl
  refine step a v (List.mem_of_getElem? ha) (List.mem_of_getElem? hv) hb _ _ h2 ⟨ys, h1⟩ fun H3 y s3 r3 => ⟨ys, s3 _ _ h1, ?_, ?_⟩
  · exact Nat.lt_of_lt_of_le (show ys.length < 16777216 by omega) (by decide)
  · refine ⟨ys ++ [y], upd_same, fun b o hb => ?_, ?_⟩
    · rw [upd_ne (ne_of_none hb hD)]
      exact s3 _ _ (h2 b o hb)
    · rw [List.take_add_one, ha]
      show All2 _ (xs.take i ++ [a]) _
      exact (h3.mono fun a' y' h => lst _ _ _ _ _ (mono _ _ _ _ s3 h) (s3 _ _ h1)).snoc (lst _ _ _ _ _ r3 (s3 _ _ h1))
/-- [e for k in ..], each e drawn at the well p: what each gives is P -/
theorem lc_drawn {J : It} {n : Nat} {G : Hp → Prop} {Y : Nat → Hp → V → Hp → Prop} (w : Walk J n G Y) (P : V → Prop) {p : Addr} {j : Nat} {te : TE} {σ : St} {H1 : Hp} {D : Addr} {Qd : Hp → Prop} (W : WellAt H1 p) (hD : H1 D = none) (hn : n < 16777216) (hj : j < σ.length)
    (hG : ∀ H, G H) (hY : ∀ i H x H', Y i H x H' → H' = H)
    (step : ∀ i x H (Z : VK), i < n → KeepX p H1 H → WellAt H p → Y i H x H → (∀ H' y, KeepX p H H' → WellAt H' p → P y → Z y H') → te ((σ.set j none).set j (some x)) H Z)
    (hd : ∀ H ys, KeepX p H1 H → WellAt H p → ys.length = n → (∀ y ∈ ys, P y) → H D = some (.lst ys) → Qd H) : LcGoal J D te j σ H1 Qd := by
  have npD : D ≠ p := fun e => by obtain ⟨_, _, _, _, w⟩ := W; rw [← e, hD] at w; cases w
  refine lc_it w (fun i H => ∃ ys, H D = some (.lst ys) ∧ KeepX p H1 H ∧ WellAt H p ∧ ys.length = i ∧ ∀ y ∈ ys, P y) ⟨[], upd_same, keepX_of (same_new hD), W.same (same_new hD), rfl, fun _ h => by cases h⟩ (fun i H _ _ => hG H) ?_ fun H ⟨ys, h1, h2, h3, h4, h5⟩ => hd H ys h2 h3 h4 h5 h1
  rintro i v H H2 hi ⟨ys, h1, h2, h3, h4, h5⟩ y
  have e := hY _ _ _ _ y
  subst e
  have hw2 : wipe ((wipe σ [j]).set j (some v)) [j] = wipe σ [j] := by
    show ((σ.set j none).set j (some v)).set j none = σ.set j none
    simp
  refine ⟨hw2, ?_⟩
  refine step i v _ _ hi h2 h3 y fun H3 z k3 W3 pz => ⟨ys, k3 _ _ npD h1, ?_, ?_⟩
  · exact Nat.lt_of_lt_of_le (show ys.length < 16777216 by omega) (by decide)
  · refine ⟨ys ++ [z], upd_same, fun b o nb hb => ?_, ?_, by rw [List.length_append, h4]; rfl, fun y hy => ?_⟩
    · rw [upd_ne (ne_of_none hb hD)]
      exact k3 _ _ nb (h2 b o nb hb)
    · obtain ⟨a, b, c, d, w⟩ := W3
      exact ⟨a, b, c, d, by rw [upd_ne npD.symm]; exact w⟩
    · rcases List.mem_append.mp hy with h | h
      · exact h5 y h
      · rw [List.mem_singleton.mp h]; exact pz

def SOMEN : List Str := ["a", "b", "i", "zz", "iff", "en", "cells", "giver", "mainly", "lesss", "sets", "whil"]
def BAD1 : List Str := ["if", "end", "ask", "set", "put", "fun", "main", "else", "skip", "draw", "tell", "call", "give"]
def BAD2 : List Str := ["cell", "plus", "over", "rest", "less", "same", "while", "minus", "times"]
theorem someN_ok : ∀ s ∈ SOMEN, isNameW s = true := by decide +kernel
theorem bad1_ok : ∀ s ∈ BAD1, isNameW (s ++ Str.ofString "x") = true ∧ s.length ≤ 6 := by decide +kernel
theorem bad2_ok : ∀ s ∈ BAD2, isNameW (Str.ofString "x" ++ s) = true ∧ s.length ≤ 6 := by decide +kernel
theorem words_bad : ∀ s ∈ PAIRW ++ (ROWW ++ OTHW), s ∈ BAD1 ∨ s ∈ BAD2 := by decide +kernel
/-- the k-th letter -/
theorem letter_at {n : Int} (h0 : 0 ≤ n) (h1 : n < 26) : ∃ c : Nat, atI (tl (Str.ofString "abcdefghijklmnopqrstuvwxyz")) n = some c ∧ 97 ≤ c ∧ c ≤ 122 := by
  have e : tl (Str.ofString "abcdefghijklmnopqrstuvwxyz") = (List.range 26).map (97 + ·) := by decide +kernel
  have hk : n.toNat < 26 := by omega
  have ek : n = ((n.toNat : Nat) : Int) := by omega
  rw [e, ek]
  refine ⟨97 + n.toNat, atI_nat ?_, by omega, by omega⟩
  rw [List.getElem?_map, List.getElem?_range hk]
  rfl
theorem name_of {s : Str} (h1 : 1 ≤ (tl s).length) (h2 : (tl s).length ≤ 6) (h3 : ∀ c ∈ tl s, 97 ≤ c ∧ c ≤ 122) (h4 : s ∉ BAD1) (h5 : s ∉ BAD2) : isNameW s = true := by
  have no : ∀ l : List Str, (∀ x ∈ l, x ∈ PAIRW ++ (ROWW ++ OTHW)) → s ∉ l := fun l hl hs => by
    rcases words_bad s (hl s hs) with h | h
    · exact h4 h
    · exact h5 h
  rw [nameW_true h1 h2 (no _ fun x hx => List.mem_append_left _ hx) (no _ fun x hx => List.mem_append_right _ (List.mem_append_left _ hx)) (no _ fun x hx => List.mem_append_right _ (List.mem_append_right _ hx))]
  refine List.all_eq_true.mpr fun c hc => ?_
  have := h3 c hc
  unfold isLow
  simp only [Bool.and_eq_true, decide_eq_true_eq]
  exact this

/-! ### told tuples of the law -/
theorem ToldE.keep {K : PySem.W.Frag} {p : Addr} {H H' : Hp} (k : KeepX p H H') (W : WellAt H p) : ∀ {e : Ex} {v : V}, ToldE K H e v → ToldE K H' e v
  | .num n, v, ⟨t, h1, h2⟩ => ⟨t, h1, k.tup W h2⟩
  | .box n, v, ⟨t, h1, h2⟩ => ⟨t, h1, k.tup W h2⟩
  | .cell e, v, ⟨t, i, h1, h2, h3⟩ => ⟨t, i, h1, k.tup W h2, ToldE.keep k W h3⟩
  | .two w l r, v, ⟨t, a, b, h1, h2, h3, h4⟩ => ⟨t, a, b, h1, k.tup W h2, ToldE.keep k W h3, ToldE.keep k W h4⟩
theorem in_num : inV (.str "number") [.str "number", .str "box"] = true := by decide +kernel
theorem in_box : inV (.str "box") [.str "number", .str "box"] = true := by decide +kernel
theorem in_cell : inV (.str "cell") [.str "number", .str "box"] = false := by decide +kernel
theorem in_pair {w : Str} (h : w ∈ PAIRW) : inV (.str w) [.str "number", .str "box"] = false := by
  have : ∀ w ∈ PAIRW, inV (.str w) [.str "number", .str "box"] = false := by decide +kernel
  exact this w h
theorem pair_ne {w : Str} (h : w ∈ PAIRW) : w ≠ "number" ∧ w ≠ "box" ∧ w ≠ "cell" := by
  have : ∀ w ∈ PAIRW, w ≠ "number" ∧ w ≠ "box" ∧ w ≠ "cell" := by decide +kernel
  exact this w h
def rStrAny : List V → Hp → VK → Prop := fun xs H Q => (∃ i, xs = [.int i] ∧ i.natAbs.log2 < 1920 ∧ Q (.str (toString i)) H) ∨ (∃ a, xs = [.str a] ∧ Q (.str a) H)
theorem call_str_any {X : Cx} : CallR X (.type "str") rStrAny := by
  intro pins s σ H xs us Q I r h
  rcases h with h | h
  · exact call_str_int pins s σ H xs us Q I r h
  · exact SkE.call_str_str pins s σ H xs us Q I r h
theorem sizeL2 {n : Nat} (h : n ≤ 16777216) : n ≤ sizeLine := Nat.le_trans h (by decide)
def spLParts (K : PySem.W.Frag) (n : Nat) : Sp := fun vs H Q _ => ∃ (e : Ex) (v : V), vs = [v] ∧ ToldE K H e v ∧ e.Wf ∧ e.depth ≤ n ∧ ∀ H', Same H H' → Q (.int e.parts) H'
def spLWords (K : PySem.W.Frag) (n : Nat) : Sp := fun vs H Q _ => ∃ (e : Ex) (v : V), vs = [v] ∧ ToldE K H e v ∧ e.Wf ∧ e.parts ≤ 1000 ∧ e.depth ≤ n ∧ ∀ H', Same H H' → Q (.str e.text) H'
def spLExpr (K : PySem.W.Frag) (n : Nat) : Sp := fun vs H Q _ => ∃ (p : Addr) (d m : Int), vs = [.ref p, .int d, .int m] ∧ WellAt H p ∧ 1 ≤ d ∧ d ≤ n ∧ n ≤ 8 ∧ 1 ≤ m ∧ ∀ e v H', e.Wf → (e.depth : Int) ≤ d → (e.parts : Int) ≤ m → ToldE K H' e v → KeepX p H H' → WellAt H' p → Q v H'
theorem text_cell (e : Ex) : Txt.join (Str.ofString " ") [Str.ofString "cell", e.text] = (Ex.cell e).text := by
  refine ext_tl ?_
  have b : tl (Str.ofString " ") = [32] := by decide +kernel
  have c1 : tl (Str.ofString "cell ") = tl (Str.ofString "cell") ++ [32] := by decide +kernel
  show _ = tl (Str.ofString "cell " ++ e.text)
  rw [join_eq, tl_join, b, tl_append, c1, List.append_assoc]
  rfl

def MENU1 : List Str := ["", "0", "1", "00", "01", "999999", "1000000", "0999999", "-1", "1.0", "a", "abcdef", "abcdefg", "A", "a1"]
def MENU2 : List Str := ["cell", "plus", "minus", "times", "over", "rest", "less", "same", "skip", "set", "if", "main"]
def MENU3 : List Str := ["end", "give", "a_b"]
theorem menu_ok : ∀ s ∈ (MENU1 ++ MENU2) ++ MENU3, (tl s).length ≤ 7 ∧ ∀ c ∈ tl s, c < 128 := by decide +kernel
def WordOk (s : Str) : Prop := (tl s).length ≤ 7 ∧ ∀ c ∈ tl s, c < 128
def spMenu : Sp := fun vs H Q _ => ∃ (p : Addr), vs = [.ref p] ∧ WellAt H p ∧ ∀ (s : Str) H', WordOk s → KeepX p H H' → WellAt H' p → Q (.str s) H'
def spSpoiled : Sp := fun vs H Q _ => ∃ (p a : Addr) (ws : List Str), vs = [.ref p, .ref a] ∧ WellAt H p ∧ H a = some (.lst (ws.map V.str)) ∧ a ≠ p ∧ ws ≠ [] ∧ ws.length ≤ 100 ∧ (∀ s ∈ ws, WordOk s) ∧
  ∀ (b : Addr) (us : List Str) H', H' b = some (.lst (us.map V.str)) → b ≠ p → us ≠ [] → us.length ≤ ws.length + 1 → (∀ s ∈ us, WordOk s) → KeepX p H H' → WellAt H' p → Q (.ref b) H'
def Ascii (s : Str) : Prop := ∀ c ∈ tl s, c < 128
def spTruthA (f : Str → Bool) : Sp := fun vs H Q _ => ∃ s : Str, vs = [.str s] ∧ s.length ≤ 1000 ∧ Ascii s ∧ ∀ H', Same H H' → Q (.bl (f s)) H'
def spLRead (K : PySem.W.Frag) (n : Nat) : Sp := fun vs H Q _ => ∃ (a : Addr) (ws : List Str) (i : Nat), vs = [.ref a, .int i] ∧ SqL K H a (ws.map V.str) ∧ ws.length ≤ 1000 ∧ (∀ s ∈ ws, s.length ≤ 1000 ∧ Ascii s) ∧ ws.length - i < n ∧
  (∀ e r, parseE n (ws.drop i) = some (e, r) → ∀ t v H', Same H H' → H' t = some (.tup [v, .int ((ws.length - r.length : Nat) : Int), .int e.depth]) → ToldE K H' e v → Q (.ref t) H') ∧
  (parseE n (ws.drop i) = none → ∀ H', Same H H' → Q .non H')
def spDue (K : PySem.W.Frag) : Sp := fun vs H Q _ => ∃ (s : Str), vs = [.str s] ∧ s.length ≤ 156 ∧ Ascii s ∧
  (∀ e v H', parseAll (Txt.split s " ").length (Txt.split s " ") = some [e] → Same H H' → ToldE K H' e v → Q v H') ∧
  ((∀ e, parseAll (Txt.split s " ").length (Txt.split s " ") ≠ some [e]) → ∀ H', Same H H' → Q .non H')
def spFound (K : PySem.W.Frag) : Sp := fun vs H Q _ => ∃ x : V, vs = [x] ∧ ((∃ (s : Str), x = .str s ∧ s.length ≤ 99999 ∧
  (∀ e v H', parseAll (Txt.split s " ").length (Txt.split s " ") = some [e] → Same H H' → ToldE K H' e v → Q v H') ∧
  ((∀ e, parseAll (Txt.split s " ").length (Txt.split s " ") ≠ some [e]) → ∀ H', Same H H' → Q (.str "refused") H')) ∨
  (∃ t, TyX K H x t ∧ PySem.W.kitOne K t (.type "str") = some false ∧ ∀ H', Same H H' → Q (.str "refused") H'))
theorem cut_from {ws : List Str} {i : Nat} (h : i ≤ ws.length) : cutV (ws.map V.str) (some (i : Int)) none = (ws.drop i).map V.str := by
  unfold cutV
  rw [HT.sIx_nat, HT.sIx_none, List.length_map, Nat.min_eq_left h, ← List.map_drop, ← List.map_take, List.take_of_length_le (by rw [List.length_drop]; exact Nat.le_refl _)]
theorem cut_to {ws : List Str} {i : Nat} (h : i ≤ ws.length) : cutV (ws.map V.str) none (some (i : Int)) = (ws.take i).map V.str := by
  unfold cutV
  rw [HT.sIx_nat, HT.sIx_none, List.length_map, Nat.min_eq_left h, Nat.sub_zero, List.drop_zero, ← List.map_take]
theorem strOk_ascii {s : Str} (h : Ascii s) : PyData.strOk s = true := by
  unfold PyData.strOk
  rw [← Array.all_toList]
  refine List.all_eq_true.mpr fun c hc => ?_
  have := h c hc
  simp only [decide_eq_true_eq]
  omega
def signs (l : List Nat) : List V := l.map fun c => V.str ⟨#[c]⟩
theorem dp_signs {K : PySem.W.Frag} {H : Hp} : ∀ l : List Nat, DpAll K H (signs l) (l.map fun c => PyData.str ⟨#[c]⟩)
  | [] => .nil
  | c :: r => .cons (.str _) (dp_signs r)
theorem lay_signs : ∀ {l : List Nat}, (∀ c ∈ l, c < 128) → PyData.canLayAll0 (l.map fun c => PyData.str ⟨#[c]⟩) = true
  | [], _ => rfl
  | c :: r, h => by
    have h1 : PyData.strOk ⟨#[c]⟩ = true := strOk_ascii fun d hd => by
      have : d = c := List.mem_singleton.mp hd
      rw [this]; exact h c List.mem_cons_self
    show (PyData.strOk ⟨#[c]⟩ && PyData.canLayAll0 (r.map fun c => PyData.str ⟨#[c]⟩)) = true
    rw [h1, lay_signs fun d hd => h d (List.mem_cons_of_mem _ hd)]; rfl
theorem deep_signs : ∀ l : List Nat, PyData.depthAll (l.map fun c => PyData.str ⟨#[c]⟩) = 0
  | [] => rfl
  | c :: r => by show max 0 (PyData.depthAll (r.map fun c => PyData.str ⟨#[c]⟩)) = 0; rw [deep_signs r]; rfl
theorem signs_shaped {l : List Nat} (h : ∀ c ∈ l, c < 128) : SeqAt.shaped (.list (l.map fun c => PyData.str ⟨#[c]⟩)) = true := by
  show (PyData.canLayAll0 _ && decide (PyData.depthAll _ + 1 ≤ 64)) = true
  rw [lay_signs h, deep_signs]; rfl
theorem signs_eqv : ∀ l : List Nat, PyData.eqv (.list (l.map fun c => PyData.str ⟨#[c]⟩)) (.list []) = decide (l = [])
  | [] => rfl
  | c :: r => by rw [decide_eq_false (by simp)]; rfl
theorem sign_lt (a b : Nat) : [a] < [b] ↔ a < b := by
  constructor
  · intro h
    cases h with
    | rel h => exact h
    | cons h => cases h
  · exact fun h => .rel h
theorem lt_left {c n : Nat} {b : Str} (hb : b.cps.toList = [n]) : (⟨#[c]⟩ : Str).cps.toList < b.cps.toList ↔ c < n := by
  rw [hb]; exact sign_lt c n
theorem lt_right {c n : Nat} {b : Str} (hb : b.cps.toList = [n]) : b.cps.toList < (⟨#[c]⟩ : Str).cps.toList ↔ n < c := by
  rw [hb]; exact sign_lt n c
theorem filt_empty {f : Nat → Bool} (l : List Nat) : decide (l.filter (fun c => !f c) = []) = l.all f := by
  rw [Bool.eq_iff_iff, decide_eq_true_eq, List.filter_eq_nil_iff, List.all_eq_true]
  constructor
  · intro h c hc
    have := h c hc
    simp at this
    exact this
  · intro h c hc
    rw [h c hc]; simp
theorem refused_shaped : SeqAt.shaped (.str "refused") = true := by decide +kernel
theorem due_all {e : Ex} {ws : List Str} {n : Nat} (hn : ws.length < n) (h6 : 6 ≤ n) : parseAll ws.length ws = some [e] ↔ (parseE n ws = some (e, []) ∧ e.depth ≤ 6 ∧ e.parts ≤ 15) := by
  constructor
  · intro h
    cases ws with
    | nil => cases h
    | cons x t =>
      rw [parseAll_step] at h
      cases q : parseE 6 (x :: t) with
      | none => rw [q] at h; cases h
      | some p =>
        obtain ⟨e1, r⟩ := p
        rw [q] at h
        simp only at h
        by_cases c : e1.parts ≤ 15
        · rw [if_pos c] at h
          cases q2 : parseAll r.length r with
          | none => rw [q2] at h; cases h
          | some es =>
            rw [q2] at h
            have h2 : e1 :: es = [e] := Option.some.inj h
            injection h2 with h3 h4
            subst h3 h4
            have hr : r = [] := by
              cases r with
              | nil => rfl
              | cons y z =>
                rw [parseAll_step] at q2
                cases q3 : parseE 6 (y :: z) with
                | none => rw [q3] at q2; cases q2
                | some p3 =>
                  obtain ⟨e3, r3⟩ := p3
                  rw [q3] at q2
                  simp only at q2
                  by_cases c3 : e3.parts ≤ 15
                  · rw [if_pos c3] at q2
                    cases q4 : parseAll r3.length r3 with
                    | none => rw [q4] at q2; cases q2
                    | some es => rw [q4] at q2; cases q2
                  · rw [if_neg c3] at q2; cases q2
            subst hr
            obtain ⟨w1, w2, w3⟩ := parse_wf q
            refine ⟨?_, w2, c⟩
            rw [w3]
            exact parse_toks w1 (by omega) []
        · rw [if_neg c] at h; cases h
  · rintro ⟨h1, h2, h3⟩
    obtain ⟨w1, _, w3⟩ := parse_wf h1
    rw [List.append_nil] at w3
    rw [w3]
    have q := parse_toks w1 h2 []
    rw [List.append_nil] at q
    cases h4 : e.toks with
    | nil => have := e.toks_len; rw [h4] at this; have := e.parts_pos; simp at *; omega
    | cons x r =>
      rw [h4] at q
      rw [parseAll_step, q]
      show (if e.parts ≤ 15 then some [e] else none) = some [e]
      rw [if_pos h3]
def WL19 : List Str := ["skip", "set", "put", "ask", "draw", "tell", "if", "else", "end", "while", "call", "fun", "main", "give", "cell", "plus", "minus", "times", "over"]
def WL3 : List Str := ["rest", "less", "same"]
theorem wl_split : Txt.split (Str.ofString "skip set put ask draw tell if else end while call fun main give cell plus minus times over") (Str.ofString " ") = WL19 := by decide +kernel
theorem wl_to : ∀ s ∈ WL19 ++ WL3, s ∈ PAIRW ∨ s ∈ ROWW ∨ s ∈ OTHW := by decide +kernel
theorem wl_of : (∀ s ∈ PAIRW, s ∈ WL19 ++ WL3) ∧ (∀ s ∈ ROWW, s ∈ WL19 ++ WL3) ∧ (∀ s ∈ OTHW, s ∈ WL19 ++ WL3) := by decide +kernel
def KVS : List (Key × V) := (.inr "cell", .int 1) :: PAIRW.map fun w => (.inr w, .int 2)
def manyOf (w : Str) : Nat := if w = "cell" then 1 else if w ∈ PAIRW then 2 else 0
theorem kvs_merge : mergeK [] KVS = KVS := by kernel_rfl
theorem kvs_get (w : Str) : (valV KVS (.inr w)).getD (.int 0) = .int (manyOf w : Nat) := by
  unfold manyOf
  by_cases h0 : w = "cell"
  · rw [if_pos h0, h0]; exact (congrArg (fun z : Option V => z.getD (.int 0)) (valV_pos rfl))
  · rw [if_neg h0]
    unfold KVS
    rw [valV_neg (fun e => h0 (Sum.inr.inj e).symm)]
    have key : ∀ L : List Str, (valV (L.map fun w => ((.inr w : Key), V.int 2)) (.inr w)).getD (.int 0) = .int ((if w ∈ L then 2 else 0 : Nat) : Int) := by
      intro L
      induction L with
      | nil => rfl
      | cons x r ih =>
        rw [List.map_cons]
        by_cases hx : x = w
        · rw [valV_pos (by rw [hx]), if_pos (by rw [hx]; exact List.mem_cons_self)]; rfl
        · rw [valV_neg (fun e => hx (Sum.inr.inj e)), ih]
          by_cases hm : w ∈ r
          · rw [if_pos hm, if_pos (List.mem_cons_of_mem _ hm)]
          · rw [if_neg hm, if_neg (fun h => (List.mem_cons.mp h).elim (fun e => hx e.symm) hm)]
    exact key PAIRW
/-- so many expressions, one behind the other -/
def parseK (n : Nat) : Nat → List Str → Option (List Ex × List Str)
  | 0, ws => some ([], ws)
  | k + 1, ws => match parseK n k ws with
    | none => none
    | some (es, r) => match parseE n r with
      | none => none
      | some (e, r2) => some (es ++ [e], r2)
theorem parseK_none {n : Nat} {ws : List Str} {k : Nat} (h : parseK n k ws = none) : ∀ j, parseK n (k + j) ws = none
  | 0 => h
  | j + 1 => by
    show (match parseK n (k + j) ws with | none => none | some (es, r) => match parseE n r with | none => none | some (e, r2) => some (es ++ [e], r2)) = none
    rw [parseK_none h j]
def dmax (es : List Ex) : Nat := es.foldl (fun d e => max d e.depth) 0
theorem dmax_snoc (es : List Ex) (e : Ex) : dmax (es ++ [e]) = max (dmax es) e.depth := by
  unfold dmax
  rw [List.foldl_append]; rfl
theorem parseE_many {n : Nat} {w : Str} {r : List Str} (h1 : isValW w = false) (h2 : isNameW w = false) : parseE (n + 1) (w :: r) = (match manyOf w with
    | 0 => none
    | k + 1 => match parseK n (k + 1) r with
      | none => none
      | some (es, r2) => match es with
        | [e] => some (.cell e, r2)
        | [e1, e2] => some (.two w e1 e2, r2)
        | _ => none) := by
  rw [parseE_cons, if_neg (by rw [h1]; decide), if_neg (by rw [h2]; decide)]
  unfold manyOf
  by_cases c1 : w = "cell"
  · rw [if_pos c1, if_pos c1]
    show _ = (match (match parseE n r with | none => none | some (e, r2) => some (([] : List Ex) ++ [e], r2)) with | none => none | some (es, r2) => _)
    cases parseE n r with
    | none => rfl
    | some p => rfl
  · rw [if_neg c1, if_neg c1]
    by_cases c2 : w ∈ PAIRW
    · rw [if_pos c2, if_pos c2]
      show _ = (match (match (match parseE n r with | none => none | some (e, r2) => some (([] : List Ex) ++ [e], r2)) with | none => none | some (es, r) => match parseE n r with | none => none | some (e, r2) => some (es ++ [e], r2)) with | none => none | some (es, r2) => _)
      cases parseE n r with
      | none => rfl
      | some p =>
        obtain ⟨e1, r1⟩ := p
        simp only
        cases parseE n r1 with
        | none => rfl
        | some p => rfl
    · rw [if_neg c2, if_neg c2]
theorem parseK_len {n : Nat} {ws : List Str} : ∀ {k : Nat} {es : List Ex} {r : List Str}, parseK n k ws = some (es, r) → es.length = k
  | 0, es, r, h => by
    have : ([], ws) = (es, r) := Option.some.inj h
    rw [← (Prod.mk.inj this).1]; rfl
  | k + 1, es, r, h => by
    have h' : (match parseK n k ws with | none => none | some (es, r) => match parseE n r with | none => none | some (e, r2) => some (es ++ [e], r2)) = some (es, r) := h
    cases q : parseK n k ws with
    | none => rw [q] at h'; cases h'
    | some p =>
      obtain ⟨es1, r1⟩ := p
      rw [q] at h'
      simp only at h'
      cases q2 : parseE n r1 with
      | none => rw [q2] at h'; cases h'
      | some p2 =>
        obtain ⟨e2, r2⟩ := p2
        rw [q2] at h'
        have := (Prod.mk.inj (Option.some.inj h')).1
        rw [← this, List.length_append, parseK_len q]; rfl
theorem split_len {s : Str} : (Txt.split s " ").length ≤ s.length + 1 ∧ ∀ p ∈ Txt.split s " ", p.length ≤ s.length := by
  have e := PySem.StrLaws.join_split s (Str.ofString " ")
  have e2 := congrArg tl e
  have b : tl (Str.ofString " ") = [32] := by decide +kernel
  rw [tl_join, b] at e2
  have q := joinL_len ((Txt.split s (Str.ofString " ")).map tl)
  rw [e2, List.length_map, ← len_tl s] at q
  refine ⟨q.1, fun p hp => ?_⟩
  have := q.2 (tl p) (List.mem_map.mpr ⟨p, hp, rfl⟩)
  rw [← len_tl p] at this
  exact this
theorem joinL_sub : ∀ {L : List (List Nat)} {p : List Nat} {c : Nat} {z : List Nat}, p ∈ L → c ∈ p → c ∈ joinL z L
  | [x], p, c, z, h, hc => by rw [List.mem_singleton.mp h] at hc; exact hc
  | x :: y :: r, p, c, z, h, hc => by
    show c ∈ x ++ (z ++ joinL z (y :: r))
    rcases List.mem_cons.mp h with rfl | h
    · exact List.mem_append_left _ hc
    · exact List.mem_append_right _ (List.mem_append_right _ (joinL_sub h hc))
theorem split_ascii {s : Str} (h : Ascii s) : ∀ p ∈ Txt.split s " ", Ascii p := by
  have e2 := congrArg tl (PySem.StrLaws.join_split s (Str.ofString " "))
  rw [tl_join] at e2
  intro p hp c hc
  refine h c ?_
  rw [← e2]
  exact joinL_sub (List.mem_map.mpr ⟨p, hp, rfl⟩) hc

theorem cutV_take (xs : List V) (k : Nat) : cutV xs none (some (k : Int)) = xs.take k := by
  unfold cutV
  rw [HT.sIx_nat, HT.sIx_none, Nat.sub_zero, List.drop_zero]
  by_cases h : k ≤ xs.length
  · rw [Nat.min_eq_left h]
  · rw [Nat.min_eq_right (by omega), List.take_of_length_le (Nat.le_refl _), List.take_of_length_le (by omega)]
theorem cutV_drop (xs : List V) (k : Nat) : cutV xs (some (k : Int)) none = xs.drop k := by
  unfold cutV
  rw [HT.sIx_nat, HT.sIx_none]
  by_cases h : k ≤ xs.length
  · rw [Nat.min_eq_left h, List.take_of_length_le (by rw [List.length_drop]; exact Nat.le_refl _)]
  · rw [Nat.min_eq_right (by omega), List.drop_eq_nil_of_le (Nat.le_refl _), List.drop_eq_nil_of_le (by omega), List.take_nil]
/-- [e for x in xs if t], t never true -/
theorem lc_none {J : It} {n : Nat} {G : Hp → Prop} {Y : Nat → Hp → V → Hp → Prop} (w : Walk J n G Y) {j : Nat} {tt : TT} {te : TE} {σ : St} {H1 : Hp} {D : Addr} {Qd : Hp → Prop} (hD : H1 D = none)
    (hG : ∀ H, Same H1 H → G H) (hY : ∀ i H x H', Y i H x H' → H' = H)
    (step : ∀ i x H (Z : Bool → Hp → Prop), i < n → Same H1 H → Y i H x H → (∀ H', Same H H' → Z false H') → tt ((σ.set j none).set j (some x)) H Z)
    (hd : ∀ H, Same H1 H → H D = some (.lst []) → Qd H) :
    ∃ W : Nat → Nat → Hp → Prop, (∃ m, W 0 m (upd H1 D (.lst []))) ∧ ∀ i m H, W i m H →
      (J.stop i H ∧ Qd H) ∨ (J.go i H ∧ ∃ Nx : Hp → Prop, (∀ H', Nx H' → ∃ m', m' < m ∧ W (i + 1) m' H') ∧ ∀ x H', J.yld i H x H' → gName j x (wipe σ [j]) H' fun σ2 H2 => wipe σ2 [j] = wipe σ [j] ∧ tt σ2 H2 fun b H3 =>
        if b = true then te σ2 H3 fun y H4 => ∃ acc, H4 D = some (.lst acc) ∧ acc.length < sizeLine ∧ Nx (upd H4 D (.lst (acc ++ [y]))) else Nx H3) := by
  refine lc_it w (fun _ H => H D = some (.lst []) ∧ Same H1 H) ⟨upd_same, same_new hD⟩ (fun i H _ h => hG H h.2) ?_ fun H h => hd H h.2 h.1
  rintro i x H H2 hi ⟨h1, h2⟩ y
  have e := hY _ _ _ _ y
  subst e
  have hw : wipe ((wipe σ [j]).set j (some x)) [j] = wipe σ [j] := by
    show ((σ.set j none).set j (some x)).set j none = σ.set j none
    simp
  refine ⟨hw, ?_⟩
  refine step i x _ _ hi h2 y fun H3 s3 => ?_
  exact iteF ⟨s3 _ _ h1, h2.trans s3⟩
/-- [x for x in xs if t], over texts -/
theorem lc_filter {xs : List Str} (p : Str → Bool) {J : It} {G : Hp → Prop} (w : Walk J (xs.map V.str).length G (YAt (xs.map V.str))) {j : Nat} {tt : TT} {te : TE} {σ : St} {H1 : Hp} {D : Addr} {Qd : Hp → Prop} (hD : H1 D = none) (hn : xs.length < 16777216)
    (hG : ∀ H, Same H1 H → G H)
    (step : ∀ s ∈ xs, ∀ H (Z : Bool → Hp → Prop), Same H1 H → (∀ H', Same H H' → Z (p s) H') → tt ((σ.set j none).set j (some (.str s))) H Z)
    (elt : ∀ s ∈ xs, ∀ H (Z : VK), Z (.str s) H → te ((σ.set j none).set j (some (.str s))) H Z)
    (hd : ∀ H, Same H1 H → H D = some (.lst ((xs.filter p).map V.str)) → Qd H) :
    ∃ W : Nat → Nat → Hp → Prop, (∃ m, W 0 m (upd H1 D (.lst []))) ∧ ∀ i m H, W i m H →
      (J.stop i H ∧ Qd H) ∨ (J.go i H ∧ ∃ Nx : Hp → Prop, (∀ H', Nx H' → ∃ m', m' < m ∧ W (i + 1) m' H') ∧ ∀ x H', J.yld i H x H' → gName j x (wipe σ [j]) H' fun σ2 H2 => wipe σ2 [j] = wipe σ [j] ∧ tt σ2 H2 fun b H3 =>
        if b = true then te σ2 H3 fun y H4 => ∃ acc, H4 D = some (.lst acc) ∧ acc.length < sizeLine ∧ Nx (upd H4 D (.lst (acc ++ [y]))) else Nx H3) := by
  refine lc_it w (fun i H => H D = some (.lst (((xs.take i).filter p).map V.str)) ∧ Same H1 H) ⟨by rw [List.take_zero]; exact upd_same, same_new hD⟩ (fun i H _ h => hG H h.2) ?_ fun H h => hd H h.2 (by have := h.1; rw [List.length_map, List.take_length] at this; exact this)
  rintro i x H H2 hi ⟨h1, h2⟩ ⟨e, hx⟩
  subst e
  have hw : wipe ((wipe σ [j]).set j (some x)) [j] = wipe σ [j] := by
    show ((σ.set j none).set j (some x)).set j none = σ.set j none
    simp
  refine ⟨hw, ?_⟩
  rw [List.getElem?_map] at hx
  obtain ⟨s, hs, rfl⟩ := Option.map_eq_some_iff.mp hx
  have hm := List.mem_of_getElem? hs
  have et : (xs.take (i + 1)).filter p = (xs.take i).filter p ++ (if p s = true then [s] else []) := by
    rw [List.take_add_one, hs, List.filter_append]
    show _ ++ ([s].filter p) = _
    rw [List.filter_cons, List.filter_nil]
  refine step s hm _ _ h2 fun H3 s3 => ?_
  cases hp : p s with
  | false =>
    rw [hp, if_neg Bool.false_ne_true, List.append_nil] at et
    exact iteF ⟨by rw [et]; exact s3 _ _ h1, h2.trans s3⟩
  | true =>
    rw [hp, if_pos rfl] at et
    refine iteT (elt s hm _ _ ⟨_, s3 _ _ h1, ?_, ?_, fun b o hb => ?_⟩)
    · rw [List.length_map]
      have q1 := List.length_filter_le p (xs.take i)
      have q2 := List.length_take_le i xs
      have q3 : (xs.take i).length ≤ xs.length := by rw [List.length_take]; omega
      exact Nat.lt_of_lt_of_le (show _ < 16777216 by omega) (by decide)
    · rw [upd_same, et, List.map_append]; rfl
    · rw [upd_ne (ne_of_none hb hD)]; exact s3 _ _ (h2 b o hb)
theorem filt_all {xs : List Str} {p : Str → Bool} : decide (xs.filter (fun s => !p s) = []) = xs.all p := by
  rw [Bool.eq_iff_iff, decide_eq_true_eq, List.filter_eq_nil_iff, List.all_eq_true]
  constructor
  · intro h c hc
    have := h c hc
    simp at this
    exact this
  · intro h c hc
    rw [h c hc]; simp

/-! ### books as texts -/
def IsVal (n : Int) : Prop := 0 ≤ n ∧ n < 1000000
def adT (ad : List Int) : Str := if ad = [] then Str.ofString "-" else Txt.join (Str.ofString ".") (ad.map numT)
structure Ent where
  w : Str
  ad : List Int
  ms : List Int
def Ent.Wf (e : Ent) : Prop := ((e.w = "done" ∧ e.ms = []) ∨ e.w = "part" ∨ e.w = "kept") ∧ (∀ n ∈ e.ad, IsVal n) ∧ e.ad.length ≤ 100 ∧ (∀ n ∈ e.ms, n = -1 ∨ IsVal n) ∧ e.ms.length ≤ 100
def Ent.words (e : Ent) : List Str := e.w :: adT e.ad :: e.ms.map numT
def Ent.text (e : Ent) : Str := Txt.join (Str.ofString " ") e.words
def Ent.data (e : Ent) : PyData := .tuple (.str e.w :: .tuple (e.ad.map .int) :: (if e.w = "done" then [] else [.list (e.ms.map .int)]))
def bookText (es : List Ent) : Str := Txt.join (Str.ofString "\n") (es.map Ent.text)
theorem join_len (y : Str) (b : Nat) (hy : y.length = 1) : ∀ xs : List Str, (∀ x ∈ xs, x.length ≤ b) → (xs.map (·.length)).sum + xs.length * y.length ≤ xs.length * (b + 1) := by
  intro xs
  induction xs with
  | nil => intro _; simp
  | cons x r ih =>
    intro h
    have h1 := h x List.mem_cons_self
    have h2 := ih fun z hz => h z (List.mem_cons_of_mem _ hz)
    simp only [List.map_cons, List.sum_cons, List.length_cons, Nat.add_mul, Nat.one_mul, hy, Nat.mul_one] at h2 ⊢
    omega
theorem joinL_le : ∀ (b : Nat) (L : List (List Nat)), (∀ p ∈ L, p.length ≤ b) → ∀ c, (joinL [c] L).length ≤ L.length * (b + 1)
  | b, [], _, c => by simp [joinL]
  | b, [x], h, c => by have := h x List.mem_cons_self; simp [joinL]; omega
  | b, x :: y :: r, h, c => by
    have ih := joinL_le b (y :: r) (fun p hp => h p (List.mem_cons_of_mem _ hp)) c
    have h1 := h x List.mem_cons_self
    have e : joinL [c] (x :: y :: r) = x ++ ([c] ++ joinL [c] (y :: r)) := rfl
    rw [e, List.length_append, List.length_append]
    simp only [List.length_cons, List.length_nil, Nat.add_mul, Nat.one_mul] at ih ⊢
    omega
theorem join_le {y : Str} {c : Nat} (hy : tl y = [c]) (b : Nat) (xs : List Str) (h : ∀ x ∈ xs, x.length ≤ b) : (Txt.join y xs).length ≤ xs.length * (b + 1) := by
  have q := joinL_le b (xs.map tl) (fun p hp => by
    obtain ⟨x, hx, rfl⟩ := List.mem_map.mp hp
    rw [← len_tl]; exact h x hx) c
  rw [List.length_map] at q
  rw [join_eq, len_tl, tl_join, hy]
  exact q
theorem numT_m1 : numT (-1) = "-1" := by decide +kernel
theorem numT_len {n : Int} (h : n = -1 ∨ IsVal n) : (numT n).length ≤ 6 := by
  rcases h with rfl | h
  · decide +kernel
  · rw [len_tl]; exact (valW_parts (numT_valW h.1 h.2).1).1.2
theorem numT_pos {n : Int} (h : IsVal n) : ∃ c r, tl (numT n) = c :: r ∧ 48 ≤ c ∧ c ≤ 57 := by
  obtain ⟨⟨h1, _⟩, _, h3⟩ := valW_parts (numT_valW h.1 h.2).1
  cases q : tl (numT n) with
  | nil => rw [q] at h1; simp at h1
  | cons c r => exact ⟨c, r, rfl, h3 c (by rw [q]; exact List.mem_cons_self)⟩
theorem numT_free {n : Int} {c : Nat} (h : n = -1 ∨ IsVal n) (hc : c = 32 ∨ c = 10 ∨ c = 46) : c ∉ tl (numT n) := by
  rcases h with rfl | h
  · have : ∀ x ∈ tl (numT (-1)), x = 45 ∨ x = 49 := by decide +kernel
    intro hm
    rcases this c hm with e | e <;> omega
  · exact val_free (numT_valW h.1 h.2).1 (by omega)
theorem tl_dot : tl (Str.ofString ".") = [46] := by decide +kernel
theorem tl_sp : tl (Str.ofString " ") = [32] := by decide +kernel
theorem tl_nl : tl (Str.ofString "\n") = [10] := by decide +kernel
theorem joinL_first : ∀ {L : List (List Nat)} {x : List Nat} {r : List (List Nat)} (c : Nat), L = x :: r → ∃ z, joinL [c] L = x ++ z
  | _, x, [], c, e => ⟨[], by rw [e]; simp [joinL]⟩
  | _, x, y :: r, c, e => ⟨[c] ++ joinL [c] (y :: r), by rw [e]; rfl⟩
theorem adT_dash {ad : List Int} (h : ∀ n ∈ ad, IsVal n) : adT ad = "-" ↔ ad = [] := by
  constructor
  · intro e
    cases ad with
    | nil => rfl
    | cons n r =>
      unfold adT at e
      rw [if_neg (by simp)] at e
      have e2 := congrArg tl e
      rw [join_eq, tl_join, tl_dot] at e2
      obtain ⟨c, q, hq, hc1, hc2⟩ := numT_pos (h n List.mem_cons_self)
      obtain ⟨z, hz⟩ := joinL_first (L := (List.map numT (n :: r)).map tl) (x := tl (numT n)) (r := (r.map numT).map tl) 46 rfl
      rw [hz, hq] at e2
      have : tl (Str.ofString "-") = [45] := by decide +kernel
      rw [this] at e2
      have := (List.cons.inj e2).1
      omega
  · intro e; rw [e]; rfl
theorem adT_len {ad : List Int} (h : ∀ n ∈ ad, IsVal n) (hl : ad.length ≤ 100) : (adT ad).length ≤ 700 := by
  unfold adT
  by_cases c : ad = []
  · rw [if_pos c]; decide +kernel
  · rw [if_neg c]
    have := join_le tl_dot 6 (ad.map numT) fun x hx => by
      obtain ⟨n, hn, rfl⟩ := List.mem_map.mp hx
      exact numT_len (.inr (h n hn))
    rw [List.length_map] at this
    omega
theorem adT_split {ad : List Int} (h : ∀ n ∈ ad, IsVal n) (hne : ad ≠ []) : Txt.split (adT ad) (Str.ofString ".") = ad.map numT := by
  unfold adT
  rw [if_neg hne]
  refine split_join tl_dot (by decide +kernel) (by simpa using hne) fun p hp => ?_
  obtain ⟨n, hn, rfl⟩ := List.mem_map.mp hp
  exact numT_free (.inr (h n hn)) (by omega)
theorem adT_free {ad : List Int} {c : Nat} (h : ∀ n ∈ ad, IsVal n) (hc : c = 32 ∨ c = 10) : c ∉ tl (adT ad) := by
  unfold adT
  by_cases q : ad = []
  · rw [if_pos q]
    have : tl (Str.ofString "-") = [45] := by decide +kernel
    rw [this]
    intro hm; rw [List.mem_singleton] at hm; omega
  · rw [if_neg q, join_eq, tl_join, tl_dot]
    have key : ∀ L : List Int, (∀ n ∈ L, IsVal n) → c ∉ joinL [46] ((L.map numT).map tl) := by
      intro L
      induction L with
      | nil => intro _ hm; simp [joinL] at hm
      | cons n r ih =>
        intro hL
        have h1 := numT_free (c := c) (.inr (hL n List.mem_cons_self)) (by omega)
        cases r with
        | nil => exact h1
        | cons m r =>
          intro hm
          have e : joinL [46] (((n :: m :: r).map numT).map tl) = tl (numT n) ++ ([46] ++ joinL [46] (((m :: r).map numT).map tl)) := rfl
          rw [e] at hm
          rcases List.mem_append.mp hm with hm | hm
          · exact h1 hm
          · rcases List.mem_append.mp hm with hm | hm
            · rw [List.mem_singleton] at hm; omega
            · exact ih (fun z hz => hL z (List.mem_cons_of_mem _ hz)) hm
    exact key ad h
theorem word3 {w : Str} (h : w = "done" ∨ w = "part" ∨ w = "kept") : w.length = 4 ∧ ∀ c ∈ tl w, 97 ≤ c ∧ c ≤ 122 := by
  rcases h with rfl | rfl | rfl <;> exact ⟨by decide +kernel, by decide +kernel⟩
theorem Ent.w3 {e : Ent} (h : e.Wf) : e.w = "done" ∨ e.w = "part" ∨ e.w = "kept" := by
  rcases h.1 with h | h
  · exact .inl h.1
  · exact .inr h
theorem Ent.words_free {e : Ent} (h : e.Wf) {c : Nat} (hc : c = 32 ∨ c = 10) : ∀ p ∈ e.words, c ∉ tl p := by
  intro p hp
  rcases List.mem_cons.mp hp with rfl | hp
  · intro hm; have := (word3 (Ent.w3 h)).2 c hm; omega
  · rcases List.mem_cons.mp hp with rfl | hp
    · exact adT_free h.2.1 hc
    · obtain ⟨n, hn, rfl⟩ := List.mem_map.mp hp
      exact numT_free (h.2.2.2.1 n hn) (by omega)
theorem Ent.split_text {e : Ent} (h : e.Wf) : Txt.split e.text (Str.ofString " ") = e.words :=
  split_join tl_sp (by decide +kernel) (by unfold Ent.words; simp) (Ent.words_free h (.inl rfl))
theorem Ent.words_len {e : Ent} (h : e.Wf) : ∀ p ∈ e.words, p.length ≤ 700 := by
  intro p hp
  rcases List.mem_cons.mp hp with rfl | hp
  · have := (word3 (Ent.w3 h)).1; omega
  · rcases List.mem_cons.mp hp with rfl | hp
    · exact adT_len h.2.1 h.2.2.1
    · obtain ⟨n, hn, rfl⟩ := List.mem_map.mp hp
      have := numT_len (h.2.2.2.1 n hn); omega
theorem Ent.words_n {e : Ent} (h : e.Wf) : e.words.length ≤ 102 := by
  have := h.2.2.2.2
  unfold Ent.words
  simp only [List.length_cons, List.length_map]; omega
theorem Ent.text_len {e : Ent} (h : e.Wf) : e.text.length ≤ 71502 := by
  have := join_le tl_sp 700 e.words (Ent.words_len h)
  have h2 := Ent.words_n h
  have : e.words.length * (700 + 1) ≤ 102 * 701 := Nat.mul_le_mul_right _ h2
  unfold Ent.text
  omega
theorem Ent.text_free {e : Ent} (h : e.Wf) : 10 ∉ tl e.text := by
  unfold Ent.text
  rw [join_eq, tl_join, tl_sp]
  have key : ∀ L : List Str, (∀ p ∈ L, 10 ∉ tl p) → 10 ∉ joinL [32] (L.map tl) := by
    intro L
    induction L with
    | nil => intro _ hm; simp [joinL] at hm
    | cons n r ih =>
      intro hL
      have h1 := hL n List.mem_cons_self
      cases r with
      | nil => exact h1
      | cons m r =>
        intro hm
        have e : joinL [32] ((n :: m :: r).map tl) = tl n ++ ([32] ++ joinL [32] ((m :: r).map tl)) := rfl
        rw [e] at hm
        rcases List.mem_append.mp hm with hm | hm
        · exact h1 hm
        · rcases List.mem_append.mp hm with hm | hm
          · rw [List.mem_singleton] at hm; omega
          · exact ih (fun z hz => hL z (List.mem_cons_of_mem _ hz)) hm
  exact key _ (Ent.words_free h (.inr rfl))
theorem Ent.text_first {e : Ent} (h : e.Wf) : ∃ c r, tl e.text = c :: r := by
  unfold Ent.text
  rw [join_eq, tl_join, tl_sp]
  obtain ⟨z, hz⟩ := joinL_first (L := e.words.map tl) (x := tl e.w) (r := (adT e.ad :: e.ms.map numT).map tl) 32 rfl
  have := (word3 (Ent.w3 h)).1
  rw [len_tl] at this
  cases q : tl e.w with
  | nil => rw [q] at this; simp at this
  | cons c r => exact ⟨c, r ++ z, by rw [hz, q]; rfl⟩
theorem book_split {es : List Ent} (h : ∀ e ∈ es, e.Wf) (hne : es ≠ []) : Txt.split (bookText es) (Str.ofString "\n") = es.map Ent.text := by
  refine split_join tl_nl (by decide +kernel) (by simpa using hne) fun p hp => ?_
  obtain ⟨e, he, rfl⟩ := List.mem_map.mp hp
  exact Ent.text_free (h e he)
theorem book_empty {es : List Ent} (h : ∀ e ∈ es, e.Wf) : bookText es = "" ↔ es = [] := by
  constructor
  · intro q
    cases es with
    | nil => rfl
    | cons e r =>
      have e2 := congrArg tl q
      unfold bookText at e2
      rw [join_eq, tl_join, tl_nl] at e2
      obtain ⟨z, hz⟩ := joinL_first (L := ((e :: r).map Ent.text).map tl) (x := tl e.text) (r := (r.map Ent.text).map tl) 10 rfl
      obtain ⟨c, t, ht⟩ := Ent.text_first (h e List.mem_cons_self)
      rw [hz, ht] at e2
      have : tl (Str.ofString "") = [] := by decide +kernel
      rw [this] at e2
      cases e2
  · intro q; rw [q]; decide +kernel
theorem book_len {es : List Ent} (h : ∀ e ∈ es, e.Wf) (hl : es.length ≤ 100) : (bookText es).length ≤ 7150300 := by
  have := join_le tl_nl 71502 (es.map Ent.text) fun x hx => by
    obtain ⟨e, he, rfl⟩ := List.mem_map.mp hx
    exact Ent.text_len (h e he)
  rw [List.length_map] at this
  have : es.length * (71502 + 1) ≤ 100 * 71503 := Nat.mul_le_mul_right _ hl
  unfold bookText
  omega
/-! ### books in the heap -/
/-- v is the tuple of e; its list of makers, if it has one, lies where N says -/
def EntH (H : Hp) (N : Addr → Prop) (e : Ent) (v : V) : Prop := ∃ t ta, v = .ref t ∧ H ta = some (.tup (e.ad.map V.int)) ∧
  ((e.w = "done" ∧ H t = some (.tup [.str e.w, .ref ta])) ∨ (e.w ≠ "done" ∧ ∃ l, N l ∧ H t = some (.tup [.str e.w, .ref ta, .ref l]) ∧ H l = some (.lst (e.ms.map V.int))))
theorem EntH.same {H H' : Hp} {N : Addr → Prop} {e : Ent} {v : V} (s : Same H H') : EntH H N e v → EntH H' N e v := fun ⟨t, ta, h1, h2, h3⟩ =>
  ⟨t, ta, h1, s _ _ h2, h3.elim (fun h => .inl ⟨h.1, s _ _ h.2⟩) fun ⟨n, l, a, b, c⟩ => .inr ⟨n, l, a, s _ _ b, s _ _ c⟩⟩
theorem EntH.weak {H : Hp} {N M : Addr → Prop} {e : Ent} {v : V} (f : ∀ l, (∃ o, H l = some o) → N l → M l) : EntH H N e v → EntH H M e v := fun ⟨t, ta, h1, h2, h3⟩ =>
  ⟨t, ta, h1, h2, h3.elim .inl fun ⟨n, l, a, b, c⟩ => .inr ⟨n, l, f l ⟨_, c⟩ a, b, c⟩⟩
/-- some lists move, all else stands -/
def KeepL (av : List Addr) (H H' : Hp) : Prop := ∀ q o, q ∉ av → H q = some o → H' q = some o
theorem EntH.keep {H H' : Hp} {N : Addr → Prop} {e : Ent} {v : V} {av : List Addr} (k : KeepL av H H') (hl : ∀ a ∈ av, ∃ xs, H a = some (.lst xs)) (hN : ∀ l, N l → l ∉ av) : EntH H N e v → EntH H' N e v := fun ⟨t, ta, h1, h2, h3⟩ => by
  have nt : ∀ {t : Addr} {xs : List V}, H t = some (.tup xs) → H' t = some (.tup xs) := fun {t xs} h => k _ _ (fun hm => by
    obtain ⟨ys, hy⟩ := hl _ hm
    rw [h] at hy; cases hy) h
  exact ⟨t, ta, h1, nt h2, h3.elim (fun h => .inl ⟨h.1, nt h.2⟩) fun ⟨n, l, a, b, c⟩ => .inr ⟨n, l, a, nt b, k _ _ (hN l a) c⟩⟩
theorem dpAll_ints {K : PySem.W.Frag} {H : Hp} : ∀ ns : List Int, DpAll K H (ns.map V.int) (ns.map PyData.int)
  | [] => .nil
  | n :: r => .cons (.int n) (dpAll_ints r)
theorem EntH.dp {K : PySem.W.Frag} {H : Hp} {N : Addr → Prop} {e : Ent} {v : V} (h : EntH H N e v) : Dp K H v e.data := by
  obtain ⟨t, ta, rfl, h2, h3⟩ := h
  have d2 : Dp K H (.ref ta) (.tuple (e.ad.map .int)) := .tup (SqT.of h2) (dpAll_ints _)
  unfold Ent.data
  rcases h3 with ⟨w, h3⟩ | ⟨w, l, _, h3, h4⟩
  · rw [if_pos w]
    exact .tup (SqT.of h3) (.cons (.str _) (.cons d2 .nil))
  · rw [if_neg w]
    exact .tup (SqT.of h3) (.cons (.str _) (.cons d2 (.cons (.lst (SqL.of h4) (dpAll_ints _)) .nil)))
theorem lay_ints : ∀ ns : List Int, PyData.canLayAll0 (ns.map .int) = true
  | [] => rfl
  | n :: r => by show (true && PyData.canLayAll0 (r.map .int)) = true; rw [lay_ints r]; rfl
theorem deep_ints : ∀ ns : List Int, PyData.depthAll (ns.map .int) = 0
  | [] => rfl
  | n :: r => by show max 0 (PyData.depthAll (r.map .int)) = 0; rw [deep_ints r]; rfl
theorem Ent.lay {e : Ent} (h : e.Wf) : e.data.canLay0 = true := by
  have h1 : PyData.strOk e.w = true := strOk_of fun c hc => ((word3 (Ent.w3 h)).2 c hc).2
  unfold Ent.data
  show (PyData.strOk e.w && (PyData.canLayAll0 (e.ad.map .int) && PyData.canLayAll0 _)) = true
  rw [h1, lay_ints]
  by_cases c : e.w = "done"
  · rw [if_pos c]; rfl
  · rw [if_neg c]
    show (true && (true && (PyData.canLayAll0 (e.ms.map .int) && true))) = true
    rw [lay_ints]; rfl
theorem Ent.deep (e : Ent) : e.data.depth ≤ 2 := by
  unfold Ent.data
  show max 0 (max (PyData.depthAll (e.ad.map .int) + 1) (PyData.depthAll _)) + 1 ≤ 2
  rw [deep_ints]
  by_cases c : e.w = "done"
  · rw [if_pos c]; show max 0 (max 1 0) + 1 ≤ 2; omega
  · rw [if_neg c]
    show max 0 (max 1 (max (PyData.depthAll (e.ms.map .int) + 1) 0)) + 1 ≤ 2
    rw [deep_ints]; omega
def bookData (es : List Ent) : PyData := .list (es.map Ent.data)
theorem book_lay {es : List Ent} (h : ∀ e ∈ es, e.Wf) : (bookData es).canLay0 = true := by
  show PyData.canLayAll0 (es.map Ent.data) = true
  induction es with
  | nil => rfl
  | cons e r ih =>
    show (e.data.canLay0 && PyData.canLayAll0 (r.map Ent.data)) = true
    rw [Ent.lay (h e List.mem_cons_self), ih fun z hz => h z (List.mem_cons_of_mem _ hz)]; rfl
theorem book_deep (es : List Ent) : (bookData es).depth ≤ 3 := by
  have : PyData.depthAll (es.map Ent.data) ≤ 2 := by
    induction es with
    | nil => exact Nat.zero_le _
    | cons e r ih =>
      show max e.data.depth (PyData.depthAll (r.map Ent.data)) ≤ 2
      have := Ent.deep e
      omega
  show PyData.depthAll (es.map Ent.data) + 1 ≤ 3
  omega
theorem book_shaped {es : List Ent} (h : ∀ e ∈ es, e.Wf) : SeqAt.shaped (bookData es) = true := by
  show ((bookData es).canLay0 && decide ((bookData es).depth ≤ 64)) = true
  rw [book_lay h, decide_eq_true (Nat.le_trans (book_deep es) (by decide))]; rfl
theorem book_dps {K : PySem.W.Frag} {H : Hp} {N : Addr → Prop} : ∀ {es : List Ent} {vs : List V}, All2 (EntH H N) es vs → DpAll K H vs (es.map Ent.data)
  | _, _, .nil => .nil
  | _, _, .cons h t => .cons h.dp (book_dps t)
theorem book_dp {K : PySem.W.Frag} {H : Hp} {N : Addr → Prop} {r : Addr} {es : List Ent} {vs : List V} (h : H r = some (.lst vs)) (a : All2 (EntH H N) es vs) : Dp K H (.ref r) (bookData es) := .lst (SqL.of h) (book_dps a)
/-! ### promises -/
def spAdText (K : PySem.W.Frag) : Sp := fun vs H Q _ => ∃ (a : Addr) (ns : List Int), vs = [.ref a] ∧ SqT K H a (ns.map V.int) ∧ (∀ n ∈ ns, IsVal n) ∧ ns.length ≤ 100 ∧ ∀ H', Same H H' → Q (.str (adT ns)) H'
def spEntText : Sp := fun vs H Q _ => ∃ (e : Ent) (v : V) (N : Addr → Prop), vs = [v] ∧ EntH H N e v ∧ e.Wf ∧ ∀ H', Same H H' → Q (.str e.text) H'
def spBookText : Sp := fun vs H Q _ => ∃ (r : Addr) (es : List Ent) (xs : List V) (N : Addr → Prop), vs = [.ref r] ∧ H r = some (.lst xs) ∧ All2 (EntH H N) es xs ∧ (∀ e ∈ es, e.Wf) ∧ es.length ≤ 100 ∧ ∀ H', Same H H' → Q (.str (bookText es)) H'
def spCheck (N : Addr) : Sp := fun vs H Q E => ∃ b : Bool, vs = [.bl b] ∧ (b = true → Q .non H) ∧ (b = false → E (.ref N) none H)
def spNumIn (N : Addr) : Sp := fun vs H Q E => ∃ s : Str, vs = [.str s] ∧ s.length ≤ 100000 ∧ (isValW s = true → ∀ H', Same H H' → Q (.int (valOf s)) H') ∧ (isValW s = false → ∀ H', Same H H' → E (.ref N) none H')
def spAdIn : Sp := fun vs H Q _ => ∃ ns : List Int, vs = [.str (adT ns)] ∧ (∀ n ∈ ns, IsVal n) ∧ ns.length ≤ 100 ∧ ∀ a H', Same H H' → H' a = some (.tup (ns.map V.int)) → Q (.ref a) H'
def spMkIn : Sp := fun vs H Q _ => ∃ n : Int, vs = [.str (numT n)] ∧ (n = -1 ∨ IsVal n) ∧ ∀ H', Same H H' → Q (.int n) H'
def spEntIn : Sp := fun vs H Q _ => ∃ e : Ent, vs = [.str e.text] ∧ e.Wf ∧ ∀ v H', Same H H' → EntH H' (fun l => H l = none) e v → Q v H'
def spReadBook : Sp := fun vs H Q _ => ∃ es : List Ent, vs = [.str (bookText es)] ∧ (∀ e ∈ es, e.Wf) ∧ es.length ≤ 100 ∧ ∀ r xs H', Same H H' → H r = none → H' r = some (.lst xs) → All2 (EntH H' (fun l => H l = none ∧ l ≠ r)) es xs → Q (.ref r) H'
/-! ### the law's own -/
def spNumber : Sp := fun vs H Q _ => ∃ (p : Addr), vs = [.ref p] ∧ WellAt H p ∧ ∀ (n : Int) H', IsVal n → KeepX p H H' → WellAt H' p → Q (.int n) H'
def spAddress : Sp := fun vs H Q _ => ∃ (p : Addr), vs = [.ref p] ∧ WellAt H p ∧ ∀ (a : Addr) (ns : List Int) H', (∀ n ∈ ns, IsVal n) → ns.length ≤ 100 → H' a = some (.tup (ns.map V.int)) → KeepX p H H' → WellAt H' p → Q (.ref a) H'
def spMakers : Sp := fun vs H Q _ => ∃ (p : Addr), vs = [.ref p] ∧ WellAt H p ∧ ∀ (l : Addr) (ns : List Int) H', (∀ n ∈ ns, n = -1 ∨ IsVal n) → ns.length ≤ 100 → H l = none → H' l = some (.lst (ns.map V.int)) → KeepX p H H' → WellAt H' p → Q (.ref l) H'
theorem eqv_ints : ∀ ns : List Int, PyData.eqv (.tuple (ns.map .int)) (.tuple []) = decide (ns = [])
  | [] => rfl
  | n :: r => by rw [decide_eq_false (by simp)]; rfl
theorem tup_shaped (ns : List Int) : SeqAt.shaped (.tuple (ns.map .int)) = true := by
  show (PyData.canLayAll0 (ns.map .int) && decide (PyData.depthAll (ns.map .int) + 1 ≤ 64)) = true
  rw [lay_ints, deep_ints]; rfl
theorem at_ints {ns : List Int} {n : Int} (h0 : 0 ≤ n) (h1 : n < (ns.length : Int)) : ∃ z ∈ ns, atI (ns.map V.int) n = some (.int z) := by
  have hk : n.toNat < ns.length := by omega
  have ek : n = ((n.toNat : Nat) : Int) := by omega
  have q : atI (ns.map V.int) ((n.toNat : Nat) : Int) = some (.int ns[n.toNat]) := atI_nat (by rw [List.getElem?_map, List.getElem?_eq_getElem hk] <;> rfl)
  rw [← ek] at q
  exact ⟨_, List.getElem_mem hk, q⟩
theorem sizeL {n : Nat} (h : n ≤ 16777216) : n ≤ sizeLine := Nat.le_trans h (by decide)

def spBook (K : PySem.W.Frag) : Sp := fun vs H Q _ => ∃ (a : Addr) (ns : List Int), vs = [.ref a] ∧ SqL K H a (ns.map V.int) ∧ ∀ (r : Addr) (es : List Ent) (xs : List V) H', Same H H' → H r = none → H' r = some (.lst xs) → All2 (EntH H' (fun l => l ≠ r)) es xs → (∀ e ∈ es, e.Wf) → es.length ≤ 24 → Q (.ref r) H'
def spKinds : Sp := fun vs H Q _ => ∃ (r : Addr) (es : List Ent) (xs : List V) (N : Addr → Prop), vs = [.ref r] ∧ H r = some (.lst xs) ∧ All2 (EntH H N) es xs ∧ (∀ e ∈ es, e.Wf) ∧ ∀ H', Same H H' → Q (.bl true) H'
theorem keepL_of {p : Addr} {H H' : Hp} (k : KeepX p H H') : KeepL [p] H H' := fun q o h e => k q o (fun z => h (by rw [z]; exact List.mem_singleton.mpr rfl)) e
theorem EntH.keepX {H H' : Hp} {N : Addr → Prop} {e : Ent} {v : V} {p : Addr} (k : KeepX p H H') {xs : List V} (hp : H p = some (.lst xs)) (hN : ∀ l, N l → l ≠ p) : EntH H N e v → EntH H' N e v :=
  fun h => h.keep (keepL_of k) (fun a ha => ⟨xs, by rw [List.mem_singleton.mp ha]; exact hp⟩) fun l hl hm => hN l hl (List.mem_singleton.mp hm)
/-- v is an entry's tuple; its list of makers is new since B, not r, and of at most m numbers -/
def ShH (B H : Hp) (r : Addr) (m : Nat) (v : V) : Prop := ∃ t xs, v = .ref t ∧ H t = some (.tup xs) ∧ (xs.length = 2 ∨ ∃ a b l, xs = [a, b, .ref l] ∧ B l = none ∧ l ≠ r ∧ ∃ ys, H l = some (.lst ys) ∧ ys.length ≤ m)
theorem ShH.of {B H : Hp} {r : Addr} {e : Ent} {v : V} (hw : e.Wf) (h : EntH H (fun l => B l = none ∧ l ≠ r) e v) : ShH B H r 100 v := by
  obtain ⟨t, ta, rfl, h2, h3⟩ := h
  rcases h3 with ⟨_, h3⟩ | ⟨_, l, hl, h3, h4⟩
  · exact ⟨t, _, rfl, h3, .inl rfl⟩
  · exact ⟨t, _, rfl, h3, .inr ⟨_, _, l, rfl, hl.1, hl.2, _, h4, by rw [List.length_map]; exact hw.2.2.2.2⟩⟩
theorem ShH.put {B H : Hp} {r : Addr} {m : Nat} {v : V} {l : Addr} {ys : List V} {y : V} (hl : H l = some (.lst ys)) (hm : ys.length ≤ m) (h : ShH B H r m v) : ShH B (upd H l (.lst (ys ++ [y]))) r (m + 1) v := by
  obtain ⟨t, xs, rfl, h1, h2⟩ := h
  refine ⟨t, xs, rfl, by rw [upd_ne (ne_of h1 hl (by intro z; cases z))]; exact h1, h2.imp id ?_⟩
  rintro ⟨a, b, l2, e, hb, hr, zs, hz, hm2⟩
  refine ⟨a, b, l2, e, hb, hr, ?_⟩
  by_cases c : l2 = l
  · subst c
    rw [hl] at hz
    cases hz
    exact ⟨_, upd_same, by rw [List.length_append, List.length_singleton]; omega⟩
  · exact ⟨zs, by rw [upd_ne c]; exact hz, by omega⟩
theorem ShH.up {B H : Hp} {r : Addr} {m n : Nat} {v : V} (hn : m ≤ n) : ShH B H r m v → ShH B H r n v := fun ⟨t, xs, e, h1, h2⟩ =>
  ⟨t, xs, e, h1, h2.imp id fun ⟨a, b, l, e, hb, hr, ys, hy, hm⟩ => ⟨a, b, l, e, hb, hr, ys, hy, by omega⟩⟩
theorem ShH.same {B H H' : Hp} {r : Addr} {m : Nat} {v : V} (s : Same H H') : ShH B H r m v → ShH B H' r m v := fun ⟨t, xs, e, h1, h2⟩ =>
  ⟨t, xs, e, s _ _ h1, h2.imp id fun ⟨a, b, l, e, hb, hr, ys, hy, hm⟩ => ⟨a, b, l, e, hb, hr, ys, s _ _ hy, hm⟩⟩
def Codes (ws : List Str) : Prop := ∀ s ∈ ws, PyData.strOk s = true
def strsD (ws : List Str) : PyData := .list (ws.map PyData.str)
theorem dp_strs {K : PySem.W.Frag} {H : Hp} : ∀ ws : List Str, DpAll K H (ws.map V.str) (ws.map PyData.str)
  | [] => .nil
  | s :: r => .cons (.str s) (dp_strs r)
theorem strs_shaped {ws : List Str} (h : Codes ws) : SeqAt.shaped (strsD ws) = true := by
  have h1 : ∀ {ws : List Str}, Codes ws → PyData.canLayAll0 (ws.map PyData.str) = true := by
    intro ws
    induction ws with
    | nil => intro _; rfl
    | cons s r ih =>
      intro h
      show (PyData.strOk s && PyData.canLayAll0 (r.map PyData.str)) = true
      rw [h s List.mem_cons_self, ih fun z hz => h z (List.mem_cons_of_mem _ hz)]; rfl
  have h2 : ∀ ws : List Str, PyData.depthAll (ws.map PyData.str) = 0 := by
    intro ws
    induction ws with
    | nil => rfl
    | cons s r ih => show max 0 (PyData.depthAll (r.map PyData.str)) = 0; rw [ih]; rfl
  show (PyData.canLayAll0 _ && decide (PyData.depthAll _ + 1 ≤ 64)) = true
  rw [h1 h, h2]; rfl
theorem strs_eqv : ∀ a b : List Str, PyData.eqv (strsD a) (strsD b) = decide (a = b)
  | [], [] => rfl
  | [], _ :: _ => rfl
  | _ :: _, [] => rfl
  | x :: a, y :: b => by
    have ih := strs_eqv a b
    have ih' : PyData.eqvAll (a.map PyData.str) (b.map PyData.str) = decide (a = b) := ih
    show ((x == y) && PyData.eqvAll (a.map PyData.str) (b.map PyData.str)) = _
    rw [ih']
    by_cases h1 : x = y
    · subst h1
      by_cases h2 : a = b
      · subst h2; simp
      · rw [decide_eq_false h2, decide_eq_false (fun e => h2 (List.cons.inj e).2), Bool.and_false]
    · rw [decide_eq_false (fun e => h1 (List.cons.inj e).1), (beq_eq_false_iff_ne.mpr h1 : (x == y) = false), Bool.false_and]
theorem cut_mid {ws : List Str} {i j : Nat} : cutV (ws.map V.str) (some (i : Int)) (some (j : Int)) = ((ws.drop i).take (j - i)).map V.str := by
  unfold cutV
  rw [HT.sIx_nat, HT.sIx_nat, List.length_map, ← List.map_drop, ← List.map_take]
  congr 1
  by_cases h : i ≤ ws.length
  · rw [Nat.min_eq_left h]
    by_cases h2 : j ≤ ws.length
    · rw [Nat.min_eq_left h2]
    · rw [Nat.min_eq_right (by omega), List.take_of_length_le (by rw [List.length_drop]; exact Nat.le_refl _), List.take_of_length_le (by rw [List.length_drop]; omega)]
  · have e1 : min i ws.length = ws.length := Nat.min_eq_right (by omega)
    rw [e1, List.drop_eq_nil_of_le (Nat.le_refl _), List.drop_eq_nil_of_le (by omega : ws.length ≤ i)]
    simp
theorem cut_drop {ws : List Str} {i : Nat} : cutV (ws.map V.str) (some (i : Int)) none = (ws.drop i).map V.str := by
  unfold cutV
  rw [HT.sIx_nat, HT.sIx_none, List.length_map, ← List.map_drop, ← List.map_take]
  congr 1
  by_cases h : i ≤ ws.length
  · rw [Nat.min_eq_left h, List.take_of_length_le (by rw [List.length_drop]; exact Nat.le_refl _)]
  · rw [Nat.min_eq_right (by omega), List.drop_eq_nil_of_le (Nat.le_refl _), List.drop_eq_nil_of_le (by omega : ws.length ≤ i)]
    simp
theorem cut_take {ws : List Str} {i : Nat} : cutV (ws.map V.str) none (some (i : Int)) = (ws.take i).map V.str := by
  unfold cutV
  rw [HT.sIx_nat, HT.sIx_none, List.length_map, List.drop_zero, ← List.map_take, Nat.sub_zero]
  congr 1
  by_cases h : i ≤ ws.length
  · rw [Nat.min_eq_left h]
  · rw [Nat.min_eq_right (by omega), List.take_of_length_le (Nat.le_refl _), List.take_of_length_le (by omega)]

/-! ### lengths -/
def tot (ws : List Str) : Nat := (ws.map (·.length)).sum + ws.length
theorem joinL_tot (c : Nat) : ∀ L : List (List Nat), L ≠ [] → (joinL [c] L).length + 1 = (L.map List.length).sum + L.length
  | [], h => absurd rfl h
  | [x], _ => by simp [joinL]
  | x :: y :: r, _ => by
    have ih := joinL_tot c (y :: r) (by simp)
    have e : joinL [c] (x :: y :: r) = x ++ ([c] ++ joinL [c] (y :: r)) := rfl
    rw [e, List.length_append, List.length_append]
    simp only [List.map_cons, List.sum_cons, List.length_cons, List.length_nil] at ih ⊢
    omega
theorem tot_tl (ws : List Str) : ((ws.map tl).map List.length).sum + (ws.map tl).length = tot ws := by
  unfold tot
  rw [List.map_map, List.length_map]
  have e : ws.map (List.length ∘ tl) = ws.map (·.length) := List.map_congr_left fun w _ => (len_tl w).symm
  rw [e]
theorem tot_join {ws : List Str} {y : Str} {c : Nat} (hy : tl y = [c]) (h : ws ≠ []) : (Txt.join y ws).length + 1 = tot ws := by
  rw [join_eq, len_tl, tl_join, hy, joinL_tot c _ (by simpa using h), tot_tl]
theorem split_nil (x y : Str) : Txt.split x y ≠ [] := by
  unfold Txt.split
  split
  · simp
  · split
    · simp
    · intro e
      have := congrArg List.length e
      rw [length_partsBetween] at this
      simp at this
theorem tot_split {s y : Str} {c : Nat} (hy : tl y = [c]) : tot (Txt.split s y) = s.length + 1 := by
  have e := congrArg Str.length (PySem.StrLaws.join_split s y)
  rw [← e, ← join_eq]
  exact (tot_join hy (split_nil s y)).symm
theorem tot_append (a b : List Str) : tot (a ++ b) = tot a + tot b := by
  unfold tot
  rw [List.map_append, List.sum_append, List.length_append]; omega
theorem tot_cut (ws : List Str) (i : Nat) : tot (ws.take i) + tot (ws.drop i) = tot ws := by
  rw [← tot_append, List.take_append_drop]
theorem tot_one (w : Str) : tot [w] = w.length + 1 := by unfold tot; simp
theorem tot_mem {w : Str} : ∀ {ws : List Str}, w ∈ ws → w.length + 1 ≤ tot ws
  | x :: r, h => by
    have e : tot (x :: r) = (x.length + 1) + tot r := by
      rw [show x :: r = [x] ++ r from rfl, tot_append, tot_one]
    rcases List.mem_cons.mp h with rfl | h
    · omega
    · have := tot_mem h; omega
theorem tot_len (ws : List Str) : ws.length ≤ tot ws := by unfold tot; omega
theorem tot_all {b : Nat} : ∀ {ws : List Str}, (∀ w ∈ ws, w.length ≤ b) → tot ws ≤ ws.length * (b + 1)
  | [], _ => Nat.zero_le _
  | x :: r, h => by
    have ih := tot_all fun w hw => h w (List.mem_cons_of_mem x hw)
    have h1 := h x List.mem_cons_self
    have e : tot (x :: r) = (x.length + 1) + tot r := by
      rw [show x :: r = [x] ++ r from rfl, tot_append, tot_one]
    rw [e, List.length_cons, Nat.add_mul, Nat.one_mul]
    omega
theorem sum_tot {ws : List Str} {y : Str} (hy : y.length = 1) : (ws.map (·.length)).sum + ws.length * y.length = tot ws := by
  unfold tot
  rw [hy, Nat.mul_one]
theorem len_sp : (Str.ofString " ").length = 1 := by decide +kernel
theorem len_nl : (Str.ofString "\n").length = 1 := by decide +kernel
theorem len_dot : (Str.ofString ".").length = 1 := by decide +kernel
theorem part_len {s y w : Str} {c : Nat} (hy : tl y = [c]) (h : w ∈ Txt.split s y) : w.length ≤ s.length := by
  have := tot_mem h
  rw [tot_split hy] at this
  omega
theorem parts_n {s y : Str} {c : Nat} (hy : tl y = [c]) : (Txt.split s y).length ≤ s.length + 1 := by
  have := tot_len (Txt.split s y)
  rw [tot_split hy] at this
  exact this
theorem ascii_split {s y : Str} (h : Ascii s) : ∀ p ∈ Txt.split s y, Ascii p := by
  have e2 := congrArg tl (PySem.StrLaws.join_split s y)
  rw [tl_join] at e2
  intro p hp c hc
  refine h c ?_
  rw [← e2]
  exact joinL_sub (List.mem_map.mpr ⟨p, hp, rfl⟩) hc
theorem joinL_mem {c : Nat} {z : List Nat} : ∀ {L : List (List Nat)}, c ∈ joinL z L → c ∈ z ∨ ∃ p ∈ L, c ∈ p
  | [], h => by simp [joinL] at h
  | [x], h => .inr ⟨x, List.mem_cons_self, h⟩
  | x :: y :: r, h => by
    have h : c ∈ x ++ (z ++ joinL z (y :: r)) := h
    rcases List.mem_append.mp h with h | h
    · exact .inr ⟨x, List.mem_cons_self, h⟩
    · rcases List.mem_append.mp h with h | h
      · exact .inl h
      · rcases joinL_mem h with h | ⟨p, hp, hc⟩
        · exact .inl h
        · exact .inr ⟨p, List.mem_cons_of_mem _ hp, hc⟩
theorem ascii_join {ws : List Str} {y : Str} (hy : Ascii y) (h : ∀ w ∈ ws, Ascii w) : Ascii (Txt.join y ws) := fun c hc => by
  rw [join_eq, tl_join] at hc
  rcases joinL_mem hc with hc | ⟨p, hp, hc⟩
  · exact hy c hc
  · obtain ⟨w, hw, rfl⟩ := List.mem_map.mp hp
    exact h w hw c hc
instance (s : Str) : Decidable (Ascii s) := by unfold Ascii; infer_instance
theorem ascii_sp : Ascii (Str.ofString " ") := by decide +kernel
theorem ascii_nl : Ascii (Str.ofString "\n") := by decide +kernel
theorem ascii_dot : Ascii (Str.ofString ".") := by decide +kernel
theorem ascii_app {a b : Str} (ha : Ascii a) (hb : Ascii b) : Ascii (a ++ b) := fun c hc => by
  rw [tl_append] at hc
  exact (List.mem_append.mp hc).elim (ha c) (hb c)
def LnB (b : Nat) (t : Str) : Prop := t.length ≤ b ∧ Ascii t
instance (b : Nat) (t : Str) : Decidable (LnB b t) := by unfold LnB; infer_instance
theorem LnB.mono {a b : Nat} {t : Str} (h : LnB a t) (le : a ≤ b) : LnB b t := ⟨Nat.le_trans h.1 le, h.2⟩
/-! ### what is an entry -/
def adOk (s : Str) : Bool := decide (s = Str.ofString "-") || (decide ((Txt.split s (Str.ofString ".")).length ≤ 100) && (Txt.split s (Str.ofString ".")).all isValW)
def adOf (s : Str) : List Int := if s = Str.ofString "-" then [] else (Txt.split s (Str.ofString ".")).map valOf
def mkOk (w : Str) : Bool := decide (w = Str.ofString "-1") || isValW w
def mkOf (w : Str) : Int := if w = Str.ofString "-1" then -1 else valOf w
def word (t : Str) (i : Nat) : Str := (Txt.split t (Str.ofString " ")).getD i (Str.ofString "")
def kOk (w : Str) : Bool := decide (w = Str.ofString "part") || decide (w = Str.ofString "kept")
def enOk (t : Str) : Bool := decide (2 ≤ (Txt.split t (Str.ofString " ")).length) && (adOk (word t 1) && ((decide (word t 0 = Str.ofString "done") && decide ((Txt.split t (Str.ofString " ")).length = 2)) ||
  (kOk (word t 0) && (decide ((Txt.split t (Str.ofString " ")).length ≤ 6002) && ((Txt.split t (Str.ofString " ")).drop 2).all mkOk))))
def enOf (t : Str) : Ent := ⟨word t 0, adOf (word t 1), ((Txt.split t (Str.ofString " ")).drop 2).map mkOf⟩
def bkOk (s : Str) : Bool := decide (s = Str.ofString "") || (Txt.split s (Str.ofString "\n")).all enOk
def bkOf (s : Str) : List Ent := if s = Str.ofString "" then [] else (Txt.split s (Str.ofString "\n")).map enOf
theorem mk_int {w : Str} (h : mkOk w = true) : PySem.intText? w = some (mkOf w) ∧ w.length ≤ 640 := by
  unfold mkOf
  by_cases c : w = Str.ofString "-1"
  · subst c
    rw [if_pos rfl]
    exact ⟨by decide +kernel, by decide +kernel⟩
  · rw [if_neg c]
    unfold mkOk at h
    rw [decide_eq_false c, Bool.false_or] at h
    exact ⟨(valW_int h).1, (valW_int h).2.1⟩
theorem kOk_or {w : Str} (h : kOk w = true) : w = Str.ofString "part" ∨ w = Str.ofString "kept" := by
  unfold kOk at h
  rcases Bool.or_eq_true _ _ ▸ h with h | h
  · exact .inl (of_decide_eq_true h)
  · exact .inr (of_decide_eq_true h)
theorem kOk_in (w : Str) : inV (.str w) [.str "part", .str "kept"] = kOk w := by
  have := inV_str w ["part", "kept"]
  rw [show ([V.str "part", V.str "kept"] : List V) = (["part", "kept"] : List Str).map V.str from rfl, this]
  unfold kOk
  rw [Bool.eq_iff_iff, decide_eq_true_eq, Bool.or_eq_true, decide_eq_true_eq, decide_eq_true_eq]
  simp only [List.mem_cons, List.not_mem_nil, or_false]
theorem kOk_done : kOk (Str.ofString "done") = false := by decide +kernel
theorem word_at {t : Str} {i : Nat} (h : i < (Txt.split t (Str.ofString " ")).length) : atI ((Txt.split t (Str.ofString " ")).map V.str) (i : Int) = some (V.str (word t i)) := by
  refine atI_nat ?_
  unfold word
  rw [List.getElem?_map, List.getD_eq_getElem?_getD, List.getElem?_eq_getElem h]; rfl
theorem word_len {t : Str} {i : Nat} (h : i < (Txt.split t (Str.ofString " ")).length) : word t i ∈ Txt.split t (Str.ofString " ") := by
  unfold word
  rw [List.getD_eq_getElem?_getD, List.getElem?_eq_getElem h]
  exact List.getElem_mem h
theorem word_pos (t : Str) : 0 < (Txt.split t (Str.ofString " ")).length := List.length_pos_iff.mpr (split_nil _ _)
def Ent.Kind (e : Ent) : Prop := (e.w = "done" ∧ e.ms = []) ∨ e.w = "part" ∨ e.w = "kept"
theorem enOf_kind {t : Str} (h : enOk t = true) : (enOf t).Kind := by
  unfold enOk at h
  simp only [Bool.and_eq_true, Bool.or_eq_true, decide_eq_true_eq] at h
  obtain ⟨_, _, h⟩ := h
  rcases h with ⟨h1, h2⟩ | ⟨h1, _⟩
  · refine .inl ⟨h1, ?_⟩
    show ((Txt.split t (Str.ofString " ")).drop 2).map mkOf = []
    rw [List.drop_eq_nil_of_le (by omega)]; rfl
  · exact .inr (kOk_or h1)
theorem Ent.Kind.w3 {e : Ent} (h : e.Kind) : e.w = "done" ∨ e.w = "part" ∨ e.w = "kept" := h.imp (fun h => h.1) id
theorem Ent.Kind.lay {e : Ent} (h : e.Kind) : e.data.canLay0 = true := by
  have h1 : PyData.strOk e.w = true := strOk_of fun c hc => ((word3 h.w3).2 c hc).2
  unfold Ent.data
  show (PyData.strOk e.w && (PyData.canLayAll0 (e.ad.map .int) && PyData.canLayAll0 _)) = true
  rw [h1, lay_ints]
  by_cases c : e.w = "done"
  · rw [if_pos c]; rfl
  · rw [if_neg c]
    show (true && (true && (PyData.canLayAll0 (e.ms.map .int) && true))) = true
    rw [lay_ints]; rfl
theorem kinds_lay {es : List Ent} (h : ∀ e ∈ es, e.Kind) : (bookData es).canLay0 = true := by
  show PyData.canLayAll0 (es.map Ent.data) = true
  induction es with
  | nil => rfl
  | cons e r ih =>
    show (e.data.canLay0 && PyData.canLayAll0 (r.map Ent.data)) = true
    rw [(h e List.mem_cons_self).lay, ih fun z hz => h z (List.mem_cons_of_mem _ hz)]; rfl
theorem kinds_shaped {es : List Ent} (h : ∀ e ∈ es, e.Kind) : SeqAt.shaped (bookData es) = true := by
  show ((bookData es).canLay0 && decide ((bookData es).depth ≤ 64)) = true
  rw [kinds_lay h, decide_eq_true (Nat.le_trans (book_deep es) (by decide))]; rfl
theorem bkOf_kind {s : Str} (h : bkOk s = true) : ∀ e ∈ bkOf s, e.Kind := by
  unfold bkOf
  by_cases c : s = Str.ofString ""
  · rw [if_pos c]; intro e he; cases he
  · rw [if_neg c]
    unfold bkOk at h
    rw [decide_eq_false c, Bool.false_or, List.all_eq_true] at h
    intro e he
    obtain ⟨t, ht, rfl⟩ := List.mem_map.mp he
    exact enOf_kind (h t ht)
/-- each gives what is known ahead, and is good -/
theorem all2_map {α : Type} {p : α → Bool} {f : α → V} : ∀ {xs : List α} {ys : List V}, All2 (fun a y => p a = true ∧ y = f a) xs ys → ys = xs.map f ∧ xs.all p = true
  | _, _, .nil => ⟨rfl, rfl⟩
  | x :: r, y :: t, .cons h k => by
    obtain ⟨e1, e2⟩ := all2_map k
    exact ⟨by rw [h.2, e1]; rfl, by rw [List.all_cons, h.1, e2]; rfl⟩
theorem all2_strs : ∀ xs : List Str, All2 (fun (w : Str) (v : V) => v = V.str w) xs (xs.map V.str)
  | [] => .nil
  | x :: r => .cons rfl (all2_strs r)
theorem all2_image {α β : Type} {f : α → β} {R : β → V → Prop} : ∀ {xs : List α} {ys : List V}, All2 (fun a y => R (f a) y) xs ys → All2 R (xs.map f) ys
  | _, _, .nil => .nil
  | _, _, .cons h t => .cons h (all2_image t)
theorem all_not {xs : List Str} {p : Str → Bool} {w : Str} (h : w ∈ xs) (c : p w = false) : xs.all p = false := by
  rw [List.all_eq_false]
  exact ⟨w, h, by rw [c]; exact Bool.false_ne_true⟩
theorem getNone {H H' : Hp} {l : Addr} (s : Same H H') (h : H' l = none) : H l = none := by
  cases q : H l with
  | none => rfl
  | some o => rw [s _ _ q] at h; cases h
theorem units65 {k : Nat} {A : Around} (r : Room k A) : A.units + 65 < cLine := by have := r.un; omega
theorem join_tot {ws : List Str} {y : Str} {c : Nat} (hy : tl y = [c]) : (Txt.join y ws).length ≤ tot ws := by
  by_cases h : ws = []
  · subst h
    rw [join_eq, len_tl, tl_join]
    exact Nat.le_of_eq rfl
  · have := tot_join hy h; omega
theorem ascii_numT {n : Int} (h : n = -1 ∨ IsVal n) : Ascii (numT n) := by
  rcases h with rfl | h
  · decide +kernel
  · intro c hc
    have := (valW_parts (numT_valW h.1 h.2).1).2.2 c hc
    omega
theorem ascii_adT {ad : List Int} (h : ∀ n ∈ ad, IsVal n) : Ascii (adT ad) := by
  unfold adT
  split
  · decide +kernel
  · refine ascii_join ascii_dot fun w hw => ?_
    obtain ⟨n, hn, rfl⟩ := List.mem_map.mp hw
    exact ascii_numT (.inr (h n hn))
def NB1 : List Str := ["", "-", "-1", "-2", "0", "00", "01", "1.", ".1", "1..2", "1000000", "999999", "part", "kept", "done"]
def NB2 : List Str := ["Part", "gone", "1.2.3", "a", "+1", "1,2", "--", "-.1", "1.-", "-0", "1.01", "box", "1.1000000"]
def NB3 : List Str := ["7", "."]
theorem nb_ok : ∀ s ∈ (NB1 ++ NB2) ++ NB3, LnB 9 s := by decide +kernel
/-- what the law keeps of a line -/
def lineD (t : Str) : PyData := if enOk t = true then (enOf t).data else .none
theorem lineD_lay (ls : List Str) : (PyData.list (ls.map lineD)).canLay0 = true := by
  show PyData.canLayAll0 (ls.map lineD) = true
  induction ls with
  | nil => rfl
  | cons x r ih =>
    show ((lineD x).canLay0 && PyData.canLayAll0 (r.map lineD)) = true
    have : (lineD x).canLay0 = true := by
      unfold lineD
      split
      · rename_i h; exact (enOf_kind h).lay
      · rfl
    rw [this, ih]; rfl
theorem lineD_deep (ls : List Str) : (PyData.list (ls.map lineD)).depth ≤ 3 := by
  have : PyData.depthAll (ls.map lineD) ≤ 2 := by
    induction ls with
    | nil => exact Nat.zero_le _
    | cons x r ih =>
      show max (lineD x).depth (PyData.depthAll (r.map lineD)) ≤ 2
      have : (lineD x).depth ≤ 2 := by
        unfold lineD
        split
        · exact Ent.deep _
        · exact Nat.zero_le _
      omega
  show PyData.depthAll (ls.map lineD) + 1 ≤ 3
  omega
theorem lineD_shaped (ls : List Str) : SeqAt.shaped (.list (ls.map lineD)) = true := by
  show (PyData.canLay0 _ && decide (PyData.depth _ ≤ 64)) = true
  rw [lineD_lay, decide_eq_true (Nat.le_trans (lineD_deep ls) (by decide))]; rfl
theorem lineD_none (t : Str) : PyData.eqv (lineD t) .none = !enOk t := by
  unfold lineD
  cases h : enOk t with
  | true => rw [if_pos rfl]; rfl
  | false => rw [if_neg Bool.false_ne_true]; rfl
theorem lineD_any (ls : List Str) : ((ls.map lineD).any fun z => PyData.eqv z .none) = !ls.all enOk := by
  induction ls with
  | nil => rfl
  | cons x r ih =>
    rw [List.map_cons, List.any_cons, ih, lineD_none, List.all_cons]
    cases enOk x <;> rfl
/-- what stands for a line -/
def LineH (H : Hp) (N : Addr → Prop) (t : Str) (y : V) : Prop := (enOk t = true ∧ EntH H N (enOf t) y) ∨ (enOk t = false ∧ y = .non)
theorem LineH.dp {K : PySem.W.Frag} {H : Hp} {N : Addr → Prop} {t : Str} {y : V} (h : LineH H N t y) : Dp K H y (lineD t) := by
  unfold lineD
  rcases h with ⟨c, h⟩ | ⟨c, rfl⟩
  · rw [if_pos c]; exact h.dp
  · rw [c, if_neg Bool.false_ne_true]; exact .non
theorem lines_dp {K : PySem.W.Frag} {H : Hp} {N : Addr → Prop} : ∀ {ls : List Str} {ys : List V}, All2 (LineH H N) ls ys → DpAll K H ys (ls.map lineD)
  | _, _, .nil => .nil
  | _, _, .cons h t => .cons h.dp (lines_dp t)
/-! ### very many makers -/
def HEADS : List Str := ["part 1", "kept 1.0", "kept -"]
def MANYS : List Str := ["0", "-1", "999999"]
def manyT (h m : Str) (n : Nat) : Str := Txt.join (Str.ofString " ") (h :: List.replicate n m)
theorem heads_ok : ∀ h ∈ HEADS, (Txt.split h (Str.ofString " ")).length = 2 ∧ kOk (word h 0) = true ∧ word h 0 ≠ Str.ofString "done" ∧ adOk (word h 1) = true ∧ (∀ p ∈ Txt.split h (Str.ofString " "), 32 ∉ tl p) ∧ 10 ∉ tl h ∧ h.length ≤ 8 := by decide +kernel
theorem manys_ok : ∀ m ∈ MANYS, mkOk m = true ∧ 32 ∉ tl m ∧ 10 ∉ tl m ∧ m.length ≤ 6 := by decide +kernel
theorem joinL_flat {z : List Nat} : ∀ {A B : List (List Nat)}, A ≠ [] → joinL z (joinL z A :: B) = joinL z (A ++ B)
  | [], _, h => absurd rfl h
  | [x], B, _ => rfl
  | x :: y :: r, B, _ => by
    have ih := joinL_flat (z := z) (A := y :: r) (B := B) (by simp)
    cases B with
    | nil => rw [List.append_nil]; rfl
    | cons b t =>
      have e1 : joinL z (joinL z (x :: y :: r) :: b :: t) = (x ++ (z ++ joinL z (y :: r))) ++ (z ++ joinL z (b :: t)) := rfl
      have e2 : joinL z ((x :: y :: r) ++ b :: t) = x ++ (z ++ joinL z ((y :: r) ++ b :: t)) := rfl
      have e3 : joinL z (joinL z (y :: r) :: b :: t) = joinL z (y :: r) ++ (z ++ joinL z (b :: t)) := rfl
      rw [e1, e2, ← ih, e3]
      simp only [List.append_assoc]
theorem many_join {h m : Str} {n : Nat} : manyT h m n = Txt.join (Str.ofString " ") (Txt.split h (Str.ofString " ") ++ List.replicate n m) := by
  have e := congrArg tl (PySem.StrLaws.join_split h (Str.ofString " "))
  rw [tl_join] at e
  refine ext_tl ?_
  unfold manyT
  rw [join_eq, join_eq, tl_join, tl_join, List.map_cons, ← e, List.map_append]
  exact joinL_flat (by simpa using split_nil h _)
theorem many_split {h m : Str} (hh : h ∈ HEADS) (hm : m ∈ MANYS) (n : Nat) : Txt.split (manyT h m n) (Str.ofString " ") = Txt.split h (Str.ofString " ") ++ List.replicate n m := by
  rw [many_join]
  refine split_join tl_sp (by decide +kernel) (by simp [split_nil]) fun p hp => ?_
  rcases List.mem_append.mp hp with hp | hp
  · exact (heads_ok h hh).2.2.2.2.1 p hp
  · rw [List.eq_of_mem_replicate hp]; exact (manys_ok m hm).2.1
theorem many_line {h m : Str} (hh : h ∈ HEADS) (hm : m ∈ MANYS) (n : Nat) : Txt.split (manyT h m n) (Str.ofString "\n") = [manyT h m n] := by
  have e : Txt.join (Str.ofString "\n") [manyT h m n] = manyT h m n := by
    refine ext_tl ?_
    rw [join_eq, tl_join]; rfl
  have no : ∀ p ∈ [manyT h m n], 10 ∉ tl p := fun p hp hc => by
    rw [List.mem_singleton.mp hp] at hc
    unfold manyT at hc
    rw [join_eq, tl_join, tl_sp] at hc
    rcases joinL_mem hc with hc1 | ⟨q, hq, hc2⟩
    · simp at hc1
    · obtain ⟨w, hw, rfl⟩ := List.mem_map.mp hq
      rcases List.mem_cons.mp hw with e | hw
      · rw [e] at hc2; exact (heads_ok _ hh).2.2.2.2.2.1 hc2
      · rw [List.eq_of_mem_replicate hw] at hc2; exact (manys_ok m hm).2.2.1 hc2
  have := split_join tl_nl (by decide +kernel) (parts := [manyT h m n]) (by simp) no
  rw [e] at this
  exact this
theorem many_len {h m : Str} (hh : h ∈ HEADS) (hm : m ∈ MANYS) (n : Nat) : tot (h :: List.replicate n m) ≤ 9 + n * 7 := by
  have h1 := (heads_ok h hh).2.2.2.2.2.2
  have h2 := (manys_ok m hm).2.2.2
  have h3 : tot (List.replicate n m) ≤ n * 7 := by
    have := tot_all (b := 6) (ws := List.replicate n m) fun w hw => by rw [List.eq_of_mem_replicate hw]; exact h2
    rw [List.length_replicate] at this
    exact this
  have e : tot (h :: List.replicate n m) = (h.length + 1) + tot (List.replicate n m) := by
    rw [show h :: List.replicate n m = [h] ++ List.replicate n m from rfl, tot_append, tot_one]
  omega
theorem getD_left {a b : List Str} {i : Nat} (h : i < a.length) (d : Str) : (a ++ b).getD i d = a.getD i d := by
  rw [List.getD_eq_getElem?_getD, List.getD_eq_getElem?_getD, List.getElem?_append_left h]
theorem many_word {h m : Str} (hh : h ∈ HEADS) (hm : m ∈ MANYS) (n : Nat) : word (manyT h m n) 0 = word h 0 ∧ word (manyT h m n) 1 = word h 1 := by
  have h2 := (heads_ok h hh).1
  unfold word
  rw [many_split hh hm]
  exact ⟨getD_left (by omega) _, getD_left (by omega) _⟩
theorem many_en {h m : Str} (hh : h ∈ HEADS) (hm : m ∈ MANYS) (n : Nat) : enOk (manyT h m n) = decide (n + 2 ≤ 6002) := by
  obtain ⟨h1, h2, h3, h4, _⟩ := heads_ok h hh
  obtain ⟨w0, w1⟩ := many_word hh hm n
  have len : (Txt.split (manyT h m n) (Str.ofString " ")).length = n + 2 := by rw [many_split hh hm, List.length_append, List.length_replicate, h1]; omega
  have drp : (Txt.split (manyT h m n) (Str.ofString " ")).drop 2 = List.replicate n m := by rw [many_split hh hm, ← h1, List.drop_left]
  have al : (List.replicate n m).all mkOk = true := List.all_eq_true.mpr fun w hw => by rw [List.eq_of_mem_replicate hw]; exact (manys_ok m hm).1
  unfold enOk
  rw [len, drp, w0, w1, h2, h4, al, decide_eq_false h3, decide_eq_true (show 2 ≤ n + 2 by omega)]
  simp
theorem many_ne {h m : Str} (hh : h ∈ HEADS) (n : Nat) : ¬ manyT h m n = Str.ofString "" := fun e => by
  have := tot_join (c := 32) (y := Str.ofString " ") (ws := h :: List.replicate n m) tl_sp (by simp)
  have e2 : (Txt.join (Str.ofString " ") (h :: List.replicate n m)).length = 0 := by
    have := congrArg Str.length e
    rw [show (Str.ofString "").length = 0 from by decide +kernel] at this
    exact this
  have h1 : ∀ h ∈ HEADS, 1 ≤ h.length := by decide +kernel
  have h2 := h1 h hh
  have e3 : tot (h :: List.replicate n m) = (h.length + 1) + tot (List.replicate n m) := by
    rw [show h :: List.replicate n m = [h] ++ List.replicate n m from rfl, tot_append, tot_one]
  omega
theorem many_bk {h m : Str} (hh : h ∈ HEADS) (hm : m ∈ MANYS) (n : Nat) : bkOk (manyT h m n) = decide (n + 2 ≤ 6002) ∧ bkOf (manyT h m n) = [enOf (manyT h m n)] := by
  unfold bkOk bkOf
  rw [decide_eq_false (many_ne hh n), if_neg (many_ne hh n), many_line hh hm, Bool.false_or]
  refine ⟨?_, rfl⟩
  show (enOk (manyT h m n) && true) = _
  rw [many_en hh hm, Bool.and_true]
theorem many_ms {h m : Str} (hh : h ∈ HEADS) (hm : m ∈ MANYS) (n : Nat) : (enOf (manyT h m n)).ms.length = n ∧ (enOf (manyT h m n)).w ≠ "done" := by
  obtain ⟨h1, h2, h3, h4, _⟩ := heads_ok h hh
  obtain ⟨w0, w1⟩ := many_word hh hm n
  have drp : (Txt.split (manyT h m n) (Str.ofString " ")).drop 2 = List.replicate n m := by rw [many_split hh hm, ← h1, List.drop_left]
  refine ⟨?_, ?_⟩
  · show (((Txt.split (manyT h m n) (Str.ofString " ")).drop 2).map mkOf).length = n
    rw [drp, List.length_map, List.length_replicate]
  · show word (manyT h m n) 0 ≠ _
    rw [w0]; exact h3
theorem flat_rep (n : Nat) (m : Str) : (List.replicate n [V.str m]).flatten = (List.replicate n m).map V.str := by
  induction n with
  | zero => rfl
  | succ n ih => rw [List.replicate_succ, List.replicate_succ, List.flatten_cons, ih]; rfl
theorem keepX_none {p a : Addr} {H H' : Hp} (k : KeepX p H H') (n : a ≠ p) (h : H' a = none) : H a = none := by
  cases q : H a with
  | none => rfl
  | some o => rw [k _ _ n q] at h; cases h
theorem keepX_put {p a : Addr} {H H' : Hp} {o : HO} (k : KeepX p H H') (h : H a = none) : KeepX p H (upd H' a o) := fun b u nb hb => by
  rw [upd_ne (ne_of_none hb h)]
  exact k b u nb hb
theorem WellAt.put {p a : Addr} {H : Hp} {o : HO} (W : WellAt H p) (n : a ≠ p) : WellAt (upd H a o) p := by
  obtain ⟨x, y, z, u, w⟩ := W
  exact ⟨x, y, z, u, by rw [upd_ne (Ne.symm n)]; exact w⟩
theorem lnb_numT {n : Int} (h : n = -1 ∨ IsVal n) : LnB 6 (numT n) := ⟨numT_len h, ascii_numT h⟩
theorem lnb_head : ∀ w ∈ (["part", "kept", "done"] : List Str), LnB 4 w := by decide +kernel
/-- a line's words: their sum -/
theorem tot_line {w a : Str} {r : List Str} (hw : LnB 4 w) (ha : a.length ≤ 706) (hr : r.length ≤ 3) (h : ∀ x ∈ r, LnB 6 x) : tot (w :: a :: r) ≤ 733 := by
  have e : tot (w :: a :: r) = (w.length + 1) + ((a.length + 1) + tot r) := by
    rw [show w :: a :: r = [w] ++ ([a] ++ r) from rfl, tot_append, tot_append, tot_one, tot_one]
  have h1 := tot_all fun x hx => (h x hx).1
  have h2 : r.length * (6 + 1) ≤ 3 * 7 := Nat.mul_le_mul_right _ hr
  have := hw.1
  omega
def bnd : Nat → Nat
  | 0 => 800
  | n + 1 => 2 * bnd n + 12
theorem bnd_le : ∀ j, j ≤ 3 → bnd j ≤ 6484 := by decide
theorem bnd_mono (j : Nat) : bnd j ≤ bnd (j + 1) := by
  show bnd j ≤ 2 * bnd j + 12
  omega
theorem bnd_up {i j : Nat} (h : i ≤ j) : bnd i ≤ bnd j := by
  induction h with
  | refl => exact Nat.le_refl _
  | step _ ih => exact Nat.le_trans ih (bnd_mono _)
theorem len_app_nl (s : Str) : (s ++ Str.ofString "\n").length = s.length + 1 := by
  rw [len_tl, tl_append, List.length_append, ← len_tl, ← len_tl, len_nl]
theorem len_nl_app (s : Str) : (Str.ofString "\n" ++ s).length = s.length + 1 := by
  rw [len_tl, tl_append, List.length_append, ← len_tl, ← len_tl, len_nl]; omega
/-! ### promises -/
def spAdInX (N : Addr) : Sp := fun vs H Q E => ∃ s : Str, vs = [.str s] ∧ s.length ≤ 100000 ∧ (adOk s = true → ∀ a H', Same H H' → H' a = some (.tup ((adOf s).map V.int)) → Q (.ref a) H') ∧ (adOk s = false → ∀ H', Same H H' → E (.ref N) none H')
def spMkInX (N : Addr) : Sp := fun vs H Q E => ∃ s : Str, vs = [.str s] ∧ s.length ≤ 100000 ∧ (mkOk s = true → ∀ H', Same H H' → Q (.int (mkOf s)) H') ∧ (mkOk s = false → ∀ H', Same H H' → E (.ref N) none H')
def spEntInX (N : Addr) : Sp := fun vs H Q E => ∃ s : Str, vs = [.str s] ∧ s.length ≤ 100000 ∧ (enOk s = true → ∀ v H', Same H H' → EntH H' (fun l => H l = none) (enOf s) v → Q v H') ∧ (enOk s = false → ∀ H', Same H H' → E (.ref N) none H')
def spReadX (K : PySem.W.Frag) (N : Addr) : Sp := fun vs H Q E => ∃ x : V, vs = [x] ∧ ((∃ s : Str, x = .str s ∧ s.length ≤ 100000 ∧ (bkOk s = true → ∀ r xs H', Same H H' → H' r = some (.lst xs) → All2 (EntH H' (fun _ => True)) (bkOf s) xs → Q (.ref r) H') ∧
  (bkOk s = false → ∀ H', Same H H' → E (.ref N) none H')) ∨ (∃ t, TyX K H x t ∧ PySem.W.kitOne K t (.type "str") = some false ∧ E (.ref N) none H))
def spIsNum (f : Str → Bool) : Sp := fun vs H Q _ => ∃ s : Str, vs = [.str s] ∧ s.length ≤ 100000 ∧ Ascii s ∧ ∀ H', Same H H' → Q (.bl (f s)) H'
def spLAdOf : Sp := fun vs H Q _ => ∃ s : Str, vs = [.str s] ∧ s.length ≤ 100000 ∧ Ascii s ∧ (adOk s = true → ∀ a H', Same H H' → H' a = some (.tup ((adOf s).map V.int)) → Q (.ref a) H') ∧ (adOk s = false → ∀ H', Same H H' → Q .non H')
def spLEntry : Sp := fun vs H Q _ => ∃ s : Str, vs = [.str s] ∧ s.length ≤ 100000 ∧ Ascii s ∧ (enOk s = true → ∀ v H', Same H H' → EntH H' (fun l => H l = none) (enOf s) v → Q v H') ∧ (enOk s = false → ∀ H', Same H H' → Q .non H')
def spLDue : Sp := fun vs H Q _ => ∃ s : Str, vs = [.str s] ∧ s.length ≤ 100000 ∧ Ascii s ∧ (bkOk s = true → ∀ r xs H', Same H H' → H' r = some (.lst xs) → All2 (EntH H' (fun _ => True)) (bkOf s) xs → Q (.ref r) H') ∧ (bkOk s = false → ∀ H', Same H H' → Q (.str "refused") H')
def spLFound (K : PySem.W.Frag) : Sp := fun vs H Q _ => ∃ x : V, vs = [x] ∧ ((∃ s : Str, x = .str s ∧ s.length ≤ 100000 ∧ (bkOk s = true → ∀ r xs H', Same H H' → H' r = some (.lst xs) → All2 (EntH H' (fun _ => True)) (bkOf s) xs → Q (.ref r) H') ∧
  (bkOk s = false → ∀ H', Same H H' → Q (.str "refused") H')) ∨ (∃ t, TyX K H x t ∧ PySem.W.kitOne K t (.type "str") = some false ∧ ∀ H', Same H H' → Q (.str "refused") H'))
def spLLines : Sp := fun vs H Q _ => ∃ (p : Addr), vs = [.ref p] ∧ WellAt H p ∧ ∀ (l : Addr) (ls : List Str) H', H' l = some (.lst (ls.map V.str)) → l ≠ p → ls.length ≤ 4 → (∀ t ∈ ls, LnB 800 t) → KeepX p H H' → WellAt H' p → Q (.ref l) H'
def spLMenu : Sp := fun vs H Q _ => ∃ (p : Addr), vs = [.ref p] ∧ WellAt H p ∧ ∀ (s : Str) H', LnB 9 s → KeepX p H H' → WellAt H' p → Q (.str s) H'
def spSpLine : Sp := fun vs H Q _ => ∃ (p : Addr) (t : Str) (b : Nat), vs = [.ref p, .str t] ∧ WellAt H p ∧ LnB b t ∧ b ≤ 10000 ∧ ∀ (s : Str) H', LnB (2 * b + 12) s → KeepX p H H' → WellAt H' p → Q (.str s) H'
def spSpoil : Sp := fun vs H Q _ => ∃ (p a : Addr) (ls : List Str) (b : Nat), vs = [.ref p, .ref a] ∧ WellAt H p ∧ H a = some (.lst (ls.map V.str)) ∧ a ≠ p ∧ ls.length ≤ 20 ∧ (∀ t ∈ ls, LnB b t) ∧ b ≤ 10000 ∧
  ∀ (l : Addr) (us : List Str) H', H' l = some (.lst (us.map V.str)) → l ≠ p → us.length ≤ ls.length + 1 → (∀ t ∈ us, LnB (2 * b + 12) t) → KeepX p H H' → WellAt H' p → Q (.ref l) H'
def spMany : Sp := fun vs H Q _ => ∃ n : Int, vs = [.int n] ∧ ∀ H', Same H H' → Q (.bl true) H'

def spLaw (K : PySem.W.Frag) : Sp := fun vs H Q _ => ∃ (a : Addr) (ns : List Int), vs = [.ref a] ∧ SqL K H a (ns.map V.int) ∧ ns.length ≤ 63 ∧ ∀ H', Q (.bl true) H'

end K82
namespace K82
open PySem L2 TL
def top (i : Nat) : Stmt := PySem.Challenge.pw_hadbeen_k82_no_book.main.body.getD i (.Pass ⟨0, 0, 0, 0⟩)
abbrev s_is_value_word : Stmt := top 9
abbrev s_check_text : Stmt := top 13
abbrev s_number_in : Stmt := top 14
abbrev s_address_in : Stmt := top 15
abbrev s_maker_in : Stmt := top 16
abbrev s_entry_in : Stmt := top 17
abbrev s_read_book : Stmt := top 18
abbrev s_l_cell : Stmt := top 20
abbrev s_l_mixed : Stmt := top 21
abbrev s_l_twice : Stmt := top 22
abbrev s_l_well : Stmt := top 23
abbrev s_l_draw : Stmt := top 24
abbrev s_l_number : Stmt := top 25
abbrev s_l_address : Stmt := top 26
abbrev s_l_address_text : Stmt := top 27
abbrev s_l_is_number : Stmt := top 29
abbrev s_l_address_of : Stmt := top 30
abbrev s_l_lines : Stmt := top 31
abbrev s_l_menu : Stmt := top 32
abbrev s_l_spoiled_line : Stmt := top 33
abbrev s_l_spoiled : Stmt := top 34
abbrev s_l_entry : Stmt := top 35
abbrev s_l_due : Stmt := top 36
abbrev s_l_found : Stmt := top 37
abbrev s_l_many_right : Stmt := top 38
abbrev s_law : Stmt := top 39
abbrev N_is_value_word : List Str := ["word", "sign"]
theorem sc_is_value_word : FnScope ["word", "sign"] ["word"] (defScope s_is_value_word) := ⟨rfl, rfl, rfl, by decide +kernel, rfl, by decide +kernel, by decide +kernel⟩
abbrev N_check_text : List Str := ["good"]
theorem sc_check_text : FnScope ["good"] ["good"] (defScope s_check_text) := ⟨rfl, rfl, rfl, by decide +kernel, rfl, by decide +kernel, by decide +kernel⟩
abbrev N_number_in : List Str := ["word"]
theorem sc_number_in : FnScope ["word"] ["word"] (defScope s_number_in) := ⟨rfl, rfl, rfl, by decide +kernel, rfl, by decide +kernel, by decide +kernel⟩
abbrev N_address_in : List Str := ["word", "numbers", "one"]
theorem sc_address_in : FnScope ["word", "numbers", "one"] ["word"] (defScope s_address_in) := ⟨rfl, rfl, rfl, by decide +kernel, rfl, by decide +kernel, by decide +kernel⟩
abbrev N_maker_in : List Str := ["word"]
theorem sc_maker_in : FnScope ["word"] ["word"] (defScope s_maker_in) := ⟨rfl, rfl, rfl, by decide +kernel, rfl, by decide +kernel, by decide +kernel⟩
abbrev N_entry_in : List Str := ["line", "words", "word"]
theorem sc_entry_in : FnScope ["line", "words", "word"] ["line"] (defScope s_entry_in) := ⟨rfl, rfl, rfl, by decide +kernel, rfl, by decide +kernel, by decide +kernel⟩
abbrev N_read_book : List Str := ["text", "line"]
theorem sc_read_book : FnScope ["text", "line"] ["text"] (defScope s_read_book) := ⟨rfl, rfl, rfl, by decide +kernel, rfl, by decide +kernel, by decide +kernel⟩
abbrev N_l_cell : List Str := ["_law_script", "_law_k"]
theorem sc_l_cell : FnScope ["_law_script", "_law_k"] ["_law_script", "_law_k"] (defScope s_l_cell) := ⟨rfl, rfl, rfl, by decide +kernel, rfl, by decide +kernel, by decide +kernel⟩
abbrev N_l_mixed : List Str := ["_law_cell_here", "_law_k", "_law_number_here"]
theorem sc_l_mixed : FnScope ["_law_cell_here", "_law_k", "_law_number_here"] ["_law_cell_here", "_law_k"] (defScope s_l_mixed) := ⟨rfl, rfl, rfl, by decide +kernel, rfl, by decide +kernel, by decide +kernel⟩
abbrev N_l_twice : List Str := ["_law_cell_here", "_law_k", "_law_number_here"]
theorem sc_l_twice : FnScope ["_law_cell_here", "_law_k", "_law_number_here"] ["_law_cell_here", "_law_k"] (defScope s_l_twice) := ⟨rfl, rfl, rfl, by decide +kernel, rfl, by decide +kernel, by decide +kernel⟩
abbrev N_l_well : List Str := ["_law_script", "_law_k"]
theorem sc_l_well : FnScope ["_law_script", "_law_k"] ["_law_script", "_law_k"] (defScope s_l_well) := ⟨rfl, rfl, rfl, by decide +kernel, rfl, by decide +kernel, by decide +kernel⟩
abbrev N_l_draw : List Str := ["_law_well_here", "_law_most", "_law_number_here"]
theorem sc_l_draw : FnScope ["_law_well_here", "_law_most", "_law_number_here"] ["_law_well_here", "_law_most"] (defScope s_l_draw) := ⟨rfl, rfl, rfl, by decide +kernel, rfl, by decide +kernel, by decide +kernel⟩
abbrev N_l_number : List Str := ["_law_well_here", "_law_way"]
theorem sc_l_number : FnScope ["_law_well_here", "_law_way"] ["_law_well_here"] (defScope s_l_number) := ⟨rfl, rfl, rfl, by decide +kernel, rfl, by decide +kernel, by decide +kernel⟩
abbrev N_l_address : List Str := ["_law_well_here", "_law_most", "_law_k"]
theorem sc_l_address : FnScope ["_law_well_here", "_law_most", "_law_k"] ["_law_well_here"] (defScope s_l_address) := ⟨rfl, rfl, rfl, by decide +kernel, rfl, by decide +kernel, by decide +kernel⟩
abbrev N_l_address_text : List Str := ["_law_address_here", "_law_number_here"]
theorem sc_l_address_text : FnScope ["_law_address_here", "_law_number_here"] ["_law_address_here"] (defScope s_l_address_text) := ⟨rfl, rfl, rfl, by decide +kernel, rfl, by decide +kernel, by decide +kernel⟩
abbrev N_l_is_number : List Str := ["_law_word", "_law_sign"]
theorem sc_l_is_number : FnScope ["_law_word", "_law_sign"] ["_law_word"] (defScope s_l_is_number) := ⟨rfl, rfl, rfl, by decide +kernel, rfl, by decide +kernel, by decide +kernel⟩
abbrev N_l_address_of : List Str := ["_law_word", "_law_numbers", "_law_one"]
theorem sc_l_address_of : FnScope ["_law_word", "_law_numbers", "_law_one"] ["_law_word"] (defScope s_l_address_of) := ⟨rfl, rfl, rfl, by decide +kernel, rfl, by decide +kernel, by decide +kernel⟩
abbrev N_l_lines : List Str := ["_law_well_here", "_law_lines_here", "_law_turn", "_law_words", "_law_k"]
theorem sc_l_lines : FnScope ["_law_well_here", "_law_lines_here", "_law_turn", "_law_words", "_law_k"] ["_law_well_here"] (defScope s_l_lines) := ⟨rfl, rfl, rfl, by decide +kernel, rfl, by decide +kernel, by decide +kernel⟩
abbrev N_l_menu : List Str := ["_law_well_here", "_law_some"]
theorem sc_l_menu : FnScope ["_law_well_here", "_law_some"] ["_law_well_here"] (defScope s_l_menu) := ⟨rfl, rfl, rfl, by decide +kernel, rfl, by decide +kernel, by decide +kernel⟩
abbrev N_l_spoiled_line : List Str := ["_law_well_here", "_law_line", "_law_words", "_law_at", "_law_way"]
theorem sc_l_spoiled_line : FnScope ["_law_well_here", "_law_line", "_law_words", "_law_at", "_law_way"] ["_law_well_here", "_law_line"] (defScope s_l_spoiled_line) := ⟨rfl, rfl, rfl, by decide +kernel, rfl, by decide +kernel, by decide +kernel⟩
abbrev N_l_spoiled : List Str := ["_law_well_here", "_law_lines_here", "_law_at", "_law_way"]
theorem sc_l_spoiled : FnScope ["_law_well_here", "_law_lines_here", "_law_at", "_law_way"] ["_law_well_here", "_law_lines_here"] (defScope s_l_spoiled) := ⟨rfl, rfl, rfl, by decide +kernel, rfl, by decide +kernel, by decide +kernel⟩
abbrev N_l_entry : List Str := ["_law_line", "_law_words", "_law_word"]
theorem sc_l_entry : FnScope ["_law_line", "_law_words", "_law_word"] ["_law_line"] (defScope s_l_entry) := ⟨rfl, rfl, rfl, by decide +kernel, rfl, by decide +kernel, by decide +kernel⟩
abbrev N_l_due : List Str := ["_law_text", "_law_found_here", "_law_line"]
theorem sc_l_due : FnScope ["_law_text", "_law_found_here", "_law_line"] ["_law_text"] (defScope s_l_due) := ⟨rfl, rfl, rfl, by decide +kernel, rfl, by decide +kernel, by decide +kernel⟩
abbrev N_l_found : List Str := ["_law_text", "_law_book", "e", "_law_others", "_law_alone"]
theorem sc_l_found : FnScope ["_law_text", "_law_book", "e", "_law_others", "_law_alone"] ["_law_text"] (defScope s_l_found) := ⟨rfl, rfl, rfl, by decide +kernel, rfl, by decide +kernel, by decide +kernel⟩
abbrev N_l_many_right : List Str := ["_law_cell_here", "_law_head", "_law_many"]
theorem sc_l_many_right : FnScope ["_law_cell_here", "_law_head", "_law_many"] ["_law_cell_here"] (defScope s_l_many_right) := ⟨rfl, rfl, rfl, by decide +kernel, rfl, by decide +kernel, by decide +kernel⟩
abbrev N_law : List Str := ["_law_script", "_law_k", "_law_well_here", "_law_lines_here", "_law_turn", "_law_text", "_law_one", "_law_other"]
theorem sc_law : FnScope ["_law_script", "_law_k", "_law_well_here", "_law_lines_here", "_law_turn", "_law_text", "_law_one", "_law_other"] ["_law_script"] (defScope s_law) := ⟨rfl, rfl, rfl, by decide +kernel, rfl, by decide +kernel, by decide +kernel⟩
structure Ads where
  is_value_word : Addr
  is_value_word_d : FuncData
  check_text : Addr
  check_text_d : FuncData
  number_in : Addr
  number_in_d : FuncData
  address_in : Addr
  address_in_d : FuncData
  maker_in : Addr
  maker_in_d : FuncData
  entry_in : Addr
  entry_in_d : FuncData
  read_book : Addr
  read_book_d : FuncData
  l_cell : Addr
  l_cell_d : FuncData
  l_mixed : Addr
  l_mixed_d : FuncData
  l_twice : Addr
  l_twice_d : FuncData
  l_well : Addr
  l_well_d : FuncData
  l_draw : Addr
  l_draw_d : FuncData
  l_number : Addr
  l_number_d : FuncData
  l_address : Addr
  l_address_d : FuncData
  l_address_text : Addr
  l_address_text_d : FuncData
  l_is_number : Addr
  l_is_number_d : FuncData
  l_address_of : Addr
  l_address_of_d : FuncData
  l_lines : Addr
  l_lines_d : FuncData
  l_menu : Addr
  l_menu_d : FuncData
  l_spoiled_line : Addr
  l_spoiled_line_d : FuncData
  l_spoiled : Addr
  l_spoiled_d : FuncData
  l_entry : Addr
  l_entry_d : FuncData
  l_due : Addr
  l_due_d : FuncData
  l_found : Addr
  l_found_d : FuncData
  l_many_right : Addr
  l_many_right_d : FuncData
  law : Addr
  law_d : FuncData
  NoText : Addr
  HadError : Addr
  BadBook : Addr
  NoChange : Addr
  NoMoment : Addr
  NoProgram : Addr
structure Txt (K : PySem.W.Frag) (mg : Str → Option Value) (A : Ads) : Prop where
  F_is_value_word : Fun K "is_value_word" "is_value_word" s_is_value_word A.is_value_word A.is_value_word_d
  b_is_value_word : Binds K A.is_value_word_d ["word"] []
  m_is_value_word : mg "is_value_word" = some (.ref A.is_value_word)
  F_check_text : Fun K "check_text" "check_text" s_check_text A.check_text A.check_text_d
  b_check_text : Binds K A.check_text_d ["good"] []
  m_check_text : mg "check_text" = some (.ref A.check_text)
  F_number_in : Fun K "number_in" "number_in" s_number_in A.number_in A.number_in_d
  b_number_in : Binds K A.number_in_d ["word"] []
  m_number_in : mg "number_in" = some (.ref A.number_in)
  F_address_in : Fun K "address_in" "address_in" s_address_in A.address_in A.address_in_d
  b_address_in : Binds K A.address_in_d ["word"] []
  m_address_in : mg "address_in" = some (.ref A.address_in)
  F_maker_in : Fun K "maker_in" "maker_in" s_maker_in A.maker_in A.maker_in_d
  b_maker_in : Binds K A.maker_in_d ["word"] []
  m_maker_in : mg "maker_in" = some (.ref A.maker_in)
  F_entry_in : Fun K "entry_in" "entry_in" s_entry_in A.entry_in A.entry_in_d
  b_entry_in : Binds K A.entry_in_d ["line"] []
  m_entry_in : mg "entry_in" = some (.ref A.entry_in)
  F_read_book : Fun K "read_book" "read_book" s_read_book A.read_book A.read_book_d
  b_read_book : Binds K A.read_book_d ["text"] []
  m_read_book : mg "read_book" = some (.ref A.read_book)
  F_l_cell : Fun K "_law_cell" "_law_cell" s_l_cell A.l_cell A.l_cell_d
  b_l_cell : Binds K A.l_cell_d ["_law_script", "_law_k"] []
  m_l_cell : mg "_law_cell" = some (.ref A.l_cell)
  F_l_mixed : Fun K "_law_mixed" "_law_mixed" s_l_mixed A.l_mixed A.l_mixed_d
  b_l_mixed : Binds K A.l_mixed_d ["_law_cell_here", "_law_k"] []
  m_l_mixed : mg "_law_mixed" = some (.ref A.l_mixed)
  F_l_twice : Fun K "_law_twice" "_law_twice" s_l_twice A.l_twice A.l_twice_d
  b_l_twice : Binds K A.l_twice_d ["_law_cell_here", "_law_k"] []
  m_l_twice : mg "_law_twice" = some (.ref A.l_twice)
  F_l_well : Fun K "_law_well" "_law_well" s_l_well A.l_well A.l_well_d
  b_l_well : Binds K A.l_well_d ["_law_script", "_law_k"] []
  m_l_well : mg "_law_well" = some (.ref A.l_well)
  F_l_draw : Fun K "_law_draw" "_law_draw" s_l_draw A.l_draw A.l_draw_d
  b_l_draw : Binds K A.l_draw_d ["_law_well_here", "_law_most"] []
  m_l_draw : mg "_law_draw" = some (.ref A.l_draw)
  F_l_number : Fun K "_law_number" "_law_number" s_l_number A.l_number A.l_number_d
  b_l_number : Binds K A.l_number_d ["_law_well_here"] []
  m_l_number : mg "_law_number" = some (.ref A.l_number)
  F_l_address : Fun K "_law_address" "_law_address" s_l_address A.l_address A.l_address_d
  b_l_address : Binds K A.l_address_d ["_law_well_here"] []
  m_l_address : mg "_law_address" = some (.ref A.l_address)
  F_l_address_text : Fun K "_law_address_text" "_law_address_text" s_l_address_text A.l_address_text A.l_address_text_d
  b_l_address_text : Binds K A.l_address_text_d ["_law_address_here"] []
  m_l_address_text : mg "_law_address_text" = some (.ref A.l_address_text)
  F_l_is_number : Fun K "_law_is_number" "_law_is_number" s_l_is_number A.l_is_number A.l_is_number_d
  b_l_is_number : Binds K A.l_is_number_d ["_law_word"] []
  m_l_is_number : mg "_law_is_number" = some (.ref A.l_is_number)
  F_l_address_of : Fun K "_law_address_of" "_law_address_of" s_l_address_of A.l_address_of A.l_address_of_d
  b_l_address_of : Binds K A.l_address_of_d ["_law_word"] []
  m_l_address_of : mg "_law_address_of" = some (.ref A.l_address_of)
  F_l_lines : Fun K "_law_lines" "_law_lines" s_l_lines A.l_lines A.l_lines_d
  b_l_lines : Binds K A.l_lines_d ["_law_well_here"] []
  m_l_lines : mg "_law_lines" = some (.ref A.l_lines)
  F_l_menu : Fun K "_law_menu" "_law_menu" s_l_menu A.l_menu A.l_menu_d
  b_l_menu : Binds K A.l_menu_d ["_law_well_here"] []
  m_l_menu : mg "_law_menu" = some (.ref A.l_menu)
  F_l_spoiled_line : Fun K "_law_spoiled_line" "_law_spoiled_line" s_l_spoiled_line A.l_spoiled_line A.l_spoiled_line_d
  b_l_spoiled_line : Binds K A.l_spoiled_line_d ["_law_well_here", "_law_line"] []
  m_l_spoiled_line : mg "_law_spoiled_line" = some (.ref A.l_spoiled_line)
  F_l_spoiled : Fun K "_law_spoiled" "_law_spoiled" s_l_spoiled A.l_spoiled A.l_spoiled_d
  b_l_spoiled : Binds K A.l_spoiled_d ["_law_well_here", "_law_lines_here"] []
  m_l_spoiled : mg "_law_spoiled" = some (.ref A.l_spoiled)
  F_l_entry : Fun K "_law_entry" "_law_entry" s_l_entry A.l_entry A.l_entry_d
  b_l_entry : Binds K A.l_entry_d ["_law_line"] []
  m_l_entry : mg "_law_entry" = some (.ref A.l_entry)
  F_l_due : Fun K "_law_due" "_law_due" s_l_due A.l_due A.l_due_d
  b_l_due : Binds K A.l_due_d ["_law_text"] []
  m_l_due : mg "_law_due" = some (.ref A.l_due)
  F_l_found : Fun K "_law_found" "_law_found" s_l_found A.l_found A.l_found_d
  b_l_found : Binds K A.l_found_d ["_law_text"] []
  m_l_found : mg "_law_found" = some (.ref A.l_found)
  F_l_many_right : Fun K "_law_many_right" "_law_many_right" s_l_many_right A.l_many_right A.l_many_right_d
  b_l_many_right : Binds K A.l_many_right_d ["_law_cell_here"] []
  m_l_many_right : mg "_law_many_right" = some (.ref A.l_many_right)
  F_law : Fun K "law" "law" s_law A.law A.law_d
  b_law : Binds K A.law_d ["_law_script"] []
  m_law : mg "law" = some (.ref A.law)
  m_NoText : mg "NoText" = some (.ref A.NoText)
  x_NoText : PySem.W.excIn K A.NoText [.type "ValueError", .type "Exception", .type "BaseException", .type "object"] "ValueError.__new__" = true
  kk_NoText : PySem.W.keepIn K (.ref A.NoText) = true
  bb_NoText : PySem.W.subIn K (.ref A.NoText) (.type "BaseException") = some true
  tt_NoText : PySem.W.typeIn K (.ref A.NoText) = some (.type "type")
  m_HadError : mg "HadError" = some (.ref A.HadError)
  x_HadError : PySem.W.excIn K A.HadError [.type "ValueError", .type "Exception", .type "BaseException", .type "object"] "ValueError.__new__" = true
  kk_HadError : PySem.W.keepIn K (.ref A.HadError) = true
  bb_HadError : PySem.W.subIn K (.ref A.HadError) (.type "BaseException") = some true
  tt_HadError : PySem.W.typeIn K (.ref A.HadError) = some (.type "type")
  m_BadBook : mg "BadBook" = some (.ref A.BadBook)
  m_NoChange : mg "NoChange" = some (.ref A.NoChange)
  x_NoChange : PySem.W.excIn K A.NoChange [.type "ValueError", .type "Exception", .type "BaseException", .type "object"] "ValueError.__new__" = true
  kk_NoChange : PySem.W.keepIn K (.ref A.NoChange) = true
  bb_NoChange : PySem.W.subIn K (.ref A.NoChange) (.type "BaseException") = some true
  tt_NoChange : PySem.W.typeIn K (.ref A.NoChange) = some (.type "type")
  m_NoMoment : mg "NoMoment" = some (.ref A.NoMoment)
  x_NoMoment : PySem.W.excIn K A.NoMoment [.type "ValueError", .type "Exception", .type "BaseException", .type "object"] "ValueError.__new__" = true
  kk_NoMoment : PySem.W.keepIn K (.ref A.NoMoment) = true
  bb_NoMoment : PySem.W.subIn K (.ref A.NoMoment) (.type "BaseException") = some true
  tt_NoMoment : PySem.W.typeIn K (.ref A.NoMoment) = some (.type "type")
  m_NoProgram : mg "NoProgram" = some (.ref A.NoProgram)
  x_NoProgram : PySem.W.excIn K A.NoProgram [.type "ValueError", .type "Exception", .type "BaseException", .type "object"] "ValueError.__new__" = true
  kk_NoProgram : PySem.W.keepIn K (.ref A.NoProgram) = true
  bb_NoProgram : PySem.W.subIn K (.ref A.NoProgram) (.type "BaseException") = some true
  tt_NoProgram : PySem.W.typeIn K (.ref A.NoProgram) = some (.type "type")
  xg : PySem.W.findIn K (.ref A.NoText) "__getattribute__" = some (some (.builtin "BaseException.__getattribute__"))
  xk : PySem.W.findIn K (.ref A.NoText) "__getattr__" = some none
  xd : PySem.W.hasDictIn K A.NoText = true
  xa : PySem.W.findIn K (.ref A.NoText) "__class__" = some (some (.builtin "object.__class__"))
  xn : PySem.W.specialIn K (.builtin "object.__class__") "__get__" = some (some (.builtin "getset_descriptor.__get__"))
  xt : PySem.W.takesIn K (.builtin "object.__class__") = some true
  xm : PySem.W.mroIn K A.NoText (.type "object") = some true
  xh : PySem.W.exmOne K (.ref A.NoText) (.ref A.HadError) = some true
  xo : PySem.W.kitAny K (.ref A.NoText) [.ref A.BadBook, .ref A.NoChange, .ref A.NoMoment, .ref A.NoProgram] = some false
  xv : PySem.W.kitOne K (.ref A.NoText) (.type "ValueError") = some true
  c_FIGURES : ∃ t, mg "FIGURES" = some (.str "0123456789" t)
  c_MOST_NUMBERS : ∃ t, mg "MOST_NUMBERS" = some (.int 100 t)
  c_MOST_MAKERS : ∃ t, mg "MOST_MAKERS" = some (.int 6000 t)
  z_len : mg "len" = none
  z_all : mg "all" = none
  z_int : mg "int" = none
  z_tuple : mg "tuple" = none
  z_str : mg "str" = none
  z_isinstance : mg "isinstance" = none
  z_range : mg "range" = none
  z_ValueError : mg "ValueError" = none
theorem excNT {K : PySem.W.Frag} {mg : Str → Option Value} {A : Ads} (T : Txt K mg A) : ExcC K A.NoText := ⟨T.xg, T.xk, T.bb_NoText, T.xd, T.xa, T.xn, T.xt, T.xm⟩
theorem is_self {K : PySem.W.Frag} (C : Addr) : PySem.W.kitOne K (.ref C) (.ref C) = some true := by
  unfold PySem.W.kitOne
  rw [if_pos (by simp)]
end K82
open PySem L2 TL

local macro_rules | `(tactic| walk_at "rd") => `(tactic| repeat (first
  | refine ⟨_, rfl, ?_⟩
  | refine ⟨_, _, rfl, rfl, ?_⟩
  | refine ⟨Or.inl ⟨by decide, by decide⟩, ?_⟩
  | refine ⟨Or.inr ⟨by decide, by decide⟩, ?_⟩
  | refine ⟨(⟨by decide, by decide⟩ : CDiv _ _), ?_⟩
  | refine ⟨(⟨by decide, by decide, by decide⟩ : CPow _ _), ?_⟩
  | refine ⟨(by show (0 : Int) < _; decide), ?_⟩
  | refine ⟨K82.mod64, ?_⟩))
namespace K82
open PySem L2 TL
section
variable {P : Program} {w : World} {K : PySem.W.Frag} {mg : Str → Option Value} {base : Heap} {A : Ads}
theorem ok_l_cell (T : Txt K mg A) : FnOk P w K mg base CX0 1 A.l_cell A.l_cell_d ["_law_script", "_law_k"] (spCell K) := by
  refine T.F_l_cell.ok sc_l_cell (fun vs H Q E h => ?_) (fun cdv A0 outer s H vs Q E hr h => ?_)
  · obtain ⟨a, ns, k, rfl, hS, hk, q⟩ := h
    rfl
  obtain ⟨a, ns, k, rfl, hS, hk, q⟩ := h
  refine ⟨_, (pss_cons (ps_if (pt_cmpR op_lt (pv 1) (pe_callB call_lenK (by rfl) T.z_len (by decide +kernel) (pa_cons (pv 0) pa_nil)) (nomark _))
    (pss_one (ps_ret (pe_ix ix_list (pv 0) (pv 1) (fun _ _ => rfl))))
    pss_nil)
   (pss_one (ps_ret pe_int))), ?_⟩
  refine ⟨_, rfl, _, rfl, a, _, rfl, .inl hS, _, _, rfl, rfl, _, rfl, ?_⟩
  refine iteD2 (fun c => ?_) (fun c => ?_)
  · obtain ⟨v, hv⟩ := at_int (ns := ns) hk (by rw [List.length_map] at c; exact c)
    exact ⟨_, rfl, _, rfl, a, _, _, _, rfl, rfl, hS, hv, q v⟩
  · exact q 0

theorem ok_l_mixed (T : Txt K mg A) : FnOk P w K mg base CX0 1 A.l_mixed A.l_mixed_d ["_law_cell_here", "_law_k"] spI2 := by
  refine T.F_l_mixed.ok sc_l_mixed (fun vs H Q E h => ?_) (fun cdv A0 outer s H vs Q E hr h => ?_)
  · obtain ⟨a, b, rfl, q⟩ := h
    rfl
  obtain ⟨a, b, rfl, q⟩ := h
  refine ⟨_, (pss_cons (ps_set (i := 2) sc_l_mixed.nd rfl (Or.inl rfl) (pe_op op_mod (pe_op op_mul (pe_op op_add (pe_op op_add (pv 0) (pe_op op_mul pe_int (pv 1))) pe_int) pe_int) pe_int))
   (pss_one (ps_ret (pe_op op_mod (pe_op op_mul (pv 2) (pe_op op_add (pe_op op_fdiv (pv 2) pe_int) pe_int)) pe_int)))), ?_⟩
  walk_at "rd"
  exact q _

theorem ok_l_twice (T : Txt K mg A) : FnOk P w K mg base CX0 2 A.l_twice A.l_twice_d ["_law_cell_here", "_law_k"] spI2 := by
  have G_l_mixed := ok_l_mixed (P := P) (w := w) (base := base) T
  refine T.F_l_twice.ok sc_l_twice (fun vs H Q E h => ?_) (fun cdv A0 outer s H vs Q E hr h => ?_)
  · obtain ⟨a, b, rfl, q⟩ := h
    rfl
  obtain ⟨a, b, rfl, q⟩ := h
  refine ⟨_, (pss_cons (ps_set (i := 2) sc_l_twice.nd rfl (Or.inl rfl) (pe_op op_mod (pe_op op_mul (pe_op op_add (pe_op op_add (pe_call G_l_mixed (hr.mono (by decide)) rfl T.m_l_mixed T.F_l_mixed.kp T.b_l_mixed .nil pass0 (pa_cons (pv 0) (pa_cons (pv 1) pa_nil))) (pe_op op_mul pe_int (pv 1))) pe_int) pe_int) pe_int))
   (pss_one (ps_ret (pe_op op_mod (pe_op op_mul (pv 2) (pe_op op_add (pe_op op_fdiv (pv 2) pe_int) pe_int)) pe_int)))), ?_⟩
  walk_at "rd"
  refine ⟨_, _, rfl, fun n => ?_⟩
  walk_at "rd"
  exact q _

theorem ok_l_well (T : Txt K mg A) : FnOk P w K mg base CX0 2 A.l_well A.l_well_d ["_law_script", "_law_k"] (spWell K) := by
  have G_l_cell := ok_l_cell (P := P) (w := w) (base := base) T
  refine T.F_l_well.ok sc_l_well (fun vs H Q E h => ?_) (fun cdv A0 outer s H vs Q E hr h => ?_)
  · obtain ⟨a, ns, k, rfl, hS, hk, q⟩ := h
    rfl
  obtain ⟨a, ns, k, rfl, hS, hk, q⟩ := h
  refine ⟨_, (pss_one (ps_ret (pe_lst (pa_cons (pe_op op_mod (pe_call G_l_cell (hr.mono (by decide)) rfl T.m_l_cell T.F_l_cell.kp T.b_l_cell .nil pass0 (pa_cons (pv 0) (pa_cons pe_int pa_nil))) pe_int) (pa_cons (pe_call G_l_cell (hr.mono (by decide)) rfl T.m_l_cell T.F_l_cell.kp T.b_l_cell .nil pass0 (pa_cons (pv 0) (pa_cons (pv 1) pa_nil))) (pa_cons pe_int (pa_cons (pe_op op_add (pe_call G_l_cell (hr.mono (by decide)) rfl T.m_l_cell T.F_l_cell.kp T.b_l_cell .nil pass0 (pa_cons (pv 0) (pa_cons (pv 1) pa_nil))) (pv 1)) pa_nil))))))), ?_⟩
  refine ⟨_, rfl, a, ns, 0, rfl, hS, Int.le_refl 0, fun n1 => ?_⟩
  walk_at "rd"
  refine ⟨a, ns, k, rfl, hS, hk, fun n2 => ?_⟩
  walk_at "rd"
  refine ⟨a, ns, k, rfl, hS, hk, fun n3 => ?_⟩
  walk_at "rd"
  exact ⟨by show 4 ≤ sizeLine; decide, fun p hp => q p _ hp (same_new hp) ⟨_, _, _, _, upd_same⟩⟩

theorem ok_l_draw (T : Txt K mg A) : FnOk P w K mg base CX0 3 A.l_draw A.l_draw_d ["_law_well_here", "_law_most"] spDraw := by
  have G_l_twice := ok_l_twice (P := P) (w := w) (base := base) T
  refine T.F_l_draw.ok sc_l_draw (fun vs H Q E h => ?_) (fun cdv A0 outer s H vs Q E hr h => ?_)
  · obtain ⟨p, m, rfl, ⟨a, b, c, d, h⟩, hm0, hm1, q⟩ := h
    rfl
  obtain ⟨p, m, rfl, ⟨a, b, c, d, h⟩, hm0, hm1, q⟩ := h
  refine ⟨_, (pss_cons (ps_if (PW.pt (pw_and (pt_cmpR op_eq (pe_ix ix_list (pv 0) pe_int (fun _ _ => rfl)) pe_int (nomark _)) (pw_and1 (pt_cmpR op_notIn_seq (pe_ix ix_list (pv 0) pe_int (fun _ _ => rfl)) (pe_tup (pa_cons pe_int (pa_cons (pe_un un_neg pe_int) pa_nil))) (by rfl)))))
    (pss_cons (ps_set (i := 2) sc_l_draw.nd rfl (Or.inl rfl) (pe_op op_modN (pe_ix ix_list (pv 0) pe_int (fun _ _ => rfl)) (pv 1)))
   (pss_cons (ps_asg (pe_op op_fdivN (pe_ix ix_list (pv 0) pe_int (fun _ _ => rfl)) (pv 1)) (pg_sub (pv 0) pe_int set_list))
   (pss_one (ps_ret (pv 2)))))
    pss_nil)
   (pss_cons (ps_asg (pe_op op_add (pe_ix ix_list (pv 0) pe_int (fun _ _ => rfl)) pe_int) (pg_sub (pv 0) pe_int set_list))
   (pss_one (ps_ret (pe_op op_modN (pe_call G_l_twice (hr.mono (by decide)) rfl T.m_l_twice T.F_l_twice.kp T.b_l_twice .nil pass0 (pa_cons (pe_ix ix_list (pv 0) pe_int (fun _ _ => rfl)) (pa_cons (pe_ix ix_list (pv 0) pe_int (fun _ _ => rfl)) pa_nil))) (pv 1)))))), ?_⟩
  have hm : m ≠ 0 := by omega
  refine ⟨_, rfl, p, _, _, _, rfl, rfl, SqL.of h, rfl, rfl, _, rfl, ?_⟩
  refine iteD2 (fun c1 => ?_) (fun c1 => ?_)
  · refine ⟨_, rfl, p, _, _, _, rfl, rfl, SqL.of h, rfl, _, rfl, by show 2 ≤ sizeLine; decide, fun t ht => ?_⟩
    have npt : p ≠ t := ne_of_none h ht
    have h1 : ∀ o, upd H t o p = some (.lst [.int a, .int b, .int c, .int d]) := fun o => by rw [upd_ne npt]; exact h
    refine ⟨t, _, rfl, .inr (SqT.of upd_same), rfl, rfl, _, rfl, ?_⟩
    refine iteB2 (fun c2 => ?_) (fun c2 => ?_)
    · refine ⟨_, rfl, p, _, _, _, rfl, rfl, SqL.of (h1 _), rfl, _, rfl, _, _, rfl, rfl, hm, ?_⟩
      refine ⟨_, rfl, p, _, _, _, rfl, rfl, SqL.of (h1 _), rfl, _, rfl, _, _, rfl, rfl, ⟨hm, by omega⟩, ?_⟩
      refine ⟨_, rfl, p, _, _, 1, rfl, rfl, h1 _, rfl, _, rfl, ?_⟩
      exact q _ _ (Int.fmod_nonneg_of_pos _ hm0) (Int.fmod_lt_of_pos _ hm0) ((keepX_of (same_new ht)).trans keepX_upd) ⟨_, _, _, _, upd_same⟩
    · refine ⟨_, rfl, p, _, _, _, rfl, rfl, SqL.of (h1 _), rfl, _, _, rfl, rfl, _, rfl, p, _, _, 2, rfl, rfl, h1 _, rfl, ?_⟩
      refine ⟨_, rfl, p, _, _, _, rfl, rfl, SqL.of upd_same, rfl, _, rfl, p, _, _, _, rfl, rfl, SqL.of upd_same, rfl, _, _, rfl, fun n => ?_⟩
      refine ⟨_, rfl, _, _, rfl, rfl, hm, ?_⟩
      exact q _ _ (Int.fmod_nonneg_of_pos _ hm0) (Int.fmod_lt_of_pos _ hm0) ((keepX_of (same_new ht)).trans keepX_upd) ⟨_, _, _, _, upd_same⟩
  · refine ⟨_, rfl, p, _, _, _, rfl, rfl, SqL.of h, rfl, _, _, rfl, rfl, _, rfl, p, _, _, 2, rfl, rfl, h, rfl, ?_⟩
    refine ⟨_, rfl, p, _, _, _, rfl, rfl, SqL.of upd_same, rfl, _, rfl, p, _, _, _, rfl, rfl, SqL.of upd_same, rfl, _, _, rfl, fun n => ?_⟩
    refine ⟨_, rfl, _, _, rfl, rfl, hm, ?_⟩
    exact q _ _ (Int.fmod_nonneg_of_pos _ hm0) (Int.fmod_lt_of_pos _ hm0) keepX_upd ⟨_, _, _, _, upd_same⟩

end
end K82
namespace K82
open PySem L2 TL
section
variable {P : Program} {w : World} {K : PySem.W.Frag} {mg : Str → Option Value} {base : Heap} {A : Ads}
theorem ok_is_value_word (T : Txt K mg A) : FnOk P w K mg base CX0 1 A.is_value_word A.is_value_word_d ["word"] (spTruthS isValW) := by
  refine T.F_is_value_word.ok sc_is_value_word (fun vs H Q E h => ?_) (fun cdv A0 outer s H vs Q E hr h => ?_)
  · obtain ⟨s, rfl, hl, q⟩ := h
    rfl
  obtain ⟨s, rfl, hl, q⟩ := h
  refine ⟨_, (pss_cons (ps_if (PW.pt (pw_or (pt_not (pt_chain op_le op_le pe_int (pe_callB call_len_str (by rfl) T.z_len (by decide +kernel) (pa_cons (pv 0) pa_nil)) pe_int)) (pw_or1 (PW.pt (pw_and (pt_cmpR op_eq (pe_ix ix_str (pv 0) pe_int (fun _ _ => rfl)) pe_str (nomark _)) (pw_and1 (pt_cmpR op_ne (pv 0) pe_str (nomark _))))))))
    (pss_one (ps_ret pe_bl))
    pss_nil)
   (pss_one (ps_ret (pe_callB (cr_all rfl) (by rfl) T.z_all (by decide +kernel) (pa_cons (pe_lc (own := [("sign", 1)]) (g := gName 1) (tt := tYes) rfl sc_is_value_word.nd (pi_str (pv 0)) (blkOk_by (own := [("sign", 1)]) (N := N_is_value_word) (sc := defScope s_is_value_word) (by decide +kernel)) (fun _ _ _ _ _ => pg_name (i := 1) sc_is_value_word.nd rfl (Or.inl rfl)) (fun _ _ _ _ _ => pts_nil) (fun _ _ _ _ _ => (pe_cmpR op_in_sign (pv 1) (pe_glob (v := .str "0123456789") (by rfl) T.c_FIGURES.choose_spec ⟨_, rfl⟩) rfl))) pa_nil))))), ?_⟩
  have hs : s.length = (tl s).length := len_tl s
  refine ⟨_, rfl, _, rfl, len_line hl, _, _, rfl, rfl, _, rfl, ?_⟩
  refine iteD2 (fun c1 => ?_) (fun c1 => ?_)
  · refine ⟨_, _, rfl, rfl, _, rfl, iteN2 (fun c2 => ?_) (fun c2 => ?_)⟩
    · refine (valW_false1 (s := s) (Or.inr ?_)) ▸ q _ (Same.refl H)
      omega
    · have h6 : (tl s).length ≤ 6 ∧ 1 ≤ (tl s).length := by omega
      obtain ⟨c, r, hc⟩ : ∃ c r, tl s = c :: r := by
        cases e : tl s with
        | nil => rw [e] at h6; simp at h6
        | cons c r => exact ⟨c, r, rfl⟩
      refine ⟨_, rfl, s, 0, c, rfl, rfl, len_line hl, (by show atI (tl s) ((0 : Nat) : Int) = some c; rw [hc]; exact atI_nat rfl), rfl, _, rfl, ?_⟩
      refine iteD2 (fun c3 => ?_) (fun c3 => ?_)
      · refine ⟨_, rfl, rfl, _, rfl, iteN2 (fun c4 => ?_) (fun c4 => ?_)⟩
        · refine (valW_false2 (s := s) ?_ (fun e => c4 (congrArg V.str e))) ▸ q _ (Same.refl H)
          rw [hc]
          have := congrArg tl (V.str.inj c3)
          have z : tl (Str.ofString "0") = [48] := by decide +kernel
          rw [z] at this
          have e2 : [c] = [48] := this
          rw [List.cons.injEq] at e2
          rw [e2.1]; rfl
        · exact rd_all (f := isDig) rfl (by show 1 < 2; decide) (by decide) (by omega) fig_mem fun H' s' => (valW_true (s := s) h6.2 h6.1 (fun _ => V.str.inj c4)) ▸ q H' s'
      · refine rd_all (f := isDig) rfl (by show 1 < 2; decide) (by decide) (by omega) fig_mem fun H' s' => (valW_true (s := s) h6.2 h6.1 (fun e => ?_)) ▸ q H' s'
        rw [hc, List.head?_cons] at e
        refine absurd (congrArg V.str ?_) c3
        refine ext_tl ?_
        have z : tl (Str.ofString "0") = [48] := by decide +kernel
        rw [z, Option.some.inj e]
  · refine ⟨_, rfl, iteT ?_⟩
    refine (valW_false1 (s := s) (Or.inl ?_)) ▸ q _ (Same.refl H)
    omega

end
end K82
namespace K82
open PySem L2 TL
section
variable {P : Program} {w : World} {K : PySem.W.Frag} {mg : Str → Option Value} {base : Heap} {A : Ads}
theorem ok_check_text (T : Txt K mg A) : FnOk P w K mg base (L2.CX P w) 1 A.check_text A.check_text_d ["good"] (spCheck A.NoText) := by
  refine T.F_check_text.okX sc_check_text (fun vs H Q E h => ?_) (fun cdv A0 outer s H vs Q E hr h => ?_)
  · obtain ⟨b, rfl, q1, q2⟩ := h
    rfl
  obtain ⟨b, rfl, q1, q2⟩ := h
  refine ⟨_, (pss_one (ps_if (pt_not (pt_val (pv 0)))
    (pss_one (ps_raise rfl (takes_of rfl rfl rfl rfl) (pmk_own PySem.F.excBase_ValueError T.x_NoText T.m_NoText T.kk_NoText (raises_own T.bb_NoText T.tt_NoText) (by exact rfl))))
    pss_nil)), ?_⟩
  refine ⟨_, rfl, _, rfl, ?_⟩
  cases b with
  | true => exact iteF (q1 rfl)
  | false => exact iteT (q2 rfl)

end
end K82
namespace K82
open PySem L2 TL
section
variable {P : Program} {w : World} {K : PySem.W.Frag} {mg : Str → Option Value} {base : Heap} {A : Ads}
theorem ok_number_in (T : Txt K mg A) : FnOk P w K mg base (L2.CX P w) 2 A.number_in A.number_in_d ["word"] (spNumIn A.NoText) := by
  have G_check_text := ok_check_text (P := P) (w := w) (base := base) T
  have G_is_value_word := ok_is_value_word (P := P) (w := w) (base := base) T
  refine T.F_number_in.okX sc_number_in (fun vs H Q E h => ?_) (fun cdv A0 outer s H vs Q E hr h => ?_)
  · obtain ⟨s, rfl, hl, q1, q2⟩ := h
    rfl
  obtain ⟨s, rfl, hl, q1, q2⟩ := h
  refine ⟨_, (pss_cons (ps_expr (pe_call G_check_text (hr.mono (by decide)) rfl T.m_check_text T.F_check_text.kp T.b_check_text .nil (passes_call (takes_of rfl rfl rfl rfl) (fun _ _ _ _ h => h)) (pa_cons (pe_call G_is_value_word (hr.mono (by decide)) rfl T.m_is_value_word T.F_is_value_word.kp T.b_is_value_word .nil pass0 (pa_cons (pv 0) pa_nil)) pa_nil)))
   (pss_one (ps_ret (pe_callTy call_int_str (by rfl) T.z_int (by decide +kernel) (pa_cons (pv 0) pa_nil))))), ?_⟩
  refine ⟨_, rfl, s, rfl, hl, fun H1 s1 => ?_⟩
  refine ⟨_, rfl, fun c => ?_, fun c => q2 c H1 s1⟩
  have hv := valW_int c
  exact ⟨_, rfl, s, valOf s, rfl, hv.1, hv.2.1, q1 c H1 s1⟩

end
end K82
namespace K82
open PySem L2 TL
section
variable {P : Program} {w : World} {K : PySem.W.Frag} {mg : Str → Option Value} {base : Heap} {A : Ads}
theorem ok_address_in (T : Txt K mg A) : FnOk P w K mg base (L2.CX P w) 3 A.address_in A.address_in_d ["word"] (spAdInX A.NoText) := by
  have G_check_text := ok_check_text (P := P) (w := w) (base := base) T
  have G_number_in := ok_number_in (P := P) (w := w) (base := base) T
  refine T.F_address_in.okX sc_address_in (fun vs H Q E h => ?_) (fun cdv A0 outer s H vs Q E hr h => ?_)
  · obtain ⟨s, rfl, hl, q1, q2⟩ := h
    rfl
  obtain ⟨s, rfl, hl, q1, q2⟩ := h
  refine ⟨_, (pss_cons (ps_if (pt_cmpR op_eq (pv 0) pe_str (nomark _))
    (pss_one (ps_ret (pe_tup pa_nil)))
    pss_nil)
   (pss_cons (ps_set (i := 1) sc_address_in.nd rfl (Or.inl rfl) (pe_split (pv 0) pe_str))
   (pss_cons (ps_expr (pe_call G_check_text (hr.mono (by decide)) rfl T.m_check_text T.F_check_text.kp T.b_check_text .nil (passes_call (takes_of rfl rfl rfl rfl) (fun _ _ _ _ h => h)) (pa_cons (pe_cmpR op_le (pe_callB call_lenK (by rfl) T.z_len (by decide +kernel) (pa_cons (pv 1) pa_nil)) (pe_glob (v := .int 100) (by rfl) T.c_MOST_NUMBERS.choose_spec ⟨_, rfl⟩) (nomark _)) pa_nil)))
   (pss_one (ps_ret (pe_callTy call_tuple_ofK (by rfl) T.z_tuple (by decide +kernel) (pa_cons (KX.pe_lcX (E := E) (own := [("one", 2)]) (g := gName 2) (tt := tYes) rfl (takes_of rfl rfl rfl rfl) rfl rfl sc_address_in.nd (pi_list (pv 1)) (blkOk_by (own := [("one", 2)]) (N := N_address_in) (sc := defScope s_address_in) (by decide +kernel)) (fun _ _ _ _ _ _ => pg_name (i := 2) sc_address_in.nd rfl (Or.inl rfl)) (fun _ _ _ _ _ _ => pts_nil) (fun _ _ _ _ _ _ pass => (pe_callS G_number_in (hr.mono (by decide)) rfl T.m_number_in T.F_number_in.kp T.b_number_in pass (pa_cons (pv 2) pa_nil)))) pa_nil))))))), ?_⟩
  refine ⟨_, rfl, rfl, _, rfl, ?_⟩
  refine iteD2 (fun c => ?_) (fun c => ?_)
  · have c := V.str.inj c
    refine ⟨by show 0 ≤ sizeLine; decide, fun t ht => q1 (by unfold adOk; rw [decide_eq_true c]; rfl) t _ (same_new ht) ?_⟩
    unfold adOf
    rw [if_pos c]
    exact upd_same
  have hne : ¬ s = Str.ofString "-" := fun e => c (congrArg V.str e)
  have eok : adOk s = (decide ((Txt.split s (Str.ofString ".")).length ≤ 100) && (Txt.split s (Str.ofString ".")).all isValW) := by
    unfold adOk
    rw [decide_eq_false hne, Bool.false_or]
  have eof : adOf s = (Txt.split s (Str.ofString ".")).map valOf := if_neg hne
  refine ⟨_, rfl, ⟨_, rfl⟩, s, _, rfl, rfl, (by decide +kernel), sizeL (by omega), fun l hn => ?_⟩
  rw [show Txt.split s "." = Txt.split s (Str.ofString ".") from rfl]
  have hpl : ∀ w ∈ Txt.split s (Str.ofString "."), w.length ≤ 100000 := fun w hw => Nat.le_trans (part_len tl_dot hw) hl
  generalize hws : Txt.split s (Str.ofString ".") = ws at eok eof hpl ⊢
  have s1 := same_new (o := .lst (ws.map V.str)) hn
  have g1 : upd H l (.lst (ws.map V.str)) l = some (.lst (ws.map V.str)) := upd_same
  refine ⟨_, rfl, l, _, rfl, .inl (SqL.of g1), _, _, rfl, rfl, _, rfl, fun hok => ?_, fun hno => ?_⟩
  · rw [List.length_map] at hok
    have hok : ws.length ≤ 100 := by have := of_decide_eq_true hok; omega
    rw [decide_eq_true hok, Bool.true_and] at eok
    refine ⟨_, rfl, l, rfl, ⟨_, SqL.of g1⟩, fun D hD => lc_rel ws (fun _ w y => isValW w = true ∧ y = V.int (valOf w)) (all2_strs ws) (fun _ _ _ _ _ h => h) (fun _ _ _ _ _ h _ => h) walk_list hD (by omega) (by show 2 < 3; decide) (fun H' s' => SqL.of (s' _ _ g1)) ?_ ?_⟩
    · intro w v hw hv hb H' Z s' _ z
      subst hb
      refine ⟨_, rfl, w, rfl, hpl w hw, fun c H2 s2 => z H2 _ s2 ⟨c, rfl⟩, fun c H2 s2 => q2 ?_ H2 (s1.trans (s'.trans s2))⟩
      rw [eok, all_not hw c]
    · intro H' ys s' h2 hD'
      obtain ⟨e1, e2⟩ := all2_map h2
      refine ⟨D, _, rfl, .inl ⟨SqL.of hD', fun t ht => q1 (by rw [eok, e2]) t _ (s1.trans (s'.trans (same_new ht))) ?_⟩⟩
      rw [e1, eof, List.map_map]
      exact upd_same
  · rw [List.length_map] at hno
    refine q2 ?_ _ s1
    have : ¬ ws.length ≤ 100 := fun h => of_decide_eq_false hno (by omega)
    rw [eok, decide_eq_false this, Bool.false_and]

end
end K82
namespace K82
open PySem L2 TL
section
variable {P : Program} {w : World} {K : PySem.W.Frag} {mg : Str → Option Value} {base : Heap} {A : Ads}
theorem ok_maker_in (T : Txt K mg A) : FnOk P w K mg base (L2.CX P w) 3 A.maker_in A.maker_in_d ["word"] (spMkInX A.NoText) := by
  have G_number_in := ok_number_in (P := P) (w := w) (base := base) T
  refine T.F_maker_in.okX sc_maker_in (fun vs H Q E h => ?_) (fun cdv A0 outer s H vs Q E hr h => ?_)
  · obtain ⟨s, rfl, hl, q1, q2⟩ := h
    rfl
  obtain ⟨s, rfl, hl, q1, q2⟩ := h
  refine ⟨_, (pss_cons (ps_if (pt_cmpR op_eq (pv 0) pe_str (nomark _))
    (pss_one (ps_ret (pe_un un_neg pe_int)))
    pss_nil)
   (pss_one (ps_ret (pe_call G_number_in (hr.mono (by decide)) rfl T.m_number_in T.F_number_in.kp T.b_number_in .nil (passes_call (takes_of rfl rfl rfl rfl) (fun _ _ _ _ h => h)) (pa_cons (pv 0) pa_nil))))), ?_⟩
  refine ⟨_, rfl, rfl, _, rfl, ?_⟩
  refine iteD2 (fun c => ?_) (fun c => ?_)
  · have c := V.str.inj c
    refine ⟨1, rfl, ?_⟩
    have := q1 (by unfold mkOk; rw [decide_eq_true c]; rfl) H (Same.refl H)
    unfold mkOf at this
    rw [if_pos c] at this
    exact this
  have hne : ¬ s = Str.ofString "-1" := fun e => c (congrArg V.str e)
  have eok : mkOk s = isValW s := by
    unfold mkOk
    rw [decide_eq_false hne, Bool.false_or]
  have eof : mkOf s = valOf s := if_neg hne
  rw [eok] at q1 q2
  rw [eof] at q1
  exact ⟨_, rfl, s, rfl, hl, fun c H2 s2 => q1 c H2 s2, fun c H2 s2 => q2 c H2 s2⟩

end
end K82
namespace K82
open PySem L2 TL
section
variable {P : Program} {w : World} {K : PySem.W.Frag} {mg : Str → Option Value} {base : Heap} {A : Ads}
theorem ok_entry_in (T : Txt K mg A) : FnOk P w K mg base (L2.CX P w) 4 A.entry_in A.entry_in_d ["line"] (spEntInX A.NoText) := by
  have G_check_text := ok_check_text (P := P) (w := w) (base := base) T
  have G_address_in := ok_address_in (P := P) (w := w) (base := base) T
  have G_maker_in := ok_maker_in (P := P) (w := w) (base := base) T
  refine T.F_entry_in.okX sc_entry_in (fun vs H Q E h => ?_) (fun cdv A0 outer s H vs Q E hr h => ?_)
  · obtain ⟨s, rfl, hl, q1, q2⟩ := h
    rfl
  obtain ⟨s, rfl, hl, q1, q2⟩ := h
  refine ⟨_, (pss_cons (ps_set (i := 1) sc_entry_in.nd rfl (Or.inl rfl) (pe_split (pv 0) pe_str))
   (pss_cons (ps_if (pt_cmpR op_eq (pe_ix ix_list (pv 1) pe_int (fun _ _ => rfl)) pe_str (nomark _))
    (pss_cons (ps_expr (pe_call G_check_text (hr.mono (by decide)) rfl T.m_check_text T.F_check_text.kp T.b_check_text .nil (passes_call (takes_of rfl rfl rfl rfl) (fun _ _ _ _ h => h)) (pa_cons (pe_cmpR op_eq (pe_callB call_lenK (by rfl) T.z_len (by decide +kernel) (pa_cons (pv 1) pa_nil)) pe_int (nomark _)) pa_nil)))
   (pss_one (ps_ret (pe_tup (pa_cons pe_str (pa_cons (pe_call G_address_in (hr.mono (by decide)) rfl T.m_address_in T.F_address_in.kp T.b_address_in .nil (passes_call (takes_of rfl rfl rfl rfl) (fun _ _ _ _ h => h)) (pa_cons (pe_ix ix_list (pv 1) pe_int (fun _ _ => rfl)) pa_nil)) pa_nil))))))
    pss_nil)
   (pss_cons (ps_expr (pe_call G_check_text (hr.mono (by decide)) rfl T.m_check_text T.F_check_text.kp T.b_check_text .nil (passes_call (takes_of rfl rfl rfl rfl) (fun _ _ _ _ h => h)) (pa_cons (pe_and (pe_cmpR op_in_seq (pe_ix ix_list (pv 1) pe_int (fun _ _ => rfl)) (pe_tup (pa_cons pe_str (pa_cons pe_str pa_nil))) (by rfl)) (pe_one (pe_chain op_le op_le pe_int (pe_callB call_lenK (by rfl) T.z_len (by decide +kernel) (pa_cons (pv 1) pa_nil)) (pe_op op_add pe_int (pe_glob (v := .int 6000) (by rfl) T.c_MOST_MAKERS.choose_spec ⟨_, rfl⟩))))) pa_nil)))
   (pss_one (ps_ret (pe_tup (pa_cons (pe_ix ix_list (pv 1) pe_int (fun _ _ => rfl)) (pa_cons (pe_call G_address_in (hr.mono (by decide)) rfl T.m_address_in T.F_address_in.kp T.b_address_in .nil (passes_call (takes_of rfl rfl rfl rfl) (fun _ _ _ _ h => h)) (pa_cons (pe_ix ix_list (pv 1) pe_int (fun _ _ => rfl)) pa_nil)) (pa_cons (KX.pe_lcX (E := E) (own := [("word", 2)]) (g := gName 2) (tt := tYes) rfl (takes_of rfl rfl rfl rfl) rfl rfl sc_entry_in.nd (pi_list (pe_slice sl_list (pv 1) (po_some pe_int) po_none)) (blkOk_by (own := [("word", 2)]) (N := N_entry_in) (sc := defScope s_entry_in) (by decide +kernel)) (fun _ _ _ _ _ _ => pg_name (i := 2) sc_entry_in.nd rfl (Or.inl rfl)) (fun _ _ _ _ _ _ => pts_nil) (fun _ _ _ _ _ _ pass => (pe_callS G_maker_in (hr.mono (by decide)) rfl T.m_maker_in T.F_maker_in.kp T.b_maker_in pass (pa_cons (pv 2) pa_nil)))) pa_nil))))))))), ?_⟩
  refine ⟨_, rfl, ⟨_, rfl⟩, s, _, rfl, rfl, (by decide +kernel), sizeL (by omega), fun l hn => ?_⟩
  rw [show Txt.split s " " = Txt.split s (Str.ofString " ") from rfl]
  have hp0 := word_pos s
  have hpl : ∀ w ∈ Txt.split s (Str.ofString " "), w.length ≤ 100000 := fun w hw => Nat.le_trans (part_len tl_sp hw) hl
  have hnw := parts_n (s := s) tl_sp
  have hat : ∀ i : Nat, i < (Txt.split s (Str.ofString " ")).length → atI ((Txt.split s (Str.ofString " ")).map V.str) (i : Int) = some (V.str (word s i)) := fun i h => word_at h
  have hwl : ∀ i : Nat, i < (Txt.split s (Str.ofString " ")).length → (word s i).length ≤ 100000 := fun i h => hpl _ (word_len h)
  have eok : enOk s = (decide (2 ≤ (Txt.split s (Str.ofString " ")).length) && (adOk (word s 1) && ((decide (word s 0 = Str.ofString "done") && decide ((Txt.split s (Str.ofString " ")).length = 2)) ||
    (kOk (word s 0) && (decide ((Txt.split s (Str.ofString " ")).length ≤ 6002) && ((Txt.split s (Str.ofString " ")).drop 2).all mkOk))))) := rfl
  have eof : enOf s = ⟨word s 0, adOf (word s 1), ((Txt.split s (Str.ofString " ")).drop 2).map mkOf⟩ := rfl
  generalize hws : Txt.split s (Str.ofString " ") = ws at hp0 hpl hnw hat hwl eok eof ⊢
  have s1 := same_new (o := .lst (ws.map V.str)) hn
  have g1 : upd H l (.lst (ws.map V.str)) l = some (.lst (ws.map V.str)) := upd_same
  refine ⟨_, rfl, l, _, _, _, rfl, rfl, SqL.of g1, hat 0 hp0, rfl, _, rfl, ?_⟩
  refine iteD2 (fun c => ?_) (fun c => ?_)
  · have c := V.str.inj c
    refine ⟨_, rfl, l, _, rfl, .inl (SqL.of g1), rfl, _, rfl, fun h => ?_, fun h => ?_⟩
    · have h2 := of_decide_eq_true h
      rw [List.length_map] at h2
      have h2 : ws.length = 2 := by have := V.int.inj h2; omega
      rw [h2, c, kOk_done] at eok
      have eok : enOk s = adOk (word s 1) := by
        rw [eok]
        rw [decide_eq_true (show Str.ofString "done" = Str.ofString "done" from rfl), Bool.false_and, Bool.or_false]
        simp
      have ems : (enOf s).ms = [] := by
        rw [eof]
        show (ws.drop 2).map mkOf = []
        rw [List.drop_eq_nil_of_le (by omega)]; rfl
      refine ⟨_, rfl, l, _, _, _, rfl, rfl, SqL.of g1, hat 1 (by omega), word s 1, rfl, hwl 1 (by omega), fun ca a H2 s2 h2 => ?_, fun ca H2 s2 => q2 (by rw [eok, ca]) H2 (s1.trans s2)⟩
      refine ⟨by show 2 ≤ sizeLine; decide, fun t ht => ?_⟩
      have s3 := same_new (o := .tup [.str "done", .ref a]) ht
      refine q1 (by rw [eok, ca]) _ _ (s1.trans (s2.trans s3)) ⟨t, a, rfl, by rw [eof]; exact s3 _ _ h2, .inl ⟨by rw [eof]; exact c, ?_⟩⟩
      rw [upd_same, eof]
      show _ = some (HO.tup [V.str (word s 0), V.ref a])
      rw [c]
    · have h2 := of_decide_eq_false h
      rw [List.length_map] at h2
      refine q2 ?_ _ s1
      have : ¬ ws.length = 2 := fun e => h2 (by rw [e]; rfl)
      rw [eok, c, kOk_done, decide_eq_false this]
      simp
  have hd : ¬ word s 0 = Str.ofString "done" := fun e => c (congrArg V.str e)
  rw [decide_eq_false hd, Bool.false_and, Bool.false_or] at eok
  refine ⟨_, rfl, l, _, _, _, rfl, rfl, SqL.of g1, hat 0 hp0, by show 2 ≤ sizeLine; decide, fun t0 ht0 => ?_⟩
  have s2 := s1.trans (same_new (o := .tup [.str "part", .str "kept"]) ht0)
  have g2 := (same_new (o := .tup [.str "part", .str "kept"]) ht0) _ _ g1
  refine ⟨t0, [.str "part", .str "kept"], rfl, .inr (SqT.of upd_same), rfl, rfl, _, rfl, ?_⟩
  rw [if_neg Bool.false_ne_true, kOk_in]
  cases hk : kOk (word s 0) with
  | false => exact iteF ⟨_, rfl, (fun h => nomatch h), fun _ => q2 (by rw [eok, hk]; simp) _ s2⟩
  | true =>
  refine iteT ?_
  refine ⟨_, rfl, l, _, rfl, .inl (SqL.of g2), _, _, rfl, rfl, _, rfl, ?_⟩
  rw [List.length_map]
  by_cases c1 : (2 : Int) ≤ (ws.length : Int)
  rotate_left
  · refine iteDF c1 ⟨_, rfl, (fun h => nomatch h), fun _ => q2 ?_ _ s2⟩
    have : ¬ 2 ≤ ws.length := by omega
    rw [eok, decide_eq_false this, Bool.false_and]
  refine iteDT c1 ?_
  have c1 : 2 ≤ ws.length := by omega
  refine ⟨_, _, rfl, rfl, _, _, rfl, rfl, _, rfl, fun h => ?_, fun h => ?_⟩
  rotate_left
  · have h := of_decide_eq_false h
    refine q2 ?_ _ s2
    have : ¬ ws.length ≤ 6002 := by omega
    rw [eok, decide_eq_false this]
    simp
  have h := of_decide_eq_true h
  have c2 : ws.length ≤ 6002 := by omega
  rw [decide_eq_true c1, decide_eq_true c2, hk, Bool.true_and, Bool.true_and, Bool.true_and] at eok
  refine ⟨_, rfl, l, _, _, _, rfl, rfl, SqL.of g2, hat 0 hp0, _, rfl, l, _, _, _, rfl, rfl, SqL.of g2, hat 1 (by omega), word s 1, rfl, hwl 1 (by omega), fun ca a H2 s3 h2 => ?_, fun ca H2 s3 => q2 (by rw [eok, ca]; rfl) H2 (s2.trans s3)⟩
  rw [ca, Bool.true_and] at eok
  have g3 := s3 _ _ g2
  refine ⟨_, rfl, 2, rfl, l, _, rfl, SqL.of g3, fun l2 hl2 => ?_⟩
  rw [show cutV (ws.map V.str) (some 2) none = (ws.drop 2).map V.str from by rw [show (2 : Int) = ((2 : Nat) : Int) from rfl, cutV_drop, List.map_drop]]
  have s4 := s3.trans (same_new (o := .lst ((ws.drop 2).map V.str)) hl2)
  have g4 := (upd_same (H := H2) (a := l2) (o := .lst ((ws.drop 2).map V.str)))
  refine ⟨l2, rfl, ⟨_, SqL.of g4⟩, fun D hD => lc_rel (ws.drop 2) (fun _ w y => mkOk w = true ∧ y = V.int (mkOf w)) (all2_strs _) (fun _ _ _ _ _ h => h) (fun _ _ _ _ _ h _ => h) walk_list hD (by rw [List.length_drop]; omega) (by show 2 < 3; decide) (fun H' s' => SqL.of (s' _ _ g4)) ?_ ?_⟩
  · intro w v hw hv hb H' Z s' _ z
    subst hb
    refine ⟨_, rfl, w, rfl, hpl w (List.mem_of_mem_drop hw), fun c H3 s5 => z H3 _ s5 ⟨c, rfl⟩, fun c H3 s5 => q2 ?_ H3 (s2.trans (s4.trans (s'.trans s5)))⟩
    rw [eok, all_not hw c]
  · intro H' ys s' h2' hD'
    obtain ⟨e1, e2⟩ := all2_map h2'
    refine ⟨by show 3 ≤ sizeLine; decide, fun t ht => ?_⟩
    have s5 := same_new (o := .tup [.str (word s 0), .ref a, .ref D]) ht
    refine q1 (by rw [eok, e2]) _ _ (s2.trans (s4.trans (s'.trans s5))) ⟨t, a, rfl, ?_, .inr ⟨hd, D, ?_, upd_same, ?_⟩⟩
    · rw [eof]
      exact s5 _ _ (s' _ _ ((same_new hl2) _ _ h2))
    · exact getNone (s2.trans s4) hD
    · rw [e1] at hD'
      rw [eof]
      show _ = some (HO.lst (((ws.drop 2).map mkOf).map V.int))
      rw [List.map_map]
      exact s5 _ _ hD'

end
end K82
namespace K82
open PySem L2 TL
section
variable {P : Program} {w : World} {K : PySem.W.Frag} {mg : Str → Option Value} {base : Heap} {A : Ads}
theorem ok_read_book (T : Txt K mg A) : FnOk P w K mg base (L2.CX P w) 5 A.read_book A.read_book_d ["text"] (spReadX K A.NoText) := by
  have G_check_text := ok_check_text (P := P) (w := w) (base := base) T
  have G_entry_in := ok_entry_in (P := P) (w := w) (base := base) T
  refine T.F_read_book.okX sc_read_book (fun vs H Q E h => ?_) (fun cdv A0 outer s H vs Q E hr h => ?_)
  · obtain ⟨x, rfl, h⟩ := h
    rfl
  obtain ⟨x, rfl, h⟩ := h
  refine ⟨_, (pss_cons (ps_expr (pe_call G_check_text (hr.mono (by decide)) rfl T.m_check_text T.F_check_text.kp T.b_check_text .nil (passes_call (takes_of rfl rfl rfl rfl) (fun _ _ _ _ h => h)) (pa_cons (pe_callB call_isi (by rfl) T.z_isinstance (by decide +kernel) (pa_cons (pv 0) (pa_cons (pe_bltn (v := .ty "str") (by rfl) T.z_str (by decide +kernel) rfl) pa_nil))) pa_nil)))
   (pss_cons (ps_if (pt_cmpR op_eq (pv 0) pe_str (nomark _))
    (pss_one (ps_ret (pe_lst pa_nil)))
    pss_nil)
   (pss_one (ps_ret (KX.pe_lcX (E := E) (own := [("line", 1)]) (g := gName 1) (tt := tYes) rfl (takes_of rfl rfl rfl rfl) rfl rfl sc_read_book.nd (pi_list (pe_split (pv 0) pe_str)) (blkOk_by (own := [("line", 1)]) (N := N_read_book) (sc := defScope s_read_book) (by decide +kernel)) (fun _ _ _ _ _ _ => pg_name (i := 1) sc_read_book.nd rfl (Or.inl rfl)) (fun _ _ _ _ _ _ => pts_nil) (fun _ _ _ _ _ _ pass => (pe_callS G_entry_in (hr.mono (by decide)) rfl T.m_entry_in T.F_entry_in.kp T.b_entry_in pass (pa_cons (pv 1) pa_nil)))))))), ?_⟩
  rcases h with ⟨s, rfl, hl, q1, q2⟩ | ⟨t, ht, hk, q⟩
  rotate_left
  · exact ⟨_, rfl, _, _, _, _, false, rfl, .ty _, ht, hk, _, rfl, (fun h => nomatch h), fun _ => q⟩
  refine ⟨_, rfl, _, _, _, _, true, rfl, .ty _, .base (.str _), kit_ty (by decide +kernel), _, rfl, fun _ => ?_, fun h => nomatch h⟩
  refine ⟨_, rfl, rfl, _, rfl, ?_⟩
  refine iteD2 (fun c => ?_) (fun c => ?_)
  · have c := V.str.inj c
    refine ⟨by show 0 ≤ sizeLine; decide, fun l hn => q1 (by unfold bkOk; rw [decide_eq_true c]; rfl) l [] _ (same_new hn) upd_same ?_⟩
    unfold bkOf
    rw [if_pos c]
    exact .nil
  have hne : ¬ s = Str.ofString "" := fun e => c (congrArg V.str e)
  have eok : bkOk s = (Txt.split s (Str.ofString "\n")).all enOk := by
    unfold bkOk
    rw [decide_eq_false hne, Bool.false_or]
  have eof : bkOf s = (Txt.split s (Str.ofString "\n")).map enOf := if_neg hne
  refine ⟨_, rfl, ⟨_, rfl⟩, s, _, rfl, rfl, (by decide +kernel), sizeL (by omega), fun l hn => ?_⟩
  rw [show Txt.split s "\n" = Txt.split s (Str.ofString "\n") from rfl]
  have hpl : ∀ w ∈ Txt.split s (Str.ofString "\n"), w.length ≤ 100000 := fun w hw => Nat.le_trans (part_len tl_nl hw) hl
  have hnw := parts_n (s := s) tl_nl
  generalize hws : Txt.split s (Str.ofString "\n") = ws at hpl hnw eok eof ⊢
  have s1 := same_new (o := .lst (ws.map V.str)) hn
  have g1 : upd H l (.lst (ws.map V.str)) l = some (.lst (ws.map V.str)) := upd_same
  refine ⟨l, rfl, ⟨_, SqL.of g1⟩, fun D hD => lc_rel ws (fun H' w y => enOk w = true ∧ EntH H' (fun a => a ≠ D) (enOf w) y) (all2_strs _) (fun _ _ _ _ s' h => ⟨h.1, h.2.same s'⟩) (fun X e v ys ys' h hD' => ⟨h.1, h.2.keepX keepX_upd hD' fun _ h => h⟩) walk_list hD (by omega) (by show 1 < 2; decide) (fun H' s' => SqL.of (s' _ _ g1)) ?_ ?_⟩
  · intro w v hw hv hb H' Z s' ⟨ys, hys⟩ z
    subst hb
    refine ⟨_, rfl, w, rfl, hpl w hw, fun c v H2 s2 h2 => z H2 _ s2 ⟨c, h2.weak fun a ⟨o, ho⟩ hn2 e => ?_⟩, fun c H2 s2 => q2 ?_ H2 (s1.trans (s'.trans s2))⟩
    · rw [e, hys] at hn2; cases hn2
    · rw [eok, all_not hw c]
  · intro H' ys s' h2 hD'
    have e2 : ws.all enOk = true := (all2_map (f := fun _ => V.non) (p := enOk) (ys := ws.map fun _ => V.non) (by
      have : ∀ {ws : List Str} {ys : List V}, All2 (fun w y => enOk w = true ∧ EntH H' (fun a => a ≠ D) (enOf w) y) ws ys → All2 (fun (a : Str) (y : V) => enOk a = true ∧ y = V.non) ws (ws.map fun _ => V.non) := by
        intro ws
        induction ws with
        | nil => intro _ _; exact .nil
        | cons x r ih => intro ys h; cases h with | cons h t => exact .cons ⟨h.1, rfl⟩ (ih t)
      exact this h2)).2
    refine q1 (by rw [eok, e2]) D ys H' (s1.trans s') hD' ?_
    rw [eof]
    exact all2_image (h2.mono fun _ _ h => h.2.weak fun _ _ _ => trivial)

end
end K82
namespace K82
open PySem L2 TL
section
variable {P : Program} {w : World} {K : PySem.W.Frag} {mg : Str → Option Value} {base : Heap} {A : Ads}
theorem ok_l_number (T : Txt K mg A) : FnOk P w K mg base CX0 4 A.l_number A.l_number_d ["_law_well_here"] spNumber := by
  have G_l_draw := ok_l_draw (P := P) (w := w) (base := base) T
  refine T.F_l_number.ok sc_l_number (fun vs H Q E h => ?_) (fun cdv A0 outer s H vs Q E hr h => ?_)
  · obtain ⟨p, rfl, W, q⟩ := h
    rfl
  obtain ⟨p, rfl, W, q⟩ := h
  refine ⟨_, (pss_cons (ps_set (i := 1) sc_l_number.nd rfl (Or.inl rfl) (pe_call G_l_draw (hr.mono (by decide)) rfl T.m_l_draw T.F_l_draw.kp T.b_l_draw .nil pass0 (pa_cons (pv 0) (pa_cons pe_int pa_nil))))
   (pss_cons (ps_if (pt_cmpR op_eq (pv 1) pe_int (nomark _))
    (pss_one (ps_ret (pe_call G_l_draw (hr.mono (by decide)) rfl T.m_l_draw T.F_l_draw.kp T.b_l_draw .nil pass0 (pa_cons (pv 0) (pa_cons (pe_op op_pow pe_int pe_int) pa_nil)))))
    pss_nil)
   (pss_cons (ps_if (pt_cmpR op_eq (pv 1) pe_int (nomark _))
    (pss_one (ps_ret (pe_ix ix_list (pe_lst (pa_cons pe_int (pa_cons pe_int (pa_cons pe_int (pa_cons pe_int (pa_cons pe_int (pa_cons pe_int pa_nil))))))) (pe_call G_l_draw (hr.mono (by decide)) rfl T.m_l_draw T.F_l_draw.kp T.b_l_draw .nil pass0 (pa_cons (pv 0) (pa_cons pe_int pa_nil))) (fun _ _ => rfl))))
    pss_nil)
   (pss_one (ps_ret (pe_call G_l_draw (hr.mono (by decide)) rfl T.m_l_draw T.F_l_draw.kp T.b_l_draw .nil pass0 (pa_cons (pv 0) (pa_cons pe_int pa_nil)))))))), ?_⟩
  refine ⟨_, rfl, p, 4, rfl, W, by decide, by decide, fun n H1 hn0 hn1 k1 W1 => ?_⟩
  refine ⟨_, rfl, rfl, _, rfl, ?_⟩
  refine iteD2 (fun c1 => ?_) (fun c1 => ?_)
  · refine ⟨_, rfl, _, _, rfl, rfl, ⟨by decide, by decide, by decide⟩, p, _, rfl, W1, by decide, by decide, fun m H2 hm0 hm1 k2 W2 => ?_⟩
    have e6 : (10 : Int) ^ ((6 : Int).toNat) = 1000000 := by decide
    rw [e6] at hm1
    exact q m H2 ⟨hm0, hm1⟩ (k1.trans k2) W2
  refine ⟨_, rfl, rfl, _, rfl, ?_⟩
  refine iteD2 (fun c2 => ?_) (fun c2 => ?_)
  · refine ⟨by show 6 ≤ sizeLine; decide, fun l hl => ?_⟩
    have s := same_new (o := .lst (([0, 9, 10, 99999, 100000, 999999] : List Int).map V.int)) hl
    have npl : l ≠ p := fun e => by obtain ⟨_, _, _, _, w⟩ := W1; rw [← e, hl] at w; cases w
    refine ⟨_, rfl, p, 6, rfl, W1.same s, by decide, by decide, fun m H2 hm0 hm1 k2 W2 => ?_⟩
    have hl2 := k2 _ _ npl (upd_same (H := H1) (o := .lst (([0, 9, 10, 99999, 100000, 999999] : List Int).map V.int)))
    obtain ⟨z, hz, ez⟩ := at_ints (ns := [0, 9, 10, 99999, 100000, 999999]) hm0 hm1
    have v6 : ∀ z ∈ ([0, 9, 10, 99999, 100000, 999999] : List Int), 0 ≤ z ∧ z < 1000000 := by decide
    exact ⟨l, _, _, _, rfl, rfl, SqL.of hl2, ez, q z H2 (v6 z hz) (k1.trans ((keepX_of s).trans k2)) W2⟩
  · refine ⟨_, rfl, p, 30, rfl, W1, by decide, by decide, fun m H2 hm0 hm1 k2 W2 => ?_⟩
    exact q m H2 ⟨hm0, by omega⟩ (k1.trans k2) W2

end
end K82
namespace K82
open PySem L2 TL
section
variable {P : Program} {w : World} {K : PySem.W.Frag} {mg : Str → Option Value} {base : Heap} {A : Ads}
theorem ok_l_address (T : Txt K mg A) : FnOk P w K mg base CX0 5 A.l_address A.l_address_d ["_law_well_here"] spAddress := by
  have G_l_draw := ok_l_draw (P := P) (w := w) (base := base) T
  have G_l_number := ok_l_number (P := P) (w := w) (base := base) T
  refine T.F_l_address.ok sc_l_address (fun vs H Q E h => ?_) (fun cdv A0 outer s H vs Q E hr h => ?_)
  · obtain ⟨p, rfl, W, q⟩ := h
    rfl
  obtain ⟨p, rfl, W, q⟩ := h
  refine ⟨_, (pss_cons (ps_set (i := 1) sc_l_address.nd rfl (Or.inl rfl) (pe_ix ix_list (pe_lst (pa_cons pe_int (pa_cons pe_int (pa_cons pe_int pa_nil)))) (pe_op op_add (pe_op op_fdiv (pe_call G_l_draw (hr.mono (by decide)) rfl T.m_l_draw T.F_l_draw.kp T.b_l_draw .nil pass0 (pa_cons (pv 0) (pa_cons pe_int pa_nil))) pe_int) (pe_callTy call_int1 (by rfl) T.z_int (by decide +kernel) (pa_cons (pe_cmpR op_eq (pe_call G_l_draw (hr.mono (by decide)) rfl T.m_l_draw T.F_l_draw.kp T.b_l_draw .nil pass0 (pa_cons (pv 0) (pa_cons pe_int pa_nil))) pe_int (nomark _)) pa_nil))) (fun _ _ => rfl)))
   (pss_one (ps_ret (pe_callTy call_tuple_ofK (by rfl) T.z_tuple (by decide +kernel) (pa_cons (pe_lc (own := [("_law_k", 2)]) (g := gName 2) (tt := tYes) rfl sc_l_address.nd (pi_range1 (by rfl) T.z_range (pa_cons (pe_call G_l_draw (hr.mono (by decide)) rfl T.m_l_draw T.F_l_draw.kp T.b_l_draw .nil pass0 (pa_cons (pv 0) (pa_cons (pv 1) pa_nil))) pa_nil)) (blkOk_by (own := [("_law_k", 2)]) (N := N_l_address) (sc := defScope s_l_address) (by decide +kernel)) (fun _ _ _ _ _ => pg_name (i := 2) sc_l_address.nd rfl (Or.inl rfl)) (fun _ _ _ _ _ => pts_nil) (fun _ _ _ _ _ => (pe_call G_l_number (hr.mono (by decide)) rfl T.m_l_number T.F_l_number.kp T.b_l_number .nil pass0 (pa_cons (pv 0) pa_nil)))) pa_nil))))), ?_⟩
  refine ⟨by show 3 ≤ sizeLine; decide, fun l hl => ?_⟩
  have s0 := same_new (o := .lst (([3, 6, 101] : List Int).map V.int)) hl
  have npl : l ≠ p := fun e => by obtain ⟨_, _, _, _, w⟩ := W; rw [← e, hl] at w; cases w
  refine ⟨_, rfl, p, 8, rfl, W.same s0, by decide, by decide, fun n1 H1 a0 a1 k1 W1 => ?_⟩
  refine ⟨_, _, rfl, rfl, ⟨by decide, by decide⟩, ?_⟩
  refine ⟨_, rfl, p, 8, rfl, W1, by decide, by decide, fun n2 H2 b0 b1 k2 W2 => ?_⟩
  refine ⟨rfl, .inr ⟨_, rfl, ?_⟩⟩
  refine ⟨_, _, rfl, rfl, ?_⟩
  have hl2 := k2 _ _ npl (k1 _ _ npl (upd_same (H := H) (o := .lst (([3, 6, 101] : List Int).map V.int))))
  obtain ⟨z, hz, ez⟩ := at_ints (ns := [3, 6, 101]) (n := n1 / 4 + (if decide (V.int n2 = V.int 7) = true then 1 else 0)) (by split <;> omega) (by show _ < ((3 : Nat) : Int); split <;> omega)
  have hz2 : 3 ≤ z ∧ z ≤ 101 := by
    have v6 : ∀ z ∈ ([3, 6, 101] : List Int), 3 ≤ z ∧ z ≤ 101 := by decide
    exact v6 z hz
  refine ⟨l, _, _, _, rfl, rfl, SqL.of hl2, ez, ?_⟩
  have k02 := (keepX_of s0).trans (k1.trans k2)
  refine ⟨_, rfl, _, rfl, p, z, rfl, W2, by omega, by omega, fun m H3 m0 m1 k3 W3 => ?_⟩

  refine ⟨m, rfl, by omega, by omega, fun D hD => lc_drawn (walk_range (lo := 0) (n := m.toNat)) (fun y => ∃ n, y = V.int n ∧ IsVal n) W3 hD (by omega) (by show 2 < 3; decide) (fun _ => trivial) (fun _ _ _ _ y => y.1) ?_ ?_⟩
  · intro i x H' Z hi k W' y z
    exact ⟨_, rfl, p, rfl, W', fun n H4 hn k4 W4 => z H4 _ k4 W4 ⟨n, rfl, hn⟩⟩
  · intro H' ys k W' hln hP hD'
    obtain ⟨ns, rfl, hns, hl3⟩ := ints_of hP
    exact ⟨D, _, rfl, .inl ⟨SqL.of hD', fun t ht => q t ns _ hns (by omega) upd_same (k02.trans (k3.trans (k.trans (keepX_of (same_new ht))))) (W'.same (same_new ht))⟩⟩

end
end K82
namespace K82
open PySem L2 TL
section
variable {P : Program} {w : World} {K : PySem.W.Frag} {mg : Str → Option Value} {base : Heap} {A : Ads}
theorem ok_l_address_text (T : Txt K mg A) : FnOk P w K mg base CX0 1 A.l_address_text A.l_address_text_d ["_law_address_here"] (spAdText K) := by
  refine T.F_l_address_text.ok sc_l_address_text (fun vs H Q E h => ?_) (fun cdv A0 outer s H vs Q E hr h => ?_)
  · obtain ⟨a, ns, rfl, hS, hv, hl, q⟩ := h
    rfl
  obtain ⟨a, ns, rfl, hS, hv, hl, q⟩ := h
  refine ⟨_, (pss_cons (ps_if (pt_cmpR (op_eqD hr.units) (pv 0) (pe_tup pa_nil) (nomark _))
    (pss_one (ps_ret pe_str))
    pss_nil)
   (pss_one (ps_ret (pe_join pe_str (pe_lc (own := [("_law_number_here", 1)]) (g := gName 1) (tt := tYes) rfl sc_l_address_text.nd (pi_tup (pv 0)) (blkOk_by (own := [("_law_number_here", 1)]) (N := N_l_address_text) (sc := defScope s_l_address_text) (by decide +kernel)) (fun _ _ _ _ _ => pg_name (i := 1) sc_l_address_text.nd rfl (Or.inl rfl)) (fun _ _ _ _ _ => pts_nil) (fun _ _ _ _ _ => (pe_callTy call_str_int (by rfl) T.z_str (by decide +kernel) (pa_cons (pv 1) pa_nil)))))))), ?_⟩
  refine ⟨_, rfl, by show 0 ≤ sizeLine; decide, fun t ht => ?_⟩
  have s1 := same_new (o := .tup []) ht
  refine ⟨.tuple (ns.map .int), .tuple [], .tup (same_tup s1 hS) (dpAll_ints ns), .tup (SqT.of upd_same) .nil, tup_shaped ns, rfl, _, rfl, ?_⟩
  rw [eqv_ints]
  refine iteD2 (fun c => ?_) (fun c => ?_)
  · subst c; exact q _ s1
  · refine ⟨⟨_, rfl⟩, _, rfl, a, rfl, ⟨_, same_tup s1 hS⟩, fun D hD => lc_mapA ns V.int (fun n => V.str (numT n)) 0 walk_tup hD (by omega) (by show 1 < 2; decide) (fun H' s' => same_tup (s1.trans s') hS) ?_ ?_⟩
    · intro n hn H' Z s' z
      have h0 := (hv n hn).1
      have h1 := (hv n hn).2
      exact ⟨_, rfl, n, rfl, log_small (by omega), z H' (Same.refl H')⟩
    · intro H' s' hD'
      have hj := join_len (Str.ofString ".") 6 (by decide +kernel) (ns.map numT) fun x hx => by
        obtain ⟨n, hn, rfl⟩ := List.mem_map.mp hx
        exact numT_len (.inr (hv n hn))
      rw [List.length_map] at hj
      refine ⟨_, D, ns.map numT, rfl, rfl, .inl (SqL.of (by rw [hD', List.map_map]; rfl)), by rw [List.length_map]; omega, ?_⟩
      have e : Txt.join (Str.ofString ".") (ns.map numT) = adT ns := (if_neg c).symm
      rw [e]
      exact q _ (s1.trans s')

end
end K82
namespace K82
open PySem L2 TL
section
variable {P : Program} {w : World} {K : PySem.W.Frag} {mg : Str → Option Value} {base : Heap} {A : Ads}
theorem ok_l_is_number (T : Txt K mg A) : FnOk P w K mg base CX0 1 A.l_is_number A.l_is_number_d ["_law_word"] (spIsNum isValW) := by
  refine T.F_l_is_number.ok sc_l_is_number (fun vs H Q E h => ?_) (fun cdv A0 outer s H vs Q E hr h => ?_)
  · obtain ⟨s, rfl, hl, hasc, q⟩ := h
    rfl
  obtain ⟨s, rfl, hl, hasc, q⟩ := h
  refine ⟨_, (pss_cons (ps_if (PW.pt (pw_or (pt_cmpR op_eq (pv 0) pe_str (nomark _)) (pw_or1 (pt_cmpR (op_neD hr.units) (pe_lc (own := [("_law_sign", 1)]) (g := gName 1) rfl sc_l_is_number.nd (pi_str (pv 0)) (blkOk_by (own := [("_law_sign", 1)]) (N := N_l_is_number) (sc := defScope s_l_is_number) (by decide +kernel)) (fun _ _ _ _ _ => pg_name (i := 1) sc_l_is_number.nd rfl (Or.inl rfl)) (fun _ _ _ _ _ => pts_one (pt_not (pt_chain op_le_str op_le_str pe_str (pv 1) pe_str))) (fun _ _ _ _ _ => (pv 1))) (pe_lst pa_nil) (nomark _)))))
    (pss_one (ps_ret pe_bl))
    pss_nil)
   (pss_one (ps_ret (pe_and (pe_cmpR op_lt (pe_callB call_len_str (by rfl) T.z_len (by decide +kernel) (pa_cons (pv 0) pa_nil)) pe_int (nomark _)) (pe_one (pe_or (pe_cmpR op_eq (pv 0) pe_str (nomark _)) (pe_one (pe_cmpR op_ne (pe_ix ix_str (pv 0) pe_int (fun _ _ => rfl)) pe_str (nomark _))))))))), ?_⟩
  have hs : s.length = (tl s).length := len_tl s
  refine ⟨_, rfl, rfl, _, rfl, ?_⟩
  refine iteD2 (fun c1 => ?_) (fun c1 => ?_)
  · rw [V.str.inj c1] at q
    exact (show isValW "" = false from by decide +kernel) ▸ q _ (Same.refl H)
  have hp : 1 ≤ (tl s).length := by
    cases e : tl s with
    | nil => exact absurd (congrArg V.str (ext_tl (x := s) (y := "") (by rw [e]; decide +kernel))) c1
    | cons c r => exact Nat.le_add_left _ _
  refine ⟨_, rfl, s, rfl, fun D hD => lc_it walk_str (fun k H' => H' D = some (.lst (signs (((tl s).take k).filter fun c => !isDig c))) ∧ Same H H') ⟨by rw [upd_same]; rfl, same_new hD⟩ (fun _ _ _ _ => trivial) (by
      rintro k x X1 X2 hk ⟨h1, h2⟩ ⟨rfl, c, hc, rfl⟩
      refine ⟨rfl, ?_⟩
      have e1 : (tl s)[k]? = some c := by rw [← hc]; simp [tl]
      have hkl : k < s.length := hk
      have no : isDig c = true → X2 D = some (.lst (signs (((tl s).take (k + 1)).filter fun c => !isDig c))) := fun hf => by
        rw [h1, List.take_add_one, e1]
        simp [List.filter_append, hf]
      have yes : isDig c = false → ∃ acc, X2 D = some (.lst acc) ∧ acc.length < sizeLine ∧ (upd X2 D (.lst (acc ++ [V.str ⟨#[c]⟩])) D = some (.lst (signs (((tl s).take (k + 1)).filter fun c => !isDig c))) ∧ Same H (upd X2 D (.lst (acc ++ [V.str ⟨#[c]⟩])))) := fun hf => by
        refine ⟨_, h1, ?_, ?_, fun b o e => ?_⟩
        · have q1 := List.length_filter_le (fun c => !isDig c) ((tl s).take k)
          have q2 := List.length_take_le k (tl s)
          have : (signs (((tl s).take k).filter fun c => !isDig c)).length = (((tl s).take k).filter fun c => !isDig c).length := List.length_map _
          rw [this]
          exact Nat.lt_of_lt_of_le (show _ < 16777216 by omega) (by decide)
        · rw [upd_same, List.take_add_one, e1]
          simp [List.filter_append, hf, signs]
        · rw [upd_ne (ne_of_none e hD)]; exact h2 b o e
      refine ⟨_, rfl, _, _, rfl, rfl, _, rfl, ?_⟩
      refine iteN2 (fun g1 => ?_) (fun g1 => ?_)
      · have g1 : ¬ c < 48 := fun h => g1 ((lt_left (n := 48) (by decide +kernel)).mpr h)
        refine ⟨_, _, rfl, rfl, _, rfl, ?_⟩
        by_cases g2 : 57 < c
        · rw [decide_eq_true ((lt_right (n := 57) (by decide +kernel)).mpr g2)]
          exact iteT ⟨_, rfl, yes (by unfold isDig; rw [decide_eq_false (show ¬ c ≤ 57 by omega), Bool.and_false])⟩
        · rw [decide_eq_false (fun h => g2 ((lt_right (n := 57) (by decide +kernel)).mp h))]
          exact iteF ⟨no (by unfold isDig; rw [decide_eq_true (show c ≤ 57 by omega), decide_eq_true (show 48 ≤ c by omega)]; rfl), h2⟩
      · have g1 := (lt_left (n := 48) (by decide +kernel)).mp g1
        exact ⟨_, rfl, iteT ⟨_, rfl, yes (by unfold isDig; rw [decide_eq_false (show ¬ 48 ≤ c by omega)]; rfl)⟩⟩) (by
      rintro X1 ⟨h1, h2⟩
      have hs' : s.cps.size = (tl s).length := by simp [tl]
      rw [hs', List.take_length] at h1
      have asc : ∀ c ∈ (tl s).filter (fun c => !isDig c), c < 128 := fun c hc => hasc c (List.mem_filter.mp hc).1
      refine ⟨by show 0 ≤ sizeLine; decide, fun z hz => ?_⟩
      have sz := same_new (o := .lst []) hz
      refine ⟨.list (((tl s).filter fun c => !isDig c).map fun c => PyData.str ⟨#[c]⟩), .list [], .lst (SqL.of (sz _ _ h1)) (dp_signs _), .lst (SqL.of upd_same) .nil, signs_shaped asc, rfl, ?_⟩
      rw [signs_eqv, filt_empty]
      have s0 := h2.trans sz
      refine ⟨_, rfl, ?_⟩
      cases hd : (tl s).all isDig with
      | false =>
        refine iteT ?_
        have e : isValW s = false := by unfold isValW; rw [hd, Bool.and_false]
        rw [e] at q
        exact q _ s0
      | true =>
        refine iteF ?_
        obtain ⟨c, r, hc⟩ : ∃ c r, tl s = c :: r := by
          cases e : tl s with
          | nil => rw [e] at hp; simp at hp
          | cons c r => exact ⟨c, r, rfl⟩
        refine ⟨_, rfl, _, rfl, len_line (by omega), _, _, rfl, rfl, _, rfl, iteD2 (fun g1 => ?_) (fun g1 => ?_)⟩
        · have h6 : (tl s).length ≤ 6 := by omega
          refine ⟨_, rfl, rfl, _, rfl, iteD2 (fun g2 => ?_) (fun g2 => ?_)⟩
          · have e : isValW s = true := by rw [V.str.inj g2]; decide +kernel
            rw [e] at q
            exact q _ s0
          · refine ⟨_, rfl, s, 0, c, rfl, rfl, len_line (by omega), (by show atI (tl s) ((0 : Nat) : Int) = some c; rw [hc]; exact atI_nat rfl), rfl, ?_⟩
            have e : isValW s = !decide (V.str ⟨#[c]⟩ = V.str "0") := by
              by_cases g3 : c = 48
              · subst g3
                rw [valW_false2 (s := s) (by rw [hc]; rfl) (fun e => g2 (congrArg V.str e))]
                decide +kernel
              · rw [valW_true hp h6 (fun e => by rw [hc] at e; exact absurd (Option.some.inj e) g3), hd, decide_eq_false (fun e => g3 ?_)]
                · rfl
                · have := congrArg tl (V.str.inj e)
                  have z : tl (Str.ofString "0") = [48] := by decide +kernel
                  rw [z] at this
                  exact (List.cons.inj this).1
            rw [e] at q
            exact q _ s0
        · have e : isValW s = false := valW_false1 (.inr (by omega))
          rw [e] at q
          exact q _ s0)⟩

end
end K82
namespace K82
open PySem L2 TL
section
variable {P : Program} {w : World} {K : PySem.W.Frag} {mg : Str → Option Value} {base : Heap} {A : Ads}
theorem ok_l_address_of (T : Txt K mg A) : FnOk P w K mg base CX0 2 A.l_address_of A.l_address_of_d ["_law_word"] spLAdOf := by
  have G_l_is_number := ok_l_is_number (P := P) (w := w) (base := base) T
  refine T.F_l_address_of.ok sc_l_address_of (fun vs H Q E h => ?_) (fun cdv A0 outer s H vs Q E hr h => ?_)
  · obtain ⟨s, rfl, hl, hasc, q1, q2⟩ := h
    rfl
  obtain ⟨s, rfl, hl, hasc, q1, q2⟩ := h
  refine ⟨_, (pss_cons (ps_if (pt_cmpR op_eq (pv 0) pe_str (nomark _))
    (pss_one (ps_ret (pe_tup pa_nil)))
    pss_nil)
   (pss_cons (ps_set (i := 1) sc_l_address_of.nd rfl (Or.inl rfl) (pe_split (pv 0) pe_str))
   (pss_cons (ps_if (PW.pt (pw_or (pt_cmpR op_gt (pe_callB call_lenK (by rfl) T.z_len (by decide +kernel) (pa_cons (pv 1) pa_nil)) pe_int (nomark _)) (pw_or1 (pt_cmpR (op_neD hr.units) (pe_lc (own := [("_law_one", 2)]) (g := gName 2) rfl sc_l_address_of.nd (pi_list (pv 1)) (blkOk_by (own := [("_law_one", 2)]) (N := N_l_address_of) (sc := defScope s_l_address_of) (by decide +kernel)) (fun _ _ _ _ _ => pg_name (i := 2) sc_l_address_of.nd rfl (Or.inl rfl)) (fun _ _ _ _ _ => pts_one (pt_not (pt_val (pe_call G_l_is_number (hr.mono (by decide)) rfl T.m_l_is_number T.F_l_is_number.kp T.b_l_is_number .nil pass0 (pa_cons (pv 2) pa_nil))))) (fun _ _ _ _ _ => (pv 2))) (pe_lst pa_nil) (nomark _)))))
    (pss_one (ps_ret pe_non))
    pss_nil)
   (pss_one (ps_ret (pe_callTy call_tuple_ofK (by rfl) T.z_tuple (by decide +kernel) (pa_cons (pe_lc (own := [("_law_one", 2)]) (g := gName 2) (tt := tYes) rfl sc_l_address_of.nd (pi_list (pv 1)) (blkOk_by (own := [("_law_one", 2)]) (N := N_l_address_of) (sc := defScope s_l_address_of) (by decide +kernel)) (fun _ _ _ _ _ => pg_name (i := 2) sc_l_address_of.nd rfl (Or.inl rfl)) (fun _ _ _ _ _ => pts_nil) (fun _ _ _ _ _ => (pe_callTy call_int_str (by rfl) T.z_int (by decide +kernel) (pa_cons (pv 2) pa_nil)))) pa_nil))))))), ?_⟩
  refine ⟨_, rfl, rfl, _, rfl, ?_⟩
  refine iteD2 (fun c => ?_) (fun c => ?_)
  · have c := V.str.inj c
    refine ⟨by show 0 ≤ sizeLine; decide, fun t ht => q1 (by unfold adOk; rw [decide_eq_true c]; rfl) t _ (same_new ht) ?_⟩
    unfold adOf
    rw [if_pos c]
    exact upd_same
  have hne : ¬ s = Str.ofString "-" := fun e => c (congrArg V.str e)
  have eok : adOk s = (decide ((Txt.split s (Str.ofString ".")).length ≤ 100) && (Txt.split s (Str.ofString ".")).all isValW) := by
    unfold adOk
    rw [decide_eq_false hne, Bool.false_or]
  have eof : adOf s = (Txt.split s (Str.ofString ".")).map valOf := if_neg hne
  refine ⟨_, rfl, ⟨_, rfl⟩, s, _, rfl, rfl, (by decide +kernel), sizeL (by omega), fun l hn => ?_⟩
  rw [show Txt.split s "." = Txt.split s (Str.ofString ".") from rfl]
  have hpl : ∀ w ∈ Txt.split s (Str.ofString "."), w.length ≤ 100000 := fun w hw => Nat.le_trans (part_len tl_dot hw) hl
  have hpa : ∀ w ∈ Txt.split s (Str.ofString "."), Ascii w := ascii_split hasc
  generalize hws : Txt.split s (Str.ofString ".") = ws at eok eof hpl hpa ⊢

  have s1 := same_new (o := .lst (ws.map V.str)) hn
  have g1 : upd H l (.lst (ws.map V.str)) l = some (.lst (ws.map V.str)) := upd_same
  refine ⟨_, rfl, l, _, rfl, .inl (SqL.of g1), _, _, rfl, rfl, _, rfl, ?_⟩
  rw [List.length_map]
  refine iteD2 (fun c1 => ?_) (fun c1 => ?_)
  · refine q2 ?_ _ s1
    have : ¬ ws.length ≤ 100 := by omega
    rw [eok, decide_eq_false this, Bool.false_and]
  have hle : ws.length ≤ 100 := by omega
  rw [decide_eq_true hle, Bool.true_and] at eok
  refine ⟨_, rfl, l, rfl, ⟨_, SqL.of g1⟩, fun D hD => lc_filter (fun w => !isValW w) walk_list hD (by omega) (fun H' s' => SqL.of (s' _ _ g1)) ?_ ?_ ?_⟩
  · intro x hx H3 Z s3 z
    exact ⟨_, rfl, x, rfl, hpl x hx, hpa x hx, fun H4 s4 => ⟨isValW x, rfl, z H4 s4⟩⟩
  · intro x hx H3 Z z
    exact ⟨_, rfl, z⟩
  · intro H3 s3 hD3
    refine ⟨by show 0 ≤ sizeLine; decide, fun z hz => ?_⟩
    have sz := same_new (o := .lst ([] : List V)) hz
    have cod : Codes (ws.filter fun w => !isValW w) := fun x hx => strOk_ascii (hpa x (List.mem_filter.mp hx).1)
    refine ⟨strsD (ws.filter fun w => !isValW w), .list [], .lst (SqL.of (sz _ _ hD3)) (dp_strs _), .lst (SqL.of upd_same) .nil, strs_shaped cod, rfl, _, rfl, ?_⟩
    rw [show PyData.eqv (strsD (ws.filter fun w => !isValW w)) (.list []) = decide (ws.filter (fun w => !isValW w) = []) from strs_eqv _ []]
    generalize hG3 : upd H3 z _ = H4 at sz ⊢
    have s14 := s1.trans (s3.trans sz)
    have g4 := (s3.trans sz) _ _ g1
    refine iteN2 (fun c2 => ?_) (fun c2 => ?_)
    · refine q2 ?_ H4 s14
      rw [eok, ← filt_all, decide_eq_false c2]
    have hall : ws.all isValW = true := by rw [← filt_all, decide_eq_true c2]
    refine ⟨_, rfl, l, rfl, ⟨_, SqL.of g4⟩, fun D2 hD2 => lc_mapA ws V.str (fun w => V.int (valOf w)) (Str.ofString "") walk_list hD2 (by omega) (by show 2 < 3; decide) (fun H' s' => SqL.of (s' _ _ g4)) ?_ ?_⟩
    · intro w hw H' Z s' z
      have hv := valW_int (List.all_eq_true.mp hall w hw)
      exact ⟨_, rfl, w, valOf w, rfl, hv.1, hv.2.1, z H' (Same.refl H')⟩
    · intro H' s' hD'
      refine ⟨D2, _, rfl, .inl ⟨SqL.of hD', fun t ht => q1 (by rw [eok, hall]) t _ (s14.trans (s'.trans (same_new ht))) ?_⟩⟩
      rw [eof, List.map_map]
      exact upd_same

end
end K82
namespace K82
open PySem L2 TL
section
variable {P : Program} {w : World} {K : PySem.W.Frag} {mg : Str → Option Value} {base : Heap} {A : Ads}
theorem ok_l_lines (T : Txt K mg A) : FnOk P w K mg base CX0 6 A.l_lines A.l_lines_d ["_law_well_here"] spLLines := by
  have G_l_draw := ok_l_draw (P := P) (w := w) (base := base) T
  have G_l_address_text := ok_l_address_text (P := P) (w := w) (base := base) T
  have G_l_address := ok_l_address (P := P) (w := w) (base := base) T
  have G_l_number := ok_l_number (P := P) (w := w) (base := base) T
  refine T.F_l_lines.ok sc_l_lines (fun vs H Q E h => ?_) (fun cdv A0 outer s H vs Q E hr h => ?_)
  · obtain ⟨p, rfl, W, q⟩ := h
    rfl
  obtain ⟨p, rfl, W, q⟩ := h
  refine ⟨_, (pss_cons (ps_set (i := 1) sc_l_lines.nd rfl (Or.inl rfl) (pe_lst pa_nil))
   (pss_cons (ps_for PassesOwn.never rfl (pi_range1 (by rfl) T.z_range (pa_cons (pe_call G_l_draw (hr.mono (by decide)) rfl T.m_l_draw T.F_l_draw.kp T.b_l_draw .nil pass0 (pa_cons (pv 0) (pa_cons pe_int pa_nil))) pa_nil)) (pg_name (i := 2) sc_l_lines.nd rfl (Or.inl rfl))
    (pss_cons (ps_set (i := 3) sc_l_lines.nd rfl (Or.inl rfl) (pe_lst (pa_cons (pe_ix ix_list (pe_lst (pa_cons pe_str (pa_cons pe_str (pa_cons pe_str pa_nil)))) (pe_call G_l_draw (hr.mono (by decide)) rfl T.m_l_draw T.F_l_draw.kp T.b_l_draw .nil pass0 (pa_cons (pv 0) (pa_cons pe_int pa_nil))) (fun _ _ => rfl)) (pa_cons (pe_call G_l_address_text (hr.mono (by decide)) rfl T.m_l_address_text T.F_l_address_text.kp T.b_l_address_text .nil pass0 (pa_cons (pe_call G_l_address (hr.mono (by decide)) rfl T.m_l_address T.F_l_address.kp T.b_l_address .nil pass0 (pa_cons (pv 0) pa_nil)) pa_nil)) pa_nil))))
   (pss_cons (ps_cut (ps_if (pt_cmpR op_ne (pe_ix ix_list (pv 3) pe_int (fun _ _ => rfl)) pe_str (nomark _))
    (pss_one (ps_set (i := 3) sc_l_lines.nd rfl (Or.inl rfl) (pe_op op_cat (pv 3) (pe_lc (own := [("_law_k", 4)]) (g := gName 4) (tt := tYes) rfl sc_l_lines.nd (pi_range1 (by rfl) T.z_range (pa_cons (pe_call G_l_draw (hr.mono (by decide)) rfl T.m_l_draw T.F_l_draw.kp T.b_l_draw .nil pass0 (pa_cons (pv 0) (pa_cons pe_int pa_nil))) pa_nil)) (blkOk_by (own := [("_law_k", 4)]) (N := N_l_lines) (sc := defScope s_l_lines) (by decide +kernel)) (fun _ _ _ _ _ => pg_name (i := 4) sc_l_lines.nd rfl (Or.inl rfl)) (fun _ _ _ _ _ => pts_nil) (fun _ _ _ _ _ => (pe_ix (r := rIxL K) ix_list (pe_lst (pa_cons pe_str (pa_cons (pe_callTy call_str_int (by rfl) T.z_str (by decide +kernel) (pa_cons (pe_call G_l_number (hr.mono (by decide)) rfl T.m_l_number T.F_l_number.kp T.b_l_number .nil pass0 (pa_cons (pv 0) pa_nil)) pa_nil)) pa_nil))) (pe_call G_l_draw (hr.mono (by decide)) rfl T.m_l_draw T.F_l_draw.kp T.b_l_draw .nil pass0 (pa_cons (pv 0) (pa_cons pe_int pa_nil))) (fun _ _ => rfl)))))))
    pss_nil))
   (pss_cons (ps_cut (ps_if (pt_cmpR op_eq (pe_call G_l_draw (hr.mono (by decide)) rfl T.m_l_draw T.F_l_draw.kp T.b_l_draw .nil pass0 (pa_cons (pv 0) (pa_cons pe_int pa_nil))) pe_int (nomark _))
    (pss_one (ps_asg (pe_join pe_str (pe_lc (own := [("_law_k", 4)]) (g := gName 4) (tt := tYes) rfl sc_l_lines.nd (pi_range1 (by rfl) T.z_range (pa_cons (pe_op op_add pe_int (pe_call G_l_draw (hr.mono (by decide)) rfl T.m_l_draw T.F_l_draw.kp T.b_l_draw .nil pass0 (pa_cons (pv 0) (pa_cons pe_int pa_nil)))) pa_nil)) (blkOk_by (own := [("_law_k", 4)]) (N := N_l_lines) (sc := defScope s_l_lines) (by decide +kernel)) (fun _ _ _ _ _ => pg_name (i := 4) sc_l_lines.nd rfl (Or.inl rfl)) (fun _ _ _ _ _ => pts_nil) (fun _ _ _ _ _ => (pe_callTy call_str_int (by rfl) T.z_str (by decide +kernel) (pa_cons (pv 4) pa_nil))))) (pg_sub (pv 3) pe_int set_list)))
    pss_nil))
   (pss_one (ps_expr (pe_bm PySem.F.plainAttrs_list PySem.F.slot_list_append PySem.F.type_list_append mt_append (pv 1) (pa_cons (pe_join pe_str (pv 3)) pa_nil))))))))
   (pss_one (ps_ret (pv 1))))), ?_⟩
  refine ⟨by show 0 ≤ sizeLine; decide, fun l hl => ?_⟩
  generalize hG0 : upd H l _ = H0
  have s0 : Same H H0 := by rw [← hG0]; exact same_new hl
  have g0 : H0 l = some (.lst (([] : List Str).map V.str)) := by rw [← hG0]; exact upd_same
  have npl : l ≠ p := W.fresh hl
  refine ⟨_, rfl, p, 5, rfl, W.same s0, by decide, by decide, fun n H1 n0 n1 k1 W1 => ?_⟩
  refine ⟨n, rfl, by omega, by omega, for_range (n := n.toNat) (fun i σ H' => ∃ (ls : List Str) (v2 v3 v4 : Option V), σ = [some (.ref p), some (.ref l), v2, v3, v4] ∧ H' l = some (.lst (ls.map V.str)) ∧ ls.length ≤ i ∧ (∀ t ∈ ls, LnB 800 t) ∧ KeepX p H H' ∧ WellAt H' p)
    ⟨[], none, none, none, rfl, k1 _ _ npl g0, Nat.zero_le _, (fun _ h => by cases h), (keepX_of s0).trans k1, W1⟩ ?_ ?_⟩
  rotate_left
  · rintro σ H9 ⟨ls, v2, v3, v4, rfl, h9, hln, hok, k9, W9⟩
    exact ⟨_, rfl, q l ls H9 h9 npl (by omega) hok k9 W9⟩
  rintro i σ H2 hi ⟨ls, v2, v3, v4, rfl, h2, hln, hok, k2, W2⟩
  refine ⟨by show 3 ≤ sizeLine; decide, fun l3 hl3 => ?_⟩
  generalize hG3 : upd H2 l3 _ = H3
  have s3 : Same H2 H3 := by rw [← hG3]; exact same_new hl3
  have g3 : H3 l3 = some (.lst ((["part", "kept", "done"] : List Str).map V.str)) := by rw [← hG3]; exact upd_same
  have n3 : l3 ≠ p := W2.fresh hl3
  refine ⟨_, rfl, p, 3, rfl, W2.same s3, by decide, by decide, fun n4 H4 a0 a1 k4 W4 => ?_⟩
  obtain ⟨w0, hw0, ew⟩ := at_strs (ss := ["part", "kept", "done"]) a0 a1
  refine ⟨l3, _, _, _, rfl, rfl, SqL.of (k4 _ _ n3 g3), ew, ?_⟩
  refine ⟨_, rfl, p, rfl, W4, fun ta ad H5 hv hl5 h5 k5 W5 => ?_⟩
  refine ⟨ta, ad, rfl, SqT.of h5, hv, hl5, fun H6 s6 => ?_⟩
  refine ⟨by show 2 ≤ sizeLine; decide, fun lw hlw => ?_⟩
  have k26 : KeepX p H H6 := k2.trans ((keepX_of s3).trans (k4.trans (k5.trans (keepX_of s6))))
  have h6 : H6 l = some (.lst (ls.map V.str)) := ((keepX_of s3).trans (k4.trans (k5.trans (keepX_of s6)))) _ _ npl h2
  have W6 := W5.same s6
  generalize hG7 : upd H6 lw _ = H7
  have s7 : Same H6 H7 := by rw [← hG7]; exact same_new hlw
  have g7 : H7 lw = some (.lst ((w0 :: adT ad :: ([] : List Str)).map V.str)) := by rw [← hG7]; exact upd_same
  have n7 : lw ≠ p := W6.fresh hlw
  have nl7 : lw ≠ l := fun e => by rw [e, h6] at hlw; cases hlw
  have hlw0 : H lw = none := keepX_none k26 n7 hlw
  have had : LnB 706 (adT ad) := ⟨by have := adT_len hv hl5; omega, ascii_adT hv⟩
  have hw4 := lnb_head w0 hw0
  have W7 := W6.same s7
  have h7 := s7 _ _ h6
  have k7 := k26.trans (keepX_of s7)
  refine ⟨fun σ' H' => ∃ (lw : Addr) (a : Str) (r : List Str) (v2 v4 : Option V), σ' = [some (.ref p), some (.ref l), v2, some (.ref lw), v4] ∧ H' lw = some (.lst ((w0 :: a :: r).map V.str)) ∧ lw ≠ p ∧ lw ≠ l ∧ H lw = none ∧ H' l = some (.lst (ls.map V.str)) ∧ r.length ≤ 3 ∧ (∀ x ∈ r, LnB 6 x) ∧ LnB 706 a ∧ KeepX p H H' ∧ WellAt H' p, ?_, ?_⟩
  · refine ⟨_, rfl, lw, _, _, _, rfl, rfl, SqL.of g7, rfl, rfl, _, rfl, iteN2 (fun c => ?_) (fun c => ?_)⟩
    rotate_left
    · exact ⟨lw, adT ad, [], _, _, rfl, g7, n7, nl7, hlw0, h7, Nat.zero_le _, (fun _ h => by cases h), had, k7, W7⟩
    refine ⟨_, rfl, _, rfl, p, 4, rfl, W7, by decide, by decide, fun m H8 m0 m1 k8 W8 => ?_⟩
    refine ⟨m, rfl, by omega, by omega, fun D hD => lc_drawn (walk_range (lo := 0) (n := m.toNat)) (fun y => ∃ w, y = V.str w ∧ LnB 6 w) W8 hD (by omega) (by show 4 < 5; decide) (fun _ => trivial) (fun _ _ _ _ y => y.1) ?_ ?_⟩
    · intro i x H' Z hi k W' y z
      refine ⟨_, rfl, p, rfl, W', fun nn H9 hn k9 W9 => ?_⟩
      refine ⟨nn, rfl, log_small (by have h0 := hn.1; have h1 := hn.2; omega), by show 2 ≤ sizeLine; decide, fun lx hlx => ?_⟩
      generalize hGA : upd H9 lx _ = HA
      have sA : Same H9 HA := by rw [← hGA]; exact same_new hlx
      have gA : HA lx = some (.lst ((["-1", numT nn] : List Str).map V.str)) := by rw [← hGA]; exact upd_same
      have nx : lx ≠ p := W9.fresh hlx
      refine ⟨_, rfl, p, 2, rfl, W9.same sA, by decide, by decide, fun nz HB b0 b1 kB WB => ?_⟩
      obtain ⟨zz, hzz, ez⟩ := at_strs (ss := ["-1", numT nn]) b0 b1
      refine ⟨lx, _, _, _, rfl, rfl, SqL.of (kB _ _ nx gA), ez, z HB _ (k9.trans ((keepX_of sA).trans kB)) WB ⟨zz, rfl, ?_⟩⟩
      rcases List.mem_cons.mp hzz with h | h
      · rw [h]; decide +kernel
      · rw [List.mem_singleton.mp h]; exact lnb_numT (.inr hn)
    · intro H' ys k W' hlen hP hD'
      obtain ⟨rs, rfl, hrs, hl3⟩ := strs_of hP
      have k8' := k8.trans k
      refine ⟨lw, D, _, _, rfl, rfl, k8' _ _ n7 g7, hD', by rw [List.length_map, List.length_map]; exact sizeL2 (by show 2 + rs.length ≤ _; omega), fun lz hlz => ?_⟩
      have sz := same_new (o := .lst ((w0 :: adT ad :: ([] : List Str)).map V.str ++ rs.map V.str)) hlz
      have nz : lz ≠ p := W'.fresh hlz
      have hLl := k8' _ _ npl h7
      refine ⟨lz, adT ad, rs, _, _, rfl, upd_same, nz, (fun e => by rw [e, hLl] at hlz; cases hlz), keepX_none (k7.trans k8') nz hlz, sz _ _ hLl, by omega, hrs, had, (k7.trans k8').trans (keepX_of sz), W'.same sz⟩
  rintro σ H8 ⟨lw, a, r, v2, v4, rfl, g8, n8, nl8, hlw8, h8, hr3, hr6, ha, k8, W8⟩
  refine ⟨fun σ' H' => ∃ (a : Str) (v2 v4 : Option V), σ' = [some (.ref p), some (.ref l), v2, some (.ref lw), v4] ∧ H' lw = some (.lst ((w0 :: a :: r).map V.str)) ∧ H' l = some (.lst (ls.map V.str)) ∧ LnB 706 a ∧ KeepX p H H' ∧ WellAt H' p, ?_, ?_⟩
  · refine ⟨_, rfl, p, 8, rfl, W8, by decide, by decide, fun n9 H9 b0 b1 k9 W9 => ⟨rfl, _, rfl, iteD2 (fun c => ?_) (fun c => ?_)⟩⟩
    rotate_left
    · exact ⟨a, _, _, rfl, k9 _ _ n8 g8, k9 _ _ npl h8, ha, k8.trans k9, W9⟩
    refine ⟨⟨_, rfl⟩, _, rfl, p, 2, rfl, W9, by decide, by decide, fun m HA m0 m1 kA WA => ?_⟩
    refine ⟨_, _, rfl, rfl, 100 + m, rfl, by omega, by omega, fun D hD => lc_drawn (walk_range (lo := 0) (n := (100 + m).toNat)) (fun y => ∃ w, y = V.str w ∧ LnB 6 w) WA hD (by omega) (by show 4 < 5; decide) (fun _ => trivial) (fun _ _ _ _ y => y.1) ?_ ?_⟩
    · rintro i x H' Z hi k W' ⟨_, rfl⟩ z
      have hv : IsVal (0 + (i : Int)) := ⟨by omega, by omega⟩
      exact ⟨_, rfl, 0 + (i : Int), rfl, log_small (by omega), z H' _ (KeepX.refl p H') W' ⟨numT (0 + (i : Int)), rfl, lnb_numT (.inr hv)⟩⟩
    · intro H' ys k W' hlen hP hD'
      obtain ⟨rs, rfl, hrs, hl3⟩ := strs_of hP
      have hrl : rs.length ≤ 101 := by omega
      have ht : tot rs ≤ 101 * 7 := Nat.le_trans (tot_all fun x hx => (hrs x hx).1) (Nat.mul_le_mul_right _ hrl)
      have k9' := k9.trans (kA.trans k)
      have gw := k9' _ _ n8 g8
      refine ⟨_, D, rs, rfl, rfl, .inl (SqL.of hD'), by rw [sum_tot len_dot]; omega, ?_⟩
      refine ⟨_, rfl, lw, _, _, 1, rfl, rfl, gw, ?_, ?_⟩
      · unfold ixN
        rw [if_pos (by decide), if_pos (by show (1 : Int) < ((((w0 :: a :: r).map V.str).length : Nat) : Int); rw [List.length_map, List.length_cons, List.length_cons]; omega)]
        rfl
      have na : LnB 706 (Txt.join (Str.ofString ".") rs) := by
        refine ⟨?_, ascii_join ascii_dot fun x hx => (hrs x hx).2⟩
        have hne : rs ≠ [] := fun e => by
          have := congrArg List.length e
          rw [show ([] : List Str).length = 0 from rfl] at this
          omega
        have := tot_join tl_dot hne
        omega
      exact ⟨_, _, _, rfl, upd_same, by rw [upd_ne (Ne.symm nl8)]; exact k9' _ _ npl h8, na, keepX_put (k8.trans k9') hlw8, W'.put n8⟩
  rintro σ H9 ⟨a, v2, v4, rfl, g9, h9, ha, k9, W9⟩
  have ht := tot_line hw4 ha.1 hr3 hr6
  have hlt : ls.length < 16777216 := by omega
  refine ⟨_, rfl, .inl ⟨rfl, _, SqL.of h9⟩, ⟨_, rfl⟩, _, rfl, _, lw, w0 :: a :: r, rfl, rfl, .inl (SqL.of g9), by rw [sum_tot len_sp]; omega, l, _, _, rfl, rfl, h9, by rw [List.length_map]; exact Nat.lt_of_lt_of_le hlt (by decide), ?_⟩
  have na : LnB 800 (Txt.join (Str.ofString " ") (w0 :: a :: r)) := by
    refine ⟨Nat.le_trans (join_tot tl_sp) (by omega), ascii_join ascii_sp fun x hx => ?_⟩
    rcases List.mem_cons.mp hx with h | hx
    · rw [h]; exact hw4.2
    rcases List.mem_cons.mp hx with h | hx
    · rw [h]; exact ha.2
    · exact (hr6 x hx).2
  refine ⟨ls ++ [Txt.join (Str.ofString " ") (w0 :: a :: r)], _, _, _, rfl, ?_, by rw [List.length_append]; show ls.length + 1 ≤ i + 1; omega, fun t ht => ?_, keepX_put k9 hl, W9.put npl⟩
  · rw [upd_same, List.map_append]; rfl
  · rcases List.mem_append.mp ht with h | h
    · exact hok t h
    · rw [List.mem_singleton.mp h]; exact na

end
end K82
namespace K82
open PySem L2 TL
section
variable {P : Program} {w : World} {K : PySem.W.Frag} {mg : Str → Option Value} {base : Heap} {A : Ads}
theorem ok_l_menu (T : Txt K mg A) : FnOk P w K mg base CX0 4 A.l_menu A.l_menu_d ["_law_well_here"] spLMenu := by
  have G_l_draw := ok_l_draw (P := P) (w := w) (base := base) T
  refine T.F_l_menu.ok sc_l_menu (fun vs H Q E h => ?_) (fun cdv A0 outer s H vs Q E hr h => ?_)
  · obtain ⟨p, rfl, W, q⟩ := h
    rfl
  obtain ⟨p, rfl, W, q⟩ := h
  refine ⟨_, (pss_cons (ps_set (i := 1) sc_l_menu.nd rfl (Or.inl rfl) (pe_lst (pa_cons pe_str (pa_cons pe_str (pa_cons pe_str (pa_cons pe_str (pa_cons pe_str (pa_cons pe_str (pa_cons pe_str (pa_cons pe_str (pa_cons pe_str (pa_cons pe_str (pa_cons pe_str (pa_cons pe_str (pa_cons pe_str (pa_cons pe_str (pa_cons pe_str pa_nil)))))))))))))))))
   (pss_cons (ps_set (i := 1) sc_l_menu.nd rfl (Or.inl rfl) (pe_op op_cat (pv 1) (pe_lst (pa_cons pe_str (pa_cons pe_str (pa_cons pe_str (pa_cons pe_str (pa_cons pe_str (pa_cons pe_str (pa_cons pe_str (pa_cons pe_str (pa_cons pe_str (pa_cons pe_str (pa_cons pe_str (pa_cons pe_str (pa_cons pe_str pa_nil))))))))))))))))
   (pss_cons (ps_set (i := 1) sc_l_menu.nd rfl (Or.inl rfl) (pe_op op_cat (pv 1) (pe_lst (pa_cons pe_str (pa_cons pe_str pa_nil)))))
   (pss_one (ps_ret (pe_ix ix_list (pv 1) (pe_call G_l_draw (hr.mono (by decide)) rfl T.m_l_draw T.F_l_draw.kp T.b_l_draw .nil pass0 (pa_cons (pv 0) (pa_cons (pe_callB call_lenK (by rfl) T.z_len (by decide +kernel) (pa_cons (pv 1) pa_nil)) pa_nil))) (fun _ _ => rfl))))))), ?_⟩
  refine ⟨by show 15 ≤ sizeLine; decide, fun l1 hl1 => ?_⟩
  have s1 := same_new (o := .lst (NB1.map V.str)) hl1
  have g1 := upd_same (H := H) (a := l1) (o := .lst (NB1.map V.str))
  refine ⟨_, rfl, by show 13 ≤ sizeLine; decide, fun l2 hl2 => ?_⟩
  have s2 := same_new (o := .lst (NB2.map V.str)) hl2
  refine ⟨l1, l2, NB1.map V.str, NB2.map V.str, rfl, rfl, s2 _ _ g1, upd_same, by show 28 ≤ sizeLine; decide, fun l3 hl3 => ?_⟩
  have s3 := same_new (o := .lst (NB1.map V.str ++ NB2.map V.str)) hl3
  have g3 := upd_same (H := upd (upd H l1 (.lst (NB1.map V.str))) l2 (.lst (NB2.map V.str))) (a := l3) (o := .lst (NB1.map V.str ++ NB2.map V.str))
  refine ⟨_, rfl, by show 2 ≤ sizeLine; decide, fun l4 hl4 => ?_⟩
  have s4 := same_new (o := .lst (NB3.map V.str)) hl4
  refine ⟨l3, l4, NB1.map V.str ++ NB2.map V.str, NB3.map V.str, rfl, rfl, s4 _ _ g3, upd_same, by show 30 ≤ sizeLine; decide, fun l5 hl5 => ?_⟩
  have s5 := same_new (o := .lst ((NB1.map V.str ++ NB2.map V.str) ++ NB3.map V.str)) hl5
  have sA := s1.trans (s2.trans (s3.trans (s4.trans s5)))
  have e : (NB1.map V.str ++ NB2.map V.str) ++ NB3.map V.str = ((NB1 ++ NB2) ++ NB3).map V.str := by rw [List.map_append, List.map_append]
  have npl : l5 ≠ p := (W.same (s1.trans (s2.trans (s3.trans s4)))).fresh hl5
  refine ⟨_, rfl, _, rfl, _, rfl, l5, _, rfl, .inl (SqL.of upd_same), p, _, rfl, W.same sA, by show (0 : Int) < ((30 : Nat) : Int); decide, by show ((30 : Nat) : Int) ≤ 1000000; decide, fun m H2 hm0 hm1 k2 W2 => ?_⟩
  have hl := k2 _ _ npl upd_same
  rw [e] at hl
  obtain ⟨s, hs, es⟩ := at_strs (ss := (NB1 ++ NB2) ++ NB3) hm0 hm1
  refine ⟨l5, _, _, _, rfl, rfl, SqL.of hl, es, ?_⟩
  exact q s H2 (nb_ok s hs) ((keepX_of sA).trans k2) W2

end
end K82
namespace K82
open PySem L2 TL
section
variable {P : Program} {w : World} {K : PySem.W.Frag} {mg : Str → Option Value} {base : Heap} {A : Ads}
theorem ok_l_spoiled_line (T : Txt K mg A) : FnOk P w K mg base CX0 5 A.l_spoiled_line A.l_spoiled_line_d ["_law_well_here", "_law_line"] spSpLine := by
  have G_l_draw := ok_l_draw (P := P) (w := w) (base := base) T
  have G_l_menu := ok_l_menu (P := P) (w := w) (base := base) T
  refine T.F_l_spoiled_line.ok sc_l_spoiled_line (fun vs H Q E h => ?_) (fun cdv A0 outer s H vs Q E hr h => ?_)
  · obtain ⟨p, t, b, rfl, W, ht, hb, q⟩ := h
    rfl
  obtain ⟨p, t, b, rfl, W, ht, hb, q⟩ := h
  refine ⟨_, (pss_cons (ps_set (i := 2) sc_l_spoiled_line.nd rfl (Or.inl rfl) (pe_split (pv 1) pe_str))
   (pss_cons (ps_set (i := 3) sc_l_spoiled_line.nd rfl (Or.inl rfl) (pe_call G_l_draw (hr.mono (by decide)) rfl T.m_l_draw T.F_l_draw.kp T.b_l_draw .nil pass0 (pa_cons (pv 0) (pa_cons (pe_callB call_lenK (by rfl) T.z_len (by decide +kernel) (pa_cons (pv 2) pa_nil)) pa_nil))))
   (pss_cons (ps_set (i := 4) sc_l_spoiled_line.nd rfl (Or.inl rfl) (pe_call G_l_draw (hr.mono (by decide)) rfl T.m_l_draw T.F_l_draw.kp T.b_l_draw .nil pass0 (pa_cons (pv 0) (pa_cons pe_int pa_nil))))
   (pss_cons (ps_if (pt_cmpR op_eq (pv 4) pe_int (nomark _))
    (pss_one (ps_ret (pe_join pe_str (pe_op op_cat (pe_op op_cat (pe_slice sl_list (pv 2) po_none (po_some (pv 3))) (pe_lst (pa_cons (pe_call G_l_menu (hr.mono (by decide)) rfl T.m_l_menu T.F_l_menu.kp T.b_l_menu .nil pass0 (pa_cons (pv 0) pa_nil)) pa_nil))) (pe_slice sl_list (pv 2) (po_some (pe_op op_add (pv 3) pe_int)) po_none)))))
    pss_nil)
   (pss_cons (ps_if (pt_cmpR op_eq (pv 4) pe_int (nomark _))
    (pss_one (ps_ret (pe_join pe_str (pe_op op_cat (pe_slice sl_list (pv 2) po_none (po_some (pv 3))) (pe_slice sl_list (pv 2) (po_some (pe_op op_add (pv 3) pe_int)) po_none)))))
    pss_nil)
   (pss_cons (ps_if (pt_cmpR op_eq (pv 4) pe_int (nomark _))
    (pss_one (ps_ret (pe_join pe_str (pe_op op_cat (pe_slice sl_list (pv 2) po_none (po_some (pe_op op_add (pv 3) pe_int))) (pe_slice sl_list (pv 2) (po_some (pv 3)) po_none)))))
    pss_nil)
   (pss_one (ps_ret (pe_join pe_str (pe_op op_cat (pe_op op_cat (pe_slice sl_list (pv 2) po_none (po_some (pv 3))) (pe_lst (pa_cons (pe_call G_l_menu (hr.mono (by decide)) rfl T.m_l_menu T.F_l_menu.kp T.b_l_menu .nil pass0 (pa_cons (pv 0) pa_nil)) pa_nil))) (pe_slice sl_list (pv 2) (po_some (pv 3)) po_none))))))))))), ?_⟩
  have htl := ht.1
  refine ⟨_, rfl, ⟨_, rfl⟩, t, _, rfl, rfl, (by decide +kernel), sizeL (by omega), fun lw hlw => ?_⟩
  rw [show Txt.split t " " = Txt.split t (Str.ofString " ") from rfl]
  have htot := tot_split (s := t) tl_sp
  have hup : ∀ w ∈ Txt.split t (Str.ofString " "), LnB 100000 w := fun w hw => ⟨by have := part_len tl_sp hw; omega, ascii_split ht.2 w hw⟩
  have hw1 := word_pos t
  have hnw := parts_n (s := t) tl_sp
  generalize hws : Txt.split t (Str.ofString " ") = ws at htot hup hw1 hnw ⊢
  generalize hG0 : upd H lw _ = H0
  have s0 : Same H H0 := by rw [← hG0]; exact same_new hlw
  have gw : H0 lw = some (.lst (ws.map V.str)) := by rw [← hG0]; exact upd_same
  have nap : lw ≠ p := W.fresh hlw
  have W0 := W.same s0
  refine ⟨_, rfl, _, rfl, lw, _, rfl, .inl (SqL.of gw), p, _, rfl, W0, by rw [List.length_map]; omega, by rw [List.length_map]; omega, fun at_ H1 h0 h1 k1 W1 => ?_⟩
  rw [List.length_map] at h1
  obtain ⟨i, rfl⟩ : ∃ i : Nat, at_ = (i : Int) := ⟨at_.toNat, by omega⟩
  have hi : i < ws.length := by omega
  have gw1 := k1 _ _ nap gw
  refine ⟨_, rfl, p, 4, rfl, W1, by decide, by decide, fun way H2 w0 w1 k2 W2 => ?_⟩
  have gw2 := k2 _ _ nap gw1
  have k02 := (keepX_of s0).trans (k1.trans k2)

  refine ⟨_, rfl, rfl, _, rfl, iteD2 (fun c => ?_) (fun c => ?_)⟩
  · skip
    refine ⟨⟨_, rfl⟩, ?_⟩
    have hc_a1 : cutV (ws.map V.str) none (some (i : Int)) = (ws.take i).map V.str := cut_take
    refine ⟨_, rfl, _, rfl, _, rfl, lw, _, rfl, SqL.of gw2, fun a1l hla1 => ?_⟩
    rw [hc_a1]
    generalize hGa1 : upd H2 a1l _ = Ha1
    have sa1 : Same H2 Ha1 := by rw [← hGa1]; exact same_new hla1
    have ga1 : Ha1 a1l = some (.lst ((ws.take i).map V.str)) := by rw [← hGa1]; exact upd_same
    have aa1 := sa1 _ _ gw2
    have na1 : a1l ≠ p := (W2).fresh hla1
    have Wa1 := (W2).same sa1
    have ka1 := (k02).trans (keepX_of sa1)
    refine ⟨_, rfl, p, rfl, Wa1, fun ma2 Ha2 hma2 kka2 Wa2 => ?_⟩
    have fa1_a2 := kka2 _ _ na1 ga1
    have aa2 := kka2 _ _ nap aa1
    have ka2 := (ka1).trans kka2
    refine ⟨by show 1 ≤ sizeLine; decide, fun a3l hla3 => ?_⟩
    generalize hGa3 : upd Ha2 a3l _ = Ha3
    have sa3 : Same Ha2 Ha3 := by rw [← hGa3]; exact same_new hla3
    have ga3 : Ha3 a3l = some (.lst (([ma2] : List Str).map V.str)) := by rw [← hGa3]; exact upd_same
    have fa1_a3 := sa3 _ _ fa1_a2
    have aa3 := sa3 _ _ aa2
    have na3 : a3l ≠ p := (Wa2).fresh hla3
    have Wa3 := (Wa2).same sa3
    have ka3 := (ka2).trans (keepX_of sa3)
    have hml := hma2.1
    refine ⟨a1l, a3l, _, _, rfl, rfl, fa1_a3, ga3, sizeL2 (by simp only [List.length_map, List.length_append, List.length_take, List.length_drop, List.length_cons, List.length_nil, List.length_reverse]; omega), fun a4l hla4 => ?_⟩
    rw [← List.map_append]
    generalize hGa4 : upd Ha3 a4l _ = Ha4
    have sa4 : Same Ha3 Ha4 := by rw [← hGa4]; exact same_new hla4
    have ga4 : Ha4 a4l = some (.lst (((ws.take i) ++ ([ma2] : List Str)).map V.str)) := by rw [← hGa4]; exact upd_same
    have fa1_a4 := sa4 _ _ fa1_a3
    have fa3_a4 := sa4 _ _ ga3
    have aa4 := sa4 _ _ aa3
    have na4 : a4l ≠ p := (Wa3).fresh hla4
    have Wa4 := (Wa3).same sa4
    have ka4 := (ka3).trans (keepX_of sa4)
    have hc_a5 : cutV (ws.map V.str) (some ((i : Int) + 1)) none = (ws.drop (i + 1)).map V.str := by rw [show (i : Int) + 1 = ((i + 1 : Nat) : Int) from by omega, cut_drop]
    refine ⟨_, rfl, _, rfl, _, _, rfl, rfl, _, rfl, lw, _, rfl, SqL.of aa4, fun a5l hla5 => ?_⟩
    rw [hc_a5]
    generalize hGa5 : upd Ha4 a5l _ = Ha5
    have sa5 : Same Ha4 Ha5 := by rw [← hGa5]; exact same_new hla5
    have ga5 : Ha5 a5l = some (.lst ((ws.drop (i + 1)).map V.str)) := by rw [← hGa5]; exact upd_same
    have fa1_a5 := sa5 _ _ fa1_a4
    have fa3_a5 := sa5 _ _ fa3_a4
    have fa4_a5 := sa5 _ _ ga4
    have aa5 := sa5 _ _ aa4
    have na5 : a5l ≠ p := (Wa4).fresh hla5
    have Wa5 := (Wa4).same sa5
    have ka5 := (ka4).trans (keepX_of sa5)
    refine ⟨a4l, a5l, _, _, rfl, rfl, fa4_a5, ga5, sizeL2 (by simp only [List.length_map, List.length_append, List.length_take, List.length_drop, List.length_cons, List.length_nil, List.length_reverse]; omega), fun a6l hla6 => ?_⟩
    rw [← List.map_append]
    generalize hGa6 : upd Ha5 a6l _ = Ha6
    have sa6 : Same Ha5 Ha6 := by rw [← hGa6]; exact same_new hla6
    have ga6 : Ha6 a6l = some (.lst ((((ws.take i) ++ ([ma2] : List Str)) ++ (ws.drop (i + 1))).map V.str)) := by rw [← hGa6]; exact upd_same
    have fa1_a6 := sa6 _ _ fa1_a5
    have fa3_a6 := sa6 _ _ fa3_a5
    have fa4_a6 := sa6 _ _ fa4_a5
    have fa5_a6 := sa6 _ _ ga5
    have aa6 := sa6 _ _ aa5
    have na6 : a6l ≠ p := (Wa5).fresh hla6
    have Wa6 := (Wa5).same sa6
    have ka6 := (ka5).trans (keepX_of sa6)
    have hmem : ∀ w ∈ (((ws.take i) ++ ([ma2] : List Str)) ++ (ws.drop (i + 1))), LnB 100000 w := fun w hw => (List.mem_append.mp hw).elim (fun hw => (List.mem_append.mp hw).elim (fun hw => hup w (List.mem_of_mem_take hw)) (fun hw => (by rw [List.mem_singleton.mp hw]; exact hma2.mono (by omega)))) (fun hw => hup w (List.mem_of_mem_drop hw))
    have ht2 : tot (((ws.take i) ++ ([ma2] : List Str)) ++ (ws.drop (i + 1))) ≤ 2 * b + 12 := by
      have c1 := tot_cut ws i
      have c2 := tot_cut ws (i + 1)
      simp only [tot_append, tot_one]
      omega
    refine ⟨_, a6l, (((ws.take i) ++ ([ma2] : List Str)) ++ (ws.drop (i + 1))), rfl, rfl, .inl (SqL.of ga6), by rw [sum_tot len_sp]; omega, ?_⟩
    exact q _ _ ⟨Nat.le_trans (join_tot tl_sp) ht2, ascii_join ascii_sp fun w hw => (hmem w hw).2⟩ ka6 Wa6

  refine ⟨_, rfl, rfl, _, rfl, iteD2 (fun c => ?_) (fun c => ?_)⟩
  · skip
    refine ⟨⟨_, rfl⟩, ?_⟩
    have hc_b1 : cutV (ws.map V.str) none (some (i : Int)) = (ws.take i).map V.str := cut_take
    refine ⟨_, rfl, _, rfl, _, rfl, lw, _, rfl, SqL.of gw2, fun b1l hlb1 => ?_⟩
    rw [hc_b1]
    generalize hGb1 : upd H2 b1l _ = Hb1
    have sb1 : Same H2 Hb1 := by rw [← hGb1]; exact same_new hlb1
    have gb1 : Hb1 b1l = some (.lst ((ws.take i).map V.str)) := by rw [← hGb1]; exact upd_same
    have ab1 := sb1 _ _ gw2
    have nb1 : b1l ≠ p := (W2).fresh hlb1
    have Wb1 := (W2).same sb1
    have kb1 := (k02).trans (keepX_of sb1)
    have hc_b2 : cutV (ws.map V.str) (some ((i : Int) + 1)) none = (ws.drop (i + 1)).map V.str := by rw [show (i : Int) + 1 = ((i + 1 : Nat) : Int) from by omega, cut_drop]
    refine ⟨_, rfl, _, rfl, _, _, rfl, rfl, _, rfl, lw, _, rfl, SqL.of ab1, fun b2l hlb2 => ?_⟩
    rw [hc_b2]
    generalize hGb2 : upd Hb1 b2l _ = Hb2
    have sb2 : Same Hb1 Hb2 := by rw [← hGb2]; exact same_new hlb2
    have gb2 : Hb2 b2l = some (.lst ((ws.drop (i + 1)).map V.str)) := by rw [← hGb2]; exact upd_same
    have fb1_b2 := sb2 _ _ gb1
    have ab2 := sb2 _ _ ab1
    have nb2 : b2l ≠ p := (Wb1).fresh hlb2
    have Wb2 := (Wb1).same sb2
    have kb2 := (kb1).trans (keepX_of sb2)
    refine ⟨b1l, b2l, _, _, rfl, rfl, fb1_b2, gb2, sizeL2 (by simp only [List.length_map, List.length_append, List.length_take, List.length_drop, List.length_cons, List.length_nil, List.length_reverse]; omega), fun b3l hlb3 => ?_⟩
    rw [← List.map_append]
    generalize hGb3 : upd Hb2 b3l _ = Hb3
    have sb3 : Same Hb2 Hb3 := by rw [← hGb3]; exact same_new hlb3
    have gb3 : Hb3 b3l = some (.lst (((ws.take i) ++ (ws.drop (i + 1))).map V.str)) := by rw [← hGb3]; exact upd_same
    have fb1_b3 := sb3 _ _ fb1_b2
    have fb2_b3 := sb3 _ _ gb2
    have ab3 := sb3 _ _ ab2
    have nb3 : b3l ≠ p := (Wb2).fresh hlb3
    have Wb3 := (Wb2).same sb3
    have kb3 := (kb2).trans (keepX_of sb3)
    have hmem : ∀ w ∈ ((ws.take i) ++ (ws.drop (i + 1))), LnB 100000 w := fun w hw => (List.mem_append.mp hw).elim (fun hw => hup w (List.mem_of_mem_take hw)) (fun hw => hup w (List.mem_of_mem_drop hw))
    have ht2 : tot ((ws.take i) ++ (ws.drop (i + 1))) ≤ 2 * b + 12 := by
      have c1 := tot_cut ws i
      have c2 := tot_cut ws (i + 1)
      simp only [tot_append, tot_one]
      omega
    refine ⟨_, b3l, ((ws.take i) ++ (ws.drop (i + 1))), rfl, rfl, .inl (SqL.of gb3), by rw [sum_tot len_sp]; omega, ?_⟩
    exact q _ _ ⟨Nat.le_trans (join_tot tl_sp) ht2, ascii_join ascii_sp fun w hw => (hmem w hw).2⟩ kb3 Wb3

  refine ⟨_, rfl, rfl, _, rfl, iteD2 (fun c => ?_) (fun c => ?_)⟩
  · skip
    refine ⟨⟨_, rfl⟩, ?_⟩
    have hc_c1 : cutV (ws.map V.str) none (some ((i : Int) + 1)) = (ws.take (i + 1)).map V.str := by rw [show (i : Int) + 1 = ((i + 1 : Nat) : Int) from by omega, cut_take]
    refine ⟨_, rfl, _, rfl, _, _, rfl, rfl, _, rfl, lw, _, rfl, SqL.of gw2, fun c1l hlc1 => ?_⟩
    rw [hc_c1]
    generalize hGc1 : upd H2 c1l _ = Hc1
    have sc1 : Same H2 Hc1 := by rw [← hGc1]; exact same_new hlc1
    have gc1 : Hc1 c1l = some (.lst ((ws.take (i + 1)).map V.str)) := by rw [← hGc1]; exact upd_same
    have ac1 := sc1 _ _ gw2
    have nc1 : c1l ≠ p := (W2).fresh hlc1
    have Wc1 := (W2).same sc1
    have kc1 := (k02).trans (keepX_of sc1)
    have hc_c2 : cutV (ws.map V.str) (some (i : Int)) none = (ws.drop i).map V.str := cut_drop
    refine ⟨_, rfl, _, rfl, _, rfl, lw, _, rfl, SqL.of ac1, fun c2l hlc2 => ?_⟩
    rw [hc_c2]
    generalize hGc2 : upd Hc1 c2l _ = Hc2
    have sc2 : Same Hc1 Hc2 := by rw [← hGc2]; exact same_new hlc2
    have gc2 : Hc2 c2l = some (.lst ((ws.drop i).map V.str)) := by rw [← hGc2]; exact upd_same
    have fc1_c2 := sc2 _ _ gc1
    have ac2 := sc2 _ _ ac1
    have nc2 : c2l ≠ p := (Wc1).fresh hlc2
    have Wc2 := (Wc1).same sc2
    have kc2 := (kc1).trans (keepX_of sc2)
    refine ⟨c1l, c2l, _, _, rfl, rfl, fc1_c2, gc2, sizeL2 (by simp only [List.length_map, List.length_append, List.length_take, List.length_drop, List.length_cons, List.length_nil, List.length_reverse]; omega), fun c3l hlc3 => ?_⟩
    rw [← List.map_append]
    generalize hGc3 : upd Hc2 c3l _ = Hc3
    have sc3 : Same Hc2 Hc3 := by rw [← hGc3]; exact same_new hlc3
    have gc3 : Hc3 c3l = some (.lst (((ws.take (i + 1)) ++ (ws.drop i)).map V.str)) := by rw [← hGc3]; exact upd_same
    have fc1_c3 := sc3 _ _ fc1_c2
    have fc2_c3 := sc3 _ _ gc2
    have ac3 := sc3 _ _ ac2
    have nc3 : c3l ≠ p := (Wc2).fresh hlc3
    have Wc3 := (Wc2).same sc3
    have kc3 := (kc2).trans (keepX_of sc3)
    have hmem : ∀ w ∈ ((ws.take (i + 1)) ++ (ws.drop i)), LnB 100000 w := fun w hw => (List.mem_append.mp hw).elim (fun hw => hup w (List.mem_of_mem_take hw)) (fun hw => hup w (List.mem_of_mem_drop hw))
    have ht2 : tot ((ws.take (i + 1)) ++ (ws.drop i)) ≤ 2 * b + 12 := by
      have c1 := tot_cut ws i
      have c2 := tot_cut ws (i + 1)
      simp only [tot_append, tot_one]
      omega
    refine ⟨_, c3l, ((ws.take (i + 1)) ++ (ws.drop i)), rfl, rfl, .inl (SqL.of gc3), by rw [sum_tot len_sp]; omega, ?_⟩
    exact q _ _ ⟨Nat.le_trans (join_tot tl_sp) ht2, ascii_join ascii_sp fun w hw => (hmem w hw).2⟩ kc3 Wc3
  refine ⟨⟨_, rfl⟩, ?_⟩
  have hc_d1 : cutV (ws.map V.str) none (some (i : Int)) = (ws.take i).map V.str := cut_take
  refine ⟨_, rfl, _, rfl, _, rfl, lw, _, rfl, SqL.of gw2, fun d1l hld1 => ?_⟩
  rw [hc_d1]
  generalize hGd1 : upd H2 d1l _ = Hd1
  have sd1 : Same H2 Hd1 := by rw [← hGd1]; exact same_new hld1
  have gd1 : Hd1 d1l = some (.lst ((ws.take i).map V.str)) := by rw [← hGd1]; exact upd_same
  have ad1 := sd1 _ _ gw2
  have nd1 : d1l ≠ p := (W2).fresh hld1
  have Wd1 := (W2).same sd1
  have kd1 := (k02).trans (keepX_of sd1)
  refine ⟨_, rfl, p, rfl, Wd1, fun md2 Hd2 hmd2 kkd2 Wd2 => ?_⟩
  have fd1_d2 := kkd2 _ _ nd1 gd1
  have ad2 := kkd2 _ _ nap ad1
  have kd2 := (kd1).trans kkd2
  refine ⟨by show 1 ≤ sizeLine; decide, fun d3l hld3 => ?_⟩
  generalize hGd3 : upd Hd2 d3l _ = Hd3
  have sd3 : Same Hd2 Hd3 := by rw [← hGd3]; exact same_new hld3
  have gd3 : Hd3 d3l = some (.lst (([md2] : List Str).map V.str)) := by rw [← hGd3]; exact upd_same
  have fd1_d3 := sd3 _ _ fd1_d2
  have ad3 := sd3 _ _ ad2
  have nd3 : d3l ≠ p := (Wd2).fresh hld3
  have Wd3 := (Wd2).same sd3
  have kd3 := (kd2).trans (keepX_of sd3)
  have hml := hmd2.1
  refine ⟨d1l, d3l, _, _, rfl, rfl, fd1_d3, gd3, sizeL2 (by simp only [List.length_map, List.length_append, List.length_take, List.length_drop, List.length_cons, List.length_nil, List.length_reverse]; omega), fun d4l hld4 => ?_⟩
  rw [← List.map_append]
  generalize hGd4 : upd Hd3 d4l _ = Hd4
  have sd4 : Same Hd3 Hd4 := by rw [← hGd4]; exact same_new hld4
  have gd4 : Hd4 d4l = some (.lst (((ws.take i) ++ ([md2] : List Str)).map V.str)) := by rw [← hGd4]; exact upd_same
  have fd1_d4 := sd4 _ _ fd1_d3
  have fd3_d4 := sd4 _ _ gd3
  have ad4 := sd4 _ _ ad3
  have nd4 : d4l ≠ p := (Wd3).fresh hld4
  have Wd4 := (Wd3).same sd4
  have kd4 := (kd3).trans (keepX_of sd4)
  have hc_d5 : cutV (ws.map V.str) (some (i : Int)) none = (ws.drop i).map V.str := cut_drop
  refine ⟨_, rfl, _, rfl, _, rfl, lw, _, rfl, SqL.of ad4, fun d5l hld5 => ?_⟩
  rw [hc_d5]
  generalize hGd5 : upd Hd4 d5l _ = Hd5
  have sd5 : Same Hd4 Hd5 := by rw [← hGd5]; exact same_new hld5
  have gd5 : Hd5 d5l = some (.lst ((ws.drop i).map V.str)) := by rw [← hGd5]; exact upd_same
  have fd1_d5 := sd5 _ _ fd1_d4
  have fd3_d5 := sd5 _ _ fd3_d4
  have fd4_d5 := sd5 _ _ gd4
  have ad5 := sd5 _ _ ad4
  have nd5 : d5l ≠ p := (Wd4).fresh hld5
  have Wd5 := (Wd4).same sd5
  have kd5 := (kd4).trans (keepX_of sd5)
  refine ⟨d4l, d5l, _, _, rfl, rfl, fd4_d5, gd5, sizeL2 (by simp only [List.length_map, List.length_append, List.length_take, List.length_drop, List.length_cons, List.length_nil, List.length_reverse]; omega), fun d6l hld6 => ?_⟩
  rw [← List.map_append]
  generalize hGd6 : upd Hd5 d6l _ = Hd6
  have sd6 : Same Hd5 Hd6 := by rw [← hGd6]; exact same_new hld6
  have gd6 : Hd6 d6l = some (.lst ((((ws.take i) ++ ([md2] : List Str)) ++ (ws.drop i)).map V.str)) := by rw [← hGd6]; exact upd_same
  have fd1_d6 := sd6 _ _ fd1_d5
  have fd3_d6 := sd6 _ _ fd3_d5
  have fd4_d6 := sd6 _ _ fd4_d5
  have fd5_d6 := sd6 _ _ gd5
  have ad6 := sd6 _ _ ad5
  have nd6 : d6l ≠ p := (Wd5).fresh hld6
  have Wd6 := (Wd5).same sd6
  have kd6 := (kd5).trans (keepX_of sd6)
  have hmem : ∀ w ∈ (((ws.take i) ++ ([md2] : List Str)) ++ (ws.drop i)), LnB 100000 w := fun w hw => (List.mem_append.mp hw).elim (fun hw => (List.mem_append.mp hw).elim (fun hw => hup w (List.mem_of_mem_take hw)) (fun hw => (by rw [List.mem_singleton.mp hw]; exact hmd2.mono (by omega)))) (fun hw => hup w (List.mem_of_mem_drop hw))
  have ht2 : tot (((ws.take i) ++ ([md2] : List Str)) ++ (ws.drop i)) ≤ 2 * b + 12 := by
    have c1 := tot_cut ws i
    have c2 := tot_cut ws (i + 1)
    simp only [tot_append, tot_one]
    omega
  refine ⟨_, d6l, (((ws.take i) ++ ([md2] : List Str)) ++ (ws.drop i)), rfl, rfl, .inl (SqL.of gd6), by rw [sum_tot len_sp]; omega, ?_⟩
  exact q _ _ ⟨Nat.le_trans (join_tot tl_sp) ht2, ascii_join ascii_sp fun w hw => (hmem w hw).2⟩ kd6 Wd6

end
end K82
namespace K82
open PySem L2 TL
section
variable {P : Program} {w : World} {K : PySem.W.Frag} {mg : Str → Option Value} {base : Heap} {A : Ads}
theorem ok_l_spoiled (T : Txt K mg A) : FnOk P w K mg base CX0 6 A.l_spoiled A.l_spoiled_d ["_law_well_here", "_law_lines_here"] spSpoil := by
  have G_l_draw := ok_l_draw (P := P) (w := w) (base := base) T
  have G_l_menu := ok_l_menu (P := P) (w := w) (base := base) T
  have G_l_spoiled_line := ok_l_spoiled_line (P := P) (w := w) (base := base) T
  refine T.F_l_spoiled.ok sc_l_spoiled (fun vs H Q E h => ?_) (fun cdv A0 outer s H vs Q E hr h => ?_)
  · obtain ⟨p, a, ws, b, rfl, W, ha, nap, hl, hok, hb, q⟩ := h
    rfl
  obtain ⟨p, a, ws, b, rfl, W, ha, nap, hl, hok, hb, q⟩ := h
  refine ⟨_, (pss_cons (ps_set (i := 2) sc_l_spoiled.nd rfl (Or.inl rfl) (pe_call G_l_draw (hr.mono (by decide)) rfl T.m_l_draw T.F_l_draw.kp T.b_l_draw .nil pass0 (pa_cons (pv 0) (pa_cons (pe_op op_add (pe_callB call_lenK (by rfl) T.z_len (by decide +kernel) (pa_cons (pv 1) pa_nil)) pe_int) pa_nil))))
   (pss_cons (ps_set (i := 3) sc_l_spoiled.nd rfl (Or.inl rfl) (pe_call G_l_draw (hr.mono (by decide)) rfl T.m_l_draw T.F_l_draw.kp T.b_l_draw .nil pass0 (pa_cons (pv 0) (pa_cons pe_int pa_nil))))
   (pss_cons (ps_if (PW.pt (pw_or (pt_cmpR op_eq (pv 3) pe_int (nomark _)) (pw_or1 (pt_cmpR op_eq (pv 2) (pe_callB call_lenK (by rfl) T.z_len (by decide +kernel) (pa_cons (pv 1) pa_nil)) (nomark _)))))
    (pss_one (ps_ret (pe_op op_cat (pe_op op_cat (pe_slice sl_list (pv 1) po_none (po_some (pv 2))) (pe_lst (pa_cons (pe_call G_l_menu (hr.mono (by decide)) rfl T.m_l_menu T.F_l_menu.kp T.b_l_menu .nil pass0 (pa_cons (pv 0) pa_nil)) pa_nil))) (pe_slice sl_list (pv 1) (po_some (pv 2)) po_none))))
    pss_nil)
   (pss_cons (ps_if (pt_cmpR op_eq (pv 3) pe_int (nomark _))
    (pss_one (ps_ret (pe_op op_cat (pe_slice sl_list (pv 1) po_none (po_some (pv 2))) (pe_slice sl_list (pv 1) (po_some (pe_op op_add (pv 2) pe_int)) po_none))))
    pss_nil)
   (pss_cons (ps_if (pt_cmpR op_eq (pv 3) pe_int (nomark _))
    (pss_one (ps_ret (pe_op op_cat (pe_slice sl_list (pv 1) po_none (po_some (pe_op op_add (pv 2) pe_int))) (pe_slice sl_list (pv 1) (po_some (pv 2)) po_none))))
    pss_nil)
   (pss_one (ps_ret (pe_op op_cat (pe_op op_cat (pe_slice sl_list (pv 1) po_none (po_some (pv 2))) (pe_lst (pa_cons (pe_call G_l_spoiled_line (hr.mono (by decide)) rfl T.m_l_spoiled_line T.F_l_spoiled_line.kp T.b_l_spoiled_line .nil pass0 (pa_cons (pv 0) (pa_cons (pe_ix ix_list (pv 1) (pv 2) (fun _ _ => rfl)) pa_nil))) pa_nil))) (pe_slice sl_list (pv 1) (po_some (pe_op op_add (pv 2) pe_int)) po_none))))))))), ?_⟩
  have hup : ∀ w ∈ ws, LnB (2 * b + 12) w := fun w hw => (hok w hw).mono (by omega)
  refine ⟨_, rfl, _, rfl, a, _, rfl, .inl (SqL.of ha), _, _, rfl, rfl, p, _, rfl, W, by omega, by rw [List.length_map]; omega, fun at_ H1 h0 h1 k1 W1 => ?_⟩
  rw [List.length_map] at h1
  obtain ⟨i, rfl⟩ : ∃ i : Nat, at_ = (i : Int) := ⟨at_.toNat, by omega⟩
  have hi0 : i ≤ ws.length := by omega
  have ha1 := k1 _ _ nap ha
  refine ⟨_, rfl, p, 6, rfl, W1, by decide, by decide, fun way H2 w0 w1 k2 W2 => ?_⟩
  have ha2 := k2 _ _ nap ha1
  have k12 := k1.trans k2

  refine ⟨_, rfl, rfl, _, rfl, iteD2 (fun c => ?_) (fun c => ?_)⟩
  · skip
    have hc_a1 : cutV (ws.map V.str) none (some (i : Int)) = (ws.take i).map V.str := cut_take
    refine ⟨_, rfl, _, rfl, _, rfl, a, _, rfl, SqL.of ha2, fun a1l hla1 => ?_⟩
    rw [hc_a1]
    generalize hGa1 : upd H2 a1l _ = Ha1
    have sa1 : Same H2 Ha1 := by rw [← hGa1]; exact same_new hla1
    have ga1 : Ha1 a1l = some (.lst ((ws.take i).map V.str)) := by rw [← hGa1]; exact upd_same
    have aa1 := sa1 _ _ ha2
    have na1 : a1l ≠ p := (W2).fresh hla1
    have Wa1 := (W2).same sa1
    have ka1 := (k12).trans (keepX_of sa1)
    refine ⟨_, rfl, p, rfl, Wa1, fun ma2 Ha2 hma2 kka2 Wa2 => ?_⟩
    have fa1_a2 := kka2 _ _ na1 ga1
    have aa2 := kka2 _ _ nap aa1
    have ka2 := (ka1).trans kka2
    refine ⟨by show 1 ≤ sizeLine; decide, fun a3l hla3 => ?_⟩
    generalize hGa3 : upd Ha2 a3l _ = Ha3
    have sa3 : Same Ha2 Ha3 := by rw [← hGa3]; exact same_new hla3
    have ga3 : Ha3 a3l = some (.lst (([ma2] : List Str).map V.str)) := by rw [← hGa3]; exact upd_same
    have fa1_a3 := sa3 _ _ fa1_a2
    have aa3 := sa3 _ _ aa2
    have na3 : a3l ≠ p := (Wa2).fresh hla3
    have Wa3 := (Wa2).same sa3
    have ka3 := (ka2).trans (keepX_of sa3)
    refine ⟨a1l, a3l, _, _, rfl, rfl, fa1_a3, ga3, sizeL2 (by simp only [List.length_map, List.length_append, List.length_take, List.length_drop, List.length_cons, List.length_nil, List.length_reverse]; omega), fun a4l hla4 => ?_⟩
    rw [← List.map_append]
    generalize hGa4 : upd Ha3 a4l _ = Ha4
    have sa4 : Same Ha3 Ha4 := by rw [← hGa4]; exact same_new hla4
    have ga4 : Ha4 a4l = some (.lst (((ws.take i) ++ ([ma2] : List Str)).map V.str)) := by rw [← hGa4]; exact upd_same
    have fa1_a4 := sa4 _ _ fa1_a3
    have fa3_a4 := sa4 _ _ ga3
    have aa4 := sa4 _ _ aa3
    have na4 : a4l ≠ p := (Wa3).fresh hla4
    have Wa4 := (Wa3).same sa4
    have ka4 := (ka3).trans (keepX_of sa4)
    have hc_a5 : cutV (ws.map V.str) (some (i : Int)) none = (ws.drop i).map V.str := cut_drop
    refine ⟨_, rfl, _, rfl, _, rfl, a, _, rfl, SqL.of aa4, fun a5l hla5 => ?_⟩
    rw [hc_a5]
    generalize hGa5 : upd Ha4 a5l _ = Ha5
    have sa5 : Same Ha4 Ha5 := by rw [← hGa5]; exact same_new hla5
    have ga5 : Ha5 a5l = some (.lst ((ws.drop i).map V.str)) := by rw [← hGa5]; exact upd_same
    have fa1_a5 := sa5 _ _ fa1_a4
    have fa3_a5 := sa5 _ _ fa3_a4
    have fa4_a5 := sa5 _ _ ga4
    have aa5 := sa5 _ _ aa4
    have na5 : a5l ≠ p := (Wa4).fresh hla5
    have Wa5 := (Wa4).same sa5
    have ka5 := (ka4).trans (keepX_of sa5)
    refine ⟨a4l, a5l, _, _, rfl, rfl, fa4_a5, ga5, sizeL2 (by simp only [List.length_map, List.length_append, List.length_take, List.length_drop, List.length_cons, List.length_nil, List.length_reverse]; omega), fun a6l hla6 => ?_⟩
    rw [← List.map_append]
    generalize hGa6 : upd Ha5 a6l _ = Ha6
    have sa6 : Same Ha5 Ha6 := by rw [← hGa6]; exact same_new hla6
    have ga6 : Ha6 a6l = some (.lst ((((ws.take i) ++ ([ma2] : List Str)) ++ (ws.drop i)).map V.str)) := by rw [← hGa6]; exact upd_same
    have fa1_a6 := sa6 _ _ fa1_a5
    have fa3_a6 := sa6 _ _ fa3_a5
    have fa4_a6 := sa6 _ _ fa4_a5
    have fa5_a6 := sa6 _ _ ga5
    have aa6 := sa6 _ _ aa5
    have na6 : a6l ≠ p := (Wa5).fresh hla6
    have Wa6 := (Wa5).same sa6
    have ka6 := (ka5).trans (keepX_of sa6)
    have hmem : ∀ w ∈ (((ws.take i) ++ ([ma2] : List Str)) ++ (ws.drop i)), LnB (2 * b + 12) w := fun w hw => (List.mem_append.mp hw).elim (fun hw => (List.mem_append.mp hw).elim (fun hw => hup w (List.mem_of_mem_take hw)) (fun hw => (by rw [List.mem_singleton.mp hw]; exact hma2.mono (by omega)))) (fun hw => hup w (List.mem_of_mem_drop hw))
    have hlen : (((ws.take i) ++ ([ma2] : List Str)) ++ (ws.drop i)).length ≤ ws.length + 1 := by simp only [List.length_append, List.length_take, List.length_drop, List.length_cons, List.length_nil]; omega
    exact q a6l _ _ ga6 na6 hlen hmem ka6 Wa6

  refine ⟨_, rfl, _, rfl, a, _, rfl, .inl (SqL.of ha2), rfl, _, rfl, iteD2 (fun c1 => ?_) (fun c1 => ?_)⟩
  · skip
    have hc_b1 : cutV (ws.map V.str) none (some (i : Int)) = (ws.take i).map V.str := cut_take
    refine ⟨_, rfl, _, rfl, _, rfl, a, _, rfl, SqL.of ha2, fun b1l hlb1 => ?_⟩
    rw [hc_b1]
    generalize hGb1 : upd H2 b1l _ = Hb1
    have sb1 : Same H2 Hb1 := by rw [← hGb1]; exact same_new hlb1
    have gb1 : Hb1 b1l = some (.lst ((ws.take i).map V.str)) := by rw [← hGb1]; exact upd_same
    have ab1 := sb1 _ _ ha2
    have nb1 : b1l ≠ p := (W2).fresh hlb1
    have Wb1 := (W2).same sb1
    have kb1 := (k12).trans (keepX_of sb1)
    refine ⟨_, rfl, p, rfl, Wb1, fun mb2 Hb2 hmb2 kkb2 Wb2 => ?_⟩
    have fb1_b2 := kkb2 _ _ nb1 gb1
    have ab2 := kkb2 _ _ nap ab1
    have kb2 := (kb1).trans kkb2
    refine ⟨by show 1 ≤ sizeLine; decide, fun b3l hlb3 => ?_⟩
    generalize hGb3 : upd Hb2 b3l _ = Hb3
    have sb3 : Same Hb2 Hb3 := by rw [← hGb3]; exact same_new hlb3
    have gb3 : Hb3 b3l = some (.lst (([mb2] : List Str).map V.str)) := by rw [← hGb3]; exact upd_same
    have fb1_b3 := sb3 _ _ fb1_b2
    have ab3 := sb3 _ _ ab2
    have nb3 : b3l ≠ p := (Wb2).fresh hlb3
    have Wb3 := (Wb2).same sb3
    have kb3 := (kb2).trans (keepX_of sb3)
    refine ⟨b1l, b3l, _, _, rfl, rfl, fb1_b3, gb3, sizeL2 (by simp only [List.length_map, List.length_append, List.length_take, List.length_drop, List.length_cons, List.length_nil, List.length_reverse]; omega), fun b4l hlb4 => ?_⟩
    rw [← List.map_append]
    generalize hGb4 : upd Hb3 b4l _ = Hb4
    have sb4 : Same Hb3 Hb4 := by rw [← hGb4]; exact same_new hlb4
    have gb4 : Hb4 b4l = some (.lst (((ws.take i) ++ ([mb2] : List Str)).map V.str)) := by rw [← hGb4]; exact upd_same
    have fb1_b4 := sb4 _ _ fb1_b3
    have fb3_b4 := sb4 _ _ gb3
    have ab4 := sb4 _ _ ab3
    have nb4 : b4l ≠ p := (Wb3).fresh hlb4
    have Wb4 := (Wb3).same sb4
    have kb4 := (kb3).trans (keepX_of sb4)
    have hc_b5 : cutV (ws.map V.str) (some (i : Int)) none = (ws.drop i).map V.str := cut_drop
    refine ⟨_, rfl, _, rfl, _, rfl, a, _, rfl, SqL.of ab4, fun b5l hlb5 => ?_⟩
    rw [hc_b5]
    generalize hGb5 : upd Hb4 b5l _ = Hb5
    have sb5 : Same Hb4 Hb5 := by rw [← hGb5]; exact same_new hlb5
    have gb5 : Hb5 b5l = some (.lst ((ws.drop i).map V.str)) := by rw [← hGb5]; exact upd_same
    have fb1_b5 := sb5 _ _ fb1_b4
    have fb3_b5 := sb5 _ _ fb3_b4
    have fb4_b5 := sb5 _ _ gb4
    have ab5 := sb5 _ _ ab4
    have nb5 : b5l ≠ p := (Wb4).fresh hlb5
    have Wb5 := (Wb4).same sb5
    have kb5 := (kb4).trans (keepX_of sb5)
    refine ⟨b4l, b5l, _, _, rfl, rfl, fb4_b5, gb5, sizeL2 (by simp only [List.length_map, List.length_append, List.length_take, List.length_drop, List.length_cons, List.length_nil, List.length_reverse]; omega), fun b6l hlb6 => ?_⟩
    rw [← List.map_append]
    generalize hGb6 : upd Hb5 b6l _ = Hb6
    have sb6 : Same Hb5 Hb6 := by rw [← hGb6]; exact same_new hlb6
    have gb6 : Hb6 b6l = some (.lst ((((ws.take i) ++ ([mb2] : List Str)) ++ (ws.drop i)).map V.str)) := by rw [← hGb6]; exact upd_same
    have fb1_b6 := sb6 _ _ fb1_b5
    have fb3_b6 := sb6 _ _ fb3_b5
    have fb4_b6 := sb6 _ _ fb4_b5
    have fb5_b6 := sb6 _ _ gb5
    have ab6 := sb6 _ _ ab5
    have nb6 : b6l ≠ p := (Wb5).fresh hlb6
    have Wb6 := (Wb5).same sb6
    have kb6 := (kb5).trans (keepX_of sb6)
    have hmem : ∀ w ∈ (((ws.take i) ++ ([mb2] : List Str)) ++ (ws.drop i)), LnB (2 * b + 12) w := fun w hw => (List.mem_append.mp hw).elim (fun hw => (List.mem_append.mp hw).elim (fun hw => hup w (List.mem_of_mem_take hw)) (fun hw => (by rw [List.mem_singleton.mp hw]; exact hmb2.mono (by omega)))) (fun hw => hup w (List.mem_of_mem_drop hw))
    have hlen : (((ws.take i) ++ ([mb2] : List Str)) ++ (ws.drop i)).length ≤ ws.length + 1 := by simp only [List.length_append, List.length_take, List.length_drop, List.length_cons, List.length_nil]; omega
    exact q b6l _ _ gb6 nb6 hlen hmem kb6 Wb6

  rw [List.length_map] at c1
  have hi : i < ws.length := by
    have : i ≠ ws.length := fun e => c1 (by rw [e])
    omega
  have hati : atI (ws.map V.str) (i : Int) = some (V.str ws[i]) := atI_nat (by rw [List.getElem?_map, List.getElem?_eq_getElem hi]; rfl)

  refine ⟨_, rfl, rfl, _, rfl, iteD2 (fun c => ?_) (fun c => ?_)⟩
  · skip
    have hc_c1 : cutV (ws.map V.str) none (some (i : Int)) = (ws.take i).map V.str := cut_take
    refine ⟨_, rfl, _, rfl, _, rfl, a, _, rfl, SqL.of ha2, fun c1l hlc1 => ?_⟩
    rw [hc_c1]
    generalize hGc1 : upd H2 c1l _ = Hc1
    have sc1 : Same H2 Hc1 := by rw [← hGc1]; exact same_new hlc1
    have gc1 : Hc1 c1l = some (.lst ((ws.take i).map V.str)) := by rw [← hGc1]; exact upd_same
    have ac1 := sc1 _ _ ha2
    have nc1 : c1l ≠ p := (W2).fresh hlc1
    have Wc1 := (W2).same sc1
    have kc1 := (k12).trans (keepX_of sc1)
    have hc_c2 : cutV (ws.map V.str) (some ((i : Int) + 1)) none = (ws.drop (i + 1)).map V.str := by rw [show (i : Int) + 1 = ((i + 1 : Nat) : Int) from by omega, cut_drop]
    refine ⟨_, rfl, _, rfl, _, _, rfl, rfl, _, rfl, a, _, rfl, SqL.of ac1, fun c2l hlc2 => ?_⟩
    rw [hc_c2]
    generalize hGc2 : upd Hc1 c2l _ = Hc2
    have sc2 : Same Hc1 Hc2 := by rw [← hGc2]; exact same_new hlc2
    have gc2 : Hc2 c2l = some (.lst ((ws.drop (i + 1)).map V.str)) := by rw [← hGc2]; exact upd_same
    have fc1_c2 := sc2 _ _ gc1
    have ac2 := sc2 _ _ ac1
    have nc2 : c2l ≠ p := (Wc1).fresh hlc2
    have Wc2 := (Wc1).same sc2
    have kc2 := (kc1).trans (keepX_of sc2)
    refine ⟨c1l, c2l, _, _, rfl, rfl, fc1_c2, gc2, sizeL2 (by simp only [List.length_map, List.length_append, List.length_take, List.length_drop, List.length_cons, List.length_nil, List.length_reverse]; omega), fun c3l hlc3 => ?_⟩
    rw [← List.map_append]
    generalize hGc3 : upd Hc2 c3l _ = Hc3
    have sc3 : Same Hc2 Hc3 := by rw [← hGc3]; exact same_new hlc3
    have gc3 : Hc3 c3l = some (.lst (((ws.take i) ++ (ws.drop (i + 1))).map V.str)) := by rw [← hGc3]; exact upd_same
    have fc1_c3 := sc3 _ _ fc1_c2
    have fc2_c3 := sc3 _ _ gc2
    have ac3 := sc3 _ _ ac2
    have nc3 : c3l ≠ p := (Wc2).fresh hlc3
    have Wc3 := (Wc2).same sc3
    have kc3 := (kc2).trans (keepX_of sc3)
    have hmem : ∀ w ∈ ((ws.take i) ++ (ws.drop (i + 1))), LnB (2 * b + 12) w := fun w hw => (List.mem_append.mp hw).elim (fun hw => hup w (List.mem_of_mem_take hw)) (fun hw => hup w (List.mem_of_mem_drop hw))
    have hlen : ((ws.take i) ++ (ws.drop (i + 1))).length ≤ ws.length + 1 := by simp only [List.length_append, List.length_take, List.length_drop, List.length_cons, List.length_nil]; omega
    exact q c3l _ _ gc3 nc3 hlen hmem kc3 Wc3

  refine ⟨_, rfl, rfl, _, rfl, iteD2 (fun c => ?_) (fun c => ?_)⟩
  · skip
    have hc_d1 : cutV (ws.map V.str) none (some ((i : Int) + 1)) = (ws.take (i + 1)).map V.str := by rw [show (i : Int) + 1 = ((i + 1 : Nat) : Int) from by omega, cut_take]
    refine ⟨_, rfl, _, rfl, _, _, rfl, rfl, _, rfl, a, _, rfl, SqL.of ha2, fun d1l hld1 => ?_⟩
    rw [hc_d1]
    generalize hGd1 : upd H2 d1l _ = Hd1
    have sd1 : Same H2 Hd1 := by rw [← hGd1]; exact same_new hld1
    have gd1 : Hd1 d1l = some (.lst ((ws.take (i + 1)).map V.str)) := by rw [← hGd1]; exact upd_same
    have ad1 := sd1 _ _ ha2
    have nd1 : d1l ≠ p := (W2).fresh hld1
    have Wd1 := (W2).same sd1
    have kd1 := (k12).trans (keepX_of sd1)
    have hc_d2 : cutV (ws.map V.str) (some (i : Int)) none = (ws.drop i).map V.str := cut_drop
    refine ⟨_, rfl, _, rfl, _, rfl, a, _, rfl, SqL.of ad1, fun d2l hld2 => ?_⟩
    rw [hc_d2]
    generalize hGd2 : upd Hd1 d2l _ = Hd2
    have sd2 : Same Hd1 Hd2 := by rw [← hGd2]; exact same_new hld2
    have gd2 : Hd2 d2l = some (.lst ((ws.drop i).map V.str)) := by rw [← hGd2]; exact upd_same
    have fd1_d2 := sd2 _ _ gd1
    have ad2 := sd2 _ _ ad1
    have nd2 : d2l ≠ p := (Wd1).fresh hld2
    have Wd2 := (Wd1).same sd2
    have kd2 := (kd1).trans (keepX_of sd2)
    refine ⟨d1l, d2l, _, _, rfl, rfl, fd1_d2, gd2, sizeL2 (by simp only [List.length_map, List.length_append, List.length_take, List.length_drop, List.length_cons, List.length_nil, List.length_reverse]; omega), fun d3l hld3 => ?_⟩
    rw [← List.map_append]
    generalize hGd3 : upd Hd2 d3l _ = Hd3
    have sd3 : Same Hd2 Hd3 := by rw [← hGd3]; exact same_new hld3
    have gd3 : Hd3 d3l = some (.lst (((ws.take (i + 1)) ++ (ws.drop i)).map V.str)) := by rw [← hGd3]; exact upd_same
    have fd1_d3 := sd3 _ _ fd1_d2
    have fd2_d3 := sd3 _ _ gd2
    have ad3 := sd3 _ _ ad2
    have nd3 : d3l ≠ p := (Wd2).fresh hld3
    have Wd3 := (Wd2).same sd3
    have kd3 := (kd2).trans (keepX_of sd3)
    have hmem : ∀ w ∈ ((ws.take (i + 1)) ++ (ws.drop i)), LnB (2 * b + 12) w := fun w hw => (List.mem_append.mp hw).elim (fun hw => hup w (List.mem_of_mem_take hw)) (fun hw => hup w (List.mem_of_mem_drop hw))
    have hlen : ((ws.take (i + 1)) ++ (ws.drop i)).length ≤ ws.length + 1 := by simp only [List.length_append, List.length_take, List.length_drop, List.length_cons, List.length_nil]; omega
    exact q d3l _ _ gd3 nd3 hlen hmem kd3 Wd3
  have hc_e1 : cutV (ws.map V.str) none (some (i : Int)) = (ws.take i).map V.str := cut_take
  refine ⟨_, rfl, _, rfl, _, rfl, a, _, rfl, SqL.of ha2, fun e1l hle1 => ?_⟩
  rw [hc_e1]
  generalize hGe1 : upd H2 e1l _ = He1
  have se1 : Same H2 He1 := by rw [← hGe1]; exact same_new hle1
  have ge1 : He1 e1l = some (.lst ((ws.take i).map V.str)) := by rw [← hGe1]; exact upd_same
  have ae1 := se1 _ _ ha2
  have ne1 : e1l ≠ p := (W2).fresh hle1
  have We1 := (W2).same se1
  have ke1 := (k12).trans (keepX_of se1)
  refine ⟨_, rfl, _, rfl, _, rfl, a, _, _, _, rfl, rfl, SqL.of ae1, hati, p, _, b, rfl, We1, hok _ (List.getElem_mem hi), hb, fun me2 He2 hme2 kke2 We2 => ?_⟩
  have fe1_e2 := kke2 _ _ ne1 ge1
  have ae2 := kke2 _ _ nap ae1
  have ke2 := (ke1).trans kke2
  refine ⟨by show 1 ≤ sizeLine; decide, fun e3l hle3 => ?_⟩
  generalize hGe3 : upd He2 e3l _ = He3
  have se3 : Same He2 He3 := by rw [← hGe3]; exact same_new hle3
  have ge3 : He3 e3l = some (.lst (([me2] : List Str).map V.str)) := by rw [← hGe3]; exact upd_same
  have fe1_e3 := se3 _ _ fe1_e2
  have ae3 := se3 _ _ ae2
  have ne3 : e3l ≠ p := (We2).fresh hle3
  have We3 := (We2).same se3
  have ke3 := (ke2).trans (keepX_of se3)
  refine ⟨e1l, e3l, _, _, rfl, rfl, fe1_e3, ge3, sizeL2 (by simp only [List.length_map, List.length_append, List.length_take, List.length_drop, List.length_cons, List.length_nil, List.length_reverse]; omega), fun e4l hle4 => ?_⟩
  rw [← List.map_append]
  generalize hGe4 : upd He3 e4l _ = He4
  have se4 : Same He3 He4 := by rw [← hGe4]; exact same_new hle4
  have ge4 : He4 e4l = some (.lst (((ws.take i) ++ ([me2] : List Str)).map V.str)) := by rw [← hGe4]; exact upd_same
  have fe1_e4 := se4 _ _ fe1_e3
  have fe3_e4 := se4 _ _ ge3
  have ae4 := se4 _ _ ae3
  have ne4 : e4l ≠ p := (We3).fresh hle4
  have We4 := (We3).same se4
  have ke4 := (ke3).trans (keepX_of se4)
  have hc_e5 : cutV (ws.map V.str) (some ((i : Int) + 1)) none = (ws.drop (i + 1)).map V.str := by rw [show (i : Int) + 1 = ((i + 1 : Nat) : Int) from by omega, cut_drop]
  refine ⟨_, rfl, _, rfl, _, _, rfl, rfl, _, rfl, a, _, rfl, SqL.of ae4, fun e5l hle5 => ?_⟩
  rw [hc_e5]
  generalize hGe5 : upd He4 e5l _ = He5
  have se5 : Same He4 He5 := by rw [← hGe5]; exact same_new hle5
  have ge5 : He5 e5l = some (.lst ((ws.drop (i + 1)).map V.str)) := by rw [← hGe5]; exact upd_same
  have fe1_e5 := se5 _ _ fe1_e4
  have fe3_e5 := se5 _ _ fe3_e4
  have fe4_e5 := se5 _ _ ge4
  have ae5 := se5 _ _ ae4
  have ne5 : e5l ≠ p := (We4).fresh hle5
  have We5 := (We4).same se5
  have ke5 := (ke4).trans (keepX_of se5)
  refine ⟨e4l, e5l, _, _, rfl, rfl, fe4_e5, ge5, sizeL2 (by simp only [List.length_map, List.length_append, List.length_take, List.length_drop, List.length_cons, List.length_nil, List.length_reverse]; omega), fun e6l hle6 => ?_⟩
  rw [← List.map_append]
  generalize hGe6 : upd He5 e6l _ = He6
  have se6 : Same He5 He6 := by rw [← hGe6]; exact same_new hle6
  have ge6 : He6 e6l = some (.lst ((((ws.take i) ++ ([me2] : List Str)) ++ (ws.drop (i + 1))).map V.str)) := by rw [← hGe6]; exact upd_same
  have fe1_e6 := se6 _ _ fe1_e5
  have fe3_e6 := se6 _ _ fe3_e5
  have fe4_e6 := se6 _ _ fe4_e5
  have fe5_e6 := se6 _ _ ge5
  have ae6 := se6 _ _ ae5
  have ne6 : e6l ≠ p := (We5).fresh hle6
  have We6 := (We5).same se6
  have ke6 := (ke5).trans (keepX_of se6)
  have hmem : ∀ w ∈ (((ws.take i) ++ ([me2] : List Str)) ++ (ws.drop (i + 1))), LnB (2 * b + 12) w := fun w hw => (List.mem_append.mp hw).elim (fun hw => (List.mem_append.mp hw).elim (fun hw => hup w (List.mem_of_mem_take hw)) (fun hw => (by rw [List.mem_singleton.mp hw]; exact hme2))) (fun hw => hup w (List.mem_of_mem_drop hw))
  have hlen : (((ws.take i) ++ ([me2] : List Str)) ++ (ws.drop (i + 1))).length ≤ ws.length + 1 := by simp only [List.length_append, List.length_take, List.length_drop, List.length_cons, List.length_nil]; omega
  exact q e6l _ _ ge6 ne6 hlen hmem ke6 We6

end
end K82
namespace K82
open PySem L2 TL
section
variable {P : Program} {w : World} {K : PySem.W.Frag} {mg : Str → Option Value} {base : Heap} {A : Ads}
theorem ok_l_entry (T : Txt K mg A) : FnOk P w K mg base CX0 3 A.l_entry A.l_entry_d ["_law_line"] spLEntry := by
  have G_l_address_of := ok_l_address_of (P := P) (w := w) (base := base) T
  have G_l_is_number := ok_l_is_number (P := P) (w := w) (base := base) T
  refine T.F_l_entry.ok sc_l_entry (fun vs H Q E h => ?_) (fun cdv A0 outer s H vs Q E hr h => ?_)
  · obtain ⟨s, rfl, hl, hasc, q1, q2⟩ := h
    rfl
  obtain ⟨s, rfl, hl, hasc, q1, q2⟩ := h
  refine ⟨_, (pss_cons (ps_set (i := 1) sc_l_entry.nd rfl (Or.inl rfl) (pe_split (pv 0) pe_str))
   (pss_cons (ps_if (PW.pt (pw_or (pt_cmpR op_lt (pe_callB call_lenK (by rfl) T.z_len (by decide +kernel) (pa_cons (pv 1) pa_nil)) pe_int (nomark _)) (pw_or1 (pt_cmpR op_isN (pe_call G_l_address_of (hr.mono (by decide)) rfl T.m_l_address_of T.F_l_address_of.kp T.b_l_address_of .nil pass0 (pa_cons (pe_ix ix_list (pv 1) pe_int (fun _ _ => rfl)) pa_nil)) pe_non (nomark _)))))
    (pss_one (ps_ret pe_non))
    pss_nil)
   (pss_cons (ps_if (PW.pt (pw_and (pt_cmpR op_eq (pe_ix ix_list (pv 1) pe_int (fun _ _ => rfl)) pe_str (nomark _)) (pw_and1 (pt_cmpR op_eq (pe_callB call_lenK (by rfl) T.z_len (by decide +kernel) (pa_cons (pv 1) pa_nil)) pe_int (nomark _)))))
    (pss_one (ps_ret (pe_tup (pa_cons pe_str (pa_cons (pe_call G_l_address_of (hr.mono (by decide)) rfl T.m_l_address_of T.F_l_address_of.kp T.b_l_address_of .nil pass0 (pa_cons (pe_ix ix_list (pv 1) pe_int (fun _ _ => rfl)) pa_nil)) pa_nil)))))
    pss_nil)
   (pss_cons (ps_if (PW.pt (pw_or (pt_cmpR op_notIn_seq (pe_ix ix_list (pv 1) pe_int (fun _ _ => rfl)) (pe_lst (pa_cons pe_str (pa_cons pe_str pa_nil))) (by rfl)) (pw_or1 (pt_cmpR op_gt (pe_callB call_lenK (by rfl) T.z_len (by decide +kernel) (pa_cons (pv 1) pa_nil)) pe_int (nomark _)))))
    (pss_one (ps_ret pe_non))
    pss_nil)
   (pss_cons (ps_if (pt_cmpR (op_neD hr.units) (pe_lc (own := [("_law_word", 2)]) (g := gName 2) rfl sc_l_entry.nd (pi_list (pe_slice sl_list (pv 1) (po_some pe_int) po_none)) (blkOk_by (own := [("_law_word", 2)]) (N := N_l_entry) (sc := defScope s_l_entry) (by decide +kernel)) (fun _ _ _ _ _ => pg_name (i := 2) sc_l_entry.nd rfl (Or.inl rfl)) (fun _ _ _ _ _ => pts_one (PW.pt (pw_and (pt_cmpR op_ne (pv 2) pe_str (nomark _)) (pw_and1 (pt_not (pt_val (pe_call G_l_is_number (hr.mono (by decide)) rfl T.m_l_is_number T.F_l_is_number.kp T.b_l_is_number .nil pass0 (pa_cons (pv 2) pa_nil)))))))) (fun _ _ _ _ _ => (pv 2))) (pe_lst pa_nil) (nomark _))
    (pss_one (ps_ret pe_non))
    pss_nil)
   (pss_one (ps_ret (pe_tup (pa_cons (pe_ix ix_list (pv 1) pe_int (fun _ _ => rfl)) (pa_cons (pe_call G_l_address_of (hr.mono (by decide)) rfl T.m_l_address_of T.F_l_address_of.kp T.b_l_address_of .nil pass0 (pa_cons (pe_ix ix_list (pv 1) pe_int (fun _ _ => rfl)) pa_nil)) (pa_cons (pe_lc (own := [("_law_word", 2)]) (g := gName 2) (tt := tYes) rfl sc_l_entry.nd (pi_list (pe_slice sl_list (pv 1) (po_some pe_int) po_none)) (blkOk_by (own := [("_law_word", 2)]) (N := N_l_entry) (sc := defScope s_l_entry) (by decide +kernel)) (fun _ _ _ _ _ => pg_name (i := 2) sc_l_entry.nd rfl (Or.inl rfl)) (fun _ _ _ _ _ => pts_nil) (fun _ _ _ _ _ => (pe_callTy call_int_str (by rfl) T.z_int (by decide +kernel) (pa_cons (pv 2) pa_nil)))) pa_nil))))))))))), ?_⟩
  refine ⟨_, rfl, ⟨_, rfl⟩, s, _, rfl, rfl, (by decide +kernel), sizeL (by omega), fun l hn => ?_⟩
  rw [show Txt.split s " " = Txt.split s (Str.ofString " ") from rfl]
  have hp0 := word_pos s
  have hpl : ∀ w ∈ Txt.split s (Str.ofString " "), w.length ≤ 100000 := fun w hw => Nat.le_trans (part_len tl_sp hw) hl
  have hpa : ∀ w ∈ Txt.split s (Str.ofString " "), Ascii w := ascii_split hasc
  have hnw := parts_n (s := s) tl_sp
  have hat : ∀ i : Nat, i < (Txt.split s (Str.ofString " ")).length → atI ((Txt.split s (Str.ofString " ")).map V.str) (i : Int) = some (V.str (word s i)) := fun i h => word_at h
  have hwm : ∀ i : Nat, i < (Txt.split s (Str.ofString " ")).length → (word s i) ∈ Txt.split s (Str.ofString " ") := fun i h => word_len h
  have eok : enOk s = (decide (2 ≤ (Txt.split s (Str.ofString " ")).length) && (adOk (word s 1) && ((decide (word s 0 = Str.ofString "done") && decide ((Txt.split s (Str.ofString " ")).length = 2)) ||
    (kOk (word s 0) && (decide ((Txt.split s (Str.ofString " ")).length ≤ 6002) && ((Txt.split s (Str.ofString " ")).drop 2).all mkOk))))) := rfl
  have eof : enOf s = ⟨word s 0, adOf (word s 1), ((Txt.split s (Str.ofString " ")).drop 2).map mkOf⟩ := rfl
  generalize hws : Txt.split s (Str.ofString " ") = ws at hp0 hpl hpa hnw hat hwm eok eof ⊢
  have s1 := same_new (o := .lst (ws.map V.str)) hn
  have g1 : upd H l (.lst (ws.map V.str)) l = some (.lst (ws.map V.str)) := upd_same
  generalize hG1 : upd H l _ = H1 at s1 g1 ⊢
  refine ⟨_, rfl, l, _, rfl, .inl (SqL.of g1), _, _, rfl, rfl, _, rfl, ?_⟩
  rw [List.length_map]
  refine iteD2 (fun c0 => ?_) (fun c0 => ?_)
  · refine q2 ?_ _ s1
    have : ¬ 2 ≤ ws.length := by omega
    rw [eok, decide_eq_false this, Bool.false_and]
  have h2 : 2 ≤ ws.length := by omega
  rw [decide_eq_true h2, Bool.true_and] at eok
  have hl1 := hpl _ (hwm 1 (by omega))
  have has1 := hpa _ (hwm 1 (by omega))
  refine ⟨_, rfl, l, _, _, _, rfl, rfl, SqL.of g1, hat 1 (by omega), word s 1, rfl, hl1, has1, fun ca a H2 s2 ha2 => ?_, fun ca H2 s2 => ?_⟩
  rotate_left
  · refine ⟨rfl, _, rfl, iteDT rfl ?_⟩
    exact q2 (by rw [eok, ca]; rfl) _ (s1.trans s2)
  refine ⟨rfl, _, rfl, iteDF (fun h => by cases h) ?_⟩
  rw [ca, Bool.true_and] at eok
  have g2 := s2 _ _ g1
  have s12 := s1.trans s2
  refine ⟨_, rfl, l, _, _, _, rfl, rfl, SqL.of g2, hat 0 hp0, rfl, _, rfl, ?_⟩
  by_cases cd : word s 0 = Str.ofString "done"
  · refine iteDT (congrArg V.str cd) ?_
    refine ⟨_, rfl, l, _, rfl, .inl (SqL.of g2), rfl, _, rfl, ?_⟩
    rw [List.length_map]
    by_cases c2 : ws.length = 2
    · refine iteDT (by rw [c2]; rfl) ?_
      have ems : (enOf s).ms = [] := by
        rw [eof]
        show (ws.drop 2).map mkOf = []
        rw [List.drop_eq_nil_of_le (by omega)]; rfl
      have eok : enOk s = true := by rw [eok, decide_eq_true cd, decide_eq_true c2]; rfl
      refine ⟨_, rfl, l, _, _, _, rfl, rfl, SqL.of g2, hat 1 (by omega), word s 1, rfl, hl1, has1, fun _ a H3 s3 ha3 => ?_, fun cx => by rw [ca] at cx; cases cx⟩
      refine ⟨by show 2 ≤ sizeLine; decide, fun t ht => ?_⟩
      have s4 := same_new (o := .tup [.str "done", .ref a]) ht
      refine q1 eok _ _ (s12.trans (s3.trans s4)) ⟨t, a, rfl, by rw [eof]; exact s4 _ _ ha3, .inl ⟨by rw [eof]; exact cd, ?_⟩⟩
      rw [upd_same, eof]
      show _ = some (HO.tup [V.str (word s 0), V.ref a])
      rw [cd]
    · refine iteDF (fun e => c2 (by have := V.int.inj e; omega)) ?_
      rw [decide_eq_true cd, decide_eq_false c2, cd, kOk_done] at eok
      refine ⟨_, rfl, l, _, _, _, rfl, rfl, SqL.of g2, hat 0 hp0, by show 2 ≤ sizeLine; decide, fun l3 hl3 => ?_⟩
      refine ⟨l3, [.str "part", .str "kept"], rfl, .inl (SqL.of upd_same), rfl, rfl, _, rfl, ?_⟩
      rw [if_pos rfl, kOk_in, cd, kOk_done]
      refine iteT ?_
      exact q2 (by rw [eok]; rfl) _ (s12.trans (same_new hl3))
  refine iteDF (fun e => cd (V.str.inj e)) ?_
  rw [decide_eq_false cd, Bool.false_and, Bool.false_or] at eok
  refine ⟨_, rfl, l, _, _, _, rfl, rfl, SqL.of g2, hat 0 hp0, by show 2 ≤ sizeLine; decide, fun l3 hl3 => ?_⟩
  refine ⟨l3, [.str "part", .str "kept"], rfl, .inl (SqL.of upd_same), rfl, rfl, _, rfl, ?_⟩
  rw [if_pos rfl, kOk_in]
  have s3 := same_new (o := .lst [.str "part", .str "kept"]) hl3
  have g3 := s3 _ _ g2
  have s13 := s12.trans s3
  cases hk : kOk (word s 0) with
  | false =>
    refine iteT ?_
    exact q2 (by rw [eok, hk]; rfl) _ s13
  | true =>
  rw [hk, Bool.true_and] at eok
  refine iteF ?_
  refine ⟨_, rfl, l, _, rfl, .inl (SqL.of g3), _, _, rfl, rfl, _, rfl, ?_⟩
  rw [List.length_map]
  refine iteD2 (fun c4 => ?_) (fun c4 => ?_)
  · refine q2 ?_ _ s13
    have : ¬ ws.length ≤ 6002 := by omega
    rw [eok, decide_eq_false this, Bool.false_and]
  have h6 : ws.length ≤ 6002 := by omega
  rw [decide_eq_true h6, Bool.true_and] at eok
  generalize hG3 : upd H2 l3 _ = H3 at s3 g3 s13 ⊢
  have hcut : cutV (ws.map V.str) (some 2) none = (ws.drop 2).map V.str := by rw [show (2 : Int) = ((2 : Nat) : Int) from rfl, cutV_drop, List.map_drop]
  refine ⟨_, rfl, 2, rfl, l, _, rfl, SqL.of g3, fun l4 hl4 => ?_⟩
  rw [hcut]
  have s4 := same_new (o := .lst ((ws.drop 2).map V.str)) hl4
  have g4 := upd_same (H := H3) (a := l4) (o := .lst ((ws.drop 2).map V.str))
  have hld : (ws.drop 2).length < 16777216 := by rw [List.length_drop]; omega
  refine ⟨l4, rfl, ⟨_, SqL.of g4⟩, fun D hD => lc_filter (fun w => !mkOk w) walk_list hD hld (fun H' s' => SqL.of (s' _ _ g4)) ?_ ?_ ?_⟩
  · intro x hx X Z sx z
    have hx := List.mem_of_mem_drop hx
    refine ⟨_, rfl, rfl, _, rfl, iteN2 (fun c5 => ?_) (fun c5 => ?_)⟩
    · have e : mkOk x = isValW x := by
        unfold mkOk
        rw [decide_eq_false fun e => c5 (congrArg V.str e), Bool.false_or]
      rw [e] at z
      exact ⟨_, rfl, x, rfl, hpl x hx, hpa x hx, fun H4 s4 => ⟨isValW x, rfl, z H4 s4⟩⟩
    · have e : mkOk x = true := by
        unfold mkOk
        rw [decide_eq_true (V.str.inj c5), Bool.true_or]
      rw [e] at z
      exact z X (Same.refl X)
  · intro x hx X Z z
    exact ⟨_, rfl, z⟩
  · intro X sx hDX
    refine ⟨by show 0 ≤ sizeLine; decide, fun z hz => ?_⟩
    have sz := same_new (o := .lst ([] : List V)) hz
    have cod : Codes ((ws.drop 2).filter fun w => !mkOk w) := fun x hx => strOk_ascii (hpa x (List.mem_of_mem_drop (List.mem_filter.mp hx).1))
    refine ⟨strsD ((ws.drop 2).filter fun w => !mkOk w), .list [], .lst (SqL.of (sz _ _ hDX)) (dp_strs _), .lst (SqL.of upd_same) .nil, strs_shaped cod, rfl, _, rfl, ?_⟩
    rw [show PyData.eqv (strsD ((ws.drop 2).filter fun w => !mkOk w)) (.list []) = decide ((ws.drop 2).filter (fun w => !mkOk w) = []) from strs_eqv _ []]
    generalize hG5 : upd X z _ = H5 at sz ⊢
    have s35 := s4.trans (sx.trans sz)
    have s15 := s13.trans s35
    have g5 := s35 _ _ g3
    refine iteN2 (fun c6 => ?_) (fun c6 => ?_)
    · refine q2 ?_ H5 s15
      rw [eok, ← filt_all, decide_eq_false c6]
    have hall : (ws.drop 2).all mkOk = true := by rw [← filt_all, decide_eq_true c6]
    have eok : enOk s = true := by rw [eok, hall]
    refine ⟨_, rfl, l, _, _, _, rfl, rfl, SqL.of g5, hat 0 hp0, _, rfl, l, _, _, _, rfl, rfl, SqL.of g5, hat 1 (by omega), word s 1, rfl, hl1, has1, fun _ a H6 s6 ha6 => ?_, fun cx => by rw [ca] at cx; cases cx⟩
    have g6 := s6 _ _ g5
    refine ⟨_, rfl, 2, rfl, l, _, rfl, SqL.of g6, fun l7 hl7 => ?_⟩
    rw [hcut]
    have s7 := same_new (o := .lst ((ws.drop 2).map V.str)) hl7
    have g7 := upd_same (H := H6) (a := l7) (o := .lst ((ws.drop 2).map V.str))
    refine ⟨l7, rfl, ⟨_, SqL.of g7⟩, fun D2 hD2 => lc_mapA (ws.drop 2) V.str (fun w => V.int (mkOf w)) (Str.ofString "") walk_list hD2 hld (by show 2 < 3; decide) (fun H' s' => SqL.of (s' _ _ g7)) ?_ ?_⟩
    · intro w hw H' Z s' z
      have hv := mk_int (List.all_eq_true.mp hall w hw)
      exact ⟨_, rfl, w, mkOf w, rfl, hv.1, hv.2, z H' (Same.refl H')⟩
    · intro H' s' hD'
      refine ⟨by show 3 ≤ sizeLine; decide, fun t ht => ?_⟩
      have s8 := same_new (o := .tup [.str (word s 0), .ref a, .ref D2]) ht
      refine q1 eok _ _ (s15.trans (s6.trans (s7.trans (s'.trans s8)))) ⟨t, a, rfl, ?_, .inr ⟨by rw [eof]; exact cd, D2, ?_, ?_, ?_⟩⟩
      · rw [eof]
        exact s8 _ _ (s' _ _ (s7 _ _ ha6))
      · exact getNone (s15.trans (s6.trans s7)) hD2
      · rw [upd_same, eof]
      · rw [eof]
        show _ = some (HO.lst (((ws.drop 2).map mkOf).map V.int))
        rw [List.map_map]
        exact s8 _ _ hD'

end
end K82
namespace K82
open PySem L2 TL
section
variable {P : Program} {w : World} {K : PySem.W.Frag} {mg : Str → Option Value} {base : Heap} {A : Ads}
theorem ok_l_due (T : Txt K mg A) : FnOk P w K mg base CX0 4 A.l_due A.l_due_d ["_law_text"] spLDue := by
  have G_l_entry := ok_l_entry (P := P) (w := w) (base := base) T
  refine T.F_l_due.ok sc_l_due (fun vs H Q E h => ?_) (fun cdv A0 outer s H vs Q E hr h => ?_)
  · obtain ⟨s, rfl, hl, hasc, q1, q2⟩ := h
    rfl
  obtain ⟨s, rfl, hl, hasc, q1, q2⟩ := h
  refine ⟨_, (pss_cons (ps_if (pt_cmpR op_eq (pv 0) pe_str (nomark _))
    (pss_one (ps_ret (pe_lst pa_nil)))
    pss_nil)
   (pss_cons (ps_setLc (i := 1) (own := [("_law_line", 2)]) (g := gName 2) (tt := tYes) rfl sc_l_due.nd rfl rfl (sw_true rfl rfl rfl (by decide +kernel)) (pi_list (pe_split (pv 0) pe_str)) (blkOk_by (own := [("_law_line", 2)]) (N := N_l_due) (sc := defScope s_l_due) (by decide +kernel)) (fun _ _ _ _ _ => pg_name (i := 2) sc_l_due.nd rfl (Or.inl rfl)) (fun _ _ _ _ _ => pts_nil) (fun _ _ _ _ _ => (pe_call G_l_entry (hr.mono (by decide)) rfl T.m_l_entry T.F_l_entry.kp T.b_l_entry .nil pass0 (pa_cons (pv 2) pa_nil))))
   (pss_cons (ps_if (pt_cmpR (op_inD (units65 hr)) pe_non (pv 1) (by rfl))
    (pss_one (ps_ret pe_str))
    pss_nil)
   (pss_one (ps_ret (pv 1)))))), ?_⟩
  refine ⟨_, rfl, rfl, _, rfl, ?_⟩
  refine iteD2 (fun c => ?_) (fun c => ?_)
  · have c := V.str.inj c
    refine ⟨by show 0 ≤ sizeLine; decide, fun l hn => q1 (by unfold bkOk; rw [decide_eq_true c]; rfl) l [] _ (same_new hn) upd_same ?_⟩
    unfold bkOf
    rw [if_pos c]
    exact .nil
  have hne : ¬ s = Str.ofString "" := fun e => c (congrArg V.str e)
  have eok : bkOk s = (Txt.split s (Str.ofString "\n")).all enOk := by
    unfold bkOk
    rw [decide_eq_false hne, Bool.false_or]
  have eof : bkOf s = (Txt.split s (Str.ofString "\n")).map enOf := if_neg hne
  refine ⟨_, rfl, ⟨_, rfl⟩, s, _, rfl, rfl, (by decide +kernel), sizeL (by omega), fun l hn => ?_⟩
  rw [show Txt.split s "\n" = Txt.split s (Str.ofString "\n") from rfl]
  have hpl : ∀ w ∈ Txt.split s (Str.ofString "\n"), w.length ≤ 100000 := fun w hw => Nat.le_trans (part_len tl_nl hw) hl
  have hpa : ∀ w ∈ Txt.split s (Str.ofString "\n"), Ascii w := ascii_split hasc
  have hnw := parts_n (s := s) tl_nl
  generalize hws : Txt.split s (Str.ofString "\n") = ws at hpl hpa hnw eok eof ⊢
  have s1 := same_new (o := .lst (ws.map V.str)) hn
  have g1 : upd H l (.lst (ws.map V.str)) l = some (.lst (ws.map V.str)) := upd_same
  refine ⟨l, rfl, ⟨_, SqL.of g1⟩, fun D hD => lc_rel ws (fun H' w y => LineH H' (fun a => a ≠ D) w y) (all2_strs _) (fun _ _ _ _ s' h => h.imp (fun h => ⟨h.1, h.2.same s'⟩) id) (fun X e v ys ys' h hD' => h.imp (fun h => ⟨h.1, h.2.keepX keepX_upd hD' fun _ h => h⟩) id) walk_list hD (by omega) (by show 2 < 3; decide) (fun H' s' => SqL.of (s' _ _ g1)) ?_ ?_⟩
  · intro w v hw hv hb H' Z s' ⟨ys, hys⟩ z
    subst hb
    refine ⟨_, rfl, w, rfl, hpl w hw, hpa w hw, fun c v H2 s2 h2 => z H2 _ s2 (.inl ⟨c, h2.weak fun a ⟨o, ho⟩ hn2 e => ?_⟩), fun c H2 s2 => z H2 _ s2 (.inr ⟨c, rfl⟩)⟩
    rw [e, hys] at hn2; cases hn2
  · intro H' ys s' h2 hD'
    refine ⟨_, rfl, .none, ws.map lineD, .non, .lst (SqL.of hD') (lines_dp h2), rfl, lineD_shaped ws, _, rfl, ?_⟩
    rw [lineD_any]
    cases hall : ws.all enOk with
    | false => exact iteT (q2 (by rw [eok, hall]) H' (s1.trans s'))
    | true =>
      refine iteF ⟨_, rfl, q1 (by rw [eok, hall]) D ys H' (s1.trans s') hD' ?_⟩
      rw [eof]
      refine all2_image (h2.mono_mem fun w y hw _ h => ?_)
      rcases h with h | h
      · exact h.2.weak fun _ _ _ => trivial
      · rw [List.all_eq_true.mp hall w hw] at h; cases h.1

end
end K82
namespace K82
open PySem L2 TL
section
variable {P : Program} {w : World} {K : PySem.W.Frag} {mg : Str → Option Value} {base : Heap} {A : Ads}
theorem ok_l_found (T : Txt K mg A) : FnOk P w K mg base CX0 6 A.l_found A.l_found_d ["_law_text"] (spLFound K) := by
  have G_read_book := ok_read_book (P := P) (w := w) (base := base) T
  refine T.F_l_found.ok sc_l_found (fun vs H Q E h => ?_) (fun cdv A0 outer s H vs Q E hr h => ?_)
  · obtain ⟨x, rfl, h⟩ := h
    rfl
  obtain ⟨x, rfl, h⟩ := h
  refine ⟨_, (pss_cons (ps_try_as (i := 2) (Wout := fun _ _ _ _ => False) rfl rfl sc_l_found.nd rfl rfl ⟨rfl, by decide, Or.inl T.m_HadError⟩ takes0
    (fun W pn xe tk _ => (pss_one (ps_set (i := 1) sc_l_found.nd rfl (Or.inl rfl) (pe_callS G_read_book (hr.mono (by decide)) rfl T.m_read_book T.F_read_book.kp T.b_read_book (fun σ => passAt tk σ) (pa_cons (pv 0) pa_nil)))))
    (fun a oe cls d pn hz hf => (pss_cons (ps_set (i := 3) sc_l_found.nd rfl (Or.inl rfl) (pe_callB (call_isXT hz hf) (by rfl) T.z_isinstance (by decide +kernel) (pa_cons (pv 2) (pa_cons (pe_tup (pa_cons (pe_glob (v := .ref A.BadBook) (by rfl) T.m_BadBook rfl) (pa_cons (pe_glob (v := .ref A.NoChange) (by rfl) T.m_NoChange rfl) (pa_cons (pe_glob (v := .ref A.NoMoment) (by rfl) T.m_NoMoment rfl) (pa_cons (pe_glob (v := .ref A.NoProgram) (by rfl) T.m_NoProgram rfl) pa_nil))))) pa_nil))))
   (pss_cons (ps_set (i := 4) sc_l_found.nd rfl (Or.inl rfl) (pe_and (pe_callB (call_isX hz hf) (by rfl) T.z_isinstance (by decide +kernel) (pa_cons (pv 2) (pa_cons (pe_glob (v := .ref A.NoText) (by rfl) T.m_NoText rfl) pa_nil))) (pe_and (pe_callB (call_isX hz hf) (by rfl) T.z_isinstance (by decide +kernel) (pa_cons (pv 2) (pa_cons (pe_bltn (v := .ty "ValueError") (by rfl) T.z_ValueError (by decide +kernel) rfl) pa_nil))) (pe_one (pe_not (pv 3))))))
   (pss_one (ps_ret (pe_ix (r := rIxL K) ix_list (pe_lst (pa_cons pe_str (pa_cons pe_str pa_nil))) (pe_callTy call_int1 (by rfl) T.z_int (by decide +kernel) (pa_cons (pv 4) pa_nil)) (fun _ _ => rfl))))))))
   (pss_one (ps_ret (pv 1)))), ?_⟩
  rcases h with ⟨s, rfl, hl, q1, q2⟩ | ⟨t, ht, hk, q⟩
  · refine ⟨_, rfl, _, rfl, .inl ⟨s, rfl, hl, fun c r xs H1 s1 hr ha => ?_, fun c H1 s1 => ?_⟩⟩
    · exact ⟨_, rfl, q1 c r xs H1 s1 hr ha⟩
    · have q := q2 c
      exact ⟨true, T.xh, fun _ ex hex => by
    refine ⟨_, rfl, by show 4 ≤ sizeLine; decide, fun tp htp => ?_⟩
    refine ⟨A.NoText, tp, _, [.ref A.BadBook, .ref A.NoChange, .ref A.NoMoment, .ref A.NoProgram], false, rfl, rfl, excNT T, rfl, upd_same, .cons (.own _) (.cons (.own _) (.cons (.own _) (.cons (.own _) .nil))), T.xo, ?_⟩
    refine ⟨_, rfl, A.NoText, _, _, true, rfl, rfl, excNT T, rfl, (fun u h => h), is_self _, _, rfl, iteT ?_⟩
    refine ⟨_, rfl, A.NoText, _, _, true, rfl, rfl, excNT T, rfl, (fun u h => h), T.xv, _, rfl, iteT ?_⟩
    refine ⟨_, rfl, _, rfl, ?_⟩
    refine ⟨by show 2 ≤ sizeLine; decide, fun l hl => ?_⟩
    refine ⟨_, rfl, .inr ⟨_, rfl, ?_⟩⟩
    refine ⟨l, _, _, _, rfl, rfl, SqL.of upd_same, rfl, ?_⟩
    exact q _ (s1.trans <| (same_new htp).trans (same_new hl)), fun h => Bool.noConfusion h⟩
  · exact ⟨_, rfl, _, rfl, .inr ⟨t, ht, hk, ⟨true, T.xh, fun _ ex hex => by
    refine ⟨_, rfl, by show 4 ≤ sizeLine; decide, fun tp htp => ?_⟩
    refine ⟨A.NoText, tp, _, [.ref A.BadBook, .ref A.NoChange, .ref A.NoMoment, .ref A.NoProgram], false, rfl, rfl, excNT T, rfl, upd_same, .cons (.own _) (.cons (.own _) (.cons (.own _) (.cons (.own _) .nil))), T.xo, ?_⟩
    refine ⟨_, rfl, A.NoText, _, _, true, rfl, rfl, excNT T, rfl, (fun u h => h), is_self _, _, rfl, iteT ?_⟩
    refine ⟨_, rfl, A.NoText, _, _, true, rfl, rfl, excNT T, rfl, (fun u h => h), T.xv, _, rfl, iteT ?_⟩
    refine ⟨_, rfl, _, rfl, ?_⟩
    refine ⟨by show 2 ≤ sizeLine; decide, fun l hl => ?_⟩
    refine ⟨_, rfl, .inr ⟨_, rfl, ?_⟩⟩
    refine ⟨l, _, _, _, rfl, rfl, SqL.of upd_same, rfl, ?_⟩
    exact q _ ((same_new htp).trans (same_new hl)), fun h => Bool.noConfusion h⟩⟩⟩

end
end K82
namespace K82
open PySem L2 TL
section
variable {P : Program} {w : World} {K : PySem.W.Frag} {mg : Str → Option Value} {base : Heap} {A : Ads}
theorem ok_l_many_right (T : Txt K mg A) : FnOk P w K mg base CX0 7 A.l_many_right A.l_many_right_d ["_law_cell_here"] spMany := by
  have G_l_found := ok_l_found (P := P) (w := w) (base := base) T
  refine T.F_l_many_right.ok sc_l_many_right (fun vs H Q E h => ?_) (fun cdv A0 outer s H vs Q E hr h => ?_)
  · obtain ⟨n, rfl, q⟩ := h
    rfl
  obtain ⟨n, rfl, q⟩ := h
  refine ⟨_, (pss_cons (ps_set (i := 1) sc_l_many_right.nd rfl (Or.inl rfl) (pe_ix ix_list (pe_lst (pa_cons pe_str (pa_cons pe_str (pa_cons pe_str pa_nil)))) (pe_op op_mod (pv 0) pe_int) (fun _ _ => rfl)))
   (pss_cons (ps_set (i := 2) sc_l_many_right.nd rfl (Or.inl rfl) (pe_ix ix_list (pe_lst (pa_cons pe_str (pa_cons pe_str (pa_cons pe_str pa_nil)))) (pe_op op_mod (pe_op op_fdiv (pv 0) pe_int) pe_int) (fun _ _ => rfl)))
   (pss_cons (ps_if (pt_cmpR op_ne (pe_callB call_lenK (by rfl) T.z_len (by decide +kernel) (pa_cons (pe_ix ix_tup (pe_ix ix_list (pe_call G_l_found (hr.mono (by decide)) rfl T.m_l_found T.F_l_found.kp T.b_l_found .nil pass0 (pa_cons (pe_join pe_str (pe_op op_cat (pe_lst (pa_cons (pv 1) pa_nil)) (pe_op op_rep (pe_lst (pa_cons (pv 2) pa_nil)) pe_int))) pa_nil)) pe_int (fun _ _ => rfl)) pe_int (fun _ _ => rfl)) pa_nil)) pe_int (nomark _))
    (pss_one (ps_ret pe_bl))
    pss_nil)
   (pss_one (ps_ret (pe_cmpR (op_eqD hr.units) (pe_call G_l_found (hr.mono (by decide)) rfl T.m_l_found T.F_l_found.kp T.b_l_found .nil pass0 (pa_cons (pe_join pe_str (pe_op op_cat (pe_lst (pa_cons (pv 1) pa_nil)) (pe_op op_rep (pe_lst (pa_cons (pv 2) pa_nil)) pe_int))) pa_nil)) pe_str (nomark _))))))), ?_⟩
  have e3 : (HEADS.map V.str).length = 3 := rfl
  refine ⟨by show 3 ≤ sizeLine; decide, fun l1 hl1 => ?_⟩
  generalize hG1 : upd H l1 _ = H1
  have zs1 : Same H H1 := by rw [← hG1]; exact same_new hl1
  have s1 := zs1
  have g1 : H1 l1 = some (.lst ((HEADS.map V.str))) := by rw [← hG1]; exact upd_same
  obtain ⟨h, hh, eh⟩ := at_strs (ss := HEADS) (n := n % 3) (by omega) (by show n % 3 < ((3 : Nat) : Int); omega)
  refine ⟨_, rfl, _, _, rfl, rfl, (by show (0 : Int) < 3; decide), l1, _, _, _, rfl, rfl, SqL.of g1, eh, ?_⟩
  refine ⟨by show 3 ≤ sizeLine; decide, fun l2 hl2 => ?_⟩
  generalize hG2 : upd H1 l2 _ = H2
  have zs2 : Same H1 H2 := by rw [← hG2]; exact same_new hl2
  have s2 := s1.trans zs2
  have g2 : H2 l2 = some (.lst ((MANYS.map V.str))) := by rw [← hG2]; exact upd_same
  obtain ⟨m, hm, em⟩ := at_strs (ss := MANYS) (n := n / 3 % 3) (by omega) (by show n / 3 % 3 < ((3 : Nat) : Int); omega)
  refine ⟨_, rfl, _, _, rfl, rfl, ⟨by decide, by decide⟩, _, _, rfl, rfl, (by show (0 : Int) < 3; decide), l2, _, _, _, rfl, rfl, SqL.of g2, em, ?_⟩
  refine ⟨⟨_, rfl⟩, _, rfl, by show 1 ≤ sizeLine; decide, fun l3 hl3 => ?_⟩
  generalize hG3 : upd H2 l3 _ = H3
  have zs3 : Same H2 H3 := by rw [← hG3]; exact same_new hl3
  have s3 := s2.trans zs3
  have g3 : H3 l3 = some (.lst ([V.str h])) := by rw [← hG3]; exact upd_same
  refine ⟨_, rfl, by show 1 ≤ sizeLine; decide, fun l4 hl4 => ?_⟩
  generalize hG4 : upd H3 l4 _ = H4
  have zs34 : Same H3 H4 := by rw [← hG4]; exact same_new hl4
  have s34 := zs34
  have g4 : H4 l4 = some (.lst ([V.str m])) := by rw [← hG4]; exact upd_same
  refine ⟨l4, 6000, [V.str m], rfl, rfl, g4, by decide, by decide, by show 1 * 6000 ≤ sizeLine; decide, fun l5 hl5 => ?_⟩
  obtain ⟨N, hN⟩ : ∃ N : Nat, N = 6000 := ⟨_, rfl⟩
  rw [show ((6000 : Int).toNat) = N from by rw [hN]; rfl, flat_rep]
  generalize hG5 : upd H4 l5 _ = H5
  have zs45 : Same H4 H5 := by rw [← hG5]; exact same_new hl5
  have s45 := zs45
  have g5 : H5 l5 = some (.lst (((List.replicate N m).map V.str))) := by rw [← hG5]; exact upd_same
  refine ⟨l3, l5, [V.str h], _, rfl, rfl, s45 _ _ (s34 _ _ g3), g5, by rw [List.length_map, List.length_replicate]; exact sizeL2 (by show 1 + N ≤ _; omega), fun l6 hl6 => ?_⟩
  rw [show [V.str h] ++ (List.replicate N m).map V.str = (h :: List.replicate N m).map V.str from rfl]
  generalize hG6 : upd H5 l6 _ = H6
  have zs56 : Same H5 H6 := by rw [← hG6]; exact same_new hl6
  have s56 := zs56
  have g6 : H6 l6 = some (.lst (((h :: List.replicate N m).map V.str))) := by rw [← hG6]; exact upd_same
  have s6 := s3.trans (s34.trans (s45.trans s56))
  have t1 := many_len hh hm N
  refine ⟨_, l6, h :: List.replicate N m, rfl, rfl, .inl (SqL.of g6), by rw [sum_tot len_sp]; omega, ?_⟩
  have jl := join_tot (ws := h :: List.replicate N m) tl_sp
  obtain ⟨b1, b2⟩ := many_bk hh hm N
  rw [decide_eq_true (by omega)] at b1
  obtain ⟨m1, m2⟩ := many_ms hh hm N
  refine ⟨_, rfl, .inl ⟨manyT h m N, rfl, by unfold manyT; omega, fun _ r xs H7 s7 hr ha => ?_, fun c => by rw [b1] at c; cases c⟩⟩
  rw [b2] at ha
  cases ha with
  | cons he ht =>
  cases ht
  obtain ⟨t, ta, rfl, h2, h3⟩ := he
  rcases h3 with ⟨cw, _⟩ | ⟨_, l, _, h3, h4⟩
  · exact absurd cw m2
  have hlen : (((enOf (manyT h m N)).ms.map V.int).length : Int) = 6000 := by rw [List.length_map, m1, hN]; rfl
  refine ⟨r, _, _, _, rfl, rfl, SqL.of hr, rfl, t, _, _, _, rfl, rfl, SqT.of h3, rfl, l, _, rfl, .inl (SqL.of h4), rfl, _, rfl, ?_⟩
  rw [hlen]
  refine iteNF rfl ?_
  -- one more
  have s07 := s6.trans s7
  refine ⟨⟨_, rfl⟩, _, rfl, by show 1 ≤ sizeLine; decide, fun l8 hl8 => ?_⟩
  generalize hG8 : upd H7 l8 _ = H8
  have zs8 : Same H7 H8 := by rw [← hG8]; exact same_new hl8
  have s8 := s07.trans zs8
  have g8 : H8 l8 = some (.lst ([V.str h])) := by rw [← hG8]; exact upd_same
  refine ⟨_, rfl, by show 1 ≤ sizeLine; decide, fun l9 hl9 => ?_⟩
  generalize hG9 : upd H8 l9 _ = H9
  have zs89 : Same H8 H9 := by rw [← hG9]; exact same_new hl9
  have s89 := zs89
  have g9 : H9 l9 = some (.lst ([V.str m])) := by rw [← hG9]; exact upd_same
  refine ⟨l9, 6001, [V.str m], rfl, rfl, g9, by decide, by decide, by show 1 * 6001 ≤ sizeLine; decide, fun lA hlA => ?_⟩
  obtain ⟨M, hM⟩ : ∃ M : Nat, M = 6001 := ⟨_, rfl⟩
  rw [show ((6001 : Int).toNat) = M from by rw [hM]; rfl, flat_rep]
  generalize hGA : upd H9 lA _ = HA
  have zs9A : Same H9 HA := by rw [← hGA]; exact same_new hlA
  have s9A := zs9A
  have gA : HA lA = some (.lst (((List.replicate M m).map V.str))) := by rw [← hGA]; exact upd_same
  refine ⟨l8, lA, [V.str h], _, rfl, rfl, s9A _ _ (s89 _ _ g8), gA, by rw [List.length_map, List.length_replicate]; exact sizeL2 (by show 1 + M ≤ _; omega), fun lB hlB => ?_⟩
  rw [show [V.str h] ++ (List.replicate M m).map V.str = (h :: List.replicate M m).map V.str from rfl]
  generalize hGB : upd HA lB _ = HB
  have zsAB : Same HA HB := by rw [← hGB]; exact same_new hlB
  have sAB := zsAB
  have gB : HB lB = some (.lst (((h :: List.replicate M m).map V.str))) := by rw [← hGB]; exact upd_same
  have sB := s8.trans (s89.trans (s9A.trans sAB))
  have t2 := many_len hh hm M
  refine ⟨_, lB, h :: List.replicate M m, rfl, rfl, .inl (SqL.of gB), by rw [sum_tot len_sp]; omega, ?_⟩
  have jl2 := join_tot (ws := h :: List.replicate M m) tl_sp
  obtain ⟨d1, _⟩ := many_bk hh hm M
  rw [decide_eq_false (by omega)] at d1
  refine ⟨_, rfl, .inl ⟨manyT h m M, rfl, by unfold manyT; omega, (fun c => by rw [d1] at c; cases c), fun _ HC sC => ?_⟩⟩
  refine ⟨.str "refused", .str "refused", .str _, .str _, by decide +kernel, by decide +kernel, ?_⟩
  have := q HC (sB.trans sC)
  exact this

end
end K82
namespace K82
open PySem L2 TL
section
variable {P : Program} {w : World} {K : PySem.W.Frag} {mg : Str → Option Value} {base : Heap} {A : Ads}
theorem ok_law (T : Txt K mg A) : FnOk P w K mg base CX0 8 A.law A.law_d ["_law_script"] (spLaw K) := by
  have G_l_cell := ok_l_cell (P := P) (w := w) (base := base) T
  have G_l_many_right := ok_l_many_right (P := P) (w := w) (base := base) T
  have G_l_well := ok_l_well (P := P) (w := w) (base := base) T
  have G_l_lines := ok_l_lines (P := P) (w := w) (base := base) T
  have G_l_draw := ok_l_draw (P := P) (w := w) (base := base) T
  have G_l_spoiled := ok_l_spoiled (P := P) (w := w) (base := base) T
  have G_l_found := ok_l_found (P := P) (w := w) (base := base) T
  have G_l_due := ok_l_due (P := P) (w := w) (base := base) T
  refine T.F_law.ok sc_law (fun vs H Q E h => ?_) (fun cdv A0 outer s H vs Q E hr h => ?_)
  · obtain ⟨a, ns, rfl, hS, hlen, q⟩ := h
    rfl
  obtain ⟨a, ns, rfl, hS, hlen, q⟩ := h
  refine ⟨_, (pss_cons (ps_cut (ps_if (PW.pt (pw_and (pt_cmpR op_eq (pe_op op_mod (pe_op op_fdiv (pe_call G_l_cell (hr.mono (by decide)) rfl T.m_l_cell T.F_l_cell.kp T.b_l_cell .nil pass0 (pa_cons (pv 0) (pa_cons pe_int pa_nil))) pe_int) pe_int) pe_int (nomark _)) (pw_and1 (pt_not (pt_val (pe_call G_l_many_right (hr.mono (by decide)) rfl T.m_l_many_right T.F_l_many_right.kp T.b_l_many_right .nil pass0 (pa_cons (pe_call G_l_cell (hr.mono (by decide)) rfl T.m_l_cell T.F_l_cell.kp T.b_l_cell .nil pass0 (pa_cons (pv 0) (pa_cons pe_int pa_nil))) pa_nil)))))))
    (pss_one (ps_ret pe_bl))
    pss_nil))
   (pss_cons (ps_for PassesOwn.never rfl (pi_range2 (by rfl) T.z_range (pa_cons pe_int (pa_cons pe_int pa_nil))) (pg_name (i := 1) sc_law.nd rfl (Or.inl rfl))
    (pss_cons (ps_set (i := 2) sc_law.nd rfl (Or.inl rfl) (pe_call G_l_well (hr.mono (by decide)) rfl T.m_l_well T.F_l_well.kp T.b_l_well .nil pass0 (pa_cons (pv 0) (pa_cons (pv 1) pa_nil))))
   (pss_cons (ps_set (i := 3) sc_law.nd rfl (Or.inl rfl) (pe_call G_l_lines (hr.mono (by decide)) rfl T.m_l_lines T.F_l_lines.kp T.b_l_lines .nil pass0 (pa_cons (pv 2) pa_nil)))
   (pss_cons (ps_set (i := 2) sc_law.nd rfl (Or.inl rfl) (pe_call G_l_well (hr.mono (by decide)) rfl T.m_l_well T.F_l_well.kp T.b_l_well .nil pass0 (pa_cons (pv 0) (pa_cons (pe_op op_add (pv 1) pe_int) pa_nil))))
   (pss_cons (ps_for PassesOwn.never rfl (pi_range1 (by rfl) T.z_range (pa_cons (pe_call G_l_draw (hr.mono (by decide)) rfl T.m_l_draw T.F_l_draw.kp T.b_l_draw .nil pass0 (pa_cons (pv 2) (pa_cons pe_int pa_nil))) pa_nil)) (pg_name (i := 4) sc_law.nd rfl (Or.inl rfl))
    (pss_one (ps_set (i := 3) sc_law.nd rfl (Or.inl rfl) (pe_call G_l_spoiled (hr.mono (by decide)) rfl T.m_l_spoiled T.F_l_spoiled.kp T.b_l_spoiled .nil pass0 (pa_cons (pv 2) (pa_cons (pv 3) pa_nil))))))
   (pss_cons (ps_set (i := 5) sc_law.nd rfl (Or.inl rfl) (pe_join pe_str (pv 3)))
   (pss_cons (ps_for PassesOwn.never rfl (pi_list (pe_lst (pa_cons (pv 5) (pa_cons (pe_op op_add_str (pv 5) pe_str) (pa_cons (pe_op op_add_str pe_str (pv 5)) pa_nil))))) (pg_name (i := 6) sc_law.nd rfl (Or.inl rfl))
    (pss_one (ps_if (pt_cmpR (op_neD hr.units) (pe_call G_l_found (hr.mono (by decide)) rfl T.m_l_found T.F_l_found.kp T.b_l_found .nil pass0 (pa_cons (pv 6) pa_nil)) (pe_call G_l_due (hr.mono (by decide)) rfl T.m_l_due T.F_l_due.kp T.b_l_due .nil pass0 (pa_cons (pv 6) pa_nil)) (nomark _))
    (pss_one (ps_ret pe_bl))
    pss_nil)))
   (pss_cons (ps_cut (ps_set (i := 7) sc_law.nd rfl (Or.inl rfl) (pe_ix ix_list (pe_lst (pa_cons pe_non (pa_cons pe_int (pa_cons pe_bl (pa_cons (pe_lst (pa_cons pe_str pa_nil)) (pa_cons (pe_tup (pa_cons pe_str (pa_cons (pe_tup pa_nil) pa_nil))) pa_nil)))))) (pe_call G_l_draw (hr.mono (by decide)) rfl T.m_l_draw T.F_l_draw.kp T.b_l_draw .nil pass0 (pa_cons (pv 2) (pa_cons pe_int pa_nil))) (fun _ _ => rfl))))
   (pss_one (ps_if (pt_cmpR (op_neD hr.units) (pe_call G_l_found (hr.mono (by decide)) rfl T.m_l_found T.F_l_found.kp T.b_l_found .nil pass0 (pa_cons (pv 7) pa_nil)) pe_str (nomark _))
    (pss_one (ps_ret pe_bl))
    pss_nil))))))))))
   (pss_one (ps_ret pe_bl)))), ?_⟩
  refine ⟨fun σ' H' => σ' = [some (.ref a), none, none, none, none, none, none, none] ∧ Same H H', ?_, ?_⟩
  · refine ⟨_, rfl, a, ns, 0, rfl, hS, by decide, fun c0 => ?_⟩
    refine ⟨_, _, rfl, rfl, ⟨by decide, by decide⟩, _, _, rfl, rfl, (by show (0 : Int) < 4; decide), rfl, _, rfl, iteD2 (fun c => ?_) (fun c => ?_)⟩
    · refine ⟨_, rfl, a, ns, 11, rfl, hS, by decide, fun c1 => ⟨_, rfl, fun H1 s1 => ⟨_, rfl, ?_⟩⟩⟩
      exact ⟨rfl, s1⟩
    · exact ⟨rfl, Same.refl H⟩
  rintro σ H1 ⟨rfl, s1⟩
  refine ⟨1, 6, rfl, ⟨by decide, by decide, by decide, by decide⟩, for_range (lo := 1) (n := 5) (fun i σ H' => ∃ (z1 z2 z3 z4 z5 z6 z7 : Option V), σ = [some (.ref a), z1, z2, z3, z4, z5, z6, z7] ∧ Same H H') ⟨none, none, none, none, none, none, none, rfl, s1⟩ ?_ ?_⟩
  rotate_left
  · rintro σ H2 ⟨z1, z2, z3, z4, z5, z6, z7, rfl, s2⟩
    exact q _
  rintro i σ H2 hi ⟨z1, z2, z3, z4, z5, z6, z7, rfl, s2⟩
  refine ⟨_, rfl, _, rfl, a, ns, 1 + (i : Int), rfl, s2.seq hS, by omega, fun p H3 hp s3 W3 => ?_⟩
  refine ⟨_, rfl, p, rfl, W3, fun l ls H4 h4 nl hln hok k4 W4 => ?_⟩
  have s24 : Same H2 H4 := KeepX.same hp ((keepX_of s3).trans k4)
  have s04 := s2.trans s24
  refine ⟨_, rfl, _, rfl, _, _, rfl, rfl, a, ns, 1 + (i : Int) + 5, rfl, s04.seq hS, by omega, fun p2 H5 hp2 s5 W5 => ?_⟩
  have n2 : l ≠ p2 := ne_of_none h4 hp2
  refine ⟨_, rfl, p2, 4, rfl, W5, by decide, by decide, fun n H6 n0 n1 k6 W6 => ?_⟩
  have k46 := (keepX_of s5).trans k6
  refine ⟨n, rfl, by omega, by omega, for_range (n := n.toNat) (fun j σ H' => ∃ (b : Addr) (us : List Str) (z4 z5 z6 z7 : Option V), σ = [some (.ref a), some (.int (1 + (i : Int))), some (.ref p2), some (.ref b), z4, z5, z6, z7] ∧ H' b = some (.lst (us.map V.str)) ∧ b ≠ p2 ∧ us.length ≤ 4 + j ∧ (∀ t ∈ us, LnB (bnd j) t) ∧ KeepX p2 H4 H' ∧ WellAt H' p2)
    ⟨l, ls, z4, z5, z6, z7, rfl, k46 _ _ n2 h4, n2, by omega, hok, k46, W6⟩ ?_ ?_⟩
  · rintro j σ H7 hj ⟨b, us, y4, y5, y6, y7, rfl, h7, nb, hul, huk, k7, W7⟩
    have hb : bnd j ≤ 6484 := bnd_le j (by omega)
    refine ⟨_, rfl, _, rfl, p2, b, us, bnd j, rfl, W7, h7, nb, by omega, huk, by omega, fun b2 us2 H8 h8 nb2 hul2 huk2 k8 W8 => ?_⟩
    exact ⟨b2, us2, _, _, _, _, rfl, h8, nb2, by omega, huk2, k7.trans k8, W8⟩
  rintro σ H7 ⟨b, us, y4, y5, y6, y7, rfl, h7, nb, hul, huk, k7, W7⟩
  have hb : bnd n.toNat ≤ 6484 := bnd_le _ (by omega)
  have hus : ∀ t ∈ us, LnB 6484 t := fun t ht => (huk t ht).mono hb
  have ht : tot us ≤ 7 * 6485 := Nat.le_trans (tot_all fun t ht => (hus t ht).1) (Nat.mul_le_mul_right _ (by omega))
  refine ⟨⟨_, rfl⟩, _, rfl, _, b, us, rfl, rfl, .inl (SqL.of h7), by rw [sum_tot len_nl]; omega, ?_⟩
  have tl1 : (Txt.join (Str.ofString "\n") us).length ≤ 50000 := Nat.le_trans (join_tot tl_nl) (by omega)
  have ta1 : Ascii (Txt.join (Str.ofString "\n") us) := ascii_join ascii_nl fun t ht => (hus t ht).2
  generalize Txt.join (Str.ofString "\n") us = tx at tl1 ta1 ⊢
  have s07 : Same H H7 := s04.trans (KeepX.same hp2 k7)
  have hall : ∀ t ∈ [tx, tx ++ Str.ofString "\n", Str.ofString "\n" ++ tx], t.length ≤ 100000 ∧ Ascii t := fun t hm => by
    simp only [List.mem_cons, List.not_mem_nil, or_false] at hm
    rcases hm with h | h | h
    · rw [h]; exact ⟨by omega, ta1⟩
    · rw [h, len_app_nl]; exact ⟨by omega, ascii_app ta1 ascii_nl⟩
    · rw [h, len_nl_app]; exact ⟨by omega, ascii_app ascii_nl ta1⟩
  refine ⟨_, rfl, _, rfl, _, _, rfl, rfl, by rw [len_nl]; exact sizeL2 (by omega), ?_⟩
  refine ⟨_, rfl, _, _, rfl, rfl, by rw [len_nl]; exact sizeL2 (by omega), ?_⟩
  refine ⟨by show 3 ≤ sizeLine; decide, fun l3 hl3 => ?_⟩
  generalize hG8 : upd H7 l3 _ = H8
  have s8 : Same H7 H8 := by rw [← hG8]; exact same_new hl3
  have g8 : H8 l3 = some (.lst (([tx, tx ++ Str.ofString "\n", Str.ofString "\n" ++ tx] : List Str).map V.str)) := by rw [← hG8]; exact upd_same
  have W8 := W7.same s8
  refine ⟨l3, rfl, ⟨_, SqL.of g8⟩, for_list (xs := ([tx, tx ++ Str.ofString "\n", Str.ofString "\n" ++ tx] : List Str).map V.str) (fun j σ H' => ∃ (z4 z6 z7 : Option V), σ = [some (.ref a), some (.int (1 + (i : Int))), some (.ref p2), some (.ref b), z4, some (.str tx), z6, z7] ∧ Same H8 H') ⟨y4, y6, y7, rfl, Same.refl H8⟩ (fun j σ H' _ ⟨_, _, _, _, h⟩ => SqL.of (h _ _ g8)) ?_ ?_⟩
  · rintro j v σ H9 hv ⟨w4, w6, w7, rfl, s9⟩
    rw [List.getElem?_map] at hv
    obtain ⟨t, ht, rfl⟩ := Option.map_eq_some_iff.mp hv
    obtain ⟨hl, hasc⟩ := hall t (List.mem_of_getElem? ht)
    refine ⟨_, rfl, .str t, rfl, .inl ⟨t, rfl, hl, fun c r xs HA sA hr ha => ?_, fun c HA sA => ?_⟩⟩
    · have hk := bkOf_kind c
      have ev : PyData.eqv (bookData (bkOf t)) (bookData (bkOf t)) = true := SeqAt.eqv_refl _ (kinds_lay hk)
      refine ⟨_, rfl, t, rfl, hl, hasc, fun _ r2 xs2 HB sB hr2 ha2 => ?_, fun c2 => by rw [c] at c2; cases c2⟩
      refine ⟨bookData (bkOf t), bookData (bkOf t), book_dp (sB _ _ hr) (ha.mono fun e v h => h.same sB), book_dp hr2 ha2, kinds_shaped hk, kinds_shaped hk, _, rfl, ?_⟩
      rw [ev]
      refine iteF ?_
      exact ⟨_, _, _, rfl, s9.trans (sA.trans sB)⟩
    · refine ⟨_, rfl, t, rfl, hl, hasc, (fun c2 => by rw [c] at c2; cases c2), fun _ HB sB => ?_⟩
      refine ⟨.str "refused", .str "refused", .str _, .str _, by decide +kernel, by decide +kernel, _, rfl, ?_⟩
      rw [show PyData.eqv (.str "refused") (.str "refused") = true from by decide +kernel]
      refine iteF ?_
      exact ⟨_, _, _, rfl, s9.trans (sA.trans sB)⟩
  rintro σ H9 ⟨w4, w6, w7, rfl, s9⟩
  have W9 := W8.same s9
  have s09 := s07.trans (s8.trans s9)
  have k49 : KeepX p2 H4 H9 := k7.trans (keepX_of (s8.trans s9))
  refine ⟨fun σ' H' => ∃ x : V, σ' = [some (.ref a), some (.int (1 + (i : Int))), some (.ref p2), some (.ref b), w4, some (.str tx), w6, some x] ∧ (∃ ty, TyX K H' x ty ∧ PySem.W.kitOne K ty (.type "str") = some false) ∧ Same H H', ?_, ?_⟩
  · refine ⟨by show 1 ≤ sizeLine; decide, fun l1 hl1 => ⟨by show 0 ≤ sizeLine; decide, fun t0 ht0 => ⟨by show 2 ≤ sizeLine; decide, fun t1 ht1 => ⟨by show 5 ≤ sizeLine; decide, fun l2 hl2 => ?_⟩⟩⟩⟩
    have a1 := same_new (o := .lst [V.str "done -"]) hl1
    have a2 := same_new (o := .tup ([] : List V)) ht0
    have a3 := same_new (o := .tup [V.str "done", V.ref t0]) ht1
    have a4 := same_new (o := .lst [V.non, V.int 7, V.bl true, V.ref l1, V.ref t1]) hl2
    have g1 := a4 _ _ (a3 _ _ (a2 _ _ (upd_same (H := H9) (a := l1) (o := .lst [V.str "done -"]))))
    have gt := a4 _ _ (upd_same (H := upd (upd H9 l1 (.lst [V.str "done -"])) t0 (.tup ([] : List V))) (a := t1) (o := .tup [V.str "done", V.ref t0]))
    have aA := a1.trans (a2.trans (a3.trans a4))
    have Wx := W9.same aA
    have nl2 : l2 ≠ p2 := (W9.same (a1.trans (a2.trans a3))).fresh hl2
    refine ⟨_, rfl, p2, 5, rfl, Wx, by decide, by decide, fun z H' z0 z1 k W' => ?_⟩
    have g3 := k _ _ nl2 upd_same
    have g1 := k _ _ (W9.fresh hl1) g1
    have gt := k _ _ ((W9.same (a1.trans a2)).fresh ht1) gt
    have sz : Same H H' := s04.trans (KeepX.same hp2 (k49.trans ((keepX_of aA).trans k)))
    have hz : z = 0 ∨ z = 1 ∨ z = 2 ∨ z = 3 ∨ z = 4 := by omega
    rcases hz with rfl | rfl | rfl | rfl | rfl
    · exact ⟨l2, _, _, _, rfl, rfl, SqL.of g3, rfl, .non, rfl, ⟨_, .base .non, kit_ty (by decide +kernel)⟩, sz⟩
    · exact ⟨l2, _, _, _, rfl, rfl, SqL.of g3, rfl, .int 7, rfl, ⟨_, .base (.int _), kit_ty (by decide +kernel)⟩, sz⟩
    · exact ⟨l2, _, _, _, rfl, rfl, SqL.of g3, rfl, .bl true, rfl, ⟨_, .base (.bl _), kit_ty (by decide +kernel)⟩, sz⟩
    · exact ⟨l2, _, _, _, rfl, rfl, SqL.of g3, rfl, .ref l1, rfl, ⟨_, .base (.lst g1), kit_ty (by decide +kernel)⟩, sz⟩
    · exact ⟨l2, _, _, _, rfl, rfl, SqL.of g3, rfl, .ref t1, rfl, ⟨_, .base (.tup gt), kit_ty (by decide +kernel)⟩, sz⟩
  rintro σ HA ⟨x, rfl, ⟨ty, hty, hkt⟩, sA⟩
  refine ⟨_, rfl, x, rfl, .inr ⟨ty, hty, hkt, fun HB sB => ?_⟩⟩
  refine ⟨.str "refused", .str "refused", .str _, .str _, by decide +kernel, by decide +kernel, _, rfl, ?_⟩
  rw [show PyData.eqv (.str "refused") (.str "refused") = true from by decide +kernel]
  refine iteF ?_
  exact ⟨_, _, _, _, _, _, _, rfl, sA.trans sB⟩

end
end K82
namespace K82
open PySem PySem.Spec PyProof.Rows L2 TL
def hD_is_value_word : He.DefD := ⟨("is_value_word", none), "is_value_word", "is_value_word", defArgs s_is_value_word, defBody s_is_value_word, defScope s_is_value_word, [], []⟩
def hD_check_text : He.DefD := ⟨("check_text", none), "check_text", "check_text", defArgs s_check_text, defBody s_check_text, defScope s_check_text, [], []⟩
def hD_number_in : He.DefD := ⟨("number_in", none), "number_in", "number_in", defArgs s_number_in, defBody s_number_in, defScope s_number_in, [], []⟩
def hD_address_in : He.DefD := ⟨("address_in", none), "address_in", "address_in", defArgs s_address_in, defBody s_address_in, defScope s_address_in, [], []⟩
def hD_maker_in : He.DefD := ⟨("maker_in", none), "maker_in", "maker_in", defArgs s_maker_in, defBody s_maker_in, defScope s_maker_in, [], []⟩
def hD_entry_in : He.DefD := ⟨("entry_in", none), "entry_in", "entry_in", defArgs s_entry_in, defBody s_entry_in, defScope s_entry_in, [], []⟩
def hD_read_book : He.DefD := ⟨("read_book", none), "read_book", "read_book", defArgs s_read_book, defBody s_read_book, defScope s_read_book, [], []⟩
def hD_l_cell : He.DefD := ⟨("_law_cell", none), "_law_cell", "_law_cell", defArgs s_l_cell, defBody s_l_cell, defScope s_l_cell, [], []⟩
def hD_l_mixed : He.DefD := ⟨("_law_mixed", none), "_law_mixed", "_law_mixed", defArgs s_l_mixed, defBody s_l_mixed, defScope s_l_mixed, [], []⟩
def hD_l_twice : He.DefD := ⟨("_law_twice", none), "_law_twice", "_law_twice", defArgs s_l_twice, defBody s_l_twice, defScope s_l_twice, [], []⟩
def hD_l_well : He.DefD := ⟨("_law_well", none), "_law_well", "_law_well", defArgs s_l_well, defBody s_l_well, defScope s_l_well, [], []⟩
def hD_l_draw : He.DefD := ⟨("_law_draw", none), "_law_draw", "_law_draw", defArgs s_l_draw, defBody s_l_draw, defScope s_l_draw, [], []⟩
def hD_l_number : He.DefD := ⟨("_law_number", none), "_law_number", "_law_number", defArgs s_l_number, defBody s_l_number, defScope s_l_number, [], []⟩
def hD_l_address : He.DefD := ⟨("_law_address", none), "_law_address", "_law_address", defArgs s_l_address, defBody s_l_address, defScope s_l_address, [], []⟩
def hD_l_address_text : He.DefD := ⟨("_law_address_text", none), "_law_address_text", "_law_address_text", defArgs s_l_address_text, defBody s_l_address_text, defScope s_l_address_text, [], []⟩
def hD_l_is_number : He.DefD := ⟨("_law_is_number", none), "_law_is_number", "_law_is_number", defArgs s_l_is_number, defBody s_l_is_number, defScope s_l_is_number, [], []⟩
def hD_l_address_of : He.DefD := ⟨("_law_address_of", none), "_law_address_of", "_law_address_of", defArgs s_l_address_of, defBody s_l_address_of, defScope s_l_address_of, [], []⟩
def hD_l_lines : He.DefD := ⟨("_law_lines", none), "_law_lines", "_law_lines", defArgs s_l_lines, defBody s_l_lines, defScope s_l_lines, [], []⟩
def hD_l_menu : He.DefD := ⟨("_law_menu", none), "_law_menu", "_law_menu", defArgs s_l_menu, defBody s_l_menu, defScope s_l_menu, [], []⟩
def hD_l_spoiled_line : He.DefD := ⟨("_law_spoiled_line", none), "_law_spoiled_line", "_law_spoiled_line", defArgs s_l_spoiled_line, defBody s_l_spoiled_line, defScope s_l_spoiled_line, [], []⟩
def hD_l_spoiled : He.DefD := ⟨("_law_spoiled", none), "_law_spoiled", "_law_spoiled", defArgs s_l_spoiled, defBody s_l_spoiled, defScope s_l_spoiled, [], []⟩
def hD_l_entry : He.DefD := ⟨("_law_entry", none), "_law_entry", "_law_entry", defArgs s_l_entry, defBody s_l_entry, defScope s_l_entry, [], []⟩
def hD_l_due : He.DefD := ⟨("_law_due", none), "_law_due", "_law_due", defArgs s_l_due, defBody s_l_due, defScope s_l_due, [], []⟩
def hD_l_found : He.DefD := ⟨("_law_found", none), "_law_found", "_law_found", defArgs s_l_found, defBody s_l_found, defScope s_l_found, [], []⟩
def hD_l_many_right : He.DefD := ⟨("_law_many_right", none), "_law_many_right", "_law_many_right", defArgs s_l_many_right, defBody s_l_many_right, defScope s_l_many_right, [], []⟩
def hD_law : He.DefD := ⟨("law", none), "law", "law", defArgs s_law, defBody s_law, defScope s_law, [], []⟩
def hFn : List He.DefD := ([hD_is_value_word, hD_check_text, hD_number_in, hD_address_in, hD_maker_in, hD_entry_in, hD_read_book, hD_l_cell, hD_l_mixed, hD_l_twice, hD_l_well, hD_l_draw, hD_l_number, hD_l_address, hD_l_address_text, hD_l_is_number, hD_l_address_of, hD_l_lines, hD_l_menu, hD_l_spoiled_line, hD_l_spoiled, hD_l_entry, hD_l_due, hD_l_found, hD_l_many_right, hD_law] : List He.DefD)
def hFa : List FaM := ([fun K => (He.Fa.glo "is_value_word").ok K,
  fun K => (He.Fa.glo "check_text").ok K,
  fun K => (He.Fa.glo "number_in").ok K,
  fun K => (He.Fa.glo "address_in").ok K,
  fun K => (He.Fa.glo "maker_in").ok K,
  fun K => (He.Fa.glo "entry_in").ok K,
  fun K => (He.Fa.glo "read_book").ok K,
  fun K => (He.Fa.glo "_law_cell").ok K,
  fun K => (He.Fa.glo "_law_mixed").ok K,
  fun K => (He.Fa.glo "_law_twice").ok K,
  fun K => (He.Fa.glo "_law_well").ok K,
  fun K => (He.Fa.glo "_law_draw").ok K,
  fun K => (He.Fa.glo "_law_number").ok K,
  fun K => (He.Fa.glo "_law_address").ok K,
  fun K => (He.Fa.glo "_law_address_text").ok K,
  fun K => (He.Fa.glo "_law_is_number").ok K,
  fun K => (He.Fa.glo "_law_address_of").ok K,
  fun K => (He.Fa.glo "_law_lines").ok K,
  fun K => (He.Fa.glo "_law_menu").ok K,
  fun K => (He.Fa.glo "_law_spoiled_line").ok K] : List FaM) ++
  ([fun K => (He.Fa.glo "_law_spoiled").ok K,
  fun K => (He.Fa.glo "_law_entry").ok K,
  fun K => (He.Fa.glo "_law_due").ok K,
  fun K => (He.Fa.glo "_law_found").ok K,
  fun K => (He.Fa.glo "_law_many_right").ok K,
  fun K => (He.Fa.glo "law").ok K,
  fun K => (He.Fa.exc "NoText").ok K,
  fun K => (He.Fa.glo "NoText").ok K,
  fun K => (He.Fa.exc "HadError").ok K,
  fun K => (He.Fa.glo "HadError").ok K,
  fun K => (He.Fa.glo "BadBook").ok K,
  fun K => (He.Fa.exc "NoChange").ok K,
  fun K => (He.Fa.glo "NoChange").ok K,
  fun K => (He.Fa.exc "NoMoment").ok K,
  fun K => (He.Fa.glo "NoMoment").ok K,
  fun K => (He.Fa.exc "NoProgram").ok K,
  fun K => (He.Fa.glo "NoProgram").ok K,
  fun K => decide (PySem.W.findIn K (.ref (He.ga K "NoText")) "__getattribute__" = some (some (.builtin "BaseException.__getattribute__"))),
  fun K => decide (PySem.W.findIn K (.ref (He.ga K "NoText")) "__getattr__" = some none),
  fun K => decide (PySem.W.hasDictIn K (He.ga K "NoText") = true)] : List FaM) ++
  ([fun K => decide (PySem.W.findIn K (.ref (He.ga K "NoText")) "__class__" = some (some (.builtin "object.__class__"))),
  fun K => decide (PySem.W.specialIn K (.builtin "object.__class__") "__get__" = some (some (.builtin "getset_descriptor.__get__"))),
  fun K => decide (PySem.W.takesIn K (.builtin "object.__class__") = some true),
  fun K => decide (PySem.W.mroIn K (He.ga K "NoText") (.type "object") = some true),
  fun K => decide (PySem.W.exmOne K (.ref (He.ga K "NoText")) (.ref (He.ga K "HadError")) = some true),
  fun K => decide (PySem.W.kitAny K (.ref (He.ga K "NoText")) [.ref (He.ga K "BadBook"), .ref (He.ga K "NoChange"), .ref (He.ga K "NoMoment"), .ref (He.ga K "NoProgram")] = some false),
  fun K => decide (PySem.W.kitOne K (.ref (He.ga K "NoText")) (.type "ValueError") = some true),
  fun K => (He.Fa.str "FIGURES" "0123456789").ok K,
  fun K => (He.Fa.int "MOST_NUMBERS" 100).ok K,
  fun K => (He.Fa.int "MOST_MAKERS" 6000).ok K,
  fun K => (He.Fa.free "len").ok K,
  fun K => (He.Fa.free "all").ok K,
  fun K => (He.Fa.free "int").ok K,
  fun K => (He.Fa.free "tuple").ok K,
  fun K => (He.Fa.free "str").ok K,
  fun K => (He.Fa.free "isinstance").ok K,
  fun K => (He.Fa.free "range").ok K,
  fun K => (He.Fa.free "ValueError").ok K] : List FaM)
def loose : List Str := (["HadError", "NoProgram", "NoChange", "NoMoment", "NoText", "BadBook", "FIGURES", "is_value_word", "MOST_NUMBERS", "MOST_MAKERS", "check_text", "number_in", "address_in", "maker_in", "entry_in"] : List Str) ++ (["read_book", "_law_cell", "_law_mixed", "_law_twice", "_law_well", "_law_draw", "_law_number", "_law_address", "_law_address_text", "_law_name", "_law_is_number", "_law_address_of", "_law_lines", "_law_menu", "_law_spoiled_line"] : List Str) ++ (["_law_spoiled", "_law_entry", "_law_due", "_law_found", "_law_many_right"] : List Str)
abbrev R : PySem.W.OpenRow := PySem.W.OpenLaw.row PySem.Challenge.rw_hadbeen_k82_no_book
abbrev hk : PySem.W.Hook := hookM ("law" :: loose) hFa hFn
def ob (s : PySem.W.SharedT) : He.AlD := obsMG ("law" :: loose) hFa hFn (HandSHeadRun.getT s)
theorem ob_eq (s : PySem.W.SharedT) : ob s = hk.obs s.abs := obsMG_eq (HandSHeadRun.getT_eq s)
end K82
namespace K82
open PySem PySem.Spec PyProof.Rows L2 TL
theorem run (w : World) : HandSHeadRun.RunEq R (PySem.W.view R.prog [39]) hk ob 9000 loose w := by
  intro os
  kernel_rfl
end K82
namespace K82
open PySem PySem.Spec PyProof.Rows L2 TL
set_option maxHeartbeats 0 in
theorem facts {P : Program} {w : World} {K : PySem.W.Frag} {h : Heap} {mg : Str → Option Value} {f : Addr} (X : K.In h) (G : h.Ns mainGlobals mg) (hfa : mg ("law" : Str) = some (.ref f)) (c : SaysM hFa hFn K) :
    ∃ fd : FuncData, (∀ (s : Shared) (v : Value), BindsTo s fd ⟨[v], []⟩ [("_law_script", v)]) ∧ ∀ base : Heap, K.In base → base.Ns mainGlobals mg → FnOk P w K mg base CX0 8 f fd ["_law_script"] (spLaw K) := by
  obtain ⟨d0, F0⟩ := c.def_ 0 (d := hD_is_value_word) rfl
  obtain ⟨d1, F1⟩ := c.def_ 1 (d := hD_check_text) rfl
  obtain ⟨d2, F2⟩ := c.def_ 2 (d := hD_number_in) rfl
  obtain ⟨d3, F3⟩ := c.def_ 3 (d := hD_address_in) rfl
  obtain ⟨d4, F4⟩ := c.def_ 4 (d := hD_maker_in) rfl
  obtain ⟨d5, F5⟩ := c.def_ 5 (d := hD_entry_in) rfl
  obtain ⟨d6, F6⟩ := c.def_ 6 (d := hD_read_book) rfl
  obtain ⟨d7, F7⟩ := c.def_ 7 (d := hD_l_cell) rfl
  obtain ⟨d8, F8⟩ := c.def_ 8 (d := hD_l_mixed) rfl
  obtain ⟨d9, F9⟩ := c.def_ 9 (d := hD_l_twice) rfl
  obtain ⟨d10, F10⟩ := c.def_ 10 (d := hD_l_well) rfl
  obtain ⟨d11, F11⟩ := c.def_ 11 (d := hD_l_draw) rfl
  obtain ⟨d12, F12⟩ := c.def_ 12 (d := hD_l_number) rfl
  obtain ⟨d13, F13⟩ := c.def_ 13 (d := hD_l_address) rfl
  obtain ⟨d14, F14⟩ := c.def_ 14 (d := hD_l_address_text) rfl
  obtain ⟨d15, F15⟩ := c.def_ 15 (d := hD_l_is_number) rfl
  obtain ⟨d16, F16⟩ := c.def_ 16 (d := hD_l_address_of) rfl
  obtain ⟨d17, F17⟩ := c.def_ 17 (d := hD_l_lines) rfl
  obtain ⟨d18, F18⟩ := c.def_ 18 (d := hD_l_menu) rfl
  obtain ⟨d19, F19⟩ := c.def_ 19 (d := hD_l_spoiled_line) rfl
  obtain ⟨d20, F20⟩ := c.def_ 20 (d := hD_l_spoiled) rfl
  obtain ⟨d21, F21⟩ := c.def_ 21 (d := hD_l_entry) rfl
  obtain ⟨d22, F22⟩ := c.def_ 22 (d := hD_l_due) rfl
  obtain ⟨d23, F23⟩ := c.def_ 23 (d := hD_l_found) rfl
  obtain ⟨d24, F24⟩ := c.def_ 24 (d := hD_l_many_right) rfl
  obtain ⟨d25, F25⟩ := c.def_ 25 (d := hD_law) rfl
  have e := hfa.symm.trans (He.glo_ok (x := "law") X G (c.fact 25 rfl))
  cases e
  let A : Ads := ⟨He.fAd K ("is_value_word", none), d0, He.fAd K ("check_text", none), d1, He.fAd K ("number_in", none), d2, He.fAd K ("address_in", none), d3, He.fAd K ("maker_in", none), d4, He.fAd K ("entry_in", none), d5, He.fAd K ("read_book", none), d6, He.fAd K ("_law_cell", none), d7, He.fAd K ("_law_mixed", none), d8, He.fAd K ("_law_twice", none), d9, He.fAd K ("_law_well", none), d10, He.fAd K ("_law_draw", none), d11, He.fAd K ("_law_number", none), d12, He.fAd K ("_law_address", none), d13, He.fAd K ("_law_address_text", none), d14, He.fAd K ("_law_is_number", none), d15, He.fAd K ("_law_address_of", none), d16, He.fAd K ("_law_lines", none), d17, He.fAd K ("_law_menu", none), d18, He.fAd K ("_law_spoiled_line", none), d19, He.fAd K ("_law_spoiled", none), d20, He.fAd K ("_law_entry", none), d21, He.fAd K ("_law_due", none), d22, He.fAd K ("_law_found", none), d23, He.fAd K ("_law_many_right", none), d24, He.fAd K ("law", none), d25, He.ga K "NoText", He.ga K "HadError", He.ga K "BadBook", He.ga K "NoChange", He.ga K "NoMoment", He.ga K "NoProgram"⟩
  have T : Txt K mg A :=
    { F_is_value_word := fun_of F0,
      b_is_value_word := FunD.bindsN (ps := ["word"]) F0 fun _ _ _ _ _ _ us hl => match us, hl with | [_], _ => rfl,
      m_is_value_word := He.glo_ok (x := "is_value_word") X G (c.fact 0 rfl),
      F_check_text := fun_of F1,
      b_check_text := FunD.bindsN (ps := ["good"]) F1 fun _ _ _ _ _ _ us hl => match us, hl with | [_], _ => rfl,
      m_check_text := He.glo_ok (x := "check_text") X G (c.fact 1 rfl),
      F_number_in := fun_of F2,
      b_number_in := FunD.bindsN (ps := ["word"]) F2 fun _ _ _ _ _ _ us hl => match us, hl with | [_], _ => rfl,
      m_number_in := He.glo_ok (x := "number_in") X G (c.fact 2 rfl),
      F_address_in := fun_of F3,
      b_address_in := FunD.bindsN (ps := ["word"]) F3 fun _ _ _ _ _ _ us hl => match us, hl with | [_], _ => rfl,
      m_address_in := He.glo_ok (x := "address_in") X G (c.fact 3 rfl),
      F_maker_in := fun_of F4,
      b_maker_in := FunD.bindsN (ps := ["word"]) F4 fun _ _ _ _ _ _ us hl => match us, hl with | [_], _ => rfl,
      m_maker_in := He.glo_ok (x := "maker_in") X G (c.fact 4 rfl),
      F_entry_in := fun_of F5,
      b_entry_in := FunD.bindsN (ps := ["line"]) F5 fun _ _ _ _ _ _ us hl => match us, hl with | [_], _ => rfl,
      m_entry_in := He.glo_ok (x := "entry_in") X G (c.fact 5 rfl),
      F_read_book := fun_of F6,
      b_read_book := FunD.bindsN (ps := ["text"]) F6 fun _ _ _ _ _ _ us hl => match us, hl with | [_], _ => rfl,
      m_read_book := He.glo_ok (x := "read_book") X G (c.fact 6 rfl),
      F_l_cell := fun_of F7,
      b_l_cell := FunD.bindsN (ps := ["_law_script", "_law_k"]) F7 fun _ _ _ _ _ _ us hl => match us, hl with | [_, _], _ => rfl,
      m_l_cell := He.glo_ok (x := "_law_cell") X G (c.fact 7 rfl),
      F_l_mixed := fun_of F8,
      b_l_mixed := FunD.bindsN (ps := ["_law_cell_here", "_law_k"]) F8 fun _ _ _ _ _ _ us hl => match us, hl with | [_, _], _ => rfl,
      m_l_mixed := He.glo_ok (x := "_law_mixed") X G (c.fact 8 rfl),
      F_l_twice := fun_of F9,
      b_l_twice := FunD.bindsN (ps := ["_law_cell_here", "_law_k"]) F9 fun _ _ _ _ _ _ us hl => match us, hl with | [_, _], _ => rfl,
      m_l_twice := He.glo_ok (x := "_law_twice") X G (c.fact 9 rfl),
      F_l_well := fun_of F10,
      b_l_well := FunD.bindsN (ps := ["_law_script", "_law_k"]) F10 fun _ _ _ _ _ _ us hl => match us, hl with | [_, _], _ => rfl,
      m_l_well := He.glo_ok (x := "_law_well") X G (c.fact 10 rfl),
      F_l_draw := fun_of F11,
      b_l_draw := FunD.bindsN (ps := ["_law_well_here", "_law_most"]) F11 fun _ _ _ _ _ _ us hl => match us, hl with | [_, _], _ => rfl,
      m_l_draw := He.glo_ok (x := "_law_draw") X G (c.fact 11 rfl),
      F_l_number := fun_of F12,
      b_l_number := FunD.bindsN (ps := ["_law_well_here"]) F12 fun _ _ _ _ _ _ us hl => match us, hl with | [_], _ => rfl,
      m_l_number := He.glo_ok (x := "_law_number") X G (c.fact 12 rfl),
      F_l_address := fun_of F13,
      b_l_address := FunD.bindsN (ps := ["_law_well_here"]) F13 fun _ _ _ _ _ _ us hl => match us, hl with | [_], _ => rfl,
      m_l_address := He.glo_ok (x := "_law_address") X G (c.fact 13 rfl),
      F_l_address_text := fun_of F14,
      b_l_address_text := FunD.bindsN (ps := ["_law_address_here"]) F14 fun _ _ _ _ _ _ us hl => match us, hl with | [_], _ => rfl,
      m_l_address_text := He.glo_ok (x := "_law_address_text") X G (c.fact 14 rfl),
      F_l_is_number := fun_of F15,
      b_l_is_number := FunD.bindsN (ps := ["_law_word"]) F15 fun _ _ _ _ _ _ us hl => match us, hl with | [_], _ => rfl,
      m_l_is_number := He.glo_ok (x := "_law_is_number") X G (c.fact 15 rfl),
      F_l_address_of := fun_of F16,
      b_l_address_of := FunD.bindsN (ps := ["_law_word"]) F16 fun _ _ _ _ _ _ us hl => match us, hl with | [_], _ => rfl,
      m_l_address_of := He.glo_ok (x := "_law_address_of") X G (c.fact 16 rfl),
      F_l_lines := fun_of F17,
      b_l_lines := FunD.bindsN (ps := ["_law_well_here"]) F17 fun _ _ _ _ _ _ us hl => match us, hl with | [_], _ => rfl,
      m_l_lines := He.glo_ok (x := "_law_lines") X G (c.fact 17 rfl),
      F_l_menu := fun_of F18,
      b_l_menu := FunD.bindsN (ps := ["_law_well_here"]) F18 fun _ _ _ _ _ _ us hl => match us, hl with | [_], _ => rfl,
      m_l_menu := He.glo_ok (x := "_law_menu") X G (c.fact 18 rfl),
      F_l_spoiled_line := fun_of F19,
      b_l_spoiled_line := FunD.bindsN (ps := ["_law_well_here", "_law_line"]) F19 fun _ _ _ _ _ _ us hl => match us, hl with | [_, _], _ => rfl,
      m_l_spoiled_line := He.glo_ok (x := "_law_spoiled_line") X G (c.fact 19 rfl),
      F_l_spoiled := fun_of F20,
      b_l_spoiled := FunD.bindsN (ps := ["_law_well_here", "_law_lines_here"]) F20 fun _ _ _ _ _ _ us hl => match us, hl with | [_, _], _ => rfl,
      m_l_spoiled := He.glo_ok (x := "_law_spoiled") X G (c.fact 20 rfl),
      F_l_entry := fun_of F21,
      b_l_entry := FunD.bindsN (ps := ["_law_line"]) F21 fun _ _ _ _ _ _ us hl => match us, hl with | [_], _ => rfl,
      m_l_entry := He.glo_ok (x := "_law_entry") X G (c.fact 21 rfl),
      F_l_due := fun_of F22,
      b_l_due := FunD.bindsN (ps := ["_law_text"]) F22 fun _ _ _ _ _ _ us hl => match us, hl with | [_], _ => rfl,
      m_l_due := He.glo_ok (x := "_law_due") X G (c.fact 22 rfl),
      F_l_found := fun_of F23,
      b_l_found := FunD.bindsN (ps := ["_law_text"]) F23 fun _ _ _ _ _ _ us hl => match us, hl with | [_], _ => rfl,
      m_l_found := He.glo_ok (x := "_law_found") X G (c.fact 23 rfl),
      F_l_many_right := fun_of F24,
      b_l_many_right := FunD.bindsN (ps := ["_law_cell_here"]) F24 fun _ _ _ _ _ _ us hl => match us, hl with | [_], _ => rfl,
      m_l_many_right := He.glo_ok (x := "_law_many_right") X G (c.fact 24 rfl),
      F_law := fun_of F25,
      b_law := FunD.bindsN (ps := ["_law_script"]) F25 fun _ _ _ _ _ _ us hl => match us, hl with | [_], _ => rfl,
      m_law := He.glo_ok (x := "law") X G (c.fact 25 rfl),
      m_NoText := He.glo_ok (x := "NoText") X G (c.fact 27 rfl),
      x_NoText := (He.exc_ok (x := "NoText") (c.fact 26 rfl)).1,
      kk_NoText := (He.exc_ok (x := "NoText") (c.fact 26 rfl)).2.1,
      bb_NoText := (He.exc_ok (x := "NoText") (c.fact 26 rfl)).2.2.1,
      tt_NoText := (He.exc_ok (x := "NoText") (c.fact 26 rfl)).2.2.2,
      m_HadError := He.glo_ok (x := "HadError") X G (c.fact 29 rfl),
      x_HadError := (He.exc_ok (x := "HadError") (c.fact 28 rfl)).1,
      kk_HadError := (He.exc_ok (x := "HadError") (c.fact 28 rfl)).2.1,
      bb_HadError := (He.exc_ok (x := "HadError") (c.fact 28 rfl)).2.2.1,
      tt_HadError := (He.exc_ok (x := "HadError") (c.fact 28 rfl)).2.2.2,
      m_BadBook := He.glo_ok (x := "BadBook") X G (c.fact 30 rfl),
      m_NoChange := He.glo_ok (x := "NoChange") X G (c.fact 32 rfl),
      x_NoChange := (He.exc_ok (x := "NoChange") (c.fact 31 rfl)).1,
      kk_NoChange := (He.exc_ok (x := "NoChange") (c.fact 31 rfl)).2.1,
      bb_NoChange := (He.exc_ok (x := "NoChange") (c.fact 31 rfl)).2.2.1,
      tt_NoChange := (He.exc_ok (x := "NoChange") (c.fact 31 rfl)).2.2.2,
      m_NoMoment := He.glo_ok (x := "NoMoment") X G (c.fact 34 rfl),
      x_NoMoment := (He.exc_ok (x := "NoMoment") (c.fact 33 rfl)).1,
      kk_NoMoment := (He.exc_ok (x := "NoMoment") (c.fact 33 rfl)).2.1,
      bb_NoMoment := (He.exc_ok (x := "NoMoment") (c.fact 33 rfl)).2.2.1,
      tt_NoMoment := (He.exc_ok (x := "NoMoment") (c.fact 33 rfl)).2.2.2,
      m_NoProgram := He.glo_ok (x := "NoProgram") X G (c.fact 36 rfl),
      x_NoProgram := (He.exc_ok (x := "NoProgram") (c.fact 35 rfl)).1,
      kk_NoProgram := (He.exc_ok (x := "NoProgram") (c.fact 35 rfl)).2.1,
      bb_NoProgram := (He.exc_ok (x := "NoProgram") (c.fact 35 rfl)).2.2.1,
      tt_NoProgram := (He.exc_ok (x := "NoProgram") (c.fact 35 rfl)).2.2.2,
      xg := of_decide_eq_true (c.fact 37 rfl),
      xk := of_decide_eq_true (c.fact 38 rfl),
      xd := of_decide_eq_true (c.fact 39 rfl),
      xa := of_decide_eq_true (c.fact 40 rfl),
      xn := of_decide_eq_true (c.fact 41 rfl),
      xt := of_decide_eq_true (c.fact 42 rfl),
      xm := of_decide_eq_true (c.fact 43 rfl),
      xh := of_decide_eq_true (c.fact 44 rfl),
      xo := of_decide_eq_true (c.fact 45 rfl),
      xv := of_decide_eq_true (c.fact 46 rfl),
      c_FIGURES := He.str_ok (x := "FIGURES") X G (c.fact 47 rfl),
      c_MOST_NUMBERS := He.int_ok (x := "MOST_NUMBERS") X G (c.fact 48 rfl),
      c_MOST_MAKERS := He.int_ok (x := "MOST_MAKERS") X G (c.fact 49 rfl),
      z_len := He.free_ok (x := "len") X G (c.fact 50 rfl),
      z_all := He.free_ok (x := "all") X G (c.fact 51 rfl),
      z_int := He.free_ok (x := "int") X G (c.fact 52 rfl),
      z_tuple := He.free_ok (x := "tuple") X G (c.fact 53 rfl),
      z_str := He.free_ok (x := "str") X G (c.fact 54 rfl),
      z_isinstance := He.free_ok (x := "isinstance") X G (c.fact 55 rfl),
      z_range := He.free_ok (x := "range") X G (c.fact 56 rfl),
      z_ValueError := He.free_ok (x := "ValueError") X G (c.fact 57 rfl) }
  exact ⟨d25, fun s v => (FunD.bindsA (ps := ["_law_script"]) F25 fun _ _ _ _ _ _ us hl => match us, hl with | [_], _ => rfl) s [v] rfl, fun base _ _ => ok_law T⟩
end K82
open PySem PySem.W PySem.Calls PyProof.Rows
set_option maxRecDepth 100000 in
set_option maxHeartbeats 0 in
theorem PySem.Challenge.cw_hadbeen_k82_no_book_holds : PySem.Challenge.rw_hadbeen_k82_no_book.Holds := by
  w_on; o_law
  refine HandSHeadRun.head_any (r := OpenLaw.row PySem.Challenge.rw_hadbeen_k82_no_book) (q := view (OpenLaw.row PySem.Challenge.rw_hadbeen_k82_no_book).prog [39]) (H := K82.hk) (ob := K82.ob) (M := 9000) (loose := K82.loose) (d := HandSHeadRun.topDef (OpenLaw.row PySem.Challenge.rw_hadbeen_k82_no_book).prog 39) (kwd := []) K82.ob_eq
    (by kernel_rfl) (fun s => by kernel_rfl) K82.run (by kernel_rfl) (by kernel_rfl) (by kernel_rfl) (by rfl) (by first | assumption | decide +kernel) (by decide +kernel) ⟨rfl, rfl, rfl, rfl, rfl, by decide +kernel⟩ ?hw ?hc
  case hw => w_witness2
  case hc =>
    refine L2.walk_ofE (l := PySem.Challenge.rw_hadbeen_k82_no_book) (n := 63) (k := 8) (x := "_law_script") (CX := L2.CX0) rfl (by decide) (by kernel_rfl) ⟨rfl, by decide, by decide⟩ ?F (fun _ _ _ _ z => z)
    intro w mg fa h Y G hmg0
    obtain ⟨K, KX, c⟩ := Y
    have hmg : mg ("law" : PySem.Str) = some (.ref fa) := by
      have e : (HandSHeadRun.topDef (OpenLaw.row PySem.Challenge.rw_hadbeen_k82_no_book).prog 39).name = ("law" : PySem.Str) := by kernel_rfl
      rw [← e]
      exact hmg0
    obtain ⟨fd, hb, hF⟩ := K82.facts (P := (PySem.Challenge.rw_hadbeen_k82_no_book).prog) (w := w) KX G hmg c
    exact ⟨K, fd, K82.spLaw K, KX, hb, fun H a ns hl _ hS => ⟨a, ns, rfl, hS, hl, fun _ => rfl⟩, hF⟩
