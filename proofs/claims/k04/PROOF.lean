import PyProof.Rows.All
import Wide.All
import OpenK.AllK
import Wide.FinOn
import HandS.ForMost
import HandS.IsInst
import HandS.NoneIn
import PySem.Challenge.RW_hadbeen_k04_seven_words
set_option Elab.async false
set_option maxRecDepth 100000
set_option maxHeartbeats 4000000
set_option linter.all false
namespace K04
open PySem L2
def top (i : Nat) : Stmt := PySem.Challenge.pw_hadbeen_k04_seven_words.main.body.getD i (.Pass ⟨0, 0, 0, 0⟩)
abbrev s_both : Stmt := top 5
abbrev s_Number_init : Stmt := inClass (top 4) 0
abbrev s_Number_reckon : Stmt := inClass (top 4) 3
abbrev s_Two_init : Stmt := inClass (top 6) 0
abbrev s_Two_reckon : Stmt := inClass (top 6) 3
abbrev s_l_cell : Stmt := top 8
abbrev s_l_mixed : Stmt := top 9
abbrev s_l_twice : Stmt := top 10
abbrev s_l_well : Stmt := top 11
abbrev s_l_draw : Stmt := top 12
abbrev s_l_of : Stmt := top 14
abbrev s_l_none : Stmt := top 13
abbrev s_l_values : Stmt := top 15
abbrev s_l_right : Stmt := top 16
abbrev s_law : Stmt := top 17
abbrev N_both : List Str := ["word", "one", "other"]
theorem sc_both : FnScope ["word", "one", "other"] ["word", "one", "other"] (defScope s_both) := ⟨rfl, rfl, rfl, by decide +kernel, rfl, by decide +kernel, by decide +kernel⟩
abbrev N_Number_init : List Str := ["self", "value"]
theorem sc_Number_init : FnScope ["self", "value"] ["self", "value"] (defScope s_Number_init) := ⟨rfl, rfl, rfl, by decide +kernel, rfl, by decide +kernel, by decide +kernel⟩
abbrev N_Number_reckon : List Str := ["self", "look"]
theorem sc_Number_reckon : FnScope ["self", "look"] ["self", "look"] (defScope s_Number_reckon) := ⟨rfl, rfl, rfl, by decide +kernel, rfl, by decide +kernel, by decide +kernel⟩
abbrev N_Two_init : List Str := ["self", "word", "left", "right"]
theorem sc_Two_init : FnScope ["self", "word", "left", "right"] ["self", "word", "left", "right"] (defScope s_Two_init) := ⟨rfl, rfl, rfl, by decide +kernel, rfl, by decide +kernel, by decide +kernel⟩
abbrev N_Two_reckon : List Str := ["self", "look", "one", "other"]
theorem sc_Two_reckon : FnScope ["self", "look", "one", "other"] ["self", "look"] (defScope s_Two_reckon) := ⟨rfl, rfl, rfl, by decide +kernel, rfl, by decide +kernel, by decide +kernel⟩
abbrev N_l_cell : List Str := ["_law_script", "_law_k"]
theorem sc_l_cell : FnScope ["_law_script", "_law_k"] ["_law_script", "_law_k"] (defScope s_l_cell) := ⟨rfl, rfl, rfl, by decide +kernel, rfl, by decide +kernel, by decide +kernel⟩
abbrev N_l_mixed : List Str := ["_law_cell_here", "_law_k", "_law_number"]
theorem sc_l_mixed : FnScope ["_law_cell_here", "_law_k", "_law_number"] ["_law_cell_here", "_law_k"] (defScope s_l_mixed) := ⟨rfl, rfl, rfl, by decide +kernel, rfl, by decide +kernel, by decide +kernel⟩
abbrev N_l_twice : List Str := ["_law_cell_here", "_law_k", "_law_number"]
theorem sc_l_twice : FnScope ["_law_cell_here", "_law_k", "_law_number"] ["_law_cell_here", "_law_k"] (defScope s_l_twice) := ⟨rfl, rfl, rfl, by decide +kernel, rfl, by decide +kernel, by decide +kernel⟩
abbrev N_l_well : List Str := ["_law_script", "_law_k"]
theorem sc_l_well : FnScope ["_law_script", "_law_k"] ["_law_script", "_law_k"] (defScope s_l_well) := ⟨rfl, rfl, rfl, by decide +kernel, rfl, by decide +kernel, by decide +kernel⟩
abbrev N_l_draw : List Str := ["_law_well_here", "_law_most", "_law_number"]
theorem sc_l_draw : FnScope ["_law_well_here", "_law_most", "_law_number"] ["_law_well_here", "_law_most"] (defScope s_l_draw) := ⟨rfl, rfl, rfl, by decide +kernel, rfl, by decide +kernel, by decide +kernel⟩
abbrev N_l_of : List Str := ["_law_word", "_law_one", "_law_other"]
theorem sc_l_of : FnScope ["_law_word", "_law_one", "_law_other"] ["_law_word", "_law_one", "_law_other"] (defScope s_l_of) := ⟨rfl, rfl, rfl, by decide +kernel, rfl, by decide +kernel, by decide +kernel⟩
abbrev N_l_none : List Str := ["_law_thing"]
theorem sc_l_none : FnScope ["_law_thing"] ["_law_thing"] (defScope s_l_none) := ⟨rfl, rfl, rfl, by decide +kernel, rfl, by decide +kernel, by decide +kernel⟩
abbrev N_l_values : List Str := ["_law_well_here", "_law_found", "_law_k", "_law_way"]
theorem sc_l_values : FnScope ["_law_well_here", "_law_found", "_law_k", "_law_way"] ["_law_well_here"] (defScope s_l_values) := ⟨rfl, rfl, rfl, by decide +kernel, rfl, by decide +kernel, by decide +kernel⟩
abbrev N_l_right : List Str := ["_law_one", "_law_other", "_law_less", "_law_whole", "_law_rest"]
theorem sc_l_right : FnScope ["_law_one", "_law_other", "_law_less", "_law_whole", "_law_rest"] ["_law_one", "_law_other"] (defScope s_l_right) := ⟨rfl, rfl, rfl, by decide +kernel, rfl, by decide +kernel, by decide +kernel⟩
abbrev N_law : List Str := ["_law_script", "_law_k", "_law_one", "_law_other", "_law_some"]
theorem sc_law : FnScope ["_law_script", "_law_k", "_law_one", "_law_other", "_law_some"] ["_law_script"] (defScope s_law) := ⟨rfl, rfl, rfl, by decide +kernel, rfl, by decide +kernel, by decide +kernel⟩
structure Ads where
  both : Addr
  both_d : FuncData
  Number_init : Addr
  Number_init_d : FuncData
  Number_reckon : Addr
  Number_reckon_d : FuncData
  Two_init : Addr
  Two_init_d : FuncData
  Two_reckon : Addr
  Two_reckon_d : FuncData
  l_cell : Addr
  l_cell_d : FuncData
  l_mixed : Addr
  l_mixed_d : FuncData
  l_twice : Addr
  l_twice_d : FuncData
  l_well : Addr
  l_well_d : FuncData
  l_draw : Addr
  l_draw_d : FuncData
  l_of : Addr
  l_of_d : FuncData
  l_none : Addr
  l_none_d : FuncData
  l_values : Addr
  l_values_d : FuncData
  l_right : Addr
  l_right_d : FuncData
  law : Addr
  law_d : FuncData
  Number : Addr
  Two : Addr
structure Txt (K : PySem.W.Frag) (mg : Str → Option Value) (A : Ads) : Prop where
  F_both : Fun K "both" "both" s_both A.both A.both_d
  b_both : Binds K A.both_d ["word", "one", "other"] []
  m_both : mg "both" = some (.ref A.both)
  F_Number_init : Fun K "__init__" "Number.__init__" s_Number_init A.Number_init A.Number_init_d
  b_Number_init : Binds K A.Number_init_d ["self", "value"] []
  F_Number_reckon : Fun K "reckon" "Number.reckon" s_Number_reckon A.Number_reckon A.Number_reckon_d
  b_Number_reckon : Binds K A.Number_reckon_d ["self", "look"] []
  F_Two_init : Fun K "__init__" "Two.__init__" s_Two_init A.Two_init A.Two_init_d
  b_Two_init : Binds K A.Two_init_d ["self", "word", "left", "right"] []
  F_Two_reckon : Fun K "reckon" "Two.reckon" s_Two_reckon A.Two_reckon A.Two_reckon_d
  b_Two_reckon : Binds K A.Two_reckon_d ["self", "look"] []
  F_l_cell : Fun K "_law_cell" "_law_cell" s_l_cell A.l_cell A.l_cell_d
  b_l_cell : Binds K A.l_cell_d ["_law_script", "_law_k"] []
  m_l_cell : mg "_law_cell" = some (.ref A.l_cell)
  F_l_mixed : Fun K "_law_mixed" "_law_mixed" s_l_mixed A.l_mixed A.l_mixed_d
  b_l_mixed : Binds K A.l_mixed_d ["_law_cell_here", "_law_k"] []
  m_l_mixed : mg "_law_mixed" = some (.ref A.l_mixed)
  F_l_twice : Fun K "_law_twice" "_law_twice" s_l_twice A.l_twice A.l_twice_d
  b_l_twice : Binds K A.l_twice_d ["_law_cell_here", "_law_k"] []
  m_l_twice : mg "_law_twice" = some (.ref A.l_twice)
  F_l_well : Fun K "_law_well" "_law_well" s_l_well A.l_well A.l_well_d
  b_l_well : Binds K A.l_well_d ["_law_script", "_law_k"] []
  m_l_well : mg "_law_well" = some (.ref A.l_well)
  F_l_draw : Fun K "_law_draw" "_law_draw" s_l_draw A.l_draw A.l_draw_d
  b_l_draw : Binds K A.l_draw_d ["_law_well_here", "_law_most"] []
  m_l_draw : mg "_law_draw" = some (.ref A.l_draw)
  F_l_of : Fun K "_law_of" "_law_of" s_l_of A.l_of A.l_of_d
  b_l_of : Binds K A.l_of_d ["_law_word", "_law_one", "_law_other"] []
  m_l_of : mg "_law_of" = some (.ref A.l_of)
  F_l_none : Fun K "_law_none" "_law_none" s_l_none A.l_none A.l_none_d
  b_l_none : Binds K A.l_none_d ["_law_thing"] []
  m_l_none : mg "_law_none" = some (.ref A.l_none)
  F_l_values : Fun K "_law_values" "_law_values" s_l_values A.l_values A.l_values_d
  b_l_values : Binds K A.l_values_d ["_law_well_here"] []
  m_l_values : mg "_law_values" = some (.ref A.l_values)
  F_l_right : Fun K "_law_right" "_law_right" s_l_right A.l_right A.l_right_d
  b_l_right : Binds K A.l_right_d ["_law_one", "_law_other"] []
  m_l_right : mg "_law_right" = some (.ref A.l_right)
  F_law : Fun K "law" "law" s_law A.law A.law_d
  b_law : Binds K A.law_d ["_law_script"] []
  m_law : mg "law" = some (.ref A.law)
  m_Number : mg "Number" = some (.ref A.Number)
  cl_Number : Cls K A.Number
  mk_Number : PySem.W.makesIn K A.Number = true
  n_Number_value : NoAttr K A.Number "value"
  k_Number : Mk K A.Number A.Number_init
  m_Two : mg "Two" = some (.ref A.Two)
  cl_Two : Cls K A.Two
  mk_Two : PySem.W.makesIn K A.Two = true
  n_Two_word : NoAttr K A.Two "word"
  n_Two_left : NoAttr K A.Two "left"
  n_Two_right : NoAttr K A.Two "right"
  k_Two : Mk K A.Two A.Two_init
  me_Number_reckon : Meth K A.Number "reckon" A.Number_reckon
  me_Two_reckon : Meth K A.Two "reckon" A.Two_reckon
  c_LIMIT : ∃ t, mg "LIMIT" = some (.int 1000000 t)
  z_int : mg "int" = none
  z_len : mg "len" = none
  z_range : mg "range" = none
  z_sorted : mg "sorted" = none
  z_bool : mg "bool" = none
  z_isinstance : mg "isinstance" = none
end K04
namespace K04
open PySem L2

theorem same_new {H : Hp} {p : Addr} {o : HO} (h : H p = none) : Same H (upd H p o) := fun b u q => by rw [upd_ne (ne_of_none q h)]; exact q
theorem iteDT {p A B : Prop} [Decidable p] (h : p) (a : A) : if decide p = true then A else B := by rw [decide_eq_true h]; exact iteT a
theorem iteDF {p A B : Prop} [Decidable p] (h : ¬ p) (b : B) : if decide p = true then A else B := by rw [decide_eq_false h]; exact iteF b
theorem iteNT {p A B : Prop} [Decidable p] (h : ¬ p) (a : A) : if (!decide p) = true then A else B := by rw [decide_eq_false h]; exact iteT a
theorem iteNF {p A B : Prop} [Decidable p] (h : p) (b : B) : if (!decide p) = true then A else B := by rw [decide_eq_true h]; exact iteF b
theorem iteD2 {p A B : Prop} [Decidable p] (h1 : p → A) (h2 : ¬ p → B) : if decide p = true then A else B := by
  by_cases h : p
  · exact iteDT h (h1 h)
  · exact iteDF h (h2 h)
theorem iteN2 {p A B : Prop} [Decidable p] (h1 : ¬ p → A) (h2 : p → B) : if (!decide p) = true then A else B := by
  by_cases h : p
  · exact iteNF h (h2 h)
  · exact iteNT h (h1 h)
theorem iteB2 {b : Bool} {A B : Prop} (h1 : b = true → A) (h2 : b = false → B) : if b = true then A else B := by
  cases b with
  | true => exact iteT (h1 rfl)
  | false => exact iteF (h2 rfl)
theorem vint_ne {i j : Int} (h : i ≠ j) : ¬ V.int i = V.int j := fun e => h (V.int.inj e)
theorem vstr_ne {i j : Str} (h : i ≠ j) : ¬ V.str i = V.str j := fun e => h (V.str.inj e)
/-- all that was tracked stands, but what is at p -/
def KeepX (p : Addr) (H H' : Hp) : Prop := ∀ q o, q ≠ p → H q = some o → H' q = some o
theorem KeepX.refl (p : Addr) (H : Hp) : KeepX p H H := fun _ _ _ h => h
theorem KeepX.trans {p : Addr} {H H1 H2 : Hp} (a : KeepX p H H1) (b : KeepX p H1 H2) : KeepX p H H2 := fun q o n h => b q o n (a q o n h)
theorem keepX_of {p : Addr} {H H' : Hp} (a : Same H H') : KeepX p H H' := fun q o _ h => a q o h
theorem keepX_upd {p : Addr} {H : Hp} {o : HO} : KeepX p H (upd H p o) := fun q u n h => by rw [upd_ne n]; exact h
theorem KeepX.seq {K : PySem.W.Frag} {H H' : Hp} {p a : Addr} {xs : List V} (e : KeepX p H H') (n : a ≠ p) (h : SqL K H a xs) : SqL K H' a xs := by
  rcases h with (h | ⟨o, h⟩) | h
  · exact .inl (.inl (e _ _ n h))
  · exact .inl (.inr ⟨o, e _ _ n h⟩)
  · exact .inr h
theorem same_tup {K : PySem.W.Frag} {H H' : Hp} {a : Addr} {xs : List V} (e : Same H H') (h : SqT K H a xs) : SqT K H' a xs := by
  rcases h with (h | ⟨o, h⟩) | h
  · exact .inl (.inl (e _ _ h))
  · exact .inl (.inr ⟨o, e _ _ h⟩)
  · exact .inr h
/-- what is new behind H -/
theorem KeepX.same {p : Addr} {H H' : Hp} (n : H p = none) (e : KeepX p H H') : Same H H' := fun q o h => e q o (ne_of_none h n) h
theorem fresh_ne {H H' : Hp} {p q : Addr} {o : HO} (h : H p = some o) (n : H q = none) : q ≠ p := fun e => by rw [e, h] at n; cases n

/-- what the seven words come to -/
def bothV (w : Str) (a b : Int) : V :=
  if w = "plus" then .int ((a + b) % 1000000)
  else if w = "minus" then .int ((a - b) % 1000000)
  else if w = "times" then .int (a * b % 1000000)
  else if w = "less" then .int (if decide (a < b) then 1 else 0)
  else if w = "same" then .int (if decide (V.int a = V.int b) then 1 else 0)
  else if b = 0 then .non
  else if w = "over" then .int (a.fdiv b)
  else .int (a.fmod b)
def IsV (a : Int) : Prop := 0 ≤ a ∧ a < 1000000
def spBoth : Sp := fun vs H Q _ => ∃ (wd : Str) (a b : Int), vs = [.str wd, .int a, .int b] ∧ IsV a ∧ IsV b ∧ Q (bothV wd a b) H
def numO (C dx : Addr) (n : Int) : HO := .ins C dx [("value", .int n)]
def twoF (w : Str) (l r : Addr) : List (Str × V) := [("word", .str w), ("left", .ref l), ("right", .ref r)]
def spNumI (C : Addr) : Sp := fun vs H Q _ => ∃ (p dx : Addr) (n : Int), vs = [.ref p, .int n] ∧ H p = some (.ins C dx []) ∧ Q .non (upd H p (numO C dx n))
def spNumR (C : Addr) : Sp := fun vs H Q _ => ∃ (p dx : Addr) (n : Int) (f : V), vs = [.ref p, f] ∧ H p = some (numO C dx n) ∧ Q (.int n) H
def spTwoI (C : Addr) : Sp := fun vs H Q _ => ∃ (p dx : Addr) (wd : Str) (l r : Addr), vs = [.ref p, .str wd, .ref l, .ref r] ∧ H p = some (.ins C dx []) ∧ Q .non (upd H p (.ins C dx (twoF wd l r)))
def spTwoR (N C : Addr) : Sp := fun vs H Q _ => ∃ (p dx l dl r dr : Addr) (wd : Str) (a b : Int) (f : V), vs = [.ref p, f] ∧ H p = some (.ins C dx (twoF wd l r)) ∧ H l = some (numO N dl a) ∧ H r = some (numO N dr b) ∧ IsV a ∧ IsV b ∧ Q (bothV wd a b) H
def spCell (K : PySem.W.Frag) : Sp := fun vs H Q _ => ∃ (a : Addr) (ns : List Int) (k : Int), vs = [.ref a, .int k] ∧ SqL K H a (ns.map V.int) ∧ 0 ≤ k ∧ ∀ n : Int, Q (.int n) H
/-- two ints go in, some int comes out -/
def spI2 : Sp := fun vs H Q _ => ∃ (a b : Int), vs = [.int a, .int b] ∧ ∀ n : Int, Q (.int n) H
def WellAt (H : Hp) (p : Addr) : Prop := ∃ a b c d : Int, H p = some (.lst [.int a, .int b, .int c, .int d])
def spWell (K : PySem.W.Frag) : Sp := fun vs H Q _ => ∃ (a : Addr) (ns : List Int) (k : Int), vs = [.ref a, .int k] ∧ SqL K H a (ns.map V.int) ∧ 0 ≤ k ∧ ∀ p H', H p = none → Same H H' → WellAt H' p → Q (.ref p) H'
def spDraw : Sp := fun vs H Q _ => ∃ (p : Addr) (m : Int), vs = [.ref p, .int m] ∧ WellAt H p ∧ 0 < m ∧ m ≤ 1000000 ∧ ∀ (n : Int) H', 0 ≤ n → n < m → KeepX p H H' → WellAt H' p → Q (.int n) H'
def spOf : Sp := fun vs H Q _ => ∃ (wd : Str) (a b : Int), vs = [.str wd, .int a, .int b] ∧ IsV a ∧ IsV b ∧ ∀ H', Same H H' → Q (bothV wd a b) H'
def spValues : Sp := fun vs H Q _ => ∃ (p : Addr), vs = [.ref p] ∧ WellAt H p ∧ ∀ (a b : Int) (r : Addr) (H' : Hp), IsV a → IsV b → KeepX p H H' → H' r = some (.lst [.int a, .int b]) → Q (.ref r) H'
def spRight : Sp := fun vs H Q _ => ∃ (a b : Int), vs = [.int a, .int b] ∧ IsV a ∧ IsV b ∧ ∀ H', Same H H' → Q (.bl true) H'
def spLaw (K : PySem.W.Frag) : Sp := fun vs H Q _ => ∃ (a : Addr) (ns : List Int), vs = [.ref a] ∧ SqL K H a (ns.map V.int) ∧ ns.length ≤ 63 ∧ ∀ H', Q (.bl true) H'

theorem at_int {ns : List Int} {k : Int} (h0 : 0 ≤ k) (h : k < (ns.length : Int)) : ∃ v : Int, atI (ns.map V.int) k = some (.int v) := by
  have hk : k.toNat < ns.length := by omega
  have ek : k = ((k.toNat : Nat) : Int) := by omega
  have q : atI (ns.map V.int) ((k.toNat : Nat) : Int) = some (.int ns[k.toNat]) := atI_nat (by rw [List.getElem?_map, List.getElem?_eq_getElem hk] <;> rfl)
  rw [← ek] at q
  exact ⟨_, q⟩
theorem mod64 {x y : Int} : CMul (x % 2147483647) y := Or.inl ⟨by omega, by omega⟩
theorem made_same {H : Hp} {x dx : Addr} {o o1 o2 : HO} (hx : H x = none) (hd : H dx = none) : Same H (upd (upd (upd H dx o) x o1) x o2) := fun b u e => by
  have n1 : b ≠ x := ne_of_none e hx
  rw [upd_ne n1, upd_ne n1, upd_ne (ne_of_none e hd)]
  exact e
theorem bothV_plus {a b : Int} : bothV "plus" a b = .int ((a + b) % 1000000) := if_pos rfl
theorem bothV_minus {a b : Int} : bothV "minus" a b = .int ((a - b) % 1000000) := by unfold bothV; rw [if_neg (by decide +kernel), if_pos rfl]
theorem bothV_times {a b : Int} : bothV "times" a b = .int (a * b % 1000000) := by unfold bothV; rw [if_neg (by decide +kernel), if_neg (by decide +kernel), if_pos rfl]
theorem bothV_less {a b : Int} : bothV "less" a b = .int (if decide (a < b) then 1 else 0) := by unfold bothV; rw [if_neg (by decide +kernel), if_neg (by decide +kernel), if_neg (by decide +kernel), if_pos rfl]
theorem bothV_same {a b : Int} : bothV "same" a b = .int (if decide (V.int a = V.int b) then 1 else 0) := by unfold bothV; rw [if_neg (by decide +kernel), if_neg (by decide +kernel), if_neg (by decide +kernel), if_neg (by decide +kernel), if_pos rfl]
theorem bothV_over0 {a b : Int} (h : b = 0) : bothV "over" a b = .non := by unfold bothV; rw [if_neg (by decide +kernel), if_neg (by decide +kernel), if_neg (by decide +kernel), if_neg (by decide +kernel), if_neg (by decide +kernel), if_pos h]
theorem bothV_rest0 {a b : Int} (h : b = 0) : bothV "rest" a b = .non := by unfold bothV; rw [if_neg (by decide +kernel), if_neg (by decide +kernel), if_neg (by decide +kernel), if_neg (by decide +kernel), if_neg (by decide +kernel), if_pos h]
theorem bothV_over {a b : Int} (h : b ≠ 0) : bothV "over" a b = .int (a.fdiv b) := by unfold bothV; rw [if_neg (by decide +kernel), if_neg (by decide +kernel), if_neg (by decide +kernel), if_neg (by decide +kernel), if_neg (by decide +kernel), if_neg h, if_pos rfl]
theorem bothV_rest {a b : Int} (h : b ≠ 0) : bothV "rest" a b = .int (a.fmod b) := by unfold bothV; rw [if_neg (by decide +kernel), if_neg (by decide +kernel), if_neg (by decide +kernel), if_neg (by decide +kernel), if_neg (by decide +kernel), if_neg h, if_neg (by decide +kernel)]
theorem less_math {a b : Int} (ha : IsV a) (hb : IsV b) : 0 ≤ (a - b) % 1000000 ∧ (a - b) % 1000000 < 1000000 ∧ ((a - b) % 1000000 + b) % 1000000 = a := by
  have h1 := ha.1; have h2 := ha.2; have h3 := hb.1; have h4 := hb.2
  refine ⟨?_, ?_, ?_⟩ <;> omega
theorem div_math {a b : Int} (ha : IsV a) (hb : IsV b) (h : b ≠ 0) : 0 ≤ a.fmod b ∧ a.fmod b < b ∧ a.fdiv b * b + a.fmod b = a := by
  have h1 := hb.1
  have hp : 0 < b := by omega
  refine ⟨Int.fmod_nonneg_of_pos _ hp, Int.fmod_lt_of_pos _ hp, ?_⟩
  have e := Int.fmod_add_mul_fdiv a b
  rw [Int.mul_comm, Int.add_comm]
  exact e
theorem three_math (x y : Int) (zs : List Int) (pm : zs.Perm [if decide (x < y) = true then 1 else 0, if decide (y < x) = true then 1 else 0, if decide (V.int x = V.int y) = true then 1 else 0]) (pw : zs.Pairwise (· ≤ ·)) : zs = [0, 0, 1] := by
  have key : ∀ l : List Int, l.Perm [0, 0, 1] → zs.Perm l → zs = [0, 0, 1] := fun l h1 h2 =>
    List.Perm.eq_of_pairwise (le := fun a b : Int => decide (a ≤ b)) (fun a b _ _ h h' => by simp at h h'; omega) (by simpa using pw) (by decide) (h2.trans h1)
  rcases Int.lt_trichotomy x y with h | h | h
  · rw [if_pos (decide_eq_true h), if_neg (by simp; omega), if_neg (by simp; omega)] at pm
    exact key _ (by decide) pm
  · subst h
    rw [if_neg (show ¬ decide (x < x) = true by simp), if_pos (show decide (V.int x = V.int x) = true by simp)] at pm
    exact key _ (by decide) pm
  · rw [if_neg (by simp; omega), if_pos (decide_eq_true h), if_neg (by simp; omega)] at pm
    exact key _ (by decide) pm
theorem same_math (x y : Int) : decide (V.int (if decide (V.int x = V.int y) = true then 1 else 0) = V.int 1) = decide (V.int x = V.int y) := by
  by_cases h : V.int x = V.int y
  · rw [decide_eq_true h, if_pos rfl]; decide
  · rw [decide_eq_false h, if_neg Bool.false_ne_true]; decide
theorem less_math2 (x y : Int) : decide (V.int (if decide (x < y) = true then 1 else 0) = V.int 1) = decide (x < y) := by
  by_cases h : x < y
  · rw [decide_eq_true h, if_pos rfl]; decide
  · rw [decide_eq_false h, if_neg Bool.false_ne_true]; decide
theorem val_end {p r : Addr} {H H3 : Hp} {xs : List Int} {m : Int} (hr0 : H r = none) (npr : p ≠ r) (hK : KeepX p H H3) (W3 : WellAt H3 p) (hx : ∀ x ∈ xs, IsV x) (hm : IsV m) :
    (∀ x ∈ xs ++ [m], IsV x) ∧ KeepX p H (upd H3 r (.lst (xs.map V.int ++ [.int m]))) ∧ WellAt (upd H3 r (.lst (xs.map V.int ++ [.int m]))) p ∧ upd H3 r (.lst (xs.map V.int ++ [.int m])) r = some (.lst ((xs ++ [m]).map V.int)) := by
  refine ⟨fun x h => ?_, fun b o n e => ?_, ?_, ?_⟩
  · rcases List.mem_append.mp h with h | h
    · exact hx x h
    · rw [List.mem_singleton] at h; rw [h]; exact hm
  · rw [upd_ne (ne_of_none e hr0)]; exact hK b o n e
  · obtain ⟨a, b, c, d, h⟩ := W3
    exact ⟨a, b, c, d, by rw [upd_ne npr]; exact h⟩
  · rw [upd_same, List.map_append]; rfl
theorem mk_num {C : Addr} {H : Hp} {n : Int} {Q : Hp → Prop} {E : XK} {x dx : Addr} (hx : H x = none) (hd : H dx = none) (k : ∀ H' , Same H H' → H' x = some (numO C dx n) → Q H') :
    spNumI C [.ref x, .int n] (upd (upd H dx (.own x)) x (.ins C dx [])) (fun v H2 => v = .non ∧ Q H2) E :=
  ⟨x, dx, n, rfl, upd_same, rfl, k _ (made_same hx hd) upd_same⟩
theorem mk_two {C : Addr} {H : Hp} {wd : Str} {l r : Addr} {Q : Hp → Prop} {E : XK} {x dx : Addr} (hx : H x = none) (hd : H dx = none) (k : ∀ H', Same H H' → H' x = some (.ins C dx (twoF wd l r)) → Q H') :
    spTwoI C [.ref x, .str wd, .ref l, .ref r] (upd (upd H dx (.own x)) x (.ins C dx [])) (fun v H2 => v = .non ∧ Q H2) E :=
  ⟨x, dx, wd, l, r, rfl, upd_same, rfl, k _ (made_same hx hd) upd_same⟩

end K04
open PySem L2

local macro_rules | `(tactic| walk_at "rd") => `(tactic| repeat (first
  | refine ⟨_, rfl, ?_⟩
  | refine ⟨_, _, rfl, rfl, ?_⟩
  | refine ⟨Or.inl ⟨by decide, by decide⟩, ?_⟩
  | refine ⟨Or.inr ⟨by decide, by decide⟩, ?_⟩
  | refine ⟨(⟨by decide, by decide⟩ : CDiv _ _), ?_⟩
  | refine ⟨(⟨by decide, by decide, by decide⟩ : CPow _ _), ?_⟩
  | refine ⟨(by show (0 : Int) < _; decide), ?_⟩
  | refine ⟨K04.mod64, ?_⟩))
namespace K04
open PySem L2
section
variable {P : Program} {w : World} {K : PySem.W.Frag} {mg : Str → Option Value} {base : Heap} {A : Ads}
theorem ok_both (T : Txt K mg A) : FnOk P w K mg base CX0 1 A.both A.both_d ["word", "one", "other"] spBoth := by
  refine T.F_both.ok sc_both (fun vs H Q E h => ?_) (fun cdv A0 outer s H vs Q E hr h => ?_)
  · obtain ⟨wd, a, b, rfl, ha, hb, q⟩ := h
    rfl
  obtain ⟨wd, a, b, rfl, ha, hb, q⟩ := h
  refine ⟨_, (pss_cons (ps_if (pt_cmpR op_eq (pv 0) pe_str (nomark _))
    (pss_one (ps_ret (pe_op op_mod (pe_op op_add (pv 1) (pv 2)) (pe_glob (v := .int 1000000) (by rfl) T.c_LIMIT.choose_spec ⟨_, rfl⟩))))
    pss_nil)
   (pss_cons (ps_if (pt_cmpR op_eq (pv 0) pe_str (nomark _))
    (pss_one (ps_ret (pe_op op_mod (pe_op op_sub (pv 1) (pv 2)) (pe_glob (v := .int 1000000) (by rfl) T.c_LIMIT.choose_spec ⟨_, rfl⟩))))
    pss_nil)
   (pss_cons (ps_if (pt_cmpR op_eq (pv 0) pe_str (nomark _))
    (pss_one (ps_ret (pe_op op_mod (pe_op op_mul (pv 1) (pv 2)) (pe_glob (v := .int 1000000) (by rfl) T.c_LIMIT.choose_spec ⟨_, rfl⟩))))
    pss_nil)
   (pss_cons (ps_if (pt_cmpR op_eq (pv 0) pe_str (nomark _))
    (pss_one (ps_ret (pe_callTy call_int1 (by rfl) T.z_int (by decide +kernel) (pa_cons (pe_cmpR op_lt (pv 1) (pv 2) (nomark _)) pa_nil))))
    pss_nil)
   (pss_cons (ps_if (pt_cmpR op_eq (pv 0) pe_str (nomark _))
    (pss_one (ps_ret (pe_callTy call_int1 (by rfl) T.z_int (by decide +kernel) (pa_cons (pe_cmpR op_eq (pv 1) (pv 2) (nomark _)) pa_nil))))
    pss_nil)
   (pss_cons (ps_if (pt_cmpR op_eq (pv 2) pe_int (nomark _))
    (pss_one (ps_ret pe_non))
    pss_nil)
   (pss_cons (ps_if (pt_cmpR op_eq (pv 0) pe_str (nomark _))
    (pss_one (ps_ret (pe_op op_fdivN (pv 1) (pv 2))))
    pss_nil)
   (pss_one (ps_ret (pe_op op_modN (pv 1) (pv 2))))))))))), ?_⟩

  unfold bothV at q
  refine ⟨_, rfl, rfl, _, rfl, ?_⟩
  refine iteD2 (fun c1 => ?_) (fun c1 => ?_)
  · rw [if_pos (V.str.inj c1)] at q
    walk_at "rd"
    exact q
  rw [if_neg (fun e => c1 (congrArg V.str e))] at q
  refine ⟨_, rfl, rfl, _, rfl, ?_⟩
  refine iteD2 (fun c2 => ?_) (fun c2 => ?_)
  · rw [if_pos (V.str.inj c2)] at q
    walk_at "rd"
    exact q
  rw [if_neg (fun e => c2 (congrArg V.str e))] at q
  refine ⟨_, rfl, rfl, _, rfl, ?_⟩
  refine iteD2 (fun c3 => ?_) (fun c3 => ?_)
  · rw [if_pos (V.str.inj c3)] at q
    refine ⟨_, rfl, _, rfl, _, _, rfl, rfl, Or.inl ⟨by have := ha.1; omega, by have := ha.2; omega⟩, ?_⟩
    walk_at "rd"
    exact q
  rw [if_neg (fun e => c3 (congrArg V.str e))] at q
  refine ⟨_, rfl, rfl, _, rfl, ?_⟩
  refine iteD2 (fun c4 => ?_) (fun c4 => ?_)
  · rw [if_pos (V.str.inj c4)] at q
    walk_at "rd"
    exact .inr ⟨_, rfl, q⟩
  rw [if_neg (fun e => c4 (congrArg V.str e))] at q
  refine ⟨_, rfl, rfl, _, rfl, ?_⟩
  refine iteD2 (fun c5 => ?_) (fun c5 => ?_)
  · rw [if_pos (V.str.inj c5)] at q
    refine ⟨_, rfl, _, rfl, rfl, ?_⟩
    exact .inr ⟨_, rfl, q⟩
  rw [if_neg (fun e => c5 (congrArg V.str e))] at q
  refine ⟨_, rfl, rfl, _, rfl, ?_⟩
  refine iteD2 (fun c6 => ?_) (fun c6 => ?_)
  · rw [if_pos (V.int.inj c6)] at q
    exact q
  have hb0 : b ≠ 0 := fun e => c6 (congrArg V.int e)
  rw [if_neg hb0] at q
  refine ⟨_, rfl, rfl, _, rfl, ?_⟩
  refine iteD2 (fun c7 => ?_) (fun c7 => ?_)
  · rw [if_pos (V.str.inj c7)] at q
    exact ⟨_, rfl, _, rfl, _, _, rfl, rfl, ⟨hb0, by have := hb.1; have := hb.2; omega⟩, q⟩
  rw [if_neg (fun e => c7 (congrArg V.str e))] at q
  exact ⟨_, rfl, _, rfl, _, _, rfl, rfl, hb0, q⟩

end
end K04
namespace K04
open PySem L2
section
variable {P : Program} {w : World} {K : PySem.W.Frag} {mg : Str → Option Value} {base : Heap} {A : Ads}
theorem ok_Number_init (T : Txt K mg A) : FnOk P w K mg base CX0 1 A.Number_init A.Number_init_d ["self", "value"] (spNumI A.Number) := by
  refine T.F_Number_init.ok sc_Number_init (fun vs H Q E h => ?_) (fun cdv A0 outer s H vs Q E hr h => ?_)
  · obtain ⟨p, dx, n, rfl, hp, q⟩ := h
    rfl
  obtain ⟨p, dx, n, rfl, hp, q⟩ := h
  refine ⟨_, (pss_one (ps_fld (pv 0) (pv 1) rfl)), ?_⟩

  exact ⟨_, rfl, _, rfl, p, A.Number, dx, [], rfl, hp, T.cl_Number, T.n_Number_value, (by show 0 < 1000; decide), q⟩

end
end K04
namespace K04
open PySem L2
section
variable {P : Program} {w : World} {K : PySem.W.Frag} {mg : Str → Option Value} {base : Heap} {A : Ads}
theorem ok_Number_reckon (T : Txt K mg A) : FnOk P w K mg base CX0 1 A.Number_reckon A.Number_reckon_d ["self", "look"] (spNumR A.Number) := by
  refine T.F_Number_reckon.ok sc_Number_reckon (fun vs H Q E h => ?_) (fun cdv A0 outer s H vs Q E hr h => ?_)
  · obtain ⟨p, dx, n, f, rfl, hp, q⟩ := h
    rfl
  obtain ⟨p, dx, n, f, rfl, hp, q⟩ := h
  refine ⟨_, (pss_one (ps_ret (pe_fld (pv 0) rfl))), ?_⟩

  exact ⟨_, rfl, p, A.Number, dx, _, _, rfl, hp, T.cl_Number, T.n_Number_value, rfl, q⟩

end
end K04
namespace K04
open PySem L2
section
variable {P : Program} {w : World} {K : PySem.W.Frag} {mg : Str → Option Value} {base : Heap} {A : Ads}
theorem ok_Two_init (T : Txt K mg A) : FnOk P w K mg base CX0 1 A.Two_init A.Two_init_d ["self", "word", "left", "right"] (spTwoI A.Two) := by
  refine T.F_Two_init.ok sc_Two_init (fun vs H Q E h => ?_) (fun cdv A0 outer s H vs Q E hr h => ?_)
  · obtain ⟨p, dx, wd, l, r, rfl, hp, q⟩ := h
    rfl
  obtain ⟨p, dx, wd, l, r, rfl, hp, q⟩ := h
  refine ⟨_, (pss_cons (ps_fld (pv 0) (pv 1) rfl)
   (pss_cons (ps_fld (pv 0) (pv 2) rfl)
   (pss_one (ps_fld (pv 0) (pv 3) rfl)))), ?_⟩

  refine ⟨_, rfl, _, rfl, p, A.Two, dx, [], rfl, hp, T.cl_Two, T.n_Two_word, (by show 0 < 1000; decide), ?_⟩
  refine ⟨_, rfl, _, rfl, p, A.Two, dx, _, rfl, upd_same, T.cl_Two, T.n_Two_left, (by show 1 < 1000; decide), ?_⟩
  refine ⟨_, rfl, _, rfl, p, A.Two, dx, _, rfl, upd_same, T.cl_Two, T.n_Two_right, (by show 2 < 1000; decide), ?_⟩
  rw [upd_upd, upd_upd]
  exact q

end
end K04
namespace K04
open PySem L2
section
variable {P : Program} {w : World} {K : PySem.W.Frag} {mg : Str → Option Value} {base : Heap} {A : Ads}
theorem ok_Two_reckon (T : Txt K mg A) : FnOk P w K mg base CX0 2 A.Two_reckon A.Two_reckon_d ["self", "look"] (spTwoR A.Number A.Two) := by
  have G_Number_reckon := ok_Number_reckon (P := P) (w := w) (base := base) T
  have G_both := ok_both (P := P) (w := w) (base := base) T
  refine T.F_Two_reckon.ok sc_Two_reckon (fun vs H Q E h => ?_) (fun cdv A0 outer s H vs Q E hr h => ?_)
  · obtain ⟨p, dx, l, dl, r, dr, wd, a, b, f, rfl, hp, hl, hr2, ha, hb, q⟩ := h
    rfl
  obtain ⟨p, dx, l, dl, r, dr, wd, a, b, f, rfl, hp, hl, hr2, ha, hb, q⟩ := h
  refine ⟨_, (pss_cons (ps_set (i := 2) sc_Two_reckon.nd rfl (Or.inl rfl) (pe_meth (pe_fld (pv 0) rfl) T.cl_Number T.me_Number_reckon G_Number_reckon (hr.mono (by decide)) T.b_Number_reckon .nil pass0 (pa_cons (pv 1) pa_nil)))
   (pss_cons (ps_if (pt_cmpR op_isN (pv 2) pe_non (nomark _))
    (pss_one (ps_ret pe_non))
    pss_nil)
   (pss_cons (ps_set (i := 3) sc_Two_reckon.nd rfl (Or.inl rfl) (pe_meth (pe_fld (pv 0) rfl) T.cl_Number T.me_Number_reckon G_Number_reckon (hr.mono (by decide)) T.b_Number_reckon .nil pass0 (pa_cons (pv 1) pa_nil)))
   (pss_cons (ps_if (pt_cmpR op_isN (pv 3) pe_non (nomark _))
    (pss_one (ps_ret pe_non))
    pss_nil)
   (pss_one (ps_ret (pe_call G_both (hr.mono (by decide)) rfl T.m_both T.F_both.kp T.b_both .nil pass0 (pa_cons (pe_fld (pv 0) rfl) (pa_cons (pv 2) (pa_cons (pv 3) pa_nil)))))))))), ?_⟩

  refine ⟨_, rfl, p, A.Two, dx, _, _, rfl, hp, T.cl_Two, T.n_Two_left, rfl, l, dl, _, rfl, hl, rfl, _, rfl, l, dl, a, f, rfl, hl, ?_⟩
  refine ⟨_, rfl, rfl, _, rfl, ?_⟩
  refine iteDF (by simp) ?_
  refine ⟨_, rfl, p, A.Two, dx, _, _, rfl, hp, T.cl_Two, T.n_Two_right, rfl, r, dr, _, rfl, hr2, rfl, _, rfl, r, dr, b, f, rfl, hr2, ?_⟩
  refine ⟨_, rfl, rfl, _, rfl, ?_⟩
  refine iteDF (by simp) ?_
  exact ⟨_, rfl, p, A.Two, dx, _, _, rfl, hp, T.cl_Two, T.n_Two_word, rfl, _, rfl, _, rfl, wd, a, b, rfl, ha, hb, q⟩

end
end K04
namespace K04
open PySem L2
section
variable {P : Program} {w : World} {K : PySem.W.Frag} {mg : Str → Option Value} {base : Heap} {A : Ads}
theorem ok_l_cell (T : Txt K mg A) : FnOk P w K mg base CX0 1 A.l_cell A.l_cell_d ["_law_script", "_law_k"] (spCell K) := by
  refine T.F_l_cell.ok sc_l_cell (fun vs H Q E h => ?_) (fun cdv A0 outer s H vs Q E hr h => ?_)
  · obtain ⟨a, ns, k, rfl, hS, hk, q⟩ := h
    rfl
  obtain ⟨a, ns, k, rfl, hS, hk, q⟩ := h
  refine ⟨_, (pss_cons (ps_if (pt_cmpR op_lt (pv 1) (pe_callB call_len_seq (by rfl) T.z_len (by decide +kernel) (pa_cons (pv 0) pa_nil)) (nomark _))
    (pss_one (ps_ret (pe_ix ix_list (pv 0) (pv 1) (fun _ _ => rfl))))
    pss_nil)
   (pss_one (ps_ret pe_int))), ?_⟩

  refine ⟨_, rfl, _, rfl, a, _, rfl, .inl hS, _, _, rfl, rfl, _, rfl, ?_⟩
  refine iteD2 (fun c => ?_) (fun c => ?_)
  · obtain ⟨v, hv⟩ := at_int (ns := ns) hk (by rw [List.length_map] at c; exact c)
    exact ⟨_, rfl, _, rfl, a, _, _, _, rfl, rfl, hS, hv, q v⟩
  · exact q 0

end
end K04
namespace K04
open PySem L2
section
variable {P : Program} {w : World} {K : PySem.W.Frag} {mg : Str → Option Value} {base : Heap} {A : Ads}
theorem ok_l_mixed (T : Txt K mg A) : FnOk P w K mg base CX0 1 A.l_mixed A.l_mixed_d ["_law_cell_here", "_law_k"] spI2 := by
  refine T.F_l_mixed.ok sc_l_mixed (fun vs H Q E h => ?_) (fun cdv A0 outer s H vs Q E hr h => ?_)
  · obtain ⟨a, b, rfl, q⟩ := h
    rfl
  obtain ⟨a, b, rfl, q⟩ := h
  refine ⟨_, (pss_cons (ps_set (i := 2) sc_l_mixed.nd rfl (Or.inl rfl) (pe_op op_mod (pe_op op_mul (pe_op op_add (pe_op op_add (pv 0) (pe_op op_mul pe_int (pv 1))) pe_int) pe_int) pe_int))
   (pss_one (ps_ret (pe_op op_mod (pe_op op_mul (pv 2) (pe_op op_add (pe_op op_fdiv (pv 2) pe_int) pe_int)) pe_int)))), ?_⟩

  walk_at "rd"
  exact q _

end
end K04
namespace K04
open PySem L2
section
variable {P : Program} {w : World} {K : PySem.W.Frag} {mg : Str → Option Value} {base : Heap} {A : Ads}
theorem ok_l_twice (T : Txt K mg A) : FnOk P w K mg base CX0 2 A.l_twice A.l_twice_d ["_law_cell_here", "_law_k"] spI2 := by
  have G_l_mixed := ok_l_mixed (P := P) (w := w) (base := base) T
  refine T.F_l_twice.ok sc_l_twice (fun vs H Q E h => ?_) (fun cdv A0 outer s H vs Q E hr h => ?_)
  · obtain ⟨a, b, rfl, q⟩ := h
    rfl
  obtain ⟨a, b, rfl, q⟩ := h
  refine ⟨_, (pss_cons (ps_set (i := 2) sc_l_twice.nd rfl (Or.inl rfl) (pe_op op_mod (pe_op op_mul (pe_op op_add (pe_op op_add (pe_call G_l_mixed (hr.mono (by decide)) rfl T.m_l_mixed T.F_l_mixed.kp T.b_l_mixed .nil pass0 (pa_cons (pv 0) (pa_cons (pv 1) pa_nil))) (pe_op op_mul pe_int (pv 1))) pe_int) pe_int) pe_int))
   (pss_one (ps_ret (pe_op op_mod (pe_op op_mul (pv 2) (pe_op op_add (pe_op op_fdiv (pv 2) pe_int) pe_int)) pe_int)))), ?_⟩

  walk_at "rd"
  refine ⟨_, _, rfl, fun n => ?_⟩
  walk_at "rd"
  exact q _

end
end K04
namespace K04
open PySem L2
section
variable {P : Program} {w : World} {K : PySem.W.Frag} {mg : Str → Option Value} {base : Heap} {A : Ads}
theorem ok_l_well (T : Txt K mg A) : FnOk P w K mg base CX0 2 A.l_well A.l_well_d ["_law_script", "_law_k"] (spWell K) := by
  have G_l_cell := ok_l_cell (P := P) (w := w) (base := base) T
  refine T.F_l_well.ok sc_l_well (fun vs H Q E h => ?_) (fun cdv A0 outer s H vs Q E hr h => ?_)
  · obtain ⟨a, ns, k, rfl, hS, hk, q⟩ := h
    rfl
  obtain ⟨a, ns, k, rfl, hS, hk, q⟩ := h
  refine ⟨_, (pss_one (ps_ret (pe_lst (pa_cons (pe_op op_mod (pe_call G_l_cell (hr.mono (by decide)) rfl T.m_l_cell T.F_l_cell.kp T.b_l_cell .nil pass0 (pa_cons (pv 0) (pa_cons pe_int pa_nil))) pe_int) (pa_cons (pe_call G_l_cell (hr.mono (by decide)) rfl T.m_l_cell T.F_l_cell.kp T.b_l_cell .nil pass0 (pa_cons (pv 0) (pa_cons (pv 1) pa_nil))) (pa_cons pe_int (pa_cons (pe_op op_add (pe_call G_l_cell (hr.mono (by decide)) rfl T.m_l_cell T.F_l_cell.kp T.b_l_cell .nil pass0 (pa_cons (pv 0) (pa_cons (pv 1) pa_nil))) (pv 1)) pa_nil))))))), ?_⟩

  refine ⟨_, rfl, a, ns, 0, rfl, hS, Int.le_refl 0, fun n1 => ?_⟩
  walk_at "rd"
  refine ⟨a, ns, k, rfl, hS, hk, fun n2 => ?_⟩
  walk_at "rd"
  refine ⟨a, ns, k, rfl, hS, hk, fun n3 => ?_⟩
  walk_at "rd"
  exact ⟨by show 4 ≤ sizeLine; decide, fun p hp => q p _ hp (same_new hp) ⟨_, _, _, _, upd_same⟩⟩

end
end K04
namespace K04
open PySem L2
section
variable {P : Program} {w : World} {K : PySem.W.Frag} {mg : Str → Option Value} {base : Heap} {A : Ads}
theorem ok_l_draw (T : Txt K mg A) : FnOk P w K mg base CX0 3 A.l_draw A.l_draw_d ["_law_well_here", "_law_most"] spDraw := by
  have G_l_twice := ok_l_twice (P := P) (w := w) (base := base) T
  refine T.F_l_draw.ok sc_l_draw (fun vs H Q E h => ?_) (fun cdv A0 outer s H vs Q E hr h => ?_)
  · obtain ⟨p, m, rfl, ⟨a, b, c, d, h⟩, hm0, hm1, q⟩ := h
    rfl
  obtain ⟨p, m, rfl, ⟨a, b, c, d, h⟩, hm0, hm1, q⟩ := h
  refine ⟨_, (pss_cons (ps_if (PW.pt (pw_and (pt_cmpR op_eq (pe_ix ix_list (pv 0) pe_int (fun _ _ => rfl)) pe_int (nomark _)) (pw_and1 (pt_cmpR op_notIn_seq (pe_ix ix_list (pv 0) pe_int (fun _ _ => rfl)) (pe_tup (pa_cons pe_int (pa_cons (pe_un un_neg pe_int) pa_nil))) (by rfl)))))
    (pss_cons (ps_set (i := 2) sc_l_draw.nd rfl (Or.inl rfl) (pe_op op_modN (pe_ix ix_list (pv 0) pe_int (fun _ _ => rfl)) (pv 1)))
   (pss_cons (ps_asg (pe_op op_fdivN (pe_ix ix_list (pv 0) pe_int (fun _ _ => rfl)) (pv 1)) (pg_sub (pv 0) pe_int set_list))
   (pss_one (ps_ret (pv 2)))))
    pss_nil)
   (pss_cons (ps_asg (pe_op op_add (pe_ix ix_list (pv 0) pe_int (fun _ _ => rfl)) pe_int) (pg_sub (pv 0) pe_int set_list))
   (pss_one (ps_ret (pe_op op_modN (pe_call G_l_twice (hr.mono (by decide)) rfl T.m_l_twice T.F_l_twice.kp T.b_l_twice .nil pass0 (pa_cons (pe_ix ix_list (pv 0) pe_int (fun _ _ => rfl)) (pa_cons (pe_ix ix_list (pv 0) pe_int (fun _ _ => rfl)) pa_nil))) (pv 1)))))), ?_⟩

  have hm : m ≠ 0 := by omega
  refine ⟨_, rfl, p, _, _, _, rfl, rfl, SqL.of h, rfl, rfl, _, rfl, ?_⟩
  refine iteD2 (fun c1 => ?_) (fun c1 => ?_)
  · refine ⟨_, rfl, p, _, _, _, rfl, rfl, SqL.of h, rfl, _, rfl, by show 2 ≤ sizeLine; decide, fun t ht => ?_⟩
    have npt : p ≠ t := ne_of_none h ht
    have h1 : ∀ o, upd H t o p = some (.lst [.int a, .int b, .int c, .int d]) := fun o => by rw [upd_ne npt]; exact h
    refine ⟨t, _, rfl, .inr (SqT.of upd_same), rfl, rfl, _, rfl, ?_⟩
    refine iteB2 (fun c2 => ?_) (fun c2 => ?_)
    · refine ⟨_, rfl, p, _, _, _, rfl, rfl, SqL.of (h1 _), rfl, _, rfl, _, _, rfl, rfl, hm, ?_⟩
      refine ⟨_, rfl, p, _, _, _, rfl, rfl, SqL.of (h1 _), rfl, _, rfl, _, _, rfl, rfl, ⟨hm, by omega⟩, ?_⟩
      refine ⟨_, rfl, p, _, _, 1, rfl, rfl, h1 _, rfl, _, rfl, ?_⟩
      exact q _ _ (Int.fmod_nonneg_of_pos _ hm0) (Int.fmod_lt_of_pos _ hm0) ((keepX_of (same_new ht)).trans keepX_upd) ⟨_, _, _, _, upd_same⟩
    · refine ⟨_, rfl, p, _, _, _, rfl, rfl, SqL.of (h1 _), rfl, _, _, rfl, rfl, _, rfl, p, _, _, 2, rfl, rfl, h1 _, rfl, ?_⟩
      refine ⟨_, rfl, p, _, _, _, rfl, rfl, SqL.of upd_same, rfl, _, rfl, p, _, _, _, rfl, rfl, SqL.of upd_same, rfl, _, _, rfl, fun n => ?_⟩
      refine ⟨_, rfl, _, _, rfl, rfl, hm, ?_⟩
      exact q _ _ (Int.fmod_nonneg_of_pos _ hm0) (Int.fmod_lt_of_pos _ hm0) ((keepX_of (same_new ht)).trans keepX_upd) ⟨_, _, _, _, upd_same⟩
  · refine ⟨_, rfl, p, _, _, _, rfl, rfl, SqL.of h, rfl, _, _, rfl, rfl, _, rfl, p, _, _, 2, rfl, rfl, h, rfl, ?_⟩
    refine ⟨_, rfl, p, _, _, _, rfl, rfl, SqL.of upd_same, rfl, _, rfl, p, _, _, _, rfl, rfl, SqL.of upd_same, rfl, _, _, rfl, fun n => ?_⟩
    refine ⟨_, rfl, _, _, rfl, rfl, hm, ?_⟩
    exact q _ _ (Int.fmod_nonneg_of_pos _ hm0) (Int.fmod_lt_of_pos _ hm0) keepX_upd ⟨_, _, _, _, upd_same⟩

end
end K04
namespace K04
open PySem L2
section
variable {P : Program} {w : World} {K : PySem.W.Frag} {mg : Str → Option Value} {base : Heap} {A : Ads}
theorem ok_l_of (T : Txt K mg A) : FnOk P w K mg base CX0 3 A.l_of A.l_of_d ["_law_word", "_law_one", "_law_other"] spOf := by
  have G_Two_init := ok_Two_init (P := P) (w := w) (base := base) T
  have G_Number_init := ok_Number_init (P := P) (w := w) (base := base) T
  have G_Two_reckon := ok_Two_reckon (P := P) (w := w) (base := base) T
  refine T.F_l_of.ok sc_l_of (fun vs H Q E h => ?_) (fun cdv A0 outer s H vs Q E hr h => ?_)
  · obtain ⟨wd, a, b, rfl, ha, hb, q⟩ := h
    rfl
  obtain ⟨wd, a, b, rfl, ha, hb, q⟩ := h
  refine ⟨_, (pss_one (ps_ret (pe_meth (pe_make T.k_Two G_Two_init (hr.mono (by decide)) rfl T.m_Two T.b_Two_init .nil pass0 (pa_cons (pv 0) (pa_cons (pe_make T.k_Number G_Number_init (hr.mono (by decide)) rfl T.m_Number T.b_Number_init .nil pass0 (pa_cons (pv 1) pa_nil)) (pa_cons (pe_make T.k_Number G_Number_init (hr.mono (by decide)) rfl T.m_Number T.b_Number_init .nil pass0 (pa_cons (pv 2) pa_nil)) pa_nil)))) T.cl_Two T.me_Two_reckon G_Two_reckon (hr.mono (by decide)) T.b_Two_reckon .nil pass0 (pa_cons (pe_glob (v := .ref A.l_none) (by rfl) T.m_l_none rfl) pa_nil)))), ?_⟩

  refine ⟨_, rfl, _, rfl, fun x1 d1 hx1 hd1 _ => mk_num hx1 hd1 fun H1 s1 h1 => ?_⟩
  refine ⟨_, rfl, fun x2 d2 hx2 hd2 _ => mk_num hx2 hd2 fun H2 s2 h2 => ?_⟩
  refine fun x3 d3 hx3 hd3 _ => mk_two hx3 hd3 fun H3 s3 h3 => ?_
  refine ⟨x3, d3, _, rfl, h3, rfl, ?_⟩
  exact ⟨x3, d3, x1, d1, x2, d2, wd, a, b, _, rfl, h3, s3 _ _ (s2 _ _ h1), s3 _ _ h2, ha, hb, q H3 (s1.trans (s2.trans s3))⟩

end
end K04
namespace K04
open PySem L2
section
variable {P : Program} {w : World} {K : PySem.W.Frag} {mg : Str → Option Value} {base : Heap} {A : Ads}
theorem ok_l_values (T : Txt K mg A) : FnOk P w K mg base CX0 4 A.l_values A.l_values_d ["_law_well_here"] spValues := by
  have G_l_draw := ok_l_draw (P := P) (w := w) (base := base) T
  refine T.F_l_values.ok sc_l_values (fun vs H Q E h => ?_) (fun cdv A0 outer s H vs Q E hr h => ?_)
  · obtain ⟨p, rfl, W, q⟩ := h
    rfl
  obtain ⟨p, rfl, W, q⟩ := h
  refine ⟨_, (pss_cons (ps_set (i := 1) sc_l_values.nd rfl (Or.inl rfl) (pe_lst pa_nil))
   (pss_cons (ps_for PassesOwn.never rfl (pi_range1 (by rfl) T.z_range (pa_cons pe_int pa_nil)) (pg_name (i := 2) sc_l_values.nd rfl (Or.inl rfl))
    (pss_cons (ps_set (i := 3) sc_l_values.nd rfl (Or.inl rfl) (pe_call G_l_draw (hr.mono (by decide)) rfl T.m_l_draw T.F_l_draw.kp T.b_l_draw .nil pass0 (pa_cons (pv 0) (pa_cons pe_int pa_nil))))
   (pss_one (ps_if (pt_cmpR op_eq (pv 3) pe_int (nomark _))
    (pss_one (ps_expr (pe_bm PySem.F.plainAttrs_list PySem.F.slot_list_append PySem.F.type_list_append mt_append (pv 1) (pa_cons (pe_call G_l_draw (hr.mono (by decide)) rfl T.m_l_draw T.F_l_draw.kp T.b_l_draw .nil pass0 (pa_cons (pv 0) (pa_cons pe_int pa_nil))) pa_nil))))
    (pss_one (ps_if (pt_cmpR op_eq (pv 3) pe_int (nomark _))
    (pss_one (ps_expr (pe_bm PySem.F.plainAttrs_list PySem.F.slot_list_append PySem.F.type_list_append mt_append (pv 1) (pa_cons (pe_op op_sub pe_int (pe_call G_l_draw (hr.mono (by decide)) rfl T.m_l_draw T.F_l_draw.kp T.b_l_draw .nil pass0 (pa_cons (pv 0) (pa_cons pe_int pa_nil)))) pa_nil))))
    (pss_one (ps_expr (pe_bm PySem.F.plainAttrs_list PySem.F.slot_list_append PySem.F.type_list_append mt_append (pv 1) (pa_cons (pe_call G_l_draw (hr.mono (by decide)) rfl T.m_l_draw T.F_l_draw.kp T.b_l_draw .nil pass0 (pa_cons (pv 0) (pa_cons (pe_op op_pow pe_int pe_int) pa_nil))) pa_nil))))))))))
   (pss_cons (ps_if (pt_cmpR op_eq (pe_call G_l_draw (hr.mono (by decide)) rfl T.m_l_draw T.F_l_draw.kp T.b_l_draw .nil pass0 (pa_cons (pv 0) (pa_cons pe_int pa_nil))) pe_int (nomark _))
    (pss_one (ps_asg (pe_ix ix_list (pv 1) pe_int (fun _ _ => rfl)) (pg_sub (pv 1) pe_int set_list)))
    pss_nil)
   (pss_one (ps_ret (pv 1)))))), ?_⟩

  obtain ⟨a0, b0, c0, d0, hw⟩ := id W
  refine ⟨by show 0 ≤ sizeLine; decide, fun r hr0 => ?_⟩
  have npr : p ≠ r := ne_of_none hw hr0
  refine ⟨2, rfl, by decide, by decide, for_range (n := 2) (fun i σ H' => ∃ (xs : List Int) (v1 v2 : Option V), σ = [some (.ref p), some (.ref r), v1, v2] ∧ xs.length = i ∧ (∀ x ∈ xs, IsV x) ∧ KeepX p H H' ∧ WellAt H' p ∧ H' r = some (.lst (xs.map V.int)))
    ⟨[], none, none, rfl, rfl, (fun _ h => by cases h), keepX_of (same_new hr0), ⟨a0, b0, c0, d0, by rw [upd_ne npr]; exact hw⟩, upd_same⟩ ?_ ?_⟩
  · rintro i σ H1 hi ⟨xs, v1, v2, rfl, hl, hx, hK, hW, hR⟩
    refine ⟨_, rfl, p, 4, rfl, hW, by decide, by decide, fun n H2 hn0 hn1 k2 W2 => ?_⟩
    have hR2 := k2 _ _ npr.symm hR
    refine ⟨_, rfl, rfl, _, rfl, ?_⟩
    refine iteD2 (fun c1 => ?_) (fun c1 => ?_)
    · refine ⟨_, rfl, .inl ⟨rfl, _, SqL.of hR2⟩, _, rfl, p, 3, rfl, W2, by decide, by decide, fun m H3 hm0 hm1 k3 W3 => ?_⟩
      refine ⟨r, _, _, rfl, rfl, k3 _ _ npr.symm hR2, by rw [List.length_map]; exact small1000 (by omega), ?_⟩
      exact ⟨xs ++ [m], _, _, rfl, by rw [List.length_append, hl, List.length_singleton], val_end hr0 npr (hK.trans (k2.trans k3)) W3 hx ⟨hm0, by omega⟩⟩
    · refine ⟨_, rfl, rfl, _, rfl, ?_⟩
      refine iteD2 (fun c2 => ?_) (fun c2 => ?_)
      · refine ⟨_, rfl, .inl ⟨rfl, _, SqL.of hR2⟩, _, rfl, p, 3, rfl, W2, by decide, by decide, fun m H3 hm0 hm1 k3 W3 => ?_⟩
        refine ⟨_, _, rfl, rfl, ?_⟩
        refine ⟨r, _, _, rfl, rfl, k3 _ _ npr.symm hR2, by rw [List.length_map]; exact small1000 (by omega), ?_⟩
        exact ⟨xs ++ [999999 - m], _, _, rfl, by rw [List.length_append, hl, List.length_singleton], val_end hr0 npr (hK.trans (k2.trans k3)) W3 hx ⟨by omega, by omega⟩⟩
      · refine ⟨_, rfl, .inl ⟨rfl, _, SqL.of hR2⟩, _, rfl, _, _, rfl, rfl, ⟨by decide, by decide, by decide⟩, p, _, rfl, W2, by decide, by decide, fun m H3 hm0 hm1 k3 W3 => ?_⟩
        have e6 : (10 : Int) ^ ((6 : Int).toNat) = 1000000 := by decide
        rw [e6] at hm1
        refine ⟨r, _, _, rfl, rfl, k3 _ _ npr.symm hR2, by rw [List.length_map]; exact small1000 (by omega), ?_⟩
        exact ⟨xs ++ [m], _, _, rfl, by rw [List.length_append, hl, List.length_singleton], val_end hr0 npr (hK.trans (k2.trans k3)) W3 hx ⟨hm0, hm1⟩⟩
  · rintro σ H1 ⟨xs, v1, v2, rfl, hl, hx, hK, hW, hR⟩
    obtain ⟨x, y, rfl⟩ : ∃ x y, xs = [x, y] := by
      match xs, hl with
      | [x, y], _ => exact ⟨x, y, rfl⟩
    have h1 : IsV x := hx x List.mem_cons_self
    have h2 : IsV y := hx y (List.mem_cons_of_mem _ List.mem_cons_self)
    refine ⟨_, rfl, p, 6, rfl, hW, by decide, by decide, fun n H2 hn0 hn1 k2 W2 => ?_⟩
    have hR2 := k2 _ _ npr.symm hR
    refine ⟨rfl, _, rfl, ?_⟩
    refine iteD2 (fun c1 => ?_) (fun c1 => ?_)
    · refine ⟨_, rfl, r, _, _, _, rfl, rfl, SqL.of hR2, rfl, _, rfl, r, _, _, 1, rfl, rfl, hR2, rfl, ?_⟩
      refine ⟨_, rfl, q x x r _ h1 h1 ?_ upd_same⟩
      exact fun b o n e => by rw [upd_ne (ne_of_none e hr0)]; exact k2 b o n (hK b o n e)
    · exact ⟨_, rfl, q x y r _ h1 h2 (hK.trans k2) hR2⟩

end
end K04
namespace K04
open PySem L2
section
variable {P : Program} {w : World} {K : PySem.W.Frag} {mg : Str → Option Value} {base : Heap} {A : Ads}
theorem ok_l_right (T : Txt K mg A) : FnOk P w K mg base CX0 4 A.l_right A.l_right_d ["_law_one", "_law_other"] spRight := by
  have G_l_of := ok_l_of (P := P) (w := w) (base := base) T
  refine T.F_l_right.ok sc_l_right (fun vs H Q E h => ?_) (fun cdv A0 outer s H vs Q E hr h => ?_)
  · obtain ⟨a, b, rfl, ha, hb, q⟩ := h
    rfl
  obtain ⟨a, b, rfl, ha, hb, q⟩ := h
  refine ⟨_, (pss_cons (ps_if (PW.pt (pw_or (pt_cmpR op_ne (pe_call G_l_of (hr.mono (by decide)) rfl T.m_l_of T.F_l_of.kp T.b_l_of .nil pass0 (pa_cons pe_str (pa_cons (pv 0) (pa_cons (pv 1) pa_nil)))) (pe_op op_mod (pe_op op_add (pv 0) (pv 1)) (pe_op op_pow pe_int pe_int)) (nomark _)) (pw_or1 (pt_cmpR op_ne (pe_call G_l_of (hr.mono (by decide)) rfl T.m_l_of T.F_l_of.kp T.b_l_of .nil pass0 (pa_cons pe_str (pa_cons (pv 0) (pa_cons (pv 1) pa_nil)))) (pe_op op_mod (pe_op op_mul (pv 0) (pv 1)) (pe_op op_pow pe_int pe_int)) (nomark _)))))
    (pss_one (ps_ret pe_bl))
    pss_nil)
   (pss_cons (ps_set (i := 2) sc_l_right.nd rfl (Or.inl rfl) (pe_call G_l_of (hr.mono (by decide)) rfl T.m_l_of T.F_l_of.kp T.b_l_of .nil pass0 (pa_cons pe_str (pa_cons (pv 0) (pa_cons (pv 1) pa_nil)))))
   (pss_cons (ps_if (PW.pt (pw_or (pt_not (pt_chain op_le op_lt pe_int (pv 2) (pe_op op_pow pe_int pe_int))) (pw_or1 (pt_cmpR op_ne (pe_op op_mod (pe_op op_add (pv 2) (pv 1)) (pe_op op_pow pe_int pe_int)) (pv 0) (nomark _)))))
    (pss_one (ps_ret pe_bl))
    pss_nil)
   (pss_cons (ps_set (i := 3) sc_l_right.nd rfl (Or.inl rfl) (pe_call G_l_of (hr.mono (by decide)) rfl T.m_l_of T.F_l_of.kp T.b_l_of .nil pass0 (pa_cons pe_str (pa_cons (pv 0) (pa_cons (pv 1) pa_nil)))))
   (pss_cons (ps_set (i := 4) sc_l_right.nd rfl (Or.inl rfl) (pe_call G_l_of (hr.mono (by decide)) rfl T.m_l_of T.F_l_of.kp T.b_l_of .nil pass0 (pa_cons pe_str (pa_cons (pv 0) (pa_cons (pv 1) pa_nil)))))
   (pss_cons (ps_if (pt_cmpR op_eq (pv 1) pe_int (nomark _))
    (pss_one (ps_ret (pe_and (pe_cmpR op_isN (pv 3) pe_non (nomark _)) (pe_one (pe_cmpR op_isN (pv 4) pe_non (nomark _))))))
    pss_nil)
   (pss_one (ps_ret (pe_and (pe_chain op_le op_lt pe_int (pv 4) (pv 1)) (pe_one (pe_cmpR op_eq (pe_op op_add (pe_op op_mul (pv 3) (pv 1)) (pv 4)) (pv 0) (nomark _)))))))))))), ?_⟩

  have e6 : (10 : Int) ^ ((6 : Int).toNat) = 1000000 := by decide
  have ha64 : CMul a b := Or.inl ⟨by have := ha.1; omega, by have := ha.2; omega⟩
  refine ⟨_, rfl, _, rfl, _, a, b, rfl, ha, hb, fun H1 s1 => ?_⟩
  rw [bothV_plus]
  refine ⟨_, rfl, _, rfl, _, _, rfl, rfl, _, _, rfl, rfl, ⟨by decide, by decide, by decide⟩, _, _, rfl, rfl, (by show (0 : Int) < _; decide), rfl, _, rfl, iteNF (by rw [e6]) ?_⟩
  refine ⟨_, rfl, _, rfl, _, a, b, rfl, ha, hb, fun H2 s2 => ?_⟩
  rw [bothV_times]
  refine ⟨_, rfl, _, rfl, _, _, rfl, rfl, ha64, _, _, rfl, rfl, ⟨by decide, by decide, by decide⟩, _, _, rfl, rfl, (by show (0 : Int) < _; decide), rfl, _, rfl, iteNF (by rw [e6]) ?_⟩
  refine ⟨_, rfl, _, rfl, _, a, b, rfl, ha, hb, fun H3 s3 => ?_⟩
  rw [bothV_minus]
  have m1 := less_math ha hb
  refine ⟨_, rfl, _, _, rfl, rfl, _, rfl, iteDT m1.1 ?_⟩
  refine ⟨_, _, rfl, rfl, ⟨by decide, by decide, by decide⟩, _, _, rfl, rfl, _, rfl, iteNF (by rw [e6]; exact m1.2.1) ?_⟩
  refine ⟨_, rfl, _, rfl, _, _, rfl, rfl, _, _, rfl, rfl, ⟨by decide, by decide, by decide⟩, _, _, rfl, rfl, (by show (0 : Int) < _; decide), _, rfl, rfl, _, rfl, iteNF (by show V.int (((a - b) % 1000000 + b) % (10 ^ ((6 : Int).toNat))) = _; rw [e6, m1.2.2]) ?_⟩
  have s13 := s1.trans (s2.trans s3)
  refine ⟨_, rfl, _, rfl, _, a, b, rfl, ha, hb, fun H4 s4 => ?_⟩
  refine ⟨_, rfl, _, rfl, _, a, b, rfl, ha, hb, fun H5 s5 => ?_⟩
  have s15 := s13.trans (s4.trans s5)
  by_cases hb0 : b = 0
  · rw [bothV_over0 hb0, bothV_rest0 hb0]
    refine ⟨_, rfl, rfl, _, rfl, iteDT (congrArg V.int hb0) ?_⟩
    refine ⟨_, rfl, rfl, _, rfl, iteDT rfl ?_⟩
    refine ⟨_, rfl, rfl, ?_⟩
    show Q (.bl (decide (V.non = V.non))) _
    rw [decide_eq_true rfl]
    exact q _ s15
  · rw [bothV_over hb0, bothV_rest hb0]
    have m2 := div_math ha hb hb0
    refine ⟨_, rfl, rfl, _, rfl, iteDF (vint_ne hb0) ?_⟩
    refine ⟨_, rfl, _, _, rfl, rfl, _, rfl, iteDT m2.1 ?_⟩
    refine ⟨_, rfl, _, _, rfl, rfl, _, rfl, iteDT m2.2.1 ?_⟩
    refine ⟨_, rfl, _, rfl, _, _, rfl, rfl, Or.inr ⟨by have := hb.1; omega, by have := hb.2; omega⟩, _, rfl, _, _, rfl, rfl, _, rfl, rfl, ?_⟩
    show Q (.bl (decide (V.int (a.fdiv b * b + a.fmod b) = V.int a))) _
    rw [m2.2.2, decide_eq_true rfl]
    exact q _ s15

end
end K04
namespace K04
open PySem L2
section
variable {P : Program} {w : World} {K : PySem.W.Frag} {mg : Str → Option Value} {base : Heap} {A : Ads}
theorem ok_law (T : Txt K mg A) : FnOk P w K mg base CX0 5 A.law A.law_d ["_law_script"] (spLaw K) := by
  have G_l_values := ok_l_values (P := P) (w := w) (base := base) T
  have G_l_well := ok_l_well (P := P) (w := w) (base := base) T
  have G_l_right := ok_l_right (P := P) (w := w) (base := base) T
  have G_l_of := ok_l_of (P := P) (w := w) (base := base) T
  refine T.F_law.ok sc_law (fun vs H Q E h => ?_) (fun cdv A0 outer s H vs Q E hr h => ?_)
  · obtain ⟨a, ns, rfl, hS, hlen, q⟩ := h
    rfl
  obtain ⟨a, ns, rfl, hS, hlen, q⟩ := h
  refine ⟨_, (pss_cons (ps_for PassesOwn.never rfl (pi_range2 (by rfl) T.z_range (pa_cons pe_int (pa_cons pe_int pa_nil))) (pg_name (i := 1) sc_law.nd rfl (Or.inl rfl))
    (pss_cons (ps_asg (pe_call G_l_values (hr.mono (by decide)) rfl T.m_l_values T.F_l_values.kp T.b_l_values .nil pass0 (pa_cons (pe_call G_l_well (hr.mono (by decide)) rfl T.m_l_well T.F_l_well.kp T.b_l_well .nil pass0 (pa_cons (pv 0) (pa_cons (pv 1) pa_nil))) pa_nil)) (pg_unl rfl (pgs_cons (pg_name (i := 2) sc_law.nd rfl (Or.inl rfl)) (pgs_cons (pg_name (i := 3) sc_law.nd rfl (Or.inl rfl)) pgs_nil))))
   (pss_cons (ps_if (PW.pt (pw_or (pt_not (pt_val (pe_call G_l_right (hr.mono (by decide)) rfl T.m_l_right T.F_l_right.kp T.b_l_right .nil pass0 (pa_cons (pv 2) (pa_cons (pv 3) pa_nil))))) (pw_or1 (pt_not (pt_val (pe_call G_l_right (hr.mono (by decide)) rfl T.m_l_right T.F_l_right.kp T.b_l_right .nil pass0 (pa_cons (pv 3) (pa_cons (pv 2) pa_nil))))))))
    (pss_one (ps_ret pe_bl))
    pss_nil)
   (pss_cons (ps_set (i := 4) sc_law.nd rfl (Or.inl rfl) (pe_lst (pa_cons (pe_call G_l_of (hr.mono (by decide)) rfl T.m_l_of T.F_l_of.kp T.b_l_of .nil pass0 (pa_cons pe_str (pa_cons (pv 2) (pa_cons (pv 3) pa_nil)))) (pa_cons (pe_call G_l_of (hr.mono (by decide)) rfl T.m_l_of T.F_l_of.kp T.b_l_of .nil pass0 (pa_cons pe_str (pa_cons (pv 3) (pa_cons (pv 2) pa_nil)))) (pa_cons (pe_call G_l_of (hr.mono (by decide)) rfl T.m_l_of T.F_l_of.kp T.b_l_of .nil pass0 (pa_cons pe_str (pa_cons (pv 2) (pa_cons (pv 3) pa_nil)))) pa_nil)))))
   (pss_cons (ps_if (PW.pt (pw_or (pt_cmpR (op_neD hr.units) (pe_callB cr_sorted (by rfl) T.z_sorted (by decide +kernel) (pa_cons (pv 4) pa_nil)) (pe_lst (pa_cons pe_int (pa_cons pe_int (pa_cons pe_int pa_nil)))) (nomark _)) (pw_or (pt_cmpR op_ne (pe_cmpR op_eq (pe_ix ix_list (pv 4) pe_int (fun _ _ => rfl)) pe_int (nomark _)) (pe_cmpR op_eq (pv 2) (pv 3) (nomark _)) (nomark _)) (pw_or1 (pt_cmpR op_ne (pe_cmpR op_eq (pe_ix ix_list (pv 4) pe_int (fun _ _ => rfl)) pe_int (nomark _)) (pe_cmpR op_lt (pv 2) (pv 3) (nomark _)) (nomark _))))))
    (pss_one (ps_ret pe_bl))
    pss_nil)
   (pss_one (ps_if (pt_cmpR (op_neD hr.units) (pe_lc (own := [("_law_one", 2)]) (g := gName 2) rfl sc_law.nd (pi_list (pv 4)) (blkOk_by (own := [("_law_one", 2)]) (N := N_law) (sc := defScope s_law) (by decide +kernel)) (fun _ _ _ _ _ => pg_name (i := 2) sc_law.nd rfl (Or.inl rfl)) (fun _ _ _ _ _ => pts_one (pt_val (pe_callB (r := rIsi K) call_isi (by rfl) T.z_isinstance (by decide +kernel) (pa_cons (pv 2) (pa_cons (pe_bltn (v := .ty "bool") (by rfl) T.z_bool (by decide +kernel) rfl) pa_nil))))) (fun _ _ _ _ _ => (pv 2))) (pe_lst pa_nil) (nomark _))
    (pss_one (ps_ret pe_bl))
    pss_nil)))))))
   (pss_one (ps_ret pe_bl))), ?_⟩

  refine ⟨1, 5, rfl, ⟨by decide, by decide, by decide, by decide⟩, for_range (lo := 1) (n := 4) (fun i σ H' => ∃ (v1 v2 v3 v4 : Option V), σ = [some (.ref a), v1, v2, v3, v4] ∧ Same H H')
    ⟨none, none, none, none, rfl, Same.refl H⟩ ?_ ?_⟩
  · rintro i σ H1 hi ⟨v1, v2, v3, v4, rfl, s1⟩
    refine ⟨_, rfl, _, rfl, a, ns, _, rfl, s1.seq hS, by omega, fun p H2 hp s2 W => ?_⟩
    refine ⟨p, rfl, W, fun x y r H3 hx hy k3 hr3 => ?_⟩
    have s3 : Same H1 H3 := KeepX.same hp (fun z o n e => k3 z o n (s2 z o e))
    refine ⟨r, _, rfl, SqL.of hr3, rfl, _, _, rfl, _, _, rfl, rfl, ?_⟩
    refine ⟨_, rfl, _, rfl, x, y, rfl, hx, hy, fun H4 s4 => ?_⟩
    refine ⟨true, rfl, iteF ?_⟩
    refine ⟨_, rfl, _, rfl, y, x, rfl, hy, hx, fun H5 s5 => ?_⟩
    refine ⟨true, rfl, iteF ?_⟩
    refine ⟨_, rfl, _, rfl, _, x, y, rfl, hx, hy, fun H6 s6 => ?_⟩
    refine ⟨_, rfl, _, rfl, _, y, x, rfl, hy, hx, fun H7 s7 => ?_⟩
    refine ⟨_, rfl, _, rfl, _, x, y, rfl, hx, hy, fun H8 s8 => ?_⟩
    rw [bothV_less, bothV_less, bothV_same]
    refine ⟨by show 3 ≤ sizeLine; decide, fun l hl => ?_⟩
    generalize hGl : upd H8 l _ = H9
    have s9 : Same H8 H9 := hGl ▸ same_new hl
    have h9 := (congrFun hGl l).symm.trans upd_same
    clear hGl

    refine ⟨_, rfl, l, [_, _, _], rfl, SqL.of h9, by show 3 < 64; decide, fun zs t pm pw ht => ?_⟩
    have ez := three_math x y zs pm pw
    subst ez
    generalize hGt : upd H9 t _ = H10
    have s10 : Same H9 H10 := hGt ▸ same_new ht
    have h10 := (congrFun hGt t).symm.trans upd_same
    clear hGt

    refine ⟨by show 3 ≤ sizeLine; decide, fun u hu => ?_⟩
    generalize hGu : upd H10 u _ = H11
    have s11 : Same H10 H11 := hGu ▸ same_new hu
    have h11 := (congrFun hGu u).symm.trans upd_same
    clear hGu

    have hL := s11 _ _ (s10 _ _ h9)
    have hH : Same H H11 := (s1.trans s3).trans (s4.trans (s5.trans (s6.trans (s7.trans (s8.trans (s9.trans (s10.trans s11)))))))
    refine ⟨_, _, .lst (SqL.of (s11 _ _ h10)) (.cons (.int _) (.cons (.int _) (.cons (.int _) .nil))), .lst (SqL.of h11) (.cons (.int _) (.cons (.int _) (.cons (.int _) .nil))), rfl, rfl, _, rfl, ?_⟩
    refine iteF ?_
    refine ⟨_, rfl, l, _, _, _, rfl, rfl, SqL.of hL, rfl, rfl, _, rfl, _, rfl, rfl, rfl, _, rfl, iteNF (congrArg V.bl (same_math x y)) ?_⟩
    refine ⟨_, rfl, l, _, _, _, rfl, rfl, SqL.of hL, rfl, rfl, _, rfl, _, rfl, _, _, rfl, rfl, rfl, _, rfl, iteNF (congrArg V.bl (less_math2 x y)) ?_⟩
    obtain ⟨i1, i2, i3, hL⟩ : ∃ i1 i2 i3 : Int, H11 l = some (.lst [.int i1, .int i2, .int i3]) := ⟨_, _, _, hL⟩
    refine ⟨_, rfl, l, rfl, ⟨_, SqL.of hL⟩, fun D hD => lc_list (K := K) (a := l) (xs := [.int i1, .int i2, .int i3]) (fun i H' => H' D = some (.lst []) ∧ H' l = H11 l ∧ Same H H') ⟨upd_same, upd_ne (ne_of_none hL hD), hH.trans (same_new hD)⟩ ?_ ?_ ?_⟩
    · rintro i H' _ ⟨_, e, _⟩
      exact SqL.of (e.trans hL)
    · rintro i z H' hz ⟨e1, e2, e3⟩
      obtain ⟨n, rfl⟩ : ∃ n, z = V.int n := by
        match i, hz with
        | 0, hz => exact ⟨_, (Option.some.inj hz).symm⟩
        | 1, hz => exact ⟨_, (Option.some.inj hz).symm⟩
        | 2, hz => exact ⟨_, (Option.some.inj hz).symm⟩
        | n + 3, hz => cases hz
      refine ⟨rfl, ?_⟩
      refine ⟨_, rfl, _, _, _, _, false, rfl, .ty _, .base (.int _), kit_ty (by decide +kernel), _, rfl, iteF ?_⟩
      exact ⟨e1, e2, e3⟩
    · rintro H' ⟨e1, e2, e3⟩
      refine ⟨by show 0 ≤ sizeLine; decide, fun z hz => ?_⟩
      refine ⟨_, _, .lst (SqL.of (by rw [upd_ne (ne_of_none e1 hz)]; exact e1)) .nil, .lst (SqL.of upd_same) .nil, rfl, rfl, _, rfl, iteF ?_⟩
      exact ⟨_, _, _, _, rfl, e3.trans (same_new hz)⟩
  · rintro σ H1 ⟨v1, v2, v3, v4, rfl, s1⟩
    exact q _

end
end K04
namespace K04
open PySem L2
theorem all_mk {l : PySem.W.OpenLaw} {w : World} {K : PySem.W.Frag} {h : Heap} {mg : Str → Option Value} {fa : Addr} (X : K.In h) (G : h.Ns mainGlobals mg) (hfa : mg "law" = some (.ref fa))
    {f1 f2 f3 f4 f5 f6 f7 f8 f9 f10 f11 f12 f13 f14 f15 C_Number C_Two : Addr}
    {od1 an1 od2 an2 od3 an3 od4 an4 od5 an5 od6 an6 od7 an7 od8 an8 od9 an9 od10 an10 od11 an11 od12 an12 od13 an13 od14 an14 od15 an15 : Option Addr} {sl1 sl2 sl3 sl4 sl5 sl6 sl7 sl8 sl9 sl10 sl11 sl12 sl13 sl14 sl15 : Array (Option Value)} {oc1 kV1 dc1 pm1 cd1 ct1 oc2 kV2 dc2 pm2 cd2 ct2 oc3 kV3 dc3 pm3 cd3 ct3 oc4 kV4 dc4 pm4 cd4 ct4 oc5 kV5 dc5 pm5 cd5 ct5 oc6 kV6 dc6 pm6 cd6 ct6 oc7 kV7 dc7 pm7 cd7 ct7 oc8 kV8 dc8 pm8 cd8 ct8 oc9 kV9 dc9 pm9 cd9 ct9 oc10 kV10 dc10 pm10 cd10 ct10 oc11 kV11 dc11 pm11 cd11 ct11 oc12 kV12 dc12 pm12 cd12 ct12 oc13 kV13 dc13 pm13 cd13 ct13 oc14 kV14 dc14 pm14 cd14 ct14 oc15 kV15 dc15 pm15 cd15 ct15 : Value}
    (a_Number : PySem.W.nsIn K mainGlobals "Number" = some (some (.ref C_Number)))
    (pg_Number : PySem.W.plainGet K C_Number Str.empty = true)
    (hd_Number : PySem.W.hasDictIn K C_Number = true)
    (po_Number : PySem.W.plainOver K C_Number = true)
    (sa_Number : PySem.W.findIn K (.ref C_Number) "__setattr__" = some (some (.builtin "object.__setattr__")))
    (mk_Number : PySem.W.makesIn K C_Number = true)
    (kc_Number : PySem.W.keepIn K (.ref C_Number) = true)
    (n_Number_value : PySem.W.findIn K (.ref C_Number) "value" = some none)
    (a_Two : PySem.W.nsIn K mainGlobals "Two" = some (some (.ref C_Two)))
    (pg_Two : PySem.W.plainGet K C_Two Str.empty = true)
    (hd_Two : PySem.W.hasDictIn K C_Two = true)
    (po_Two : PySem.W.plainOver K C_Two = true)
    (sa_Two : PySem.W.findIn K (.ref C_Two) "__setattr__" = some (some (.builtin "object.__setattr__")))
    (mk_Two : PySem.W.makesIn K C_Two = true)
    (kc_Two : PySem.W.keepIn K (.ref C_Two) = true)
    (n_Two_word : PySem.W.findIn K (.ref C_Two) "word" = some none)
    (n_Two_left : PySem.W.findIn K (.ref C_Two) "left" = some none)
    (n_Two_right : PySem.W.findIn K (.ref C_Two) "right" = some none)
    (a1 : PySem.W.nsIn K mainGlobals "both" = some (some (.ref f1)))
    (l1 : K.lookup f1 = some ⟨oc1, od1, .func (PySem.W.fnOf "both" "both" (defArgs s_both) (defBody s_both) (defScope s_both) .none kV1 dc1 pm1 an1 cd1 ct1), sl1⟩)
    (c1 : PySem.W.codeIn K cd1 "both" = true)
    (k1 : PySem.W.keepIn K (.ref f1) = true)
    (a2 : PySem.W.findIn K (.ref C_Number) "__init__" = some (some (.ref f2)))
    (i2 : PySem.W.isFn K (.ref f2) = true)
    (l2 : K.lookup f2 = some ⟨oc2, od2, .func (PySem.W.fnOf "__init__" "Number.__init__" (defArgs s_Number_init) (defBody s_Number_init) (defScope s_Number_init) .none kV2 dc2 pm2 an2 cd2 ct2), sl2⟩)
    (c2 : PySem.W.codeIn K cd2 "Number.__init__" = true)
    (k2 : PySem.W.keepIn K (.ref f2) = true)
    (a3 : PySem.W.findIn K (.ref C_Number) "reckon" = some (some (.ref f3)))
    (i3 : PySem.W.isFn K (.ref f3) = true)
    (l3 : K.lookup f3 = some ⟨oc3, od3, .func (PySem.W.fnOf "reckon" "Number.reckon" (defArgs s_Number_reckon) (defBody s_Number_reckon) (defScope s_Number_reckon) .none kV3 dc3 pm3 an3 cd3 ct3), sl3⟩)
    (c3 : PySem.W.codeIn K cd3 "Number.reckon" = true)
    (k3 : PySem.W.keepIn K (.ref f3) = true)
    (a4 : PySem.W.findIn K (.ref C_Two) "__init__" = some (some (.ref f4)))
    (i4 : PySem.W.isFn K (.ref f4) = true)
    (l4 : K.lookup f4 = some ⟨oc4, od4, .func (PySem.W.fnOf "__init__" "Two.__init__" (defArgs s_Two_init) (defBody s_Two_init) (defScope s_Two_init) .none kV4 dc4 pm4 an4 cd4 ct4), sl4⟩)
    (c4 : PySem.W.codeIn K cd4 "Two.__init__" = true)
    (k4 : PySem.W.keepIn K (.ref f4) = true)
    (a5 : PySem.W.findIn K (.ref C_Two) "reckon" = some (some (.ref f5)))
    (i5 : PySem.W.isFn K (.ref f5) = true)
    (l5 : K.lookup f5 = some ⟨oc5, od5, .func (PySem.W.fnOf "reckon" "Two.reckon" (defArgs s_Two_reckon) (defBody s_Two_reckon) (defScope s_Two_reckon) .none kV5 dc5 pm5 an5 cd5 ct5), sl5⟩)
    (c5 : PySem.W.codeIn K cd5 "Two.reckon" = true)
    (k5 : PySem.W.keepIn K (.ref f5) = true)
    (a6 : PySem.W.nsIn K mainGlobals "_law_cell" = some (some (.ref f6)))
    (l6 : K.lookup f6 = some ⟨oc6, od6, .func (PySem.W.fnOf "_law_cell" "_law_cell" (defArgs s_l_cell) (defBody s_l_cell) (defScope s_l_cell) .none kV6 dc6 pm6 an6 cd6 ct6), sl6⟩)
    (c6 : PySem.W.codeIn K cd6 "_law_cell" = true)
    (k6 : PySem.W.keepIn K (.ref f6) = true)
    (a7 : PySem.W.nsIn K mainGlobals "_law_mixed" = some (some (.ref f7)))
    (l7 : K.lookup f7 = some ⟨oc7, od7, .func (PySem.W.fnOf "_law_mixed" "_law_mixed" (defArgs s_l_mixed) (defBody s_l_mixed) (defScope s_l_mixed) .none kV7 dc7 pm7 an7 cd7 ct7), sl7⟩)
    (c7 : PySem.W.codeIn K cd7 "_law_mixed" = true)
    (k7 : PySem.W.keepIn K (.ref f7) = true)
    (a8 : PySem.W.nsIn K mainGlobals "_law_twice" = some (some (.ref f8)))
    (l8 : K.lookup f8 = some ⟨oc8, od8, .func (PySem.W.fnOf "_law_twice" "_law_twice" (defArgs s_l_twice) (defBody s_l_twice) (defScope s_l_twice) .none kV8 dc8 pm8 an8 cd8 ct8), sl8⟩)
    (c8 : PySem.W.codeIn K cd8 "_law_twice" = true)
    (k8 : PySem.W.keepIn K (.ref f8) = true)
    (a9 : PySem.W.nsIn K mainGlobals "_law_well" = some (some (.ref f9)))
    (l9 : K.lookup f9 = some ⟨oc9, od9, .func (PySem.W.fnOf "_law_well" "_law_well" (defArgs s_l_well) (defBody s_l_well) (defScope s_l_well) .none kV9 dc9 pm9 an9 cd9 ct9), sl9⟩)
    (c9 : PySem.W.codeIn K cd9 "_law_well" = true)
    (k9 : PySem.W.keepIn K (.ref f9) = true)
    (a10 : PySem.W.nsIn K mainGlobals "_law_draw" = some (some (.ref f10)))
    (l10 : K.lookup f10 = some ⟨oc10, od10, .func (PySem.W.fnOf "_law_draw" "_law_draw" (defArgs s_l_draw) (defBody s_l_draw) (defScope s_l_draw) .none kV10 dc10 pm10 an10 cd10 ct10), sl10⟩)
    (c10 : PySem.W.codeIn K cd10 "_law_draw" = true)
    (k10 : PySem.W.keepIn K (.ref f10) = true)
    (a11 : PySem.W.nsIn K mainGlobals "_law_of" = some (some (.ref f11)))
    (l11 : K.lookup f11 = some ⟨oc11, od11, .func (PySem.W.fnOf "_law_of" "_law_of" (defArgs s_l_of) (defBody s_l_of) (defScope s_l_of) .none kV11 dc11 pm11 an11 cd11 ct11), sl11⟩)
    (c11 : PySem.W.codeIn K cd11 "_law_of" = true)
    (k11 : PySem.W.keepIn K (.ref f11) = true)
    (a12 : PySem.W.nsIn K mainGlobals "_law_none" = some (some (.ref f12)))
    (l12 : K.lookup f12 = some ⟨oc12, od12, .func (PySem.W.fnOf "_law_none" "_law_none" (defArgs s_l_none) (defBody s_l_none) (defScope s_l_none) .none kV12 dc12 pm12 an12 cd12 ct12), sl12⟩)
    (c12 : PySem.W.codeIn K cd12 "_law_none" = true)
    (k12 : PySem.W.keepIn K (.ref f12) = true)
    (a13 : PySem.W.nsIn K mainGlobals "_law_values" = some (some (.ref f13)))
    (l13 : K.lookup f13 = some ⟨oc13, od13, .func (PySem.W.fnOf "_law_values" "_law_values" (defArgs s_l_values) (defBody s_l_values) (defScope s_l_values) .none kV13 dc13 pm13 an13 cd13 ct13), sl13⟩)
    (c13 : PySem.W.codeIn K cd13 "_law_values" = true)
    (k13 : PySem.W.keepIn K (.ref f13) = true)
    (a14 : PySem.W.nsIn K mainGlobals "_law_right" = some (some (.ref f14)))
    (l14 : K.lookup f14 = some ⟨oc14, od14, .func (PySem.W.fnOf "_law_right" "_law_right" (defArgs s_l_right) (defBody s_l_right) (defScope s_l_right) .none kV14 dc14 pm14 an14 cd14 ct14), sl14⟩)
    (c14 : PySem.W.codeIn K cd14 "_law_right" = true)
    (k14 : PySem.W.keepIn K (.ref f14) = true)
    (a15 : PySem.W.nsIn K mainGlobals "law" = some (some (.ref f15)))
    (l15 : K.lookup f15 = some ⟨oc15, od15, .func (PySem.W.fnOf "law" "law" (defArgs s_law) (defBody s_law) (defScope s_law) .none kV15 dc15 pm15 an15 cd15 ct15), sl15⟩)
    (c15 : PySem.W.codeIn K cd15 "law" = true)
    (k15 : PySem.W.keepIn K (.ref f15) = true)
    (v_LIMIT : ∃ t, PySem.W.nsIn K mainGlobals "LIMIT" = some (some (.int 1000000 t)))
    (z_int : PySem.W.nsIn K mainGlobals "int" = some none)
    (z_len : PySem.W.nsIn K mainGlobals "len" = some none)
    (z_range : PySem.W.nsIn K mainGlobals "range" = some none)
    (z_sorted : PySem.W.nsIn K mainGlobals "sorted" = some none)
    (z_bool : PySem.W.nsIn K mainGlobals "bool" = some none)
    (z_isinstance : PySem.W.nsIn K mainGlobals "isinstance" = some none) :
    ∃ fd : FuncData, (∀ (s : Shared) (v : Value), BindsTo s fd ⟨[v], []⟩ [("_law_script", v)]) ∧ ∀ base : Heap, K.In base → base.Ns mainGlobals mg → FnOk l.prog w K mg base CX0 5 fa fd ["_law_script"] (spLaw K) := by
  have e := hfa.symm.trans (PySem.W.mg_of X G a15)
  cases e
  have F1 := fun_mk (st := s_both) l1 c1 k1
  have F2 := fun_mk (st := s_Number_init) l2 c2 k2
  have F3 := fun_mk (st := s_Number_reckon) l3 c3 k3
  have F4 := fun_mk (st := s_Two_init) l4 c4 k4
  have F5 := fun_mk (st := s_Two_reckon) l5 c5 k5
  have F6 := fun_mk (st := s_l_cell) l6 c6 k6
  have F7 := fun_mk (st := s_l_mixed) l7 c7 k7
  have F8 := fun_mk (st := s_l_twice) l8 c8 k8
  have F9 := fun_mk (st := s_l_well) l9 c9 k9
  have F10 := fun_mk (st := s_l_draw) l10 c10 k10
  have F11 := fun_mk (st := s_l_of) l11 c11 k11
  have F12 := fun_mk (st := s_l_none) l12 c12 k12
  have F13 := fun_mk (st := s_l_values) l13 c13 k13
  have F14 := fun_mk (st := s_l_right) l14 c14 k14
  have F15 := fun_mk (st := s_law) l15 c15 k15
  let A : Ads := ⟨f1, PySem.W.fnOf "both" "both" (defArgs s_both) (defBody s_both) (defScope s_both) .none kV1 dc1 pm1 an1 cd1 ct1, f2, PySem.W.fnOf "__init__" "Number.__init__" (defArgs s_Number_init) (defBody s_Number_init) (defScope s_Number_init) .none kV2 dc2 pm2 an2 cd2 ct2, f3, PySem.W.fnOf "reckon" "Number.reckon" (defArgs s_Number_reckon) (defBody s_Number_reckon) (defScope s_Number_reckon) .none kV3 dc3 pm3 an3 cd3 ct3, f4, PySem.W.fnOf "__init__" "Two.__init__" (defArgs s_Two_init) (defBody s_Two_init) (defScope s_Two_init) .none kV4 dc4 pm4 an4 cd4 ct4, f5, PySem.W.fnOf "reckon" "Two.reckon" (defArgs s_Two_reckon) (defBody s_Two_reckon) (defScope s_Two_reckon) .none kV5 dc5 pm5 an5 cd5 ct5, f6, PySem.W.fnOf "_law_cell" "_law_cell" (defArgs s_l_cell) (defBody s_l_cell) (defScope s_l_cell) .none kV6 dc6 pm6 an6 cd6 ct6, f7, PySem.W.fnOf "_law_mixed" "_law_mixed" (defArgs s_l_mixed) (defBody s_l_mixed) (defScope s_l_mixed) .none kV7 dc7 pm7 an7 cd7 ct7, f8, PySem.W.fnOf "_law_twice" "_law_twice" (defArgs s_l_twice) (defBody s_l_twice) (defScope s_l_twice) .none kV8 dc8 pm8 an8 cd8 ct8, f9, PySem.W.fnOf "_law_well" "_law_well" (defArgs s_l_well) (defBody s_l_well) (defScope s_l_well) .none kV9 dc9 pm9 an9 cd9 ct9, f10, PySem.W.fnOf "_law_draw" "_law_draw" (defArgs s_l_draw) (defBody s_l_draw) (defScope s_l_draw) .none kV10 dc10 pm10 an10 cd10 ct10, f11, PySem.W.fnOf "_law_of" "_law_of" (defArgs s_l_of) (defBody s_l_of) (defScope s_l_of) .none kV11 dc11 pm11 an11 cd11 ct11, f12, PySem.W.fnOf "_law_none" "_law_none" (defArgs s_l_none) (defBody s_l_none) (defScope s_l_none) .none kV12 dc12 pm12 an12 cd12 ct12, f13, PySem.W.fnOf "_law_values" "_law_values" (defArgs s_l_values) (defBody s_l_values) (defScope s_l_values) .none kV13 dc13 pm13 an13 cd13 ct13, f14, PySem.W.fnOf "_law_right" "_law_right" (defArgs s_l_right) (defBody s_l_right) (defScope s_l_right) .none kV14 dc14 pm14 an14 cd14 ct14, fa, PySem.W.fnOf "law" "law" (defArgs s_law) (defBody s_law) (defScope s_law) .none kV15 dc15 pm15 an15 cd15 ct15, C_Number, C_Two⟩
  have T : Txt K mg A :=
    { F_both := F1,
      b_both := F1.binds (ps := ["word", "one", "other"]) fun _ _ _ _ _ _ us hl => match us, hl with | [_, _, _], _ => rfl,
      m_both := PySem.W.mg_of X G a1,
      F_Number_init := F2,
      b_Number_init := F2.binds (ps := ["self", "value"]) fun _ _ _ _ _ _ us hl => match us, hl with | [_, _], _ => rfl,
      F_Number_reckon := F3,
      b_Number_reckon := F3.binds (ps := ["self", "look"]) fun _ _ _ _ _ _ us hl => match us, hl with | [_, _], _ => rfl,
      F_Two_init := F4,
      b_Two_init := F4.binds (ps := ["self", "word", "left", "right"]) fun _ _ _ _ _ _ us hl => match us, hl with | [_, _, _, _], _ => rfl,
      F_Two_reckon := F5,
      b_Two_reckon := F5.binds (ps := ["self", "look"]) fun _ _ _ _ _ _ us hl => match us, hl with | [_, _], _ => rfl,
      F_l_cell := F6,
      b_l_cell := F6.binds (ps := ["_law_script", "_law_k"]) fun _ _ _ _ _ _ us hl => match us, hl with | [_, _], _ => rfl,
      m_l_cell := PySem.W.mg_of X G a6,
      F_l_mixed := F7,
      b_l_mixed := F7.binds (ps := ["_law_cell_here", "_law_k"]) fun _ _ _ _ _ _ us hl => match us, hl with | [_, _], _ => rfl,
      m_l_mixed := PySem.W.mg_of X G a7,
      F_l_twice := F8,
      b_l_twice := F8.binds (ps := ["_law_cell_here", "_law_k"]) fun _ _ _ _ _ _ us hl => match us, hl with | [_, _], _ => rfl,
      m_l_twice := PySem.W.mg_of X G a8,
      F_l_well := F9,
      b_l_well := F9.binds (ps := ["_law_script", "_law_k"]) fun _ _ _ _ _ _ us hl => match us, hl with | [_, _], _ => rfl,
      m_l_well := PySem.W.mg_of X G a9,
      F_l_draw := F10,
      b_l_draw := F10.binds (ps := ["_law_well_here", "_law_most"]) fun _ _ _ _ _ _ us hl => match us, hl with | [_, _], _ => rfl,
      m_l_draw := PySem.W.mg_of X G a10,
      F_l_of := F11,
      b_l_of := F11.binds (ps := ["_law_word", "_law_one", "_law_other"]) fun _ _ _ _ _ _ us hl => match us, hl with | [_, _, _], _ => rfl,
      m_l_of := PySem.W.mg_of X G a11,
      F_l_none := F12,
      b_l_none := F12.binds (ps := ["_law_thing"]) fun _ _ _ _ _ _ us hl => match us, hl with | [_], _ => rfl,
      m_l_none := PySem.W.mg_of X G a12,
      F_l_values := F13,
      b_l_values := F13.binds (ps := ["_law_well_here"]) fun _ _ _ _ _ _ us hl => match us, hl with | [_], _ => rfl,
      m_l_values := PySem.W.mg_of X G a13,
      F_l_right := F14,
      b_l_right := F14.binds (ps := ["_law_one", "_law_other"]) fun _ _ _ _ _ _ us hl => match us, hl with | [_, _], _ => rfl,
      m_l_right := PySem.W.mg_of X G a14,
      F_law := F15,
      b_law := F15.binds (ps := ["_law_script"]) fun _ _ _ _ _ _ us hl => match us, hl with | [_], _ => rfl,
      m_law := PySem.W.mg_of X G a15,
      m_Number := PySem.W.mg_of X G a_Number,
      cl_Number := ⟨pg_Number, hd_Number, po_Number, sa_Number⟩,
      mk_Number := mk_Number,
      n_Number_value := n_Number_value,
      k_Number := ⟨mk_Number, a2, i2, kc_Number⟩,
      m_Two := PySem.W.mg_of X G a_Two,
      cl_Two := ⟨pg_Two, hd_Two, po_Two, sa_Two⟩,
      mk_Two := mk_Two,
      n_Two_word := n_Two_word,
      n_Two_left := n_Two_left,
      n_Two_right := n_Two_right,
      k_Two := ⟨mk_Two, a4, i4, kc_Two⟩,
      me_Number_reckon := ⟨a3, i3, k3⟩,
      me_Two_reckon := ⟨a5, i5, k5⟩,
      c_LIMIT := v_LIMIT.elim fun t e => ⟨t, PySem.W.mg_of X G e⟩,
      z_int := PySem.W.mg_none_of X G z_int,
      z_len := PySem.W.mg_none_of X G z_len,
      z_range := PySem.W.mg_none_of X G z_range,
      z_sorted := PySem.W.mg_none_of X G z_sorted,
      z_bool := PySem.W.mg_none_of X G z_bool,
      z_isinstance := PySem.W.mg_none_of X G z_isinstance }
  exact ⟨A.law_d, fun s v => .of_eq rfl, fun base _ _ => ok_law T⟩
theorem walk {l : PySem.W.OpenLaw} {q : Program} {loose : List Str} {XP : (Str → Option Value) → Heap → Prop} {YP : World → Heap → Prop} {d : DefRec} {K : Params → PySem.W.Frag} (hn : l.most = some 63) (hdf : d.params.defaults = [])
    (hY : ∀ (w : World) (h : Heap), YP w h → (K w.params).In h)
    (F : ∀ (w : World) (mg : Str → Option Value) (fa : Addr) (h : Heap), (K w.params).In h → h.Ns mainGlobals mg → mg d.name = some (.ref fa) →
      ∃ fd : FuncData, (∀ (s : Shared) (u : Value), BindsTo s fd ⟨[u], []⟩ [("_law_script", u)]) ∧ ∀ base : Heap, (K w.params).In base → base.Ns mainGlobals mg → FnOk l.prog w (K w.params) mg base CX0 5 fa fd ["_law_script"] (spLaw (K w.params))) :
    PySem.W.WalkO q loose XP YP l.row.toRowW d [] (fun f vs => PySem.call f vs) :=
  L2.walk_of (n := 63) (k := 5) (x := "_law_script") (CX := fun _ => CX0) (sp := fun w => spLaw (K w.params)) hn (by decide) hdf ⟨rfl, by decide, by decide⟩ hY F (fun _ _ a ns hl _ hS => ⟨a, ns, rfl, hS, hl, fun _ => rfl⟩) fun _ _ _ _ _ z => z

end K04
open PySem PySem.W PyProof.Rows
set_option maxRecDepth 100000 in
set_option maxHeartbeats 0 in
theorem PySem.Challenge.cw_hadbeen_k04_seven_words_holds : PySem.Challenge.rw_hadbeen_k04_seven_words.Holds := by
  w_on; o_law; k_head; (case hw => w_witness2)
  k_fill
  refine K04.walk (l := PySem.Challenge.rw_hadbeen_k04_seven_words) rfl rfl (fun w h Y => PySem.W.kIn_of Y) ?F
  case F =>
    intro w mg fa h KX G hmg
    refine' K04.all_mk KX G hmg ?a_Number ?pg_Number ?hd_Number ?po_Number ?sa_Number ?mk_Number ?kc_Number ?n_Number_value ?a_Two ?pg_Two ?hd_Two ?po_Two ?sa_Two ?mk_Two ?kc_Two ?n_Two_word ?n_Two_left ?n_Two_right ?a1 ?l1 ?c1 ?k1 ?a2 ?i2 ?l2 ?c2 ?k2 ?a3 ?i3 ?l3 ?c3 ?k3 ?a4 ?i4 ?l4 ?c4 ?k4 ?a5 ?i5 ?l5 ?c5 ?k5 ?a6 ?l6 ?c6 ?k6 ?a7 ?l7 ?c7 ?k7 ?a8 ?l8 ?c8 ?k8 ?a9 ?l9 ?c9 ?k9 ?a10 ?l10 ?c10 ?k10 ?a11 ?l11 ?c11 ?k11 ?a12 ?l12 ?c12 ?k12 ?a13 ?l13 ?c13 ?k13 ?a14 ?l14 ?c14 ?k14 ?a15 ?l15 ?c15 ?k15 ?v_LIMIT ?z_int ?z_len ?z_range ?z_sorted ?z_bool ?z_isinstance
    (case a_Number => k_is)
    (case pg_Number => k_is)
    (case hd_Number => k_is)
    (case po_Number => k_is)
    (case sa_Number => k_is)
    (case mk_Number => k_is)
    (case kc_Number => k_is)
    (case n_Number_value => k_is)
    (case a_Two => k_is)
    (case pg_Two => k_is)
    (case hd_Two => k_is)
    (case po_Two => k_is)
    (case sa_Two => k_is)
    (case mk_Two => k_is)
    (case kc_Two => k_is)
    (case n_Two_word => k_is)
    (case n_Two_left => k_is)
    (case n_Two_right => k_is)
    (case a1 => k_is)
    (case l1 => k_is)
    (case c1 => k_is)
    (case k1 => k_is)
    (case a2 => k_is)
    (case i2 => k_is)
    (case l2 => k_is)
    (case c2 => k_is)
    (case k2 => k_is)
    (case a3 => k_is)
    (case i3 => k_is)
    (case l3 => k_is)
    (case c3 => k_is)
    (case k3 => k_is)
    (case a4 => k_is)
    (case i4 => k_is)
    (case l4 => k_is)
    (case c4 => k_is)
    (case k4 => k_is)
    (case a5 => k_is)
    (case i5 => k_is)
    (case l5 => k_is)
    (case c5 => k_is)
    (case k5 => k_is)
    (case a6 => k_is)
    (case l6 => k_is)
    (case c6 => k_is)
    (case k6 => k_is)
    (case a7 => k_is)
    (case l7 => k_is)
    (case c7 => k_is)
    (case k7 => k_is)
    (case a8 => k_is)
    (case l8 => k_is)
    (case c8 => k_is)
    (case k8 => k_is)
    (case a9 => k_is)
    (case l9 => k_is)
    (case c9 => k_is)
    (case k9 => k_is)
    (case a10 => k_is)
    (case l10 => k_is)
    (case c10 => k_is)
    (case k10 => k_is)
    (case a11 => k_is)
    (case l11 => k_is)
    (case c11 => k_is)
    (case k11 => k_is)
    (case a12 => k_is)
    (case l12 => k_is)
    (case c12 => k_is)
    (case k12 => k_is)
    (case a13 => k_is)
    (case l13 => k_is)
    (case c13 => k_is)
    (case k13 => k_is)
    (case a14 => k_is)
    (case l14 => k_is)
    (case c14 => k_is)
    (case k14 => k_is)
    (case a15 => k_is)
    (case l15 => k_is)
    (case c15 => k_is)
    (case k15 => k_is)
    (case v_LIMIT => exact ⟨_, by k_is⟩)
    (case z_int => k_is)
    (case z_len => k_is)
    (case z_range => k_is)
    (case z_sorted => k_is)
    (case z_bool => k_is)
    (case z_isinstance => k_is)
