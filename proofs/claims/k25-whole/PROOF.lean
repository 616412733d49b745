import PyProof.Rows.All
import Wide.All
import OpenK.AllK
import Wide.FinOn
import HandS.ForMost
import HandS.Defaults
import HandS.HeadHook1
import HandS.HeadHook2
import PySem.Challenge.RW_codenests_k25_whole_all_deeds_of_a_nest
import HandS.Evl
import HandS.Walk
import HandS.Zip
import HandS.Style
import HandS.TupAny
import HandS.TupMul
import HandS.Star
import HandS.IsInst
import HandS.Conv
import HandS.NoneIn
import HandS.Flow
import KE.GoesEnum
import HandS.SortKw
import KE.SortData
import HandS.Exc
import HandS.Sort
import KE.KExcSuper
import KE.KSuper
import KE.KExcInit
import HandS.ExcInit
import HandS.Codes
import HandS.ExcField
import PyProof.ReprRoads
import PyProof.ReprBulk
import HandS.Lambda
import HandS.Dict
import HandS.WordsExc
import KE.KDictList
import PyProof.DictValues
import HandS.ListItems
import HandS.SetFor
import PyProof.ReprReads
import HandS.HeadHook4
import HandS.NestedK
import HandS.HeadWalk
import KE.KStateDown
import Lean
import HandS.Head0
import HandS.Head1
import HandS.Head2
import HandS.HeadEnd
import HandS.HeadHook3
set_option Elab.async false
set_option linter.all false
set_option maxRecDepth 100000
set_option maxHeartbeats 4000000
/-! The text of the program by places. -/
namespace Cn
open PySem PySem.Spec PyProof.Rows L2
def top (i : Nat) : Stmt := PySem.Challenge.pw_codenests_k25_whole_all_deeds_of_a_nest.main.body.getD i (.Pass ⟨0, 0, 0, 0⟩)
abbrev s_is_number : Stmt := top 10
abbrev s_power : Stmt := top 11
abbrev s_is_prime : Stmt := top 13
abbrev s_Ground_init : Stmt := inClass (top 14) 0
abbrev s_Ground_p : Stmt := inClass (top 14) 2
abbrev s_Ground_n : Stmt := inClass (top 14) 3
abbrev s_Ground_zero : Stmt := inClass (top 14) 4
abbrev s_Ground_units : Stmt := inClass (top 14) 5
abbrev s_Ground_inverse_of : Stmt := inClass (top 14) 6
abbrev s_added : Stmt := top 16
abbrev s_scaled : Stmt := top 17
abbrev s_subtracted : Stmt := top 18
abbrev s_combined : Stmt := top 19
abbrev s_pivot : Stmt := top 20
abbrev s_without : Stmt := top 22
abbrev s_reduced : Stmt := top 23
abbrev s_wrong_entry : Stmt := top 25
abbrev s_check_code : Stmt := top 26
abbrev s_code_of : Stmt := top 27
abbrev s_rest : Stmt := top 28
abbrev s_is_in : Stmt := top 29
abbrev s_is_within : Stmt := top 30
abbrev s_gauss : Stmt := top 32
abbrev s_count_codes : Stmt := top 33
abbrev s_many_behind : Stmt := top 34
abbrev s_free_places : Stmt := top 35
abbrev s_pivots_at : Stmt := top 36
abbrev s_code_at : Stmt := top 37
abbrev s_all_codes : Stmt := top 38
abbrev s_codes_of_rank : Stmt := top 40
abbrev s_between_codes : Stmt := top 41
abbrev s_code_fault : Stmt := top 43
abbrev s_first_wrong : Stmt := top 44
abbrev s_Nest_init : Stmt := inClass (top 45) 0
abbrev s_Nest_ground : Stmt := inClass (top 45) 2
abbrev s_Nest_codes : Stmt := inClass (top 45) 3
abbrev s_Nest_code : Stmt := inClass (top 45) 4
abbrev s_is_level : Stmt := top 47
abbrev s_is_deed : Stmt := top 48
abbrev s_done : Stmt := top 49
abbrev s_deeds_at : Stmt := top 50
abbrev s_all_deeds : Stmt := top 51
abbrev s_law_source : Stmt := top 53
abbrev s_law_pick : Stmt := top 54
abbrev s_law_of : Stmt := top 55
abbrev s_law_mixed : Stmt := top 56
abbrev s_law_plus : Stmt := top 57
abbrev s_law_units : Stmt := top 58
abbrev s_law_inverse : Stmt := top 59
abbrev s_law_pivot : Stmt := top 60
abbrev s_law_reduced : Stmt := top 61
abbrev s_law_is_in : Stmt := top 62
abbrev s_law_base : Stmt := top 63
abbrev s_law_codes : Stmt := top 64
abbrev s_law_whole : Stmt := top 65
abbrev s_law_between : Stmt := top 66
abbrev s_law_digits : Stmt := top 67
abbrev s_law_any_ground : Stmt := top 68
abbrev s_law_drawn_codes : Stmt := top 69
abbrev s_law_small : Stmt := top 70
abbrev s_law_deeds_at : Stmt := top 71
abbrev s_law_great_ground : Stmt := top 72
abbrev s_law_no_level : Stmt := top 73
abbrev s_law_great_right : Stmt := top 74
abbrev s_law : Stmt := top 75
abbrev CG (K : PySem.W.Frag) : Addr := He.ga K "Ground"
abbrev CN (K : PySem.W.Frag) : Addr := He.ga K "Nest"
/-- what the head tells of the top -/
structure En (K : PySem.W.Frag) (mg : Str → Option Value) : Prop where
  c_is_number : ∃ fd, Fun K "is_number" "is_number" s_is_number (He.ga K "is_number") fd ∧ mg "is_number" = some (.ref (He.ga K "is_number"))
  c_power : ∃ fd, Fun K "power" "power" s_power (He.ga K "power") fd ∧ mg "power" = some (.ref (He.ga K "power"))
  c_is_prime : ∃ fd, Fun K "is_prime" "is_prime" s_is_prime (He.ga K "is_prime") fd ∧ mg "is_prime" = some (.ref (He.ga K "is_prime"))
  c_Ground_init : ∃ fd, Fun K "__init__" "Ground.__init__" s_Ground_init (He.ma K (He.ga K "Ground") "__init__") fd ∧ Mk K (He.ga K "Ground") (He.ma K (He.ga K "Ground") "__init__") ∧ mg "Ground" = some (.ref (He.ga K "Ground"))
  c_Ground_p : ∃ fd, Fun K "p" "Ground.p" s_Ground_p (He.ma K (He.ga K "Ground") "p") fd ∧ Meth K (He.ga K "Ground") "p" (He.ma K (He.ga K "Ground") "p")
  c_Ground_n : ∃ fd, Fun K "n" "Ground.n" s_Ground_n (He.ma K (He.ga K "Ground") "n") fd ∧ Meth K (He.ga K "Ground") "n" (He.ma K (He.ga K "Ground") "n")
  c_Ground_zero : ∃ fd, Fun K "zero" "Ground.zero" s_Ground_zero (He.ma K (He.ga K "Ground") "zero") fd ∧ Meth K (He.ga K "Ground") "zero" (He.ma K (He.ga K "Ground") "zero")
  c_Ground_units : ∃ fd, Fun K "units" "Ground.units" s_Ground_units (He.ma K (He.ga K "Ground") "units") fd ∧ Meth K (He.ga K "Ground") "units" (He.ma K (He.ga K "Ground") "units")
  c_Ground_inverse_of : ∃ fd, Fun K "inverse_of" "Ground.inverse_of" s_Ground_inverse_of (He.ma K (He.ga K "Ground") "inverse_of") fd ∧ Meth K (He.ga K "Ground") "inverse_of" (He.ma K (He.ga K "Ground") "inverse_of")
  c_added : ∃ fd, Fun K "added" "added" s_added (He.ga K "added") fd ∧ mg "added" = some (.ref (He.ga K "added"))
  c_scaled : ∃ fd, Fun K "scaled" "scaled" s_scaled (He.ga K "scaled") fd ∧ mg "scaled" = some (.ref (He.ga K "scaled"))
  c_subtracted : ∃ fd, Fun K "subtracted" "subtracted" s_subtracted (He.ga K "subtracted") fd ∧ mg "subtracted" = some (.ref (He.ga K "subtracted"))
  c_combined : ∃ fd, Fun K "combined" "combined" s_combined (He.ga K "combined") fd ∧ mg "combined" = some (.ref (He.ga K "combined"))
  c_pivot : ∃ fd, Fun K "pivot" "pivot" s_pivot (He.ga K "pivot") fd ∧ mg "pivot" = some (.ref (He.ga K "pivot"))
  c_without : ∃ fd, Fun K "without" "without" s_without (He.ga K "without") fd ∧ mg "without" = some (.ref (He.ga K "without"))
  c_reduced : ∃ fd, Fun K "reduced" "reduced" s_reduced (He.ga K "reduced") fd ∧ mg "reduced" = some (.ref (He.ga K "reduced"))
  c_wrong_entry : ∃ fd, Fun K "wrong_entry" "wrong_entry" s_wrong_entry (He.ga K "wrong_entry") fd ∧ mg "wrong_entry" = some (.ref (He.ga K "wrong_entry"))
  c_check_code : ∃ fd, Fun K "check_code" "check_code" s_check_code (He.ga K "check_code") fd ∧ mg "check_code" = some (.ref (He.ga K "check_code"))
  c_code_of : ∃ fd, Fun K "code_of" "code_of" s_code_of (He.ga K "code_of") fd ∧ mg "code_of" = some (.ref (He.ga K "code_of"))
  c_rest : ∃ fd, Fun K "rest" "rest" s_rest (He.ga K "rest") fd ∧ mg "rest" = some (.ref (He.ga K "rest"))
  c_is_in : ∃ fd, Fun K "is_in" "is_in" s_is_in (He.ga K "is_in") fd ∧ mg "is_in" = some (.ref (He.ga K "is_in"))
  c_is_within : ∃ fd, Fun K "is_within" "is_within" s_is_within (He.ga K "is_within") fd ∧ mg "is_within" = some (.ref (He.ga K "is_within"))
  c_gauss : ∃ fd, Fun K "gauss" "gauss" s_gauss (He.ga K "gauss") fd ∧ mg "gauss" = some (.ref (He.ga K "gauss"))
  c_count_codes : ∃ fd, Fun K "count_codes" "count_codes" s_count_codes (He.ga K "count_codes") fd ∧ mg "count_codes" = some (.ref (He.ga K "count_codes"))
  c_many_behind : ∃ fd, Fun K "many_behind" "many_behind" s_many_behind (He.ga K "many_behind") fd ∧ mg "many_behind" = some (.ref (He.ga K "many_behind"))
  c_free_places : ∃ fd, Fun K "free_places" "free_places" s_free_places (He.ga K "free_places") fd ∧ mg "free_places" = some (.ref (He.ga K "free_places"))
  c_pivots_at : ∃ fd, Fun K "pivots_at" "pivots_at" s_pivots_at (He.ga K "pivots_at") fd ∧ mg "pivots_at" = some (.ref (He.ga K "pivots_at"))
  c_code_at : ∃ fd, Fun K "code_at" "code_at" s_code_at (He.ga K "code_at") fd ∧ mg "code_at" = some (.ref (He.ga K "code_at"))
  c_all_codes : ∃ fd, Fun K "all_codes" "all_codes" s_all_codes (He.ga K "all_codes") fd ∧ mg "all_codes" = some (.ref (He.ga K "all_codes"))
  c_codes_of_rank : ∃ fd, Fun K "codes_of_rank" "codes_of_rank" s_codes_of_rank (He.ga K "codes_of_rank") fd ∧ mg "codes_of_rank" = some (.ref (He.ga K "codes_of_rank"))
  c_between_codes : ∃ fd, Fun K "between_codes" "between_codes" s_between_codes (He.ga K "between_codes") fd ∧ mg "between_codes" = some (.ref (He.ga K "between_codes"))
  c_code_fault : ∃ fd, Fun K "code_fault" "code_fault" s_code_fault (He.ga K "code_fault") fd ∧ mg "code_fault" = some (.ref (He.ga K "code_fault"))
  c_first_wrong : ∃ fd, Fun K "first_wrong" "first_wrong" s_first_wrong (He.ga K "first_wrong") fd ∧ mg "first_wrong" = some (.ref (He.ga K "first_wrong"))
  c_Nest_init : ∃ fd, Fun K "__init__" "Nest.__init__" s_Nest_init (He.ma K (He.ga K "Nest") "__init__") fd ∧ Mk K (He.ga K "Nest") (He.ma K (He.ga K "Nest") "__init__") ∧ mg "Nest" = some (.ref (He.ga K "Nest"))
  c_Nest_ground : ∃ fd, Fun K "ground" "Nest.ground" s_Nest_ground (He.ma K (He.ga K "Nest") "ground") fd ∧ Meth K (He.ga K "Nest") "ground" (He.ma K (He.ga K "Nest") "ground")
  c_Nest_codes : ∃ fd, Fun K "codes" "Nest.codes" s_Nest_codes (He.ma K (He.ga K "Nest") "codes") fd ∧ Meth K (He.ga K "Nest") "codes" (He.ma K (He.ga K "Nest") "codes")
  c_Nest_code : ∃ fd, Fun K "code" "Nest.code" s_Nest_code (He.ma K (He.ga K "Nest") "code") fd ∧ Meth K (He.ga K "Nest") "code" (He.ma K (He.ga K "Nest") "code")
  c_is_level : ∃ fd, Fun K "is_level" "is_level" s_is_level (He.ga K "is_level") fd ∧ mg "is_level" = some (.ref (He.ga K "is_level"))
  c_is_deed : ∃ fd, Fun K "is_deed" "is_deed" s_is_deed (He.ga K "is_deed") fd ∧ mg "is_deed" = some (.ref (He.ga K "is_deed"))
  c_done : ∃ fd, Fun K "done" "done" s_done (He.ga K "done") fd ∧ mg "done" = some (.ref (He.ga K "done"))
  c_deeds_at : ∃ fd, Fun K "deeds_at" "deeds_at" s_deeds_at (He.ga K "deeds_at") fd ∧ mg "deeds_at" = some (.ref (He.ga K "deeds_at"))
  c_all_deeds : ∃ fd, Fun K "all_deeds" "all_deeds" s_all_deeds (He.ga K "all_deeds") fd ∧ mg "all_deeds" = some (.ref (He.ga K "all_deeds"))
  c_law_source : ∃ fd, Fun K "_law_source" "_law_source" s_law_source (He.ga K "_law_source") fd ∧ mg "_law_source" = some (.ref (He.ga K "_law_source"))
  c_law_pick : ∃ fd, Fun K "_law_pick" "_law_pick" s_law_pick (He.ga K "_law_pick") fd ∧ mg "_law_pick" = some (.ref (He.ga K "_law_pick"))
  c_law_of : ∃ fd, Fun K "_law_of" "_law_of" s_law_of (He.ga K "_law_of") fd ∧ mg "_law_of" = some (.ref (He.ga K "_law_of"))
  c_law_mixed : ∃ fd, Fun K "_law_mixed" "_law_mixed" s_law_mixed (He.ga K "_law_mixed") fd ∧ mg "_law_mixed" = some (.ref (He.ga K "_law_mixed"))
  c_law_plus : ∃ fd, Fun K "_law_plus" "_law_plus" s_law_plus (He.ga K "_law_plus") fd ∧ mg "_law_plus" = some (.ref (He.ga K "_law_plus"))
  c_law_units : ∃ fd, Fun K "_law_units" "_law_units" s_law_units (He.ga K "_law_units") fd ∧ mg "_law_units" = some (.ref (He.ga K "_law_units"))
  c_law_inverse : ∃ fd, Fun K "_law_inverse" "_law_inverse" s_law_inverse (He.ga K "_law_inverse") fd ∧ mg "_law_inverse" = some (.ref (He.ga K "_law_inverse"))
  c_law_pivot : ∃ fd, Fun K "_law_pivot" "_law_pivot" s_law_pivot (He.ga K "_law_pivot") fd ∧ mg "_law_pivot" = some (.ref (He.ga K "_law_pivot"))
  c_law_reduced : ∃ fd, Fun K "_law_reduced" "_law_reduced" s_law_reduced (He.ga K "_law_reduced") fd ∧ mg "_law_reduced" = some (.ref (He.ga K "_law_reduced"))
  c_law_is_in : ∃ fd, Fun K "_law_is_in" "_law_is_in" s_law_is_in (He.ga K "_law_is_in") fd ∧ mg "_law_is_in" = some (.ref (He.ga K "_law_is_in"))
  c_law_base : ∃ fd, Fun K "_law_base" "_law_base" s_law_base (He.ga K "_law_base") fd ∧ mg "_law_base" = some (.ref (He.ga K "_law_base"))
  c_law_codes : ∃ fd, Fun K "_law_codes" "_law_codes" s_law_codes (He.ga K "_law_codes") fd ∧ mg "_law_codes" = some (.ref (He.ga K "_law_codes"))
  c_law_whole : ∃ fd, Fun K "_law_whole" "_law_whole" s_law_whole (He.ga K "_law_whole") fd ∧ mg "_law_whole" = some (.ref (He.ga K "_law_whole"))
  c_law_between : ∃ fd, Fun K "_law_between" "_law_between" s_law_between (He.ga K "_law_between") fd ∧ mg "_law_between" = some (.ref (He.ga K "_law_between"))
  c_law_digits : ∃ fd, Fun K "_law_digits" "_law_digits" s_law_digits (He.ga K "_law_digits") fd ∧ mg "_law_digits" = some (.ref (He.ga K "_law_digits"))
  c_law_any_ground : ∃ fd, Fun K "_law_any_ground" "_law_any_ground" s_law_any_ground (He.ga K "_law_any_ground") fd ∧ mg "_law_any_ground" = some (.ref (He.ga K "_law_any_ground"))
  c_law_drawn_codes : ∃ fd, Fun K "_law_drawn_codes" "_law_drawn_codes" s_law_drawn_codes (He.ga K "_law_drawn_codes") fd ∧ mg "_law_drawn_codes" = some (.ref (He.ga K "_law_drawn_codes"))
  c_law_small : ∃ fd, Fun K "_law_small" "_law_small" s_law_small (He.ga K "_law_small") fd ∧ mg "_law_small" = some (.ref (He.ga K "_law_small"))
  c_law_deeds_at : ∃ fd, Fun K "_law_deeds_at" "_law_deeds_at" s_law_deeds_at (He.ga K "_law_deeds_at") fd ∧ mg "_law_deeds_at" = some (.ref (He.ga K "_law_deeds_at"))
  c_law_great_ground : ∃ fd, Fun K "_law_great_ground" "_law_great_ground" s_law_great_ground (He.ga K "_law_great_ground") fd ∧ mg "_law_great_ground" = some (.ref (He.ga K "_law_great_ground"))
  c_law_no_level : ∃ fd, Fun K "_law_no_level" "_law_no_level" s_law_no_level (He.ga K "_law_no_level") fd ∧ mg "_law_no_level" = some (.ref (He.ga K "_law_no_level"))
  c_law_great_right : ∃ fd, Fun K "_law_great_right" "_law_great_right" s_law_great_right (He.ga K "_law_great_right") fd ∧ mg "_law_great_right" = some (.ref (He.ga K "_law_great_right"))
  c_law : ∃ fd, Fun K "law" "law" s_law (He.ga K "law") fd ∧ mg "law" = some (.ref (He.ga K "law"))
  n_isinstance : mg "isinstance" = none
  n_int : mg "int" = none
  n_bool : mg "bool" = none
  n_range : mg "range" = none
  n_tuple : mg "tuple" = none
  n_list : mg "list" = none
  n_max : mg "max" = none
  n_min : mg "min" = none
  n_len : mg "len" = none
  n_sorted : mg "sorted" = none
  n_any : mg "any" = none
  n_all : mg "all" = none
  n_zip : mg "zip" = none
  n_enumerate : mg "enumerate" = none
  n_abs : mg "abs" = none
  n_repr : mg "repr" = none
  n_super : mg "super" = none
  n_str : mg "str" = none
  clG : Cls K (CG K)
  clN : Cls K (CN K)
  at_prime : NoAttr K (CG K) "prime"
  at_length : NoAttr K (CG K) "length"
  at_own_ground : NoAttr K (CN K) "own_ground"
  at_own_codes : NoAttr K (CN K) "own_codes"
end Cn
/-! What all walks share: data in the heap, callees, comprehensions. -/
namespace Cn
open PySem PySem.Spec PyProof.Rows L2
open Evl (Ex)

/-! ### data -/
abbrev rowD (r : List Int) : PyData := .tuple (r.map .int)
abbrev codeD (c : List (List Int)) : PyData := .tuple (c.map rowD)

/-- tuples stay -/
def ExT (K : PySem.W.Frag) (H H' : Hp) : Prop := ∀ b xs, SqT K H b xs → SqT K H' b xs
theorem ExT.of {K : PySem.W.Frag} {H H' : Hp} (e : Ex H H') : ExT K H H' := fun _ _ h => Evl.ex_t e h
theorem ExT.refl (K : PySem.W.Frag) (H : Hp) : ExT K H H := fun _ _ h => h
theorem ExT.trans {K : PySem.W.Frag} {H H1 H2 : Hp} (a : ExT K H H1) (b : ExT K H1 H2) : ExT K H H2 := fun x o h => b x o (a x o h)
/-- a list is written: tuples stay -/
theorem ExT.mut {K : PySem.W.Frag} {H : Hp} {D : Addr} {acc : List V} {o : HO} (h : H D = some (.lst acc)) : ExT K H (upd H D o) := by
  intro b xs hb
  have ne : ∀ u, H b = some u → (∀ z, u ≠ .lst z) → b ≠ D := fun u e hu z => by
    rw [z, h] at e
    exact hu acc (Option.some.inj e).symm
  rcases hb with (hb | ⟨ob, hb⟩) | hb
  · exact .inl (.inl (by rw [upd_ne (ne _ hb (fun z q => by cases q))]; exact hb))
  · exact .inl (.inr ⟨ob, by rw [upd_ne (ne _ hb (fun z q => by cases q))]; exact hb⟩)
  · exact .inr hb

mutual
/-- no list, no dict within -/
def flatT : PyData → Bool
  | .list _ => false
  | .dict _ => false
  | .tuple ds => flatTs ds
  | _ => true
def flatTs : List PyData → Bool
  | [] => true
  | d :: ds => flatT d && flatTs ds
end
section
variable {K : PySem.W.Frag} {H H' : Hp}
mutual
theorem dp_mono (e : Ex H H') : ∀ (d : PyData) (v : V), Dp K H v d → Dp K H' v d
  | .none, _, h => by cases h; exact .non
  | .bool b, _, h => by cases h; exact .bl b
  | .int i, _, h => by cases h; exact .int i
  | .str x, _, h => by cases h; exact .str x
  | .list ds, _, h => by
    cases h with
    | lst h1 h2 => exact .lst (Evl.ex_l e h1) (dps_mono e ds _ h2)
  | .tuple ds, _, h => by
    cases h with
    | tup h1 h2 => exact .tup (Evl.ex_t e h1) (dps_mono e ds _ h2)
  | .dict _, _, h => by cases h
theorem dps_mono (e : Ex H H') : ∀ (ds : List PyData) (vs : List V), DpAll K H vs ds → DpAll K H' vs ds
  | [], _, h => by cases h; exact .nil
  | d :: ds, _, h => by
    cases h with
    | cons h1 h2 => exact .cons (dp_mono e d _ h1) (dps_mono e ds _ h2)
end
mutual
theorem dp_monoT (e : ExT K H H') : ∀ (d : PyData) (v : V), flatT d = true → Dp K H v d → Dp K H' v d
  | .none, _, _, h => by cases h; exact .non
  | .bool b, _, _, h => by cases h; exact .bl b
  | .int i, _, _, h => by cases h; exact .int i
  | .str x, _, _, h => by cases h; exact .str x
  | .list ds, _, f, h => by simp [flatT] at f
  | .tuple ds, _, f, h => by
    cases h with
    | tup h1 h2 => exact .tup (e _ _ h1) (dps_monoT e ds _ (by simpa [flatT] using f) h2)
  | .dict _, _, _, h => by cases h
theorem dps_monoT (e : ExT K H H') : ∀ (ds : List PyData) (vs : List V), flatTs ds = true → DpAll K H vs ds → DpAll K H' vs ds
  | [], _, _, h => by cases h; exact .nil
  | d :: ds, _, f, h => by
    have f2 : flatT d = true ∧ flatTs ds = true := by simpa [flatTs] using f
    cases h with
    | cons h1 h2 => exact .cons (dp_monoT e d _ f2.1 h1) (dps_monoT e ds _ f2.2 h2)
end
theorem flat_ints : ∀ r : List Int, flatTs (r.map PyData.int) = true
  | [] => rfl
  | _ :: r => by
    show (flatT _ && flatTs _) = true
    rw [flat_ints r] <;> rfl
theorem flat_row (r : List Int) : flatT (rowD r) = true := flat_ints r
theorem flat_rows : ∀ c : List (List Int), flatTs (c.map rowD) = true
  | [] => rfl
  | r :: c => by
    show (flatT _ && flatTs _) = true
    rw [flat_rows c, flat_row] <;> rfl
theorem flat_code (c : List (List Int)) : flatT (codeD c) = true := flat_rows c
theorem dps_len : ∀ {vs : List V} {ds : List PyData}, DpAll K H vs ds → vs.length = ds.length
  | _, _, .nil => rfl
  | _, _, .cons _ t => congrArg (· + 1) (dps_len t)
theorem dps_at : ∀ {vs : List V} {ds : List PyData} {i : Nat} {d : PyData}, DpAll K H vs ds → ds[i]? = some d → ∃ v, vs[i]? = some v ∧ Dp K H v d
  | _, _, _, _, .nil, e => by simp at e
  | _, _, 0, _, .cons r _, e => by simp at e; subst e; exact ⟨_, rfl, r⟩
  | _, _, i + 1, d, .cons _ t, e => by
    obtain ⟨v, h1, h2⟩ := dps_at (i := i) (d := d) t (by simpa using e)
    exact ⟨v, by simpa using h1, h2⟩
theorem dps_of : ∀ {vs : List V} {ds : List PyData} {i : Nat} {v : V}, DpAll K H vs ds → vs[i]? = some v → ∃ d, ds[i]? = some d ∧ Dp K H v d
  | _, _, _, _, .nil, e => by simp at e
  | _, _, 0, _, .cons r _, e => by simp at e; subst e; exact ⟨_, rfl, r⟩
  | _, _, i + 1, v, .cons _ t, e => by
    obtain ⟨d, h1, h2⟩ := dps_of (i := i) (v := v) t (by simpa using e)
    exact ⟨d, by simpa using h1, h2⟩
theorem dps_app : ∀ {vs ws : List V} {ds es : List PyData}, DpAll K H vs ds → DpAll K H ws es → DpAll K H (vs ++ ws) (ds ++ es)
  | _, _, _, _, .nil, s => s
  | _, _, _, _, .cons r t, s => .cons r (dps_app t s)
theorem dps_snoc {vs : List V} {v : V} {ds : List PyData} {d : PyData} (h : DpAll K H vs ds) (q : Dp K H v d) : DpAll K H (vs ++ [v]) (ds ++ [d]) := dps_app h (.cons q .nil)
theorem dps_take : ∀ {vs : List V} {ds : List PyData} (n : Nat), DpAll K H vs ds → DpAll K H (vs.take n) (ds.take n)
  | _, _, 0, _ => .nil
  | _, _, _ + 1, .nil => .nil
  | _, _, n + 1, .cons r t => .cons r (dps_take n t)
theorem dps_drop : ∀ {vs : List V} {ds : List PyData} (n : Nat), DpAll K H vs ds → DpAll K H (vs.drop n) (ds.drop n)
  | _, _, 0, h => h
  | _, _, _ + 1, .nil => .nil
  | _, _, n + 1, .cons r t => dps_drop n t
theorem dps_rev : ∀ {vs : List V} {ds : List PyData}, DpAll K H vs ds → DpAll K H vs.reverse ds.reverse
  | _, _, .nil => .nil
  | _, _, .cons r t => by
    rw [List.reverse_cons, List.reverse_cons]
    exact dps_snoc (dps_rev t) r
theorem dps_set : ∀ {vs : List V} {ds : List PyData} {v : V} {d : PyData} (n : Nat), DpAll K H vs ds → Dp K H v d → DpAll K H (vs.set n v) (ds.set n d)
  | _, _, _, _, _, .nil, _ => .nil
  | _, _, _, _, 0, .cons _ t, q => .cons q t
  | _, _, _, _, n + 1, .cons r t, q => .cons r (dps_set n t q)
theorem dps_ints : ∀ {r : List Int} {vs : List V}, DpAll K H vs (r.map .int) → vs = r.map V.int
  | [], _, h => by cases h; rfl
  | i :: r, _, h => by
    cases h with
    | cons h1 h2 =>
      cases h1
      rw [dps_ints h2]
      rfl
theorem ints_dps : ∀ r : List Int, DpAll K H (r.map V.int) (r.map .int)
  | [] => .nil
  | i :: r => .cons (.int i) (ints_dps r)
theorem dp_int {v : V} {i : Int} (h : Dp K H v (.int i)) : v = .int i := by cases h; rfl
theorem dp_tup {v : V} {ds : List PyData} (h : Dp K H v (.tuple ds)) : ∃ a vs, v = .ref a ∧ SqT K H a vs ∧ DpAll K H vs ds := by
  cases h with
  | tup h1 h2 => exact ⟨_, _, rfl, h1, h2⟩
theorem dp_lst {v : V} {ds : List PyData} (h : Dp K H v (.list ds)) : ∃ a vs, v = .ref a ∧ SqL K H a vs ∧ DpAll K H vs ds := by
  cases h with
  | lst h1 h2 => exact ⟨_, _, rfl, h1, h2⟩
theorem dp_row {v : V} {r : List Int} (h : Dp K H v (rowD r)) : ∃ a, v = .ref a ∧ SqT K H a (r.map V.int) := by
  obtain ⟨a, vs, e, h1, h2⟩ := dp_tup h
  rw [dps_ints h2] at h1
  exact ⟨a, e, h1⟩
theorem row_dp {a : Addr} {r : List Int} (h : SqT K H a (r.map V.int)) : Dp K H (.ref a) (rowD r) := .tup h (ints_dps r)
theorem dps_paired {α : Type} {f : α → PyData} : ∀ {l : List α} {vs : List V}, Paired (fun i v => Dp K H v (f i)) l vs → DpAll K H vs (l.map f)
  | _, _, .nil => .nil
  | _, _, .cons r t => .cons r (dps_paired t)
end

/-! ### instances -/
/-- a ground stands at v -/
def GrAt (K : PySem.W.Frag) (H : Hp) (v : V) (p n : Int) : Prop := ∃ a dx, v = .ref a ∧ H a = some (.ins (CG K) dx [("prime", .int p), ("length", .int n)])
theorem GrAt.mono {K : PySem.W.Frag} {H H' : Hp} {v : V} {p n : Int} (h : GrAt K H v p n) (e : Ex H H') : GrAt K H' v p n := by
  obtain ⟨a, dx, h1, h2⟩ := h
  exact ⟨a, dx, h1, e _ _ h2⟩
/-- a nest stands at v -/
def NeAt (K : PySem.W.Frag) (H : Hp) (v : V) (p n : Int) (cs : List (List (List Int))) : Prop :=
  ∃ a dx g c, v = .ref a ∧ H a = some (.ins (CN K) dx [("own_ground", g), ("own_codes", c)]) ∧ GrAt K H g p n ∧ Dp K H c (.tuple (cs.map codeD))
theorem NeAt.mono {K : PySem.W.Frag} {H H' : Hp} {v : V} {p n : Int} {cs : List (List (List Int))} (h : NeAt K H v p n cs) (e : Ex H H') : NeAt K H' v p n cs := by
  obtain ⟨a, dx, g, c, h1, h2, h3, h4⟩ := h
  exact ⟨a, dx, g, c, h1, e _ _ h2, h3.mono e, dp_mono e _ _ h4⟩

/-! ### callees -/
/-- the def x of the top keeps the promise sp -/
structure Cal (P : Program) (w : World) (K : PySem.W.Frag) (mg : Str → Option Value) (base : Heap) (k : Nat) (x : Str) (ps : List Str) (sp : Sp) : Prop where
  ok : ∃ fd, FnOk P w K mg base CX0 k (He.ga K x) fd ps sp ∧ Binds K fd ps []
  g : mg x = some (.ref (He.ga K x))
  kp : PySem.W.keepIn K (.ref (He.ga K x)) = true
/-- the method m of the class C -/
structure CalM (P : Program) (w : World) (K : PySem.W.Frag) (mg : Str → Option Value) (base : Heap) (k : Nat) (C m : Str) (ps : List Str) (sp : Sp) : Prop where
  ok : ∃ fd, FnOk P w K mg base CX0 k (He.ma K (He.ga K C) m) fd ps sp ∧ Binds K fd ps []
  me : Meth K (He.ga K C) m (He.ma K (He.ga K C) m)
section
variable {X : Cx} {k : Nat} {x C m : Str} {ps : List Str} {sp : Sp} {p pos apos : Pos} {e o : PySem.Expr} {es : List PySem.Expr} {t : TA} {ta : TE}
theorem pe_cal {K : PySem.W.Frag} {mg : Str → Option Value} {P : Program} {w : World} {base : Heap} (c : Cal P w K mg base k x ps sp) (hr : Room k X.A) (ha : PA X (e :: es) t) (hP : X.prog = P := by rfl) (hw : X.w = w := by rfl) (hK : X.K = K := by rfl) (hM : X.mg = mg := by rfl) (hB : X.base = base := by rfl) (hg : Gl X x := by rfl) (hd : (x == ("__debug__" : Str)) = false := by decide) (he : starEach (e :: es) X.env = (false, eval e X.env) :: starEach es X.env := by rfl)
    (hpl : (backTo pos (starEach es X.env)).any (·.1) = false := by rfl) : PE X (.Call (.Name x p) (e :: es) [] pos) (tCall sp [] E0 t) := by
  subst hP hw hK hM hB
  obtain ⟨fd, F, b⟩ := c.ok
  exact pe_call F hr hg c.g c.kp b .nil pass0 ha hd he hpl
theorem pe_calM0 {K : PySem.W.Frag} {mg : Str → Option Value} {P : Program} {w : World} {base : Heap} {pl : Sem Bool} (cl : Cls K (He.ga K C)) (c : CalM P w K mg base k C m ps sp) (hr : Room k X.A) (he : PE X o ta) (hP : X.prog = P := by rfl) (hw : X.w = w := by rfl) (hK : X.K = K := by rfl) (hM : X.mg = mg := by rfl) (hB : X.base = base := by rfl)
    (hev : eval (.Call (.Attribute o m apos) [] [] pos) X.env = (do let ov ← eval o X.env; standAt apos.atName; let (f, first) ← holding [ov] (getMethod ov m pl); callWith pos f first (backTo pos (starEach [] X.env)) (backToKw pos (keywordEach [] X.env))) := by rfl) :
    PE X (.Call (.Attribute o m apos) [] [] pos) (tMeth (He.ga K C) m sp [] E0 ta tNil) := by
  subst hP hw hK hM hB
  obtain ⟨fd, F, b⟩ := c.ok
  exact pe_meth0 (pl := pl) he cl c.me F hr b .nil pass0 hev
end

/-! ### what a reading gives, by a word over value and heap -/
def EvP (te : TE) (σ : L2.St) (H : Hp) (P : V → Hp → Prop) : Prop := ∀ H1, Ex H H1 → ∀ Q : VK, (∀ v H2, Ex H1 H2 → P v H2 → Q v H2) → te σ H1 Q
/-- a target that may be told more -/
def GMono (g : TG) : Prop := ∀ (x : V) (σ : L2.St) (H : Hp) (R R' : L2.St → Hp → Prop), (∀ σ H, R σ H → R' σ H) → g x σ H R → g x σ H R'
theorem gm_name (i : Nat) : GMono (gName i) := fun _ _ _ _ _ h q => h _ _ q
def GsMono (g : TGs) : Prop := ∀ (x : List V) (σ : L2.St) (H : Hp) (R R' : L2.St → Hp → Prop), (∀ σ H, R σ H → R' σ H) → g x σ H R → g x σ H R'
theorem gsm_nil : GsMono gNil := fun _ _ _ _ _ h q => ⟨q.1, h _ _ q.2⟩
theorem gsm_cons {t : TG} {u : TGs} (h1 : GMono t) (h2 : GsMono u) : GsMono (gCons t u) := fun x σ H R R' h q => by
  obtain ⟨v, r, e, q⟩ := q
  exact ⟨v, r, e, h1 _ _ _ _ _ (fun σ' H' q' => h2 _ _ _ _ _ h q') q⟩
theorem gm_tup {K : PySem.W.Frag} {n : Nat} {t : TGs} (h1 : GsMono t) : GMono (gTup K n t) := fun x σ H R R' h q => by
  obtain ⟨a, xs, e, hs, hl, q⟩ := q
  exact ⟨a, xs, e, hs, hl, h1 _ _ _ _ _ h q⟩

theorem range_filter_yes {f : Nat → Bool} {i : Nat} (h : f i = true) : (List.range (i + 1)).filter f = (List.range i).filter f ++ [i] := by
  rw [List.range_succ, List.filter_append, List.filter_cons_of_pos h]
  rfl
theorem range_filter_no {f : Nat → Bool} {i : Nat} (h : f i = false) : (List.range (i + 1)).filter f = (List.range i).filter f := by
  rw [List.range_succ, List.filter_append, List.filter_cons_of_neg (by rw [h]; decide)]
  exact List.append_nil _
theorem paired_snoc {α β : Type} {F : α → β → Prop} : ∀ {l : List α} {m : List β} {a : α} {b : β}, Paired F l m → F a b → Paired F (l ++ [a]) (m ++ [b])
  | _, _, _, _, .nil, h => .cons h .nil
  | _, _, _, _, .cons r t, h => .cons r (paired_snoc t h)
theorem paired_mem {α β : Type} {F G : α → β → Prop} : ∀ {l : List α} {m : List β}, Paired F l m → (∀ a b, a ∈ l → F a b → G a b) → Paired G l m
  | _, _, .nil, _ => .nil
  | _, _, .cons r t, h => .cons (h _ _ List.mem_cons_self r) (paired_mem t fun a b m => h a b (List.mem_cons_of_mem _ m))

/-- a comprehension over what walks: P tells of the i-th element, f whether it is kept -/
theorem lcW {J : It} {n : Nat} {G : Hp → Prop} {Y : Nat → Hp → V → Hp → Prop} (w : Walk J n G Y) {g : TG} {tt : TT} {te : TE} {ws : List Nat} {σ : L2.St} {H1 : Hp} {D : Addr} {Qd : Hp → Prop} (hD : H1 D = none) (K : PySem.W.Frag) (f : Nat → Bool) (P : Nat → V → Hp → Prop)
    (gm : GMono g) (hz : n < sizeLine) (hG : ∀ H, Ex H1 H → G H) (pm : ∀ i v H H', ExT K H H' → P i v H → P i v H')
    (hs : ∀ i x H H', i < n → Ex H1 H → Y i H x H' → g x (wipe σ ws) H' fun σ2 H2 => wipe σ2 ws = wipe σ ws ∧ Ex H H2 ∧ Evl.EvT tt σ2 H2 (f i) ∧ (f i = true → EvP te σ2 H2 (P i)))
    (k : ∀ vs H', Ex H1 H' → H' D = some (.lst vs) → Paired (fun i v => P i v H') ((List.range n).filter f) vs → Qd H') :
    ∃ W : Nat → Nat → Hp → Prop, (∃ m, W 0 m (upd H1 D (.lst []))) ∧ ∀ i m H, W i m H →
      (J.stop i H ∧ Qd H) ∨ (J.go i H ∧ ∃ Nx : Hp → Prop, (∀ H', Nx H' → ∃ m', m' < m ∧ W (i + 1) m' H') ∧ ∀ x H', J.yld i H x H' → g x (wipe σ ws) H' fun σ2 H2 => wipe σ2 ws = wipe σ ws ∧ tt σ2 H2 fun b H3 =>
        if b = true then te σ2 H3 fun y H4 => ∃ acc, H4 D = some (.lst acc) ∧ acc.length < sizeLine ∧ Nx (upd H4 D (.lst (acc ++ [y]))) else Nx H3) := by
  refine lc_it w (fun i H => Ex H1 H ∧ ∃ acc, H D = some (.lst acc) ∧ acc.length ≤ i ∧ Paired (fun i v => P i v H) ((List.range i).filter f) acc) ⟨Ex.new hD, [], upd_same, Nat.le_refl _, .nil⟩ (fun i H _ p => hG H p.1) ?_ ?_
  · rintro i x H H' hi ⟨e1, acc, ha, hl, hp⟩ y
    refine gm _ _ _ _ _ ?_ (hs i x H H' hi e1 y)
    rintro σ2 H2 ⟨hw, e2, ht, he⟩
    refine ⟨hw, ht H2 (Ex.refl _) _ fun H3 e3 => ?_⟩
    cases hf : f i with
    | false =>
      refine iteF ⟨e1.trans (e2.trans e3), acc, e3 _ _ (e2 _ _ ha), Nat.le_succ_of_le hl, ?_⟩
      rw [range_filter_no hf]
      exact paired_mem hp fun a b _ q => pm _ _ _ _ (ExT.of (e2.trans e3)) q
    | true =>
      refine iteT (he hf H3 e3 _ fun v H4 e4 hv => ?_)
      have ha4 : H4 D = some (.lst acc) := e4 _ _ (e3 _ _ (e2 _ _ ha))
      refine ⟨acc, ha4, by omega, Evl.Ex.mut (e1.trans (e2.trans (e3.trans e4))) hD, acc ++ [v], upd_same, by rw [List.length_append]; exact Nat.succ_le_succ hl, ?_⟩
      rw [range_filter_yes hf]
      exact paired_snoc (paired_mem hp fun a b _ q => pm _ _ _ _ (ExT.mut ha4) (pm _ _ _ _ (ExT.of (e2.trans (e3.trans e4))) q)) (pm _ _ _ _ (ExT.mut ha4) hv)
  · rintro H ⟨e1, acc, ha, _, hp⟩
    exact k acc H e1 ha hp
/-- no test -/
theorem et_yes {σ : L2.St} {H : Hp} : Evl.EvT tYes σ H true := fun _ _ _ q => q _ (Ex.refl _)
theorem range_all (n : Nat) : (List.range n).filter (fun _ => true) = List.range n := List.filter_eq_self.mpr fun _ _ => rfl
/-! ### rules with the written part told (for use within comprehensions) -/
section
variable {X : Cx}
def rTupleOf (K : PySem.W.Frag) : List V → Hp → VK → Prop := fun xs H Q => ∃ p ys, xs = [.ref p] ∧ ((SqL K H p ys ∧ ∀ l, H l = none → Q (.ref l) (upd H l (.tup ys))) ∨ (SqT K H p ys ∧ Q (.ref p) H))
theorem ct_tuple (K : PySem.W.Frag) (hK : X.K = K := by rfl) : CallR X (.type "tuple") (rTupleOf K) := by
  subst hK
  exact call_tuple_of
def rListOf (K : PySem.W.Frag) : List V → Hp → VK → Prop := fun xs H Q => ∃ p ys, xs = [.ref p] ∧ (SqL K H p ys ∨ SqT K H p ys) ∧ ∀ l, H l = none → Q (.ref l) (upd H l (.lst ys))
theorem ct_list (K : PySem.W.Frag) (hK : X.K = K := by rfl) : CallR X (.type "list") (rListOf K) := by
  subst hK
  exact call_list_of
def rLenOf (K : PySem.W.Frag) : List V → Hp → VK → Prop := fun xs H Q => ∃ p ys, xs = [.ref p] ∧ (SqL K H p ys ∨ SqT K H p ys) ∧ Q (.int ys.length) H
theorem cb_len (K : PySem.W.Frag) (hK : X.K = K := by rfl) : CallR X (.builtin "len") (rLenOf K) := by
  subst hK
  exact call_len_seq
theorem cb_isi (K : PySem.W.Frag) (hK : X.K = K := by rfl) : CallR X (.builtin "isinstance") (rIsi K) := by
  subst hK
  exact call_isi
theorem cb_all (K : PySem.W.Frag) (hc : X.calm = true := by rfl) (hK : X.K = K := by rfl) : CallR X (.builtin "all") (rAll K) := by
  subst hK
  exact cr_all hc
theorem cb_any (K : PySem.W.Frag) (hc : X.calm = true := by rfl) (hK : X.K = K := by rfl) : CallR X (.builtin "any") (rAny K) := by
  subst hK
  exact cr_any hc
theorem ixl (K : PySem.W.Frag) (hK : X.K = K := by rfl) : IxR X (rIxL K) := by
  subst hK
  exact ix_list
theorem ixt (K : PySem.W.Frag) (hK : X.K = K := by rfl) : IxR X (rIxT K) := by
  subst hK
  exact ix_tup
theorem op_eqK (K : PySem.W.Frag) (hu : X.A.units + 64 < cLine) (hK : X.K = K := by rfl) : OpR X (compareOp .Eq) (rEqD K) := by
  subst hK
  exact op_eqD hu
theorem op_neK (K : PySem.W.Frag) (hu : X.A.units + 64 < cLine) (hK : X.K = K := by rfl) : OpR X (compareOp .NotEq) (rNeD K) := by
  subst hK
  exact op_neD hu
theorem pe_fldK (K : PySem.W.Frag) {e : PySem.Expr} {f : Str} {pos : Pos} {te : TE} (he : PE X e te) (hb : attributeBase e f X.env (eval e X.env) = eval e X.env) (hK : X.K = K := by rfl) : PE X (.Attribute e f pos) (tFld K te f) := by
  subst hK
  exact pe_fld he hb
theorem pi_lstK (K : PySem.W.Frag) {tg l : PySem.Expr} {tl : TE} (hl : PE X l tl) (hK : X.K = K := by rfl) : PI X tg l (iList K tl) := by
  subst hK
  exact pi_list hl
theorem pi_tupK (K : PySem.W.Frag) {tg l : PySem.Expr} {tl : TE} (hl : PE X l tl) (hK : X.K = K := by rfl) : PI X tg l (iTup K tl) := by
  subst hK
  exact pi_tup hl
end
end Cn
namespace Cn
open PySem PySem.Spec PyProof.Rows L2
open Evl (Ex)
section
variable {P : Program} {w : World} {K : PySem.W.Frag} {mg : Str → Option Value} {base : Heap}

/-! ### is_number -/
/-- whether v is a number -/
def NumV (K : PySem.W.Frag) (H : Hp) (v : V) (b : Bool) : Prop := (∃ i, v = .int i ∧ b = decide (0 ≤ i)) ∨ (b = false ∧ ((∃ c, v = .bl c) ∨ ∃ t, TyX K H v (.type t) ∧ PySem.W.kitOne K (.type t) (.type "int") = some false))
theorem NumV.int {H : Hp} {i : Int} (h : 0 ≤ i) : NumV K H (.int i) true := .inl ⟨i, rfl, (decide_eq_true h).symm⟩
def spIsNumber (K : PySem.W.Frag) : Sp := fun vs H Q _ => ∃ v b, vs = [v] ∧ NumV K H v b ∧ Q (.bl b) H
theorem sc_is_number : FnScope ["value"] ["value"] (defScope s_is_number) := ⟨rfl, rfl, rfl, by decide +kernel, rfl, by decide +kernel, by decide +kernel⟩
theorem k_ib : PySem.W.kitOne K (.type "bool") (.type "int") = some true := kit_ty (by decide +kernel)
theorem k_ii : PySem.W.kitOne K (.type "int") (.type "int") = some true := kit_ty (by decide +kernel)
theorem k_bi : PySem.W.kitOne K (.type "int") (.type "bool") = some false := kit_ty (by decide +kernel)
theorem k_bb : PySem.W.kitOne K (.type "bool") (.type "bool") = some true := kit_ty (by decide +kernel)
theorem cal_is_number (E : En K mg) : Cal P w K mg base 1 "is_number" ["value"] (spIsNumber K) := by
  obtain ⟨fd, F, g⟩ := E.c_is_number
  refine ⟨⟨fd, ?_, F.binds fun _ _ _ _ _ _ us hl => match us, hl with | [_], _ => rfl⟩, g, F.kp⟩
  refine F.ok sc_is_number (fun vs H Q E h => ?_) (fun cdv A outer s H vs Q E' hr h => ?_)
  · obtain ⟨v, b, rfl, _⟩ := h
    rfl
  · obtain ⟨v, b, rfl, h, q⟩ := h
    refine ⟨_, pss_one (ps_ret (pe_and (pe_callB call_isi rfl E.n_isinstance (by decide +kernel) (pa_cons (pv 0) (pa_cons (pe_bltn (v := .ty "int") rfl E.n_int (by decide +kernel) rfl) pa_nil)))
      (pe_and (pe_not (pe_callB call_isi rfl E.n_isinstance (by decide +kernel) (pa_cons (pv 0) (pa_cons (pe_bltn (v := .ty "bool") rfl E.n_bool (by decide +kernel) rfl) pa_nil))))
      (pe_one (pe_cmpR op_ge (pv 0) pe_int (nomark _)))))), ?_⟩
    rcases h with ⟨i, rfl, rfl⟩ | ⟨rfl, ⟨c, rfl⟩ | ⟨t, ht, hk⟩⟩
    · exact ⟨_, rfl, _, _, _, _, _, rfl, .ty _, .base (.int i), k_ii, _, rfl, iteT ⟨_, rfl, _, _, _, _, _, rfl, .ty _, .base (.int i), k_bi, _, rfl, _, rfl, iteT ⟨_, rfl, i, 0, rfl, rfl, q⟩⟩⟩
    · exact ⟨_, rfl, _, _, _, _, _, rfl, .ty _, .base (.bl c), k_ib, _, rfl, iteT ⟨_, rfl, _, _, _, _, _, rfl, .ty _, .base (.bl c), k_bb, _, rfl, _, rfl, iteF q⟩⟩
    · exact ⟨_, rfl, _, _, _, _, _, rfl, .ty _, ht, hk, _, rfl, iteF q⟩
/-! ### power -/
def spPower : Sp := fun vs H Q _ => ∃ (p : Int) (m : Nat), vs = [.int p, .int m] ∧ 0 ≤ p ∧ p ≤ 13 ∧ m ≤ 40 ∧ Q (.int (p ^ m)) H
theorem sc_power : FnScope ["number", "many", "found", "lap"] ["number", "many"] (defScope s_power) := ⟨rfl, rfl, rfl, by decide +kernel, rfl, by decide +kernel, by decide +kernel⟩
theorem ip_mulI {X : Cx} : PIp X .Mult (fun x y H Q => ∃ i j, x = .int i ∧ y = .int j ∧ CMul i j ∧ Q (.int (i * j)) H) := by
  intro pins s σ H x y v u Q I r1 r2 h
  obtain ⟨i, j, rfl, rfl, hc, q⟩ := h
  obtain ⟨t, rfl⟩ := r1
  obtain ⟨t', rfl⟩ := r2
  exact imul_int ⟨.int _, H, I.tok _, ⟨_, rfl⟩, q⟩ hc.ok
theorem cal_power (E : En K mg) : Cal P w K mg base 1 "power" ["number", "many"] spPower := by
  obtain ⟨fd, F, g⟩ := E.c_power
  refine ⟨⟨fd, ?_, F.binds fun _ _ _ _ _ _ us hl => match us, hl with | [_, _], _ => rfl⟩, g, F.kp⟩
  refine F.ok sc_power (fun vs H Q E h => ?_) (fun cdv A outer s H vs Q E' hr h => ?_)
  · obtain ⟨p, m, rfl, _⟩ := h
    rfl
  · obtain ⟨p, m, rfl, p0, p1, hm, q⟩ := h
    refine ⟨_, pss_cons (ps_set (i := 2) sc_power.nd rfl (.inl rfl) pe_int)
      (pss_cons (ps_for PassesOwn.never rfl (pi_range1 (by rfl) E.n_range (pa_cons (pv 1) pa_nil)) (pg_name (i := 3) sc_power.nd rfl (.inl rfl)) (pss_one (ps_aug (i := 2) sc_power.nd rfl (.inl rfl) (pv 0) ip_mulI)))
      (pss_one (ps_ret (pv 2)))), ?_⟩
    refine ⟨_, rfl, (m : Int), rfl, by omega, by omega, ?_⟩
    refine for_range (fun i σ H' => ∃ x, σ = [some (.int p), some (.int m), some (.int (p ^ i)), x] ∧ H' = H) ⟨none, by rw [Int.pow_zero]; rfl, rfl⟩ ?_ ?_
    · rintro i σ H' hi ⟨x, rfl, rfl⟩
      refine ⟨_, rfl, _, rfl, _, _, rfl, rfl, .inr ⟨by omega, by omega⟩, some (.int (0 + (i : Int))), ?_, rfl⟩
      rw [Int.pow_succ]
      rfl
    · rintro σ H' ⟨x, rfl, rfl⟩
      refine ⟨_, rfl, ?_⟩
      rw [Int.toNat_natCast]
      exact q
end
end Cn
namespace Cn
open PySem PySem.Spec PyProof.Rows L2
open Evl (Ex)
section
variable {P : Program} {w : World} {K : PySem.W.Frag} {mg : Str → Option Value} {base : Heap}
/-! ### the ground's methods -/
theorem look_prime (p n : Int) : List.lookup ("prime" : Str) [("prime", V.int p), ("length", V.int n)] = some (.int p) := by simp [List.lookup]
theorem ne_lp : (("length" : Str) == ("prime" : Str)) = false := by decide +kernel
theorem look_length (p n : Int) : List.lookup ("length" : Str) [("prime", V.int p), ("length", V.int n)] = some (.int n) := by
  simp only [List.lookup, ne_lp]
  simp
def spGp (K : PySem.W.Frag) : Sp := fun vs H Q _ => ∃ v p n, vs = [v] ∧ GrAt K H v p n ∧ Q (.int p) H
def spGn (K : PySem.W.Frag) : Sp := fun vs H Q _ => ∃ v p n, vs = [v] ∧ GrAt K H v p n ∧ Q (.int n) H
theorem sc_Gp : FnScope ["self"] ["self"] (defScope s_Ground_p) := ⟨rfl, rfl, rfl, by decide +kernel, rfl, by decide +kernel, by decide +kernel⟩
theorem sc_Gn : FnScope ["self"] ["self"] (defScope s_Ground_n) := ⟨rfl, rfl, rfl, by decide +kernel, rfl, by decide +kernel, by decide +kernel⟩
theorem cal_Gp (E : En K mg) : CalM P w K mg base 1 "Ground" "p" ["self"] (spGp K) := by
  obtain ⟨fd, F, g⟩ := E.c_Ground_p
  refine ⟨⟨fd, ?_, F.binds fun _ _ _ _ _ _ us hl => match us, hl with | [_], _ => rfl⟩, g⟩
  refine F.ok sc_Gp (fun vs H Q E h => ?_) (fun cdv A outer s H vs Q E' hr h => ?_)
  · obtain ⟨v, p, n, rfl, _⟩ := h
    rfl
  · obtain ⟨v, p, n, rfl, ⟨a, dx, rfl, ha⟩, q⟩ := h
    exact ⟨_, pss_one (ps_ret (pe_fld (pv 0) rfl)), _, rfl, a, _, dx, _, _, rfl, ha, E.clG, E.at_prime, look_prime p n, q⟩
theorem cal_Gn (E : En K mg) : CalM P w K mg base 1 "Ground" "n" ["self"] (spGn K) := by
  obtain ⟨fd, F, g⟩ := E.c_Ground_n
  refine ⟨⟨fd, ?_, F.binds fun _ _ _ _ _ _ us hl => match us, hl with | [_], _ => rfl⟩, g⟩
  refine F.ok sc_Gn (fun vs H Q E h => ?_) (fun cdv A outer s H vs Q E' hr h => ?_)
  · obtain ⟨v, p, n, rfl, _⟩ := h
    rfl
  · obtain ⟨v, p, n, rfl, ⟨a, dx, rfl, ha⟩, q⟩ := h
    exact ⟨_, pss_one (ps_ret (pe_fld (pv 0) rfl)), _, rfl, a, _, dx, _, _, rfl, ha, E.clG, E.at_length, look_length p n, q⟩
theorem gr_no {m : Str} (h1 : (m == ("prime" : Str)) = false) (h2 : (m == ("length" : Str)) = false) (p n : Int) : List.lookup m [("prime", V.int p), ("length", V.int n)] = none := by
  simp only [List.lookup, h1, h2]
/-- ground.p(), ground.n() -/
theorem in_gp {i : Nat} {σ : L2.St} {H : Hp} {Q : VK} {v : V} {p n : Int} (hi : σ[i]? = some (some v)) (hg : GrAt K H v p n) (q : Q (.int p) H) : tMeth (He.ga K "Ground") "p" (spGp K) [] E0 (tVar i) tNil σ H Q := by
  obtain ⟨a, dx, rfl, ha⟩ := id hg
  exact ⟨_, hi, a, dx, _, rfl, ha, gr_no (by decide +kernel) (by decide +kernel) p n, _, p, n, rfl, hg, q⟩
theorem in_gn {i : Nat} {σ : L2.St} {H : Hp} {Q : VK} {v : V} {p n : Int} (hi : σ[i]? = some (some v)) (hg : GrAt K H v p n) (q : Q (.int n) H) : tMeth (He.ga K "Ground") "n" (spGn K) [] E0 (tVar i) tNil σ H Q := by
  obtain ⟨a, dx, rfl, ha⟩ := id hg
  exact ⟨_, hi, a, dx, _, rfl, ha, gr_no (by decide +kernel) (by decide +kernel) p n, _, p, n, rfl, hg, q⟩
theorem ev_gp {i : Nat} {σ : L2.St} {H : Hp} {v : V} {p n : Int} (hi : σ[i]? = some (some v)) (hg : GrAt K H v p n) : Evl.Ev (tMeth (He.ga K "Ground") "p" (spGp K) [] E0 (tVar i) tNil) σ H (.int p) := fun H1 e Q q => in_gp hi (hg.mono e) (q H1 (Ex.refl _))
theorem ev_gn {i : Nat} {σ : L2.St} {H : Hp} {v : V} {p n : Int} (hi : σ[i]? = some (some v)) (hg : GrAt K H v p n) : Evl.Ev (tMeth (He.ga K "Ground") "n" (spGn K) [] E0 (tVar i) tNil) σ H (.int n) := fun H1 e Q q => in_gn hi (hg.mono e) (q H1 (Ex.refl _))
/-! ### added -/
def mk (n : Nat) (f : Nat → Int) : List Int := (List.range n).map f
def addR (p : Int) (a b : List Int) : List Int := mk a.length fun i => (a.getD i 0 + b.getD i 0) % p
def spRow2 (K : PySem.W.Frag) (F : Int → List Int → List Int → List Int) : Sp := fun vs H Q _ => ∃ g a b p n r s, vs = [g, a, b] ∧ GrAt K H g p n ∧ 0 < p ∧ Dp K H a (rowD r) ∧ Dp K H b (rowD s) ∧ r.length = s.length ∧ r.length ≤ 100 ∧
  ∀ v H', Ex H H' → Dp K H' v (rowD (F p r s)) → Q v H'
theorem sc_added : FnScope ["ground", "one", "other", "left", "right"] ["ground", "one", "other"] (defScope s_added) := ⟨rfl, rfl, rfl, by decide +kernel, rfl, by decide +kernel, by decide +kernel⟩
/-- zip of two tuples walks -/
theorem walk_zipT {a b : Addr} {xs ys : List V} {n : Nat} (h1 : xs.length = n) (h2 : ys.length = n) : Walk (RZ.ItzT K a b) n (fun H => SqT K H a xs ∧ SqT K H b ys) (YPair (fun i => xs[i]?) (fun i => ys[i]?)) := by
  refine ⟨fun i H hi q => ⟨xs, ys, xs[i]'(by omega), ys[i]'(by omega), q.1, q.2, by simp, by simp⟩, fun H q => ⟨xs, ys, q.1, q.2, .inl (by omega)⟩, fun i H v H' hi q y => ?_⟩
  obtain ⟨T, x, z, e1, e2, e3, e4, e5⟩ := y
  exact ⟨T, x, z, e1, e2, e3, e4 xs q.1, e5 ys q.2⟩
theorem getD_of {r : List Int} {i : Nat} {x : V} (h : (r.map V.int)[i]? = some x) : x = .int (r.getD i 0) := by
  rw [List.getElem?_map] at h
  cases e : r[i]? with
  | none => rw [e] at h; cases h
  | some z =>
    rw [e] at h
    rw [List.getD_eq_getElem?_getD, e]
    exact (Option.some.inj h).symm
theorem sz100 {n : Nat} (h : n ≤ 100) : n < sizeLine := Nat.lt_of_le_of_lt h (by decide)
theorem cal_added (E : En K mg) : Cal P w K mg base 2 "added" ["ground", "one", "other"] (spRow2 K addR) := by
  obtain ⟨fd, F, g⟩ := E.c_added
  refine ⟨⟨fd, ?_, F.binds fun _ _ _ _ _ _ us hl => match us, hl with | [_, _, _], _ => rfl⟩, g, F.kp⟩
  refine F.ok sc_added (fun vs H Q E h => ?_) (fun cdv A outer s H vs Q E' hr h => ?_)
  · obtain ⟨g, a, b, p, n, r, s, rfl, _⟩ := h
    rfl
  · obtain ⟨g, a, b, p, n, r, s, rfl, hg, p0, ha, hb, hl, hz, q⟩ := h
    obtain ⟨a, rfl, ta⟩ := dp_row ha
    obtain ⟨b, rfl, tb⟩ := dp_row hb
    refine ⟨_, pss_one (ps_ret (pe_callTy call_tuple_of (by rfl) E.n_tuple (by decide +kernel) (pa_cons (pe_lc (own := [("left", 3), ("right", 4)]) (g := gTup K 2 (gCons (gName 3) (gCons (gName 4) gNil))) (tt := tYes) rfl sc_added.nd
      (RZ.pi_zipA (by rfl) E.n_zip (pa_cons (pv 1) (pa_cons (pv 2) pa_nil))) (blkOk_by (N := ["ground", "one", "other", "left", "right"]) (sc := defScope s_added) (by decide +kernel))
      (fun _ _ _ _ _ => pg_tup rfl (pgs_cons (pg_name (i := 3) sc_added.nd rfl (.inl rfl)) (pgs_cons (pg_name (i := 4) sc_added.nd rfl (.inl rfl)) pgs_nil)))
      (fun _ _ _ _ _ => pts_nil) (fun _ _ _ _ _ => pe_op op_mod (pe_op op_add (pv 3) (pv 4)) (pe_calM0 E.clG (cal_Gp (P := P) (w := w) (base := base) E) (hr.mono (by decide)) (pv 0)))) pa_nil))), ?_⟩
    refine ⟨_, rfl, _, rfl, a, b, _, _, rfl, .inr ⟨ta, tb, fun D hD => ?_⟩⟩
    refine lcW (walk_zipT (n := r.length) (by simp) (by simp [hl])) hD K (fun _ => true) (fun i v _ => v = .int ((r.getD i 0 + s.getD i 0) % p)) (gm_tup (gsm_cons (gm_name 3) (gsm_cons (gm_name 4) gsm_nil))) (sz100 hz) (fun H' e => ⟨Evl.ex_t e ta, Evl.ex_t e tb⟩) (fun _ _ _ _ _ q => q) ?_ ?_
    · rintro i x H1 H2 hi e ⟨T, x1, x2, rfl, hT, rfl, h1, h2⟩
      rw [getD_of h1, getD_of h2]
      refine ⟨T, _, rfl, .inl (.inl upd_same), rfl, _, _, rfl, _, _, rfl, rfl, rfl, Ex.new hT, et_yes, fun _ => ?_⟩
      intro H3 e3 Q' k
      exact ⟨_, rfl, _, rfl, _, _, rfl, rfl, in_gp rfl (((hg.mono e).mono (Ex.new hT)).mono e3) ⟨_, _, rfl, rfl, p0, k _ _ (Ex.refl _) rfl⟩⟩
    · intro vs H' e hv hp
      rw [range_all] at hp
      have ev : vs = (addR p r s).map V.int := dps_ints (K := K) (H := H') (by
        unfold addR mk
        rw [List.map_map]
        exact dps_paired (paired_mem hp fun i v _ q => by rw [q]; exact .int _))
      exact ⟨D, vs, rfl, .inl ⟨.inl (.inl hv), fun l hl => q _ _ (e.trans (Ex.new hl)) (row_dp (by rw [← ev]; exact .inl (.inl upd_same)))⟩⟩
def subR (p : Int) (a b : List Int) : List Int := mk a.length fun i => (a.getD i 0 - b.getD i 0) % p
theorem sc_subtracted : FnScope ["ground", "one", "other", "left", "right"] ["ground", "one", "other"] (defScope s_subtracted) := ⟨rfl, rfl, rfl, by decide +kernel, rfl, by decide +kernel, by decide +kernel⟩
theorem cal_subtracted (E : En K mg) : Cal P w K mg base 2 "subtracted" ["ground", "one", "other"] (spRow2 K subR) := by
  obtain ⟨fd, F, g⟩ := E.c_subtracted
  refine ⟨⟨fd, ?_, F.binds fun _ _ _ _ _ _ us hl => match us, hl with | [_, _, _], _ => rfl⟩, g, F.kp⟩
  refine F.ok sc_subtracted (fun vs H Q E h => ?_) (fun cdv A outer s H vs Q E' hr h => ?_)
  · obtain ⟨g, a, b, p, n, r, s, rfl, _⟩ := h
    rfl
  · obtain ⟨g, a, b, p, n, r, s, rfl, hg, p0, ha, hb, hl, hz, q⟩ := h
    obtain ⟨a, rfl, ta⟩ := dp_row ha
    obtain ⟨b, rfl, tb⟩ := dp_row hb
    refine ⟨_, pss_one (ps_ret (pe_callTy call_tuple_of (by rfl) E.n_tuple (by decide +kernel) (pa_cons (pe_lc (own := [("left", 3), ("right", 4)]) (g := gTup K 2 (gCons (gName 3) (gCons (gName 4) gNil))) (tt := tYes) rfl sc_subtracted.nd
      (RZ.pi_zipA (by rfl) E.n_zip (pa_cons (pv 1) (pa_cons (pv 2) pa_nil))) (blkOk_by (N := ["ground", "one", "other", "left", "right"]) (sc := defScope s_subtracted) (by decide +kernel))
      (fun _ _ _ _ _ => pg_tup rfl (pgs_cons (pg_name (i := 3) sc_subtracted.nd rfl (.inl rfl)) (pgs_cons (pg_name (i := 4) sc_subtracted.nd rfl (.inl rfl)) pgs_nil)))
      (fun _ _ _ _ _ => pts_nil) (fun _ _ _ _ _ => pe_op op_mod (pe_op op_sub (pv 3) (pv 4)) (pe_calM0 E.clG (cal_Gp (P := P) (w := w) (base := base) E) (hr.mono (by decide)) (pv 0)))) pa_nil))), ?_⟩
    refine ⟨_, rfl, _, rfl, a, b, _, _, rfl, .inr ⟨ta, tb, fun D hD => ?_⟩⟩
    refine lcW (walk_zipT (n := r.length) (by simp) (by simp [hl])) hD K (fun _ => true) (fun i v _ => v = .int ((r.getD i 0 - s.getD i 0) % p)) (gm_tup (gsm_cons (gm_name 3) (gsm_cons (gm_name 4) gsm_nil))) (sz100 hz) (fun H' e => ⟨Evl.ex_t e ta, Evl.ex_t e tb⟩) (fun _ _ _ _ _ q => q) ?_ ?_
    · rintro i x H1 H2 hi e ⟨T, x1, x2, rfl, hT, rfl, h1, h2⟩
      rw [getD_of h1, getD_of h2]
      refine ⟨T, _, rfl, .inl (.inl upd_same), rfl, _, _, rfl, _, _, rfl, rfl, rfl, Ex.new hT, et_yes, fun _ => ?_⟩
      intro H3 e3 Q' k
      exact ⟨_, rfl, _, rfl, _, _, rfl, rfl, in_gp rfl (((hg.mono e).mono (Ex.new hT)).mono e3) ⟨_, _, rfl, rfl, p0, k _ _ (Ex.refl _) rfl⟩⟩
    · intro vs H' e hv hp
      rw [range_all] at hp
      have ev : vs = (subR p r s).map V.int := dps_ints (K := K) (H := H') (by
        unfold subR mk
        rw [List.map_map]
        exact dps_paired (paired_mem hp fun i v _ q => by rw [q]; exact .int _))
      exact ⟨D, vs, rfl, .inl ⟨.inl (.inl hv), fun l hl => q _ _ (e.trans (Ex.new hl)) (row_dp (by rw [← ev]; exact .inl (.inl upd_same)))⟩⟩
/-! ### scaled -/
def scaR (p t : Int) (a : List Int) : List Int := mk a.length fun i => (t * a.getD i 0) % p
def spScaled (K : PySem.W.Frag) : Sp := fun vs H Q _ => ∃ g t a p n r, vs = [g, .int t, a] ∧ GrAt K H g p n ∧ 0 < p ∧ -1000 ≤ t ∧ t ≤ 1000 ∧ Dp K H a (rowD r) ∧ r.length ≤ 100 ∧ ∀ v H', Ex H H' → Dp K H' v (rowD (scaR p t r)) → Q v H'
theorem sc_scaled : FnScope ["ground", "number", "row", "entry"] ["ground", "number", "row"] (defScope s_scaled) := ⟨rfl, rfl, rfl, by decide +kernel, rfl, by decide +kernel, by decide +kernel⟩
/-- a list of ints that a comprehension made -/
theorem ints_of {n : Nat} {f : Nat → Int} {vs : List V} (h : Paired (fun i v => v = V.int (f i)) (List.range n) vs) : vs = (mk n f).map V.int := dps_ints (K := []) (H := fun _ => none) (by
  unfold mk
  rw [List.map_map]
  exact dps_paired (paired_mem h fun i v _ q => by rw [q]; exact .int _))
theorem cal_scaled (E : En K mg) : Cal P w K mg base 2 "scaled" ["ground", "number", "row"] (spScaled K) := by
  obtain ⟨fd, F, g⟩ := E.c_scaled
  refine ⟨⟨fd, ?_, F.binds fun _ _ _ _ _ _ us hl => match us, hl with | [_, _, _], _ => rfl⟩, g, F.kp⟩
  refine F.ok sc_scaled (fun vs H Q E h => ?_) (fun cdv A outer s H vs Q E' hr h => ?_)
  · obtain ⟨g, t, a, p, n, r, rfl, _⟩ := h
    rfl
  · obtain ⟨g, t, a, p, n, r, rfl, hg, p0, t0, t1, ha, hz, q⟩ := h
    obtain ⟨a, rfl, ta⟩ := dp_row ha
    refine ⟨_, pss_one (ps_ret (pe_callTy call_tuple_of (by rfl) E.n_tuple (by decide +kernel) (pa_cons (pe_lc (own := [("entry", 3)]) (g := gName 3) (tt := tYes) rfl sc_scaled.nd
      (pi_tup (pv 2)) (blkOk_by (N := ["ground", "number", "row", "entry"]) (sc := defScope s_scaled) (by decide +kernel)) (fun _ _ _ _ _ => pg_name (i := 3) sc_scaled.nd rfl (.inl rfl))
      (fun _ _ _ _ _ => pts_nil) (fun _ _ _ _ _ => pe_op op_mod (pe_op op_mul (pv 1) (pv 3)) (pe_calM0 E.clG (cal_Gp (P := P) (w := w) (base := base) E) (hr.mono (by decide)) (pv 0)))) pa_nil))), ?_⟩
    refine ⟨_, rfl, a, rfl, ⟨_, ta⟩, fun D hD => ?_⟩
    refine lcW walk_tup hD K (fun _ => true) (fun i v _ => v = .int ((t * r.getD i 0) % p)) (gm_name 3) (by rw [List.length_map]; exact sz100 hz) (fun H' e => Evl.ex_t e ta) (fun _ _ _ _ _ q => q) ?_ ?_
    · rintro i x H1 H2 hi e ⟨rfl, h1⟩
      rw [getD_of h1]
      refine ⟨rfl, Ex.refl _, et_yes, fun _ => ?_⟩
      intro H3 e3 Q' k
      exact ⟨_, rfl, _, rfl, _, _, rfl, rfl, .inl ⟨by omega, by omega⟩, in_gp rfl ((hg.mono e).mono e3) ⟨_, _, rfl, rfl, p0, k _ _ (Ex.refl _) rfl⟩⟩
    · intro vs H' e hv hp
      rw [range_all, List.length_map] at hp
      have ev : vs = (scaR p t r).map V.int := ints_of hp
      exact ⟨D, vs, rfl, .inl ⟨.inl (.inl hv), fun l hl => q _ _ (e.trans (Ex.new hl)) (row_dp (by rw [← ev]; exact .inl (.inl upd_same)))⟩⟩
end
end Cn
/-! enumerate of a tuple. -/
namespace Cn
open PySem PySem.Spec PyProof.Rows L2
theorem en_new {v : Value} {o : Obj} {HB : Heap → Prop} (B : Begins v o HB) : Meets (Builtin.«enumerate.__new__» ⟨[.type "enumerate", v], []⟩) (fun _ R s => HB s.heap ∧ R (.ok (.ret (.ref (s.heap.push o).objs.size)))
    { s with heap := (s.heap.push o).push { cls := .type "enumerate", data := .fields #[.none, .bool false, .ref s.heap.objs.size, rawInt 0, .none, .none] } }) :=
  .of_wp fun prog w A R s h => by
    obtain ⟨h0, gs, dr, tk, os⟩ := s
    obtain ⟨hb, hR⟩ := h
    have hsub := sub_enumerate
    have it : ∀ {A' : Around} {E' : Value → Shared → Prop} {Q' : Value → Shared → Prop}, Q' (.ref h0.objs.size) ⟨h0.push o, gs, dr, tk, os⟩ → wpAny (model prog w) A' (pyIter v) Q' E' ⟨h0, gs, dr, tk, os⟩ := fun q => B.iter prog w _ _ ⟨h0, gs, dr, tk, os⟩ _ hb q
    wp_walk using it
    refine wpAny_stack_any fun st => wpAny_pure ?_
    split
    · rename_i c _ _ _ _ _
      cases (c == Value.type "enumerate") <;> (wp_walk using it; exact ⟨_, rfl, hR⟩)
    · wp_walk using it
      exact ⟨_, rfl, hR⟩
section
variable {prog : Program} {w : World} {A : Around} {E : Value → Shared → Prop} {s : Shared}
theorem en_call {v : Value} {o : Obj} {HB : Heap → Prop} {Q : Value → Shared → Prop} (B : Begins v o HB) (hb : HB s.heap)
    (k : ∀ h', IsEnum h' (s.heap.objs.size + 1) s.heap.objs.size 0 .none → h'.get? s.heap.objs.size = some o → (∀ b u, s.heap.get? b = some u → h'.get? b = some u) → Q (.ref (s.heap.objs.size + 1)) { s with heap := h' }) : wpAny (model prog w) A (call (.type "enumerate") [v]) Q E s := by
  refine callType_new F.called_enumerate (by decide) (F.typeCall_enumerate_1 _) (F.newCall_enumerate_1 _) (fun ob => F.args_object_init_2 ob _) F.entry_enumerate_new (en_new B) ⟨hb, ?_⟩
  have z1 : (s.heap.push o).objs.size = s.heap.objs.size + 1 := Heap.size_push ..
  show _ ∧ _
  rw [z1]
  have e1 : IsEnum ((s.heap.push o).push { cls := .type "enumerate", data := .fields #[.none, .bool false, .ref s.heap.objs.size, rawInt 0, .none, .none] }) (s.heap.objs.size + 1) s.heap.objs.size 0 .none := by
    have y := Heap.get?_push_size (s.heap.push o) (o := { cls := .type "enumerate", data := .fields #[.none, .bool false, .ref s.heap.objs.size, rawInt 0, .none, .none] }) rfl
    rw [z1] at y
    exact y
  exact ⟨⟨_, e1, rfl⟩, k _ e1 (Heap.get?_push_of_some _ (Heap.get?_push_size _ B.free)) fun b u x => Heap.get?_push_of_some _ (Heap.get?_push_of_some _ x)⟩
end
/-- the tuple at a, each item in a new pair behind its place -/
def IteT (K : PySem.W.Frag) (a : Addr) : It :=
  ⟨fun i H => ∃ (xs : List V) (x : V), SqT K H a xs ∧ xs[i]? = some x, fun i H v H' => ∃ T x, v = .ref T ∧ H T = none ∧ H' = upd H T (.tup [.int (i : Nat), x]) ∧ ∀ xs, SqT K H a xs → xs[i]? = some x, fun i H => ∃ xs : List V, SqT K H a xs ∧ xs.length ≤ i⟩
theorem en_turn {P : Program} {w : World} {K : PySem.W.Frag} {elts : List PySem.Expr} {kk : Nat} {tpos : Pos} (a e it : Addr) : Turn P w K (.Tuple elts kk tpos) (IteT K a) [e, it] e (fun i h => (∃ old, IsEnum h e it ((i : Nat) : Int) old) ∧ h.IsTupleIter it a i ∧ e ≠ it ∧ a ≠ it ∧ a ≠ e) where
  mem := by simp
  obj := fun i h st b hb => by
    obtain ⟨⟨old, he⟩, ⟨o, ho, hc, hd⟩, _⟩ := st
    have e' : b = e ∨ b = it := by simpa using hb
    rcases e' with z | z
    · subst z
      exact ⟨_, he, fun v q => nomatch q⟩
    · subst z
      exact ⟨o, ho, fun v q => by rw [hd] at q; cases q⟩
  keep := fun i h h' st k => by
    obtain ⟨⟨old, he⟩, ⟨o, ho, q⟩, n1⟩ := st
    exact ⟨⟨old, k e (by simp) _ he⟩, ⟨o, k it (by simp) o ho, q⟩, n1⟩
  item := by
    intro X hP hw hK hc i pins s σ H E I hf st hg
    subst hP hw hK
    obtain ⟨⟨old, he⟩, hit, hne, hai, hae⟩ := st
    obtain ⟨xs, x, hq, hx⟩ := hg
    obtain ⟨its, rv, p, hz⟩ := I.tuple hq
    obtain ⟨u, hu, ru⟩ := rv.get hx
    have lte : e < s.heap.objs.size := Heap.lt_size he
    have lti : it < s.heap.objs.size := by obtain ⟨_, q, _⟩ := hit; exact Heap.lt_size q
    have hi : i < its.toArray.size := by
      rw [List.size_toArray]
      exact (List.getElem?_eq_some_iff.mp hu).1
    have hh : X.A.in1.handled = none := I.ok.hd hc
    refine wpAny_pyNext_enum_itemD (Draws.tuple hh it a hai its.toArray) he ⟨hit, p⟩ hi hne (by simp [hne, Ne.symm hae]) fun y h' tk hy ho hst hT hsz hk => ?_
    have ey : y = u := by
      have q : its[i]? = some y := by simpa using hy
      rw [hu] at q
      exact (Option.some.inj q).symm
    subst ey
    refine ⟨_, rfl, wpAny_letOwnedTupleGo_enum (s := { s with heap := h', toks := tk + 1 }) ho fun h'' he' sb => ?_⟩
    have hT2 : h''.get? s.heap.objs.size = some { cls := .type "tuple", data := .seq #[.int i tk, y] } := (sb.2 _ (Nat.ne_of_gt lte)).trans hT
    have new : ObjOk X.prog X.w (upd H s.heap.objs.size (.tup [.int (i : Nat), x])) h'' s.heap.objs.size (.tup [.int (i : Nat), x]) := ⟨by show 2 ≤ sizeLine; decide, [.int i tk, y], .cons ⟨_, rfl⟩ (.cons ru .nil), ⟨_, hT2, rfl, _, rfl⟩⟩
    have I1 : Inv X pins σ (upd H s.heap.objs.size (.tup [.int (i : Nat), x])) { s with heap := h'', toks := tk + 1 } :=
      I.turnedNew (t' := tk + 1) (ch := [e, it]) (fun b ob hb q => (sb.2 b (fun z => hb (by simp [z]))).trans (hk b ob (fun z => hb (by simp [z])) (fun z => hb (by simp [z])) q)) hf (Nat.le_refl _) new
    refine ⟨.ref s.heap.objs.size, _, I1, rfl, ⟨_, x, rfl, I.hok.fresh (Nat.le_refl _), rfl, fun ys hy => by rw [I.tuple_inj hy hq]; exact hx⟩, ⟨⟨y, ?_⟩, ?_, hne, hai, hae⟩, fun b hb => ?_⟩
    · have e1 : ((i + 1 : Nat) : Int) = (i : Int) + 1 := by omega
      rw [e1]
      exact he'
    · obtain ⟨o, q1, q2⟩ := hst.1
      exact ⟨o, (sb.2 it (Ne.symm hne)).trans q1, q2⟩
    · have hb' : b < s.heap.objs.size := by
        have e' : b = e ∨ b = it := by simpa using hb
        rcases e' with z | z
        · rw [z]; exact lte
        · rw [z]; exact lti
      rw [upd_ne (Nat.ne_of_lt hb')]
      exact (hf b hb).1
  done := by
    intro X hP hw hK hc i pins s σ H E I hf st hg
    subst hP hw hK
    obtain ⟨⟨old, he⟩, hit, hne, hai, hae⟩ := st
    obtain ⟨xs, hq, hx⟩ := hg
    obtain ⟨its, rv, p, hz⟩ := I.tuple hq
    obtain ⟨f0, f1, f2, f3, f4, f5⟩ := hf it (by simp)
    have hl := rv.length
    have hh : X.A.in1.handled = none := I.ok.hd hc
    unfold pyNext
    refine wpAny_bind (wpAny_attempt (wpAny_callSpecial?_slot (name := Str.ofString "__next__") (⟨_, he, rfl⟩ : s.TypeIs (.ref e) "enumerate") F.slot_enumerate_next (wpAny_call_entry F.slot_enumerate_next ⟨_, he, rfl⟩ F.entry_enumerate_next ?_ (F.args_enumerate_next_1 _))))
    show wpAny _ _ (field (.ref e) 2 >>= _) _ _ _
    refine wpAny_bind (wpAny_field he rfl (x := .ref it) rfl ?_)
    refine wpAny_bind (wpAny_nextOf_tuple_end hh hit p (by simp; omega) fun h' x he' hx' => ?_)
    obtain ⟨o, ho, hcl⟩ := hx'
    refine wpAny_bind (wpAny_isInstance (T := "StopIteration") (b := true) ⟨o, ho, hcl⟩ isSubtype_stop ?_)
    exact wpAny_pure ⟨rfl, I.turned (t' := s.toks) (fun b u hb q => he' b u hb q) f0 f1 f3 f4 f5⟩
  self := fun A i s Q E st h => let ⟨⟨_, he⟩, _⟩ := st; wpAny_pyIter_enum he h
def iEnT (K : PySem.W.Frag) (ta : TA) : TI := fun σ H R => ta σ H fun vs H1 => ∃ a xs, vs = [.ref a] ∧ SqT K H1 a xs ∧ R (IteT K a) H1
theorem pi_enT {X : Cx} {e : PySem.Expr} {ta : TA} {p pos tpos : Pos} {elts : List PySem.Expr} {kk : Nat} (hg : Gl X "enumerate") (hm : X.mg "enumerate" = none) (ha : PA X [e] ta) (hs : starEach [e] X.env = [(false, eval e X.env)] := by rfl) : PI X (.Tuple elts kk tpos) (.Call (.Name "enumerate" p) [e] [] pos) (iEnT X.K ta) := by
  refine ⟨fun pins s σ H R I h => ?_⟩
  refine Call_ (ld_blt I hg hm boot_enumerate (PyProof.Rows.callWith_type1 (thn (ha.run pos pins s σ H _ I h) fun us s1 ⟨vs, H1, I1, r1, q1⟩ => ?_) hs rfl))
  obtain ⟨a, xs, ex, hq, q⟩ := q1
  subst ex
  obtain rfl := Vals.ref1 r1
  obtain ⟨its, rv, p', hz⟩ := I1.tuple hq
  refine en_call (begins_tuple a its.toArray) p' fun h' he hit hk => wpAny_pyIter_enum he ?_
  have I2 : Inv X pins σ H1 { s1 with heap := h' } := I1.kept (t' := s1.toks) hk
  have lta := p'.lt
  refine ⟨s1.heap.objs.size + 1, [s1.heap.objs.size + 1, s1.heap.objs.size], _, _, H1, rfl, I2, en_turn a (s1.heap.objs.size + 1) s1.heap.objs.size, ⟨⟨.none, he⟩, ⟨_, hit, rfl, rfl⟩, Nat.succ_ne_self _, Nat.ne_of_lt lta, Nat.ne_of_lt (Nat.lt_succ_of_lt lta)⟩, fun b hb => ?_, q⟩
  have e' : b = s1.heap.objs.size + 1 ∨ b = s1.heap.objs.size := by simpa using hb
  have hle : s1.heap.objs.size ≤ b := by
    rcases e' with z | z
    · rw [z]; exact Nat.le_add_right _ _
    · rw [z]; exact Nat.le_refl _
  exact I1.fpOk hle (I1.hok.fresh hle)
theorem walk_enT {K : PySem.W.Frag} {a : Addr} {xs : List V} : Walk (IteT K a) xs.length (fun H => SqT K H a xs) (YPair (fun i => some (.int (i : Nat))) (fun i => xs[i]?)) := by
  refine ⟨fun i H hi q => ⟨xs, xs[i], q, by simp [hi]⟩, fun H q => ⟨xs, q, Nat.le_refl _⟩, fun i H v H' hi q y => ?_⟩
  obtain ⟨T, x, e1, e2, e3, e4⟩ := y
  exact ⟨T, _, x, e1, e2, e3, rfl, e4 xs q⟩
end Cn
namespace Cn
open PySem PySem.Spec PyProof.Rows L2
open Evl (Ex)
section
variable {P : Program} {w : World} {K : PySem.W.Frag} {mg : Str → Option Value} {base : Heap}
/-! ### zero, units, the inverse -/
def zeroR (n : Nat) : List Int := mk n fun _ => 0
theorem zero_rep (n : Nat) : (List.replicate n [V.int 0]).flatten = (zeroR n).map V.int := by
  unfold zeroR mk
  rw [List.map_map]
  induction n with
  | zero => rfl
  | succ n ih =>
    rw [List.replicate_succ', List.flatten_append, ih, List.range_succ, List.map_append]
    rfl
def spGzero (K : PySem.W.Frag) : Sp := fun vs H Q _ => ∃ v p, ∃ n : Nat, vs = [v] ∧ GrAt K H v p n ∧ 2 ≤ n ∧ n ≤ 100 ∧ ∀ v H', Ex H H' → Dp K H' v (rowD (zeroR n)) → Q v H'
theorem sc_Gzero : FnScope ["self"] ["self"] (defScope s_Ground_zero) := ⟨rfl, rfl, rfl, by decide +kernel, rfl, by decide +kernel, by decide +kernel⟩
theorem cal_Gzero (E : En K mg) : CalM P w K mg base 1 "Ground" "zero" ["self"] (spGzero K) := by
  obtain ⟨fd, F, g⟩ := E.c_Ground_zero
  refine ⟨⟨fd, ?_, F.binds fun _ _ _ _ _ _ us hl => match us, hl with | [_], _ => rfl⟩, g⟩
  refine F.ok sc_Gzero (fun vs H Q E h => ?_) (fun cdv A outer s H vs Q E' hr h => ?_)
  · obtain ⟨v, p, n, rfl, _⟩ := h
    rfl
  · obtain ⟨v, p, n, rfl, ⟨a, dx, rfl, ha⟩, n2, n3, q⟩ := h
    refine ⟨_, pss_one (ps_ret (pe_op op_repT (pe_tup (pa_cons pe_int pa_nil)) (pe_fld (pv 0) rfl))), by show 1 ≤ sizeLine; decide, fun t ht => ?_⟩
    have ha' : upd H t (.tup [V.int 0]) a = some (.ins (CG K) dx [("prime", .int p), ("length", .int n)]) := by rw [upd_ne (ne_of_none ha ht)]; exact ha
    refine ⟨_, rfl, a, _, dx, _, _, rfl, ha', E.clG, E.at_length, look_length p n, t, n, [V.int 0], rfl, rfl, .inl (.inl upd_same), by simp, by omega, by omega, by decide, fun l hl => ?_⟩
    refine q _ _ ((Ex.new ht).trans (Ex.new hl)) (row_dp (.inl (.inl ?_)))
    rw [upd_same, Int.toNat_natCast, zero_rep]
/-- the unit rows -/
def unitsL (n : Nat) : List (List Int) := (List.range n).map fun k => mk n fun c => if k = c then 1 else 0
def spGunits (K : PySem.W.Frag) : Sp := fun vs H Q _ => ∃ v p, ∃ n : Nat, vs = [v] ∧ GrAt K H v p n ∧ n ≤ 100 ∧ ∀ v H', Ex H H' → Dp K H' v (codeD (unitsL n)) → Q v H'
theorem sc_Gunits : FnScope ["self", "k", "column"] ["self"] (defScope s_Ground_units) := ⟨rfl, rfl, rfl, by decide +kernel, rfl, by decide +kernel, by decide +kernel⟩
theorem cal_Gunits (E : En K mg) : CalM P w K mg base 1 "Ground" "units" ["self"] (spGunits K) := by
  obtain ⟨fd, F, g⟩ := E.c_Ground_units
  refine ⟨⟨fd, ?_, F.binds fun _ _ _ _ _ _ us hl => match us, hl with | [_], _ => rfl⟩, g⟩
  refine F.ok sc_Gunits (fun vs H Q E h => ?_) (fun cdv A outer s H vs Q E' hr h => ?_)
  · obtain ⟨v, p, n, rfl, _⟩ := h
    rfl
  · obtain ⟨v, p, n, rfl, ⟨a, dx, rfl, ha⟩, n3, q⟩ := h
    refine ⟨_, pss_one (ps_ret (pe_callTy (ct_tuple K) (by rfl) E.n_tuple (by decide +kernel) (pa_cons (pe_lc (own := [("k", 1)]) (g := gName 1) (tt := tYes) rfl sc_Gunits.nd
      (pi_range1 (by rfl) E.n_range (pa_cons (pe_fldK K (pv 0) rfl) pa_nil)) (blkOk_by (by kernel_rfl)) (fun _ _ _ _ _ => pg_name (i := 1) sc_Gunits.nd rfl (.inr rfl)) (fun _ _ _ _ _ => pts_nil)
      (fun _ _ _ _ _ => pe_callTy (ct_tuple K) (by rfl) E.n_tuple (by decide +kernel) (pa_cons (pe_lc (own := [("column", 2)]) (g := gName 2) (tt := tYes) rfl sc_Gunits.nd
        (pi_range1 (by rfl) E.n_range (pa_cons (pe_fldK K (pv 0) rfl) pa_nil)) (blkOk_by (by kernel_rfl)) (fun _ _ _ _ _ => pg_name (i := 2) sc_Gunits.nd rfl (.inl rfl)) (fun _ _ _ _ _ => pts_nil)
        (fun _ _ _ _ _ => pe_callTy call_int1 (by rfl) E.n_int (by decide +kernel) (pa_cons (pe_cmpR op_eq (pv 1) (pv 2) (nomark _)) pa_nil))) pa_nil))) pa_nil))), ?_⟩
    refine ⟨_, rfl, a, _, dx, _, _, rfl, ha, E.clG, E.at_length, look_length p n, n, rfl, by omega, by omega, fun D hD => ?_⟩
    refine lcW walk_range hD K (fun _ => true) (fun k v H' => Dp K H' v (rowD (mk n fun c => if k = c then 1 else 0))) (gm_name 1) (by rw [Int.toNat_natCast]; exact sz100 n3) (fun _ _ => trivial) (fun _ _ _ _ e q => dp_monoT e _ _ (flat_row _) q) ?_ ?_
    · rintro k x H1 H2 hk e ⟨rfl, rfl⟩
      refine ⟨rfl, Ex.refl _, et_yes, fun _ => ?_⟩
      intro H3 e3 Q' kk
      refine ⟨_, rfl, a, _, dx, _, _, rfl, e3 _ _ (e _ _ ha), E.clG, E.at_length, look_length p n, n, rfl, by omega, by omega, fun D2 hD2 => ?_⟩
      refine lcW walk_range hD2 K (fun _ => true) (fun c v H' => v = .int (if k = c then 1 else 0)) (gm_name 2) (by rw [Int.toNat_natCast]; exact sz100 n3) (fun _ _ => trivial) (fun _ _ _ _ e q => q) ?_ ?_
      · rintro c x H4 H5 hc e4 ⟨rfl, rfl⟩
        refine ⟨rfl, Ex.refl _, et_yes, fun _ => ?_⟩
        intro H6 e6 Q6 k6
        refine ⟨_, rfl, _, rfl, rfl, .inr ⟨_, rfl, k6 _ _ (Ex.refl _) ?_⟩⟩
        by_cases hkc : k = c
        · subst hkc
          rw [if_pos rfl, if_pos (by simp)]
        · rw [if_neg hkc, if_neg (by simp; omega)]
      · intro vs H4 e4 hv hp
        rw [range_all, Int.toNat_natCast] at hp
        have ev : vs = (mk n fun c => if k = c then 1 else 0).map V.int := ints_of hp
        exact ⟨D2, vs, rfl, .inl ⟨.inl (.inl hv), fun l hl => kk _ _ (e4.trans (Ex.new hl)) (row_dp (by rw [← ev]; exact .inl (.inl upd_same)))⟩⟩
    · intro vs H' e hv hp
      rw [range_all, Int.toNat_natCast] at hp
      refine ⟨D, vs, rfl, .inl ⟨.inl (.inl hv), fun l hl => q _ _ (e.trans (Ex.new hl)) (.tup (.inl (.inl upd_same)) (dps_mono (Ex.new hl) _ _ ?_))⟩⟩
      unfold unitsL
      rw [List.map_map]
      exact dps_paired hp

/-! ### what may be a list or a tuple, walked -/
def iSeq (K : PySem.W.Frag) (tl : TE) : TI := fun σ H R => tl σ H fun x H1 => ∃ a xs, x = .ref a ∧ ((SqL K H1 a xs ∧ R (Itl K a) H1) ∨ (SqT K H1 a xs ∧ R (Itt K a) H1))
theorem pi_seq {X : Cx} (K : PySem.W.Frag) {tg l : PySem.Expr} {tl : TE} (hl : PE X l tl) (hK : X.K = K := by rfl) : PI X tg l (iSeq K tl) := by
  subst hK
  refine ⟨fun pins s σ H R I h => thn (hl.run pins s σ H _ I h) fun v s1 z => ?_⟩
  obtain ⟨x, H1, I1, r1, a, xs, rfl, q1⟩ := z
  cases r1
  have fp : ∀ b ∈ [s1.heap.objs.size], FpOk X pins H1 b := fun b hb => by
    rw [List.mem_singleton.mp hb]
    exact I1.fpOk (Nat.le_refl _) (I1.hok.fresh (Nat.le_refl _))
  rcases q1 with ⟨hs, q⟩ | ⟨hs, q⟩
  · obtain ⟨its, rv, p, hz⟩ := I1.list hs
    exact wpAny_pyIter_list p.isList ⟨_, [s1.heap.objs.size], _, _, H1, rfl, I1.kept (t' := s1.toks) fun b o e => Heap.get?_push_of_some _ e, turn_list a _, ⟨_, Heap.get?_push_size _ rfl, rfl, rfl⟩, fp, q⟩
  · obtain ⟨its, rv, p, hz⟩ := I1.tuple hs
    exact wpAny_pyIter_tuple (show s1.heap.IsTuple a its.toArray from p) ⟨_, [s1.heap.objs.size], _, _, H1, rfl, I1.kept (t' := s1.toks) fun b o e => Heap.get?_push_of_some _ e, turn_tuple a _, ⟨_, Heap.get?_push_size _ rfl, rfl, rfl⟩, fp, q⟩
/-- a list or a tuple of rows -/
def RowsAt (K : PySem.W.Frag) (H : Hp) (v : V) (c : List (List Int)) : Prop := ∃ a xs, v = .ref a ∧ (SqL K H a xs ∨ SqT K H a xs) ∧ DpAll K H xs (c.map rowD)
theorem RowsAt.mono {K : PySem.W.Frag} {H H' : Hp} {v : V} {c : List (List Int)} (h : RowsAt K H v c) (e : Ex H H') : RowsAt K H' v c := by
  obtain ⟨a, xs, h1, h2, h3⟩ := h
  exact ⟨a, xs, h1, h2.elim (fun z => .inl (Evl.ex_l e z)) (fun z => .inr (Evl.ex_t e z)), dps_mono e _ _ h3⟩
theorem RowsAt.code {K : PySem.W.Frag} {H : Hp} {v : V} {c : List (List Int)} (h : Dp K H v (codeD c)) : RowsAt K H v c := by
  obtain ⟨a, xs, h1, h2, h3⟩ := dp_tup h
  exact ⟨a, xs, h1, .inr h2, h3⟩
theorem RowsAt.list {K : PySem.W.Frag} {H : Hp} {v : V} {c : List (List Int)} (h : Dp K H v (.list (c.map rowD))) : RowsAt K H v c := by
  obtain ⟨a, xs, h1, h2, h3⟩ := dp_lst h
  exact ⟨a, xs, h1, .inl h2, h3⟩
/-! ### inverse_of -/
structure IsInv (p a : Int) (k : Nat) : Prop where
  lo : 1 ≤ k
  hi : (k : Int) < p
  one : (a * k) % p = 1
  first : ∀ j : Nat, 1 ≤ j → j < k → (a * j) % p ≠ 1
def spInv (K : PySem.W.Frag) : Sp := fun vs H Q _ => ∃ v p n a, ∃ k : Nat, vs = [v, .int a] ∧ GrAt K H v p n ∧ IsInv p a k ∧ -1000 ≤ a ∧ a ≤ 1000 ∧ p ≤ 1000 ∧ Q (.int k) H
theorem sc_Ginv : FnScope ["self", "number", "other"] ["self", "number"] (defScope s_Ground_inverse_of) := ⟨rfl, rfl, rfl, by decide +kernel, rfl, by decide +kernel, by decide +kernel⟩
theorem cal_Ginv (E : En K mg) : CalM P w K mg base 1 "Ground" "inverse_of" ["self", "number"] (spInv K) := by
  obtain ⟨fd, F, g⟩ := E.c_Ground_inverse_of
  refine ⟨⟨fd, ?_, F.binds fun _ _ _ _ _ _ us hl => match us, hl with | [_, _], _ => rfl⟩, g⟩
  refine F.ok sc_Ginv (fun vs H Q E h => ?_) (fun cdv A outer s H vs Q E' hr h => ?_)
  · obtain ⟨v, p, n, a, k, rfl, _⟩ := h
    rfl
  · obtain ⟨v, p, n, c, k, rfl, ⟨a, dx, rfl, ha⟩, hk, c0, c1, p1, q⟩ := h
    obtain ⟨k1, k2, k3, k4⟩ := hk
    refine ⟨_, pss_cons (ps_for PassesOwn.never rfl (pi_range2 (by rfl) E.n_range (pa_cons pe_int (pa_cons (pe_fldK K (pv 0) rfl) pa_nil))) (pg_name (i := 2) sc_Ginv.nd rfl (.inl rfl))
      (pss_one (ps_if (pt_cmpR op_eq (pe_op op_mod (pe_op op_mul (pv 1) (pv 2)) (pe_fldK K (pv 0) rfl)) pe_int (nomark _)) (pss_one (ps_ret (pv 2))) pss_nil))) (pss_one (ps_ret pe_non)), ?_⟩
    refine ⟨_, rfl, a, _, dx, _, _, rfl, ha, E.clG, E.at_prime, look_prime p n, 1, p, rfl, ⟨by omega, by omega, by omega, by omega⟩, ?_⟩
    refine for_range (lo := 1) (n := (p - 1).toNat) (fun i σ H' => ∃ x, σ = [some (.ref a), some (.int c), x] ∧ H' = H ∧ i + 1 ≤ k) ⟨none, rfl, rfl, k1⟩ ?_ ?_
    · rintro i σ H' hi ⟨x, rfl, rfl, hik⟩
      refine ⟨_, rfl, _, rfl, _, _, rfl, rfl, .inl ⟨by omega, by omega⟩, _, rfl, a, _, dx, _, _, rfl, ha, E.clG, E.at_prime, look_prime p n, _, _, rfl, rfl, by omega, rfl, _, rfl, ?_⟩
      refine ite2 (fun h => ?_) (fun h => ?_)
      · have h1 : c * (1 + (i : Int)) % p = 1 := V.int.inj (of_decide_eq_true h)
        have e : k = i + 1 := by
          rcases Nat.lt_or_ge (i + 1) k with z | z
          · have z2 := k4 (i + 1) (by omega) z
            rw [show ((i + 1 : Nat) : Int) = 1 + (i : Int) by omega] at z2
            exact absurd h1 z2
          · omega
        refine ⟨_, rfl, ?_⟩
        have e2 : (1 + (i : Int)) = ((k : Nat) : Int) := by omega
        rw [e2]
        exact q
      · refine ⟨_, rfl, rfl, ?_⟩
        rcases Nat.lt_or_ge (i + 1) k with z | z
        · exact z
        · have e : k = i + 1 := by omega
          refine absurd (decide_eq_true ?_) h
          show V.int (c * (1 + (i : Int)) % p) = V.int 1
          rw [show (1 + (i : Int)) = ((k : Nat) : Int) by omega, k3]
    · rintro σ H' ⟨x, rfl, rfl, hik⟩
      exact absurd hik (by omega)
/-! ### pivot -/
def pivO (r : List Int) : Option Nat := (List.range r.length).find? fun i => r.getD i 0 != 0
def optV : Option Nat → V
  | some i => .int (i : Nat)
  | none => .non
theorem pivO_some {r : List Int} {i : Nat} (hi : i < r.length) (h : r.getD i 0 ≠ 0) (hb : ∀ j, j < i → r.getD j 0 = 0) : pivO r = some i := by
  unfold pivO
  rw [List.find?_range_eq_some]
  refine ⟨bne_iff_ne.mpr h, List.mem_range.mpr hi, fun j hj => ?_⟩
  rw [hb j hj]
  rfl
theorem pivO_none {r : List Int} (hb : ∀ j, j < r.length → r.getD j 0 = 0) : pivO r = none := by
  unfold pivO
  rw [List.find?_eq_none]
  intro j hj
  rw [hb j (List.mem_range.mp hj)]
  decide
def spPivot (K : PySem.W.Frag) : Sp := fun vs H Q _ => ∃ a r, vs = [a] ∧ Dp K H a (rowD r) ∧ r.length ≤ 100 ∧ ∀ H', Ex H H' → Q (optV (pivO r)) H'
theorem sc_pivot : FnScope ["row", "column", "entry"] ["row"] (defScope s_pivot) := ⟨rfl, rfl, rfl, by decide +kernel, rfl, by decide +kernel, by decide +kernel⟩
theorem cal_pivot (E : En K mg) : Cal P w K mg base 1 "pivot" ["row"] (spPivot K) := by
  obtain ⟨fd, F, g⟩ := E.c_pivot
  refine ⟨⟨fd, ?_, F.binds fun _ _ _ _ _ _ us hl => match us, hl with | [_], _ => rfl⟩, g, F.kp⟩
  refine F.ok sc_pivot (fun vs H Q E h => ?_) (fun cdv A outer s H vs Q E' hr h => ?_)
  · obtain ⟨a, r, rfl, _⟩ := h
    rfl
  · obtain ⟨a, r, rfl, ha, hz, q⟩ := h
    obtain ⟨a, rfl, ta⟩ := dp_row ha
    refine ⟨_, pss_cons (ps_for PassesOwn.never rfl (pi_enT (by rfl) E.n_enumerate (pa_cons (pv 0) pa_nil)) (pg_tup rfl (pgs_cons (pg_name (i := 1) sc_pivot.nd rfl (.inl rfl)) (pgs_cons (pg_name (i := 2) sc_pivot.nd rfl (.inl rfl)) pgs_nil)))
      (pss_one (ps_if (pt_cmpR op_ne (pv 2) pe_int (nomark _)) (pss_one (ps_ret (pv 1))) pss_nil))) (pss_one (ps_ret pe_non)), ?_⟩
    refine ⟨_, rfl, a, _, rfl, ta, ?_⟩
    refine for_it walk_enT (fun i σ H' => ∃ x y, σ = [some (.ref a), x, y] ∧ Ex H H' ∧ ∀ j, j < i → r.getD j 0 = 0) ⟨none, none, rfl, Ex.refl _, fun j hj => absurd hj (Nat.not_lt_zero _)⟩ (fun i σ H' _ z => by obtain ⟨_, _, _, e, _⟩ := z; exact Evl.ex_t e ta) ?_ ?_
    · rintro i x σ H1 H2 hi ⟨x0, y0, rfl, e, hb⟩ ⟨T, x1, x2, rfl, hT, rfl, h1, h2⟩
      rw [List.length_map] at hi
      have e1 : x1 = .int (i : Nat) := (Option.some.inj h1).symm
      have e2 := getD_of h2
      subst e1 e2
      refine ⟨T, _, rfl, .inl (.inl upd_same), rfl, _, _, rfl, _, _, rfl, rfl, _, rfl, rfl, _, rfl, ?_⟩
      by_cases h0 : r.getD i 0 = 0
      · rw [h0]
        refine iteF ⟨_, _, rfl, e.trans (Ex.new hT), fun j hj => ?_⟩
        rcases Nat.lt_or_eq_of_le (Nat.lt_succ_iff.mp hj) with z | z
        · exact hb j z
        · rw [z]
          exact h0
      · rw [decide_eq_false (fun z => h0 (V.int.inj z))]
        refine iteT ⟨_, rfl, ?_⟩
        have k := q _ (e.trans (Ex.new (o := .tup [V.int (i : Nat), .int (r.getD i 0)]) hT))
        rw [pivO_some hi h0 hb] at k
        exact k
    · rintro σ H' ⟨x0, y0, rfl, e, hb⟩
      rw [List.length_map] at hb
      have k := q _ e
      rw [pivO_none hb] at k
      exact k
end
end Cn
/-! sorted of rows and of codes, any number of them. -/
namespace Cn
open PySem PySem.Spec PyProof.Rows L2
open PySem.W (EachIs dataLe AllAlike Sortable alike alikeAll)
/-! ### the order in plain words -/
theorem alike_rows (r q : List Int) : alike (rowD r) (rowD q) = true := by
  show alike (.tuple _) (.tuple _) = true
  rw [alike]
  exact PySem.W.alike_ints r q
theorem alikeAll_rows : ∀ c d : List (List Int), alikeAll (c.map rowD) (d.map rowD) = true
  | [], _ => by simp [alikeAll]
  | _ :: _, [] => by simp [alikeAll]
  | r :: c, q :: d => by
    show alikeAll (rowD r :: c.map rowD) (rowD q :: d.map rowD) = true
    rw [alikeAll, alikeAll_rows c d, alike_rows]
    rfl
theorem alike_codes (c d : List (List Int)) : alike (codeD c) (codeD d) = true := by
  show alike (.tuple _) (.tuple _) = true
  rw [alike]
  exact alikeAll_rows c d
theorem eqv_ints : ∀ r q : List Int, PyData.eqvAll (r.map .int) (q.map .int) = decide (r = q)
  | [], [] => by simp [PyData.eqvAll]
  | [], _ :: _ => by simp [PyData.eqvAll]
  | _ :: _, [] => by simp [PyData.eqvAll]
  | a :: r, b :: q => by
    show PyData.eqvAll (.int a :: r.map .int) (.int b :: q.map .int) = _
    rw [PyData.eqvAll, eqv_ints r q]
    by_cases h : a = b <;> by_cases h2 : r = q <;> simp [PyData.eqv, h, h2]
theorem eqv_row (r q : List Int) : PyData.eqv (rowD r) (rowD q) = decide (r = q) := by
  show PyData.eqv (.tuple _) (.tuple _) = _
  rw [PyData.eqv]
  exact eqv_ints r q
theorem eqv_rows : ∀ c d : List (List Int), PyData.eqvAll (c.map rowD) (d.map rowD) = decide (c = d)
  | [], [] => by simp [PyData.eqvAll]
  | [], _ :: _ => by simp [PyData.eqvAll]
  | _ :: _, [] => by simp [PyData.eqvAll]
  | a :: r, b :: q => by
    show PyData.eqvAll (rowD a :: r.map rowD) (rowD b :: q.map rowD) = _
    rw [PyData.eqvAll, eqv_rows r q, eqv_row]
    by_cases h : a = b <;> by_cases h2 : r = q <;> simp [h, h2]
theorem eqv_code (c d : List (List Int)) : PyData.eqv (codeD c) (codeD d) = decide (c = d) := by
  show PyData.eqv (.tuple _) (.tuple _) = _
  rw [PyData.eqv]
  exact eqv_rows c d
theorem lt_row (r q : List Int) : PySem.W.dataLt (rowD r) (rowD q) = decide (r < q) := by
  show PySem.W.dataLt (.tuple _) (.tuple _) = _
  rw [PySem.W.dataLt_tuple]
  exact PySem.W.dataLt_ints r q
theorem lt_rows : ∀ c d : List (List Int), PySem.W.rowLt (c.map rowD) (d.map rowD) = decide (c < d)
  | [], [] => by
    have e : PySem.W.rowLt [] [] = false := lex_irrefl _
    simp [e]
  | [], q :: d => by
    have e : PySem.W.rowLt [] (rowD q :: d.map rowD) = true := by
      unfold PySem.W.rowLt
      rw [PySem.W.toks_all_cons]
      simp only [PySem.W.keyToksAll]
      rw [lex_diff (O := PyProof.Rows.itemOrd) (by simp)] <;> rfl
    simpa using e
  | r :: c, [] => by
    have e : PySem.W.rowLt (rowD r :: c.map rowD) [] = false := by
      unfold PySem.W.rowLt
      rw [PySem.W.toks_all_cons]
      simp only [PySem.W.keyToksAll]
      rw [lex_diff (O := PyProof.Rows.itemOrd) (by simp)] <;> rfl
    simpa using e
  | r :: c, q :: d => by
    have e : PySem.W.rowLt (rowD r :: c.map rowD) (rowD q :: d.map rowD) = if r = q then PySem.W.rowLt (c.map rowD) (d.map rowD) else decide (r < q) := by
      unfold PySem.W.rowLt
      rw [PySem.W.dataLt_cons (alike_rows r q), lt_row, eqv_row]
      by_cases h : r = q <;> simp [h]
    show PySem.W.rowLt (rowD r :: c.map rowD) (rowD q :: d.map rowD) = _
    rw [e]
    by_cases h : r = q
    · rw [if_pos h, lt_rows c d]
      simp [h, List.cons_lt_cons_iff]
    · rw [if_neg h]
      simp [h, List.cons_lt_cons_iff]
theorem lt_code (c d : List (List Int)) : PySem.W.dataLt (codeD c) (codeD d) = decide (c < d) := by
  show PySem.W.dataLt (.tuple _) (.tuple _) = _
  rw [PySem.W.dataLt_tuple]
  exact lt_rows c d
/-- the rows ascending, descending -/
def upR (l : List (List Int)) : List (List Int) := l.mergeSort fun p q => !decide (q < p)
def downR (l : List (List Int)) : List (List Int) := l.mergeSort fun p q => !decide (p < q)
def upC (l : List (List (List Int))) : List (List (List Int)) := l.mergeSort fun p q => !decide (q < p)
theorem le_upR : dataLe false rowD = fun p q => !decide (q < p) := by
  funext p q
  show (!PySem.W.dataLt (rowD q) (rowD p)) = _
  rw [lt_row]
theorem le_downR : dataLe true rowD = fun p q => !decide (p < q) := by
  funext p q
  show (!PySem.W.dataLt (rowD p) (rowD q)) = _
  rw [lt_row]
theorem le_upC : dataLe false codeD = fun p q => !decide (q < p) := by
  funext p q
  show (!PySem.W.dataLt (codeD q) (codeD p)) = _
  rw [lt_code]
/-! ### the rules -/
def rSrt {α : Type} (K : PySem.W.Frag) (f : α → PyData) (srt : List α → List α) : List V → Hp → VK → Prop := fun vs H Q => ∃ a xs ds, vs = [V.ref a] ∧ SqL K H a xs ∧ DpAll K H xs (ds.map f) ∧ (∀ d ∈ ds, ∃ x r, f d = .tuple (x :: r)) ∧
  ∀ ys p, DpAll K H ys ((srt ds).map f) → H p = none → Q (.ref p) (upd H p (.lst ys))
/-- what the items stand for -/
def Stood {α : Type} (K : PySem.W.Frag) (H : Hp) (f : α → PyData) (u : Value) (d : α) : Prop := (∃ a, u = .ref a) ∧ Dp K H (backV u) (f d)
theorem stood_each {α : Type} {f : α → PyData} {X : Cx} {pins : List (Addr × Obj)} {σ : L2.St} {H : Hp} {s : Shared} (I : Inv X pins σ H s) : ∀ {ds : List α} {xs : List V} {us : List Value}, DpAll X.K H xs (ds.map f) → Vals xs us → (∀ d ∈ ds, ∃ x r, f d = .tuple (x :: r)) → EachIs (Stood X.K H f) us ds ∧ EachIs (fun v b => ∃ as, Reads s.heap v (f b) as) us ds
  | [], _, _, h, r, _ => by
    have h' : DpAll X.K H _ [] := h
    cases h'
    cases r
    exact ⟨.nil, .nil⟩
  | d :: ds, _, _, h, r, t => by
    have h' : DpAll X.K H _ (f d :: ds.map f) := h
    cases h' with
    | cons h1 h2 =>
      cases r with
      | cons r1 r2 =>
        obtain ⟨k1, k2⟩ := stood_each I h2 r2 fun d hd => t d (List.mem_cons_of_mem _ hd)
        obtain ⟨x, rr, e⟩ := t d List.mem_cons_self
        have rd := Dp.reads I _ _ _ h1 r1
        have h1' := h1
        rw [e] at h1'
        obtain ⟨a, vs, rfl, _, _⟩ := dp_tup h1'
        cases r1
        exact ⟨.cons ⟨⟨a, rfl⟩, h1⟩ k1, .cons rd k2⟩
theorem stood_back {α : Type} {K : PySem.W.Frag} {H : Hp} {f : α → PyData} : ∀ {us : List Value} {ds : List α}, EachIs (Stood K H f) us ds → DpAll K H (us.map backV) (ds.map f) ∧ ∀ u ∈ us, ∃ a, u = Value.ref a
  | _, _, .nil => ⟨.nil, fun u hu => absurd hu (by simp)⟩
  | _, _, .cons h t => by
    obtain ⟨k1, k2⟩ := stood_back t
    exact ⟨.cons h.2 k1, fun u hu => (List.mem_cons.mp hu).elim (fun e => e ▸ h.1) (k2 u)⟩
section
variable {X : Cx}
theorem srt_end {α : Type} {f : α → PyData} {pins : List (Addr × Obj)} {σ : L2.St} {H : Hp} {s : Shared} {its out : List Value} {ds : List α} {Q : VK} (I : Inv X pins σ H s) (hz : out.length ≤ sizeLine) (h : EachIs (Stood X.K H f) out ds)
    (q : ∀ ys p, DpAll X.K H ys (ds.map f) → H p = none → Q (.ref p) (upd H p (.lst ys))) : EP X pins σ Q (.ref (s.heap.objs.size + 1)) { s with heap := sortedAll s.heap its (List.toArray out) } := by
  obtain ⟨k1, k2⟩ := stood_back h
  obtain ⟨ep, he'⟩ := PyProof.Rows.sortedAll_at s.heap its (List.toArray out)
  exact ⟨.ref _, upd H (s.heap.objs.size + 1) (.lst (out.map backV)), I.laid (t' := s.toks) (fun _ _ => PyProof.Rows.sortedAll_old) (Nat.le_succ _) ⟨by rw [List.length_map]; exact hz, _, ep, vals_back k2, he'⟩, rfl, q _ _ k1 (I.hok.fresh (Nat.le_succ _))⟩
theorem depth_rowAll : ∀ c : List (List Int), PyData.depthAll (c.map rowD) ≤ 1
  | [] => by simp [PyData.depthAll]
  | r :: c => by
    show PyData.depthAll (rowD r :: c.map rowD) ≤ 1
    have h := depth_rowAll c
    have h2 := PySem.W.depth_ints r
    simp only [PyData.depthAll, PyData.depth]
    omega
theorem depth_code (c : List (List Int)) : (codeD c).depth ≤ 2 := by
  have h := depth_rowAll c
  simp only [PyData.depth]
  omega
theorem depth_row (r : List Int) : (rowD r).depth ≤ 2 := by
  have h2 := PySem.W.depth_ints r
  simp only [PyData.depth]
  omega
theorem cr_srt {α : Type} (K : PySem.W.Frag) (f : α → PyData) (hal : ∀ b b', alike (f b) (f b') = true) (hd : ∀ b, (f b).depth ≤ 2) (hu : X.A.units + 64 < cLine) (hK : X.K = K := by rfl) : CallR X (.builtin "sorted") (rSrt K f fun l => l.mergeSort (dataLe false f)) := by
  subst hK
  intro pins s σ H vs us Q I r h
  obtain ⟨a, xs, ds, rfl, hs, hx, ht, q⟩ := h
  obtain rfl := Vals.ref1 r
  obtain ⟨its, rv, hl, hz⟩ := I.list hs
  obtain ⟨e, er⟩ := stood_each I hx rv ht
  have hz2 : ds.length ≤ sizeLine := by rw [← e.length, ← rv.length]; exact hz
  refine PySem.W.sorted_data hl.isList e er (AllAlike.of hal) (.inl fun d hd => ?_) hz2 (fun b _ => by have := hd b; omega) fun out h1 h2 => srt_end I (by rw [h1]; exact hz2) h2 q
  obtain ⟨b, hb, rfl⟩ := List.mem_map.mp hd
  exact ht b hb
def rSrtR {α : Type} (K : PySem.W.Frag) (f : α → PyData) (srt : List α → List α) : List V → List V → Hp → VK → Prop := fun vs zs H Q => zs = [.bl true] ∧ rSrt K f srt vs H Q
theorem cr_srtR {α : Type} (K : PySem.W.Frag) (f : α → PyData) (hal : ∀ b b', alike (f b) (f b') = true) (hd : ∀ b, (f b).depth ≤ 2) (hu : X.A.units + 64 < cLine) (hK : X.K = K := by rfl) : CallRK X (.builtin "sorted") [Str.ofString "reverse"] (rSrtR K f fun l => l.mergeSort (dataLe true f)) := by
  subst hK
  intro pins s σ H vs zs us ws Q I r rz h
  obtain ⟨rfl, a, xs, ds, rfl, hs, hx, ht, q⟩ := h
  obtain rfl := Vals.ref1 r
  obtain ⟨w1, rfl, e1⟩ := vals1 rz
  obtain rfl : w1 = Value.bool true := e1
  obtain ⟨its, rv, hl, hz⟩ := I.list hs
  obtain ⟨e, er⟩ := stood_each I hx rv ht
  have hz2 : ds.length ≤ sizeLine := by rw [← e.length, ← rv.length]; exact hz
  refine PySem.W.sorted_rev_data hl.isList e er (AllAlike.of hal) (.inl fun d hd => ?_) hz2 (fun b _ => by have := hd b; omega) fun out h1 h2 => srt_end I (by rw [h1]; exact hz2) h2 q
  obtain ⟨b, hb, rfl⟩ := List.mem_map.mp hd
  exact ht b hb
/-- sorted(rows), sorted(rows, reverse=True), sorted(codes) -/
theorem cr_upR (K : PySem.W.Frag) (hu : X.A.units + 64 < cLine) (hK : X.K = K := by rfl) : CallR X (.builtin "sorted") (rSrt K rowD upR) := by
  have h := cr_srt K rowD alike_rows depth_row hu hK
  rw [le_upR] at h
  exact h
theorem cr_upC (K : PySem.W.Frag) (hu : X.A.units + 64 < cLine) (hK : X.K = K := by rfl) : CallR X (.builtin "sorted") (rSrt K codeD upC) := by
  have h := cr_srt K codeD alike_codes depth_code hu hK
  rw [le_upC] at h
  exact h
theorem cr_downR (K : PySem.W.Frag) (hu : X.A.units + 64 < cLine) (hK : X.K = K := by rfl) : CallRK X (.builtin "sorted") [Str.ofString "reverse"] (rSrtR K rowD downR) := by
  have h := cr_srtR K rowD alike_rows depth_row hu hK
  rw [le_downR] at h
  exact h
end
end Cn
/-! Rows modulo a small prime: what the walks compute. -/
namespace Cn
/-- the primes in use -/
def GoodP (p : Int) : Prop := ∃ k ∈ [2, 3, 5, 7, 11, 13], p = ((k : Nat) : Int)
theorem GoodP.two {p : Int} (h : GoodP p) : 2 ≤ p := by
  obtain ⟨k, hk, rfl⟩ := h
  have : 2 ≤ k := (by decide : ∀ k ∈ [2, 3, 5, 7, 11, 13], 2 ≤ k) k hk
  omega
theorem GoodP.most {p : Int} (h : GoodP p) : p ≤ 13 := by
  obtain ⟨k, hk, rfl⟩ := h
  have : k ≤ 13 := (by decide : ∀ k ∈ [2, 3, 5, 7, 11, 13], k ≤ 13) k hk
  omega
theorem GoodP.pos {p : Int} (h : GoodP p) : 0 < p := by have := h.two; omega
theorem nat_dom : ∀ k ∈ [2, 3, 5, 7, 11, 13], ∀ a ∈ List.range k, ∀ b ∈ List.range k, (a * b) % k = 0 → a = 0 ∨ b = 0 := by decide +kernel
theorem nat_inv : ∀ k ∈ [2, 3, 5, 7, 11, 13], ∀ a ∈ List.range k, a ≠ 0 → ∃ b ∈ List.range k, (a * b) % k = 1 := by decide +kernel
theorem cast_mulmod (a b k : Nat) : ((a : Int) * b) % k = ((a * b % k : Nat) : Int) := by
  rw [Int.natCast_emod, Int.natCast_mul]
theorem GoodP.dom {p a b : Int} (h : GoodP p) (a0 : 0 ≤ a) (a1 : a < p) (b0 : 0 ≤ b) (b1 : b < p) (e : (a * b) % p = 0) : a = 0 ∨ b = 0 := by
  obtain ⟨k, hk, rfl⟩ := h
  obtain ⟨a, rfl⟩ := Int.eq_ofNat_of_zero_le a0
  obtain ⟨b, rfl⟩ := Int.eq_ofNat_of_zero_le b0
  rw [cast_mulmod] at e
  have := nat_dom k hk a (List.mem_range.mpr (by omega)) b (List.mem_range.mpr (by omega)) (by omega)
  omega
/-- the first inverse -/
def invN (p a : Int) : Nat := ((List.range p.toNat).find? fun k => decide ((a * (k : Nat)) % p = 1)).getD 0
theorem GoodP.inv {p a : Int} (h : GoodP p) (a0 : 0 < a) (a1 : a < p) : IsInv p a (invN p a) := by
  have p2 := h.two
  obtain ⟨k, hk, rfl⟩ := h
  obtain ⟨a, rfl⟩ := Int.eq_ofNat_of_zero_le (Int.le_of_lt a0)
  obtain ⟨b, hb, e⟩ := nat_inv k hk a (List.mem_range.mpr (by omega)) (by omega)
  unfold invN
  cases hf : (List.range ((k : Nat) : Int).toNat).find? fun j => decide ((((a : Nat) : Int) * (j : Nat)) % ((k : Nat) : Int) = 1) with
  | none =>
    rw [List.find?_eq_none] at hf
    refine absurd (decide_eq_true ?_) (hf b (by simpa using hb))
    rw [cast_mulmod, e]
    rfl
  | some j =>
    rw [List.find?_range_eq_some] at hf
    obtain ⟨h1, h2, h3⟩ := hf
    have h1' := of_decide_eq_true h1
    have h2' := List.mem_range.mp h2
    show IsInv _ _ j
    refine ⟨?_, by omega, h1', fun i _ hi e2 => ?_⟩
    · rcases Nat.eq_zero_or_pos j with rfl | hj
      · simp at h1'
      · exact hj
    · have := h3 i hi
      simp [e2] at this
/-! ### lists by their places -/
theorem mk_len (n : Nat) (f : Nat → Int) : (mk n f).length = n := by simp [mk]
theorem mk_get (n : Nat) (f : Nat → Int) (i : Nat) : (mk n f).getD i 0 = if i < n then f i else 0 := by
  unfold mk
  rw [List.getD_eq_getElem?_getD, List.getElem?_map]
  by_cases h : i < n
  · rw [if_pos h, List.getElem?_range h]
    rfl
  · rw [if_neg h, List.getElem?_eq_none (by simpa using h)]
    rfl
theorem get_out {r : List Int} {i : Nat} (h : r.length ≤ i) : r.getD i 0 = 0 := by
  rw [List.getD_eq_getElem?_getD, List.getElem?_eq_none h]
  rfl
theorem list_ext {r s : List Int} (hl : r.length = s.length) (h : ∀ i, r.getD i 0 = s.getD i 0) : r = s := by
  refine List.ext_getElem hl fun i h1 h2 => ?_
  have := h i
  rw [List.getD_eq_getElem?_getD, List.getD_eq_getElem?_getD, List.getElem?_eq_getElem h1, List.getElem?_eq_getElem h2] at this
  exact this
theorem mk_eta (r : List Int) : mk r.length (fun i => r.getD i 0) = r := list_ext (mk_len _ _) fun i => by
  rw [mk_get]
  by_cases h : i < r.length
  · rw [if_pos h]
  · rw [if_neg h, get_out (by omega)]
structure IsRow (p : Int) (n : Nat) (r : List Int) : Prop where
  len : r.length = n
  lo : ∀ i, 0 ≤ r.getD i 0
  hi : ∀ i, r.getD i 0 < p
theorem isrow_mk {p : Int} (hp : 0 < p) (n : Nat) (f : Nat → Int) : IsRow p n (mk n fun i => f i % p) := by
  refine ⟨mk_len _ _, fun i => ?_, fun i => ?_⟩ <;> rw [mk_get] <;> by_cases h : i < n
  · rw [if_pos h]; exact Int.emod_nonneg _ (by omega)
  · rw [if_neg h]; exact Int.le_refl _
  · rw [if_pos h]; exact Int.emod_lt_of_pos _ hp
  · rw [if_neg h]; exact hp
section
variable {p : Int} {n : Nat} {r s : List Int}
theorem isrow_add (hp : 0 < p) (h : r.length = n) : IsRow p n (addR p r s) := by
  subst h
  exact isrow_mk hp _ _
theorem isrow_sub (hp : 0 < p) (h : r.length = n) : IsRow p n (subR p r s) := by
  subst h
  exact isrow_mk hp _ _
theorem isrow_sca (hp : 0 < p) (t : Int) (h : r.length = n) : IsRow p n (scaR p t r) := by
  subst h
  exact isrow_mk hp _ _
theorem isrow_zero (hp : 0 < p) (n : Nat) : IsRow p n (zeroR n) := by
  refine ⟨mk_len _ _, fun i => ?_, fun i => ?_⟩ <;> unfold zeroR <;> rw [mk_get] <;> split <;> omega
theorem add_get (h : r.length = s.length) (i : Nat) : (addR p r s).getD i 0 = (r.getD i 0 + s.getD i 0) % p := by
  unfold addR
  rw [mk_get]
  by_cases hi : i < r.length
  · rw [if_pos hi]
  · rw [if_neg hi, get_out (by omega), get_out (by omega)]
    simp
theorem sub_get (h : r.length = s.length) (i : Nat) : (subR p r s).getD i 0 = (r.getD i 0 - s.getD i 0) % p := by
  unfold subR
  rw [mk_get]
  by_cases hi : i < r.length
  · rw [if_pos hi]
  · rw [if_neg hi, get_out (by omega), get_out (by omega)]
    simp
theorem sca_get (t : Int) (i : Nat) : (scaR p t r).getD i 0 = (t * r.getD i 0) % p := by
  unfold scaR
  rw [mk_get]
  by_cases hi : i < r.length
  · rw [if_pos hi]
  · rw [if_neg hi, get_out (by omega)]
    simp
theorem zero_get (n i : Nat) : (zeroR n).getD i 0 = 0 := by
  unfold zeroR
  rw [mk_get]
  split <;> rfl
theorem add_len : (addR p r s).length = r.length := mk_len _ _
theorem sub_len : (subR p r s).length = r.length := mk_len _ _
theorem sca_len {t : Int} : (scaR p t r).length = r.length := mk_len _ _
theorem zero_len : (zeroR n).length = n := mk_len _ _
/-! ### the pivot -/
theorem pivO_iff {c : Nat} : pivO r = some c ↔ r.getD c 0 ≠ 0 ∧ ∀ j, j < c → r.getD j 0 = 0 := by
  constructor
  · intro h
    unfold pivO at h
    rw [List.find?_range_eq_some] at h
    obtain ⟨h1, h2, h3⟩ := h
    refine ⟨bne_iff_ne.mp h1, fun j hj => ?_⟩
    have := h3 j hj
    simpa using this
  · rintro ⟨h1, h2⟩
    refine pivO_some ?_ h1 h2
    rcases Nat.lt_or_ge c r.length with h | h
    · exact h
    · exact absurd (get_out h) h1
theorem pivO_no : pivO r = none ↔ ∀ j, r.getD j 0 = 0 := by
  constructor
  · intro h j
    unfold pivO at h
    rw [List.find?_eq_none] at h
    rcases Nat.lt_or_ge j r.length with hj | hj
    · have := h j (List.mem_range.mpr hj)
      simpa using this
    · exact get_out hj
  · exact fun h => pivO_none fun j _ => h j
def piv (r : List Int) : Nat := (pivO r).getD 0
theorem pivO_piv (h : pivO r ≠ none) : pivO r = some (piv r) := by
  unfold piv
  cases e : pivO r with
  | none => exact absurd e h
  | some c => rfl
theorem piv_lt (h : pivO r ≠ none) : piv r < r.length := by
  have := (pivO_iff.mp (pivO_piv h)).1
  rcases Nat.lt_or_ge (piv r) r.length with q | q
  · exact q
  · exact absurd (get_out q) this
theorem pivO_sca (hp : GoodP p) (hr : IsRow p n r) {t : Int} (t0 : 0 < t) (t1 : t < p) : pivO (scaR p t r) = pivO r := by
  have k : ∀ i, (scaR p t r).getD i 0 = 0 ↔ r.getD i 0 = 0 := fun i => by
    rw [sca_get]
    constructor
    · intro h
      rcases hp.dom (Int.le_of_lt t0) t1 (hr.lo i) (hr.hi i) h with z | z
      · omega
      · exact z
    · intro h
      rw [h]
      simp
  cases h : pivO r with
  | none => exact pivO_no.mpr fun j => (k j).mpr (pivO_no.mp h j)
  | some c =>
    obtain ⟨h1, h2⟩ := pivO_iff.mp h
    exact pivO_iff.mpr ⟨fun z => h1 ((k c).mp z), fun j hj => (k j).mpr (h2 j hj)⟩
end
/-! ### combined, without, reduced -/
def stepW (p : Int) (left own : List Int) : List Int := subR p left (scaR p (left.getD (piv own) 0) own)
def withR (p : Int) (row : List Int) (base : List (List Int)) : List Int := base.foldl (stepW p) row
def combR (p : Int) (n : Nat) (ns : List Int) (rows : List (List Int)) : List Int := (ns.zip rows).foldl (fun f x => addR p f (scaR p x.1 x.2)) (zeroR n)
def stepR (p : Int) (found : List (List Int)) (row : List Int) : List (List Int) :=
  match pivO (withR p row found) with
  | none => found
  | some c => found.map (fun own => subR p own (scaR p (own.getD c 0) (scaR p (invN p ((withR p row found).getD c 0)) (withR p row found)))) ++ [scaR p (invN p ((withR p row found).getD c 0)) (withR p row found)]
def redF (p : Int) (rows : List (List Int)) : List (List Int) := rows.foldl (stepR p) []
def redL (p : Int) (rows : List (List Int)) : List (List Int) := downR (redF p rows)
/-- rows with pivots -/
def Piv (p : Int) (n : Nat) (base : List (List Int)) : Prop := ∀ r ∈ base, IsRow p n r ∧ pivO r ≠ none
section
variable {p : Int} {n : Nat} {r s : List Int} {base : List (List Int)}
theorem stepW_row (hp : 0 < p) (h : r.length = n) : IsRow p n (stepW p r s) := isrow_sub hp h
theorem withR_row (hp : 0 < p) : ∀ (base : List (List Int)) {r : List Int}, IsRow p n r → IsRow p n (withR p r base)
  | [], _, h => h
  | _ :: base, _, h => withR_row hp base (stepW_row hp h.len)
end
end Cn
/-! Reduced rows. -/
namespace Cn
section
variable {p : Int} {n : Nat}
/-- rows with the entry 1 at their pivots and 0 at each other's -/
structure Red (p : Int) (n : Nat) (base : List (List Int)) : Prop where
  row : ∀ r ∈ base, IsRow p n r
  one : ∀ r ∈ base, pivO r ≠ none ∧ r.getD (piv r) 0 = 1
  oth : base.Pairwise fun r s => r.getD (piv s) 0 = 0 ∧ s.getD (piv r) 0 = 0
theorem Red.nil : Red p n [] := ⟨fun _ h => (by simp at h), fun _ h => (by simp at h), .nil⟩
theorem Red.piv {base : List (List Int)} (h : Red p n base) : Piv p n base := fun r m => ⟨h.row r m, (h.one r m).1⟩
theorem Red.tail {r : List Int} {base : List (List Int)} (h : Red p n (r :: base)) : Red p n base := ⟨fun s m => h.row s (List.mem_cons_of_mem _ m), fun s m => h.one s (List.mem_cons_of_mem _ m), (List.pairwise_cons.mp h.oth).2⟩
theorem Red.head {r : List Int} {base : List (List Int)} (h : Red p n (r :: base)) : ∀ s ∈ base, r.getD (Cn.piv s) 0 = 0 ∧ s.getD (Cn.piv r) 0 = 0 := (List.pairwise_cons.mp h.oth).1
theorem same_mod {x : Int} (h0 : 0 ≤ x) (h1 : x < p) : x % p = x := Int.emod_eq_of_lt h0 h1
theorem stepW_get {r s : List Int} (h : r.length = s.length) (i : Nat) : (stepW p r s).getD i 0 = (r.getD i 0 - (r.getD (piv s) 0 * s.getD i 0) % p) % p := by
  unfold stepW
  rw [sub_get (by rw [sca_len]; exact h), sca_get]
/-- where the row is 0, nothing changes -/
theorem stepW_same {r s : List Int} (hr : IsRow p n r) (hs : s.length = n) {i : Nat} (h : s.getD i 0 = 0) : (stepW p r s).getD i 0 = r.getD i 0 := by
  rw [stepW_get (hr.len.trans hs.symm), h, Int.mul_zero, Int.zero_emod, Int.sub_zero, same_mod (hr.lo i) (hr.hi i)]
theorem stepW_zero {r s : List Int} (hr : IsRow p n r) (hs : s.length = n) (h1 : s.getD (piv s) 0 = 1) : (stepW p r s).getD (piv s) 0 = 0 := by
  rw [stepW_get (hr.len.trans hs.symm), h1, Int.mul_one, same_mod (hr.lo _) (hr.hi _), Int.sub_self, Int.zero_emod]
/-- a column in which all rows are 0 stays -/
theorem withR_same (hp : 0 < p) : ∀ (base : List (List Int)) {r : List Int} {i : Nat}, IsRow p n r → (∀ s ∈ base, s.length = n ∧ s.getD i 0 = 0) → (withR p r base).getD i 0 = r.getD i 0
  | [], _, _, _, _ => rfl
  | s :: base, r, i, hr, h => by
    show (withR p (stepW p r s) base).getD i 0 = _
    rw [withR_same hp base (stepW_row hp hr.len) fun t m => h t (List.mem_cons_of_mem _ m), stepW_same hr (h s List.mem_cons_self).1 (h s List.mem_cons_self).2]
theorem withR_zero (hp : 0 < p) : ∀ {base : List (List Int)} {r s : List Int}, Red p n base → IsRow p n r → s ∈ base → (withR p r base).getD (piv s) 0 = 0
  | [], _, _, _, _, m => by simp at m
  | t :: base, r, s, h, hr, m => by
    show (withR p (stepW p r t) base).getD (piv s) 0 = 0
    rcases List.mem_cons.mp m with rfl | m
    · rw [withR_same hp base (stepW_row hp hr.len) fun u mu => ⟨(h.row u (List.mem_cons_of_mem _ mu)).len, (h.head u mu).2⟩]
      exact stepW_zero hr (h.row _ List.mem_cons_self).len (h.one _ List.mem_cons_self).2
    · exact withR_zero hp h.tail (stepW_row hp hr.len) m
/-- the row that is put in, made 1 at its pivot -/
def newR (p : Int) (left : List Int) (c : Nat) : List Int := scaR p (invN p (left.getD c 0)) left
theorem inv_bd (hp : GoodP p) {a : Int} (a0 : 0 < a) (a1 : a < p) : 0 < ((invN p a : Nat) : Int) ∧ ((invN p a : Nat) : Int) < p := by
  have h := hp.inv a0 a1
  have := h.lo
  exact ⟨by omega, h.hi⟩
theorem newR_facts (hp : GoodP p) {left : List Int} {c : Nat} (hl : IsRow p n left) (h : pivO left = some c) : IsRow p n (newR p left c) ∧ pivO (newR p left c) = some c ∧ (newR p left c).getD c 0 = 1 ∧ ∀ i, left.getD i 0 = 0 → (newR p left c).getD i 0 = 0 := by
  obtain ⟨h1, h2⟩ := pivO_iff.mp h
  have a0 : 0 < left.getD c 0 := by have := hl.lo c; omega
  have iv := hp.inv a0 (hl.hi c)
  obtain ⟨b0, b1⟩ := inv_bd hp a0 (hl.hi c)
  refine ⟨isrow_sca hp.pos _ hl.len, ?_, ?_, fun i hi => ?_⟩
  · unfold newR
    rw [pivO_sca hp hl b0 b1, h]
  · unfold newR
    rw [sca_get, Int.mul_comm]
    exact iv.one
  · unfold newR
    rw [sca_get, hi, Int.mul_zero, Int.zero_emod]
theorem stepR_none {found : List (List Int)} {row : List Int} (h : pivO (withR p row found) = none) : stepR p found row = found := by
  unfold stepR
  rw [h]
theorem stepR_some {found : List (List Int)} {row : List Int} {c : Nat} (h : pivO (withR p row found) = some c) :
    stepR p found row = found.map (fun own => subR p own (scaR p (own.getD c 0) (newR p (withR p row found) c))) ++ [newR p (withR p row found) c] := by
  unfold stepR
  rw [h]
  rfl
/-- the facts of one row made 0 at the new pivot -/
theorem clear_facts (hp : GoodP p) {own new : List Int} {c : Nat} (ho : IsRow p n own) (h1 : pivO own ≠ none) (h2 : own.getD (piv own) 0 = 1) (hn : IsRow p n new) (hc : pivO new = some c) (h3 : new.getD c 0 = 1) (h4 : new.getD (piv own) 0 = 0) :
    IsRow p n (subR p own (scaR p (own.getD c 0) new)) ∧ pivO (subR p own (scaR p (own.getD c 0) new)) = some (piv own) ∧ (subR p own (scaR p (own.getD c 0) new)).getD (piv own) 0 = 1 ∧
    (subR p own (scaR p (own.getD c 0) new)).getD c 0 = 0 ∧ ∀ i, own.getD i 0 = 0 → new.getD i 0 = 0 → (subR p own (scaR p (own.getD c 0) new)).getD i 0 = 0 := by
  have p1 := hp.two
  have hlen : own.length = (scaR p (own.getD c 0) new).length := by rw [sca_len, ho.len, hn.len]
  have g : ∀ i, (subR p own (scaR p (own.getD c 0) new)).getD i 0 = (own.getD i 0 - (own.getD c 0 * new.getD i 0) % p) % p := fun i => by rw [sub_get hlen, sca_get]
  have z : ∀ i, own.getD i 0 = 0 → new.getD i 0 = 0 → (subR p own (scaR p (own.getD c 0) new)).getD i 0 = 0 := fun i e1 e2 => by
    rw [g, e1, e2, Int.mul_zero, Int.zero_emod, Int.sub_zero, Int.zero_emod]
  have e1 : (subR p own (scaR p (own.getD c 0) new)).getD (piv own) 0 = 1 := by
    rw [g, h2, h4, Int.mul_zero, Int.zero_emod, Int.sub_zero]
    exact same_mod (by omega) (by omega)
  refine ⟨isrow_sub hp.pos ho.len, pivO_iff.mpr ⟨by rw [e1]; decide, fun j hj => ?_⟩, e1, ?_, z⟩
  · have oj := (pivO_iff.mp (pivO_piv h1)).2 j hj
    rcases Nat.lt_or_ge c (piv own) with q | q
    · have oc := (pivO_iff.mp (pivO_piv h1)).2 c q
      rw [g, oj, oc, Int.zero_mul, Int.zero_emod, Int.sub_zero, Int.zero_emod]
    · exact z j oj ((pivO_iff.mp hc).2 j (by omega))
  · rw [g, h3, Int.mul_one, same_mod (ho.lo c) (ho.hi c), Int.sub_self, Int.zero_emod]
theorem piv_of {r : List Int} {c : Nat} (h : pivO r = some c) : piv r = c := by
  unfold piv
  rw [h]
  rfl
theorem Red.step (hp : GoodP p) {found : List (List Int)} {row : List Int} (h : Red p n found) (hr : IsRow p n row) : Red p n (stepR p found row) := by
  cases e : pivO (withR p row found) with
  | none => rw [stepR_none e]; exact h
  | some c =>
    rw [stepR_some e]
    have hl : IsRow p n (withR p row found) := withR_row hp.pos found hr
    obtain ⟨n1, n2, n3, n4⟩ := newR_facts hp hl e
    have nz : ∀ own ∈ found, (newR p (withR p row found) c).getD (Cn.piv own) 0 = 0 := fun own m => n4 _ (withR_zero hp.pos h hr m)
    have cf := fun own (m : own ∈ found) => clear_facts hp (h.row own m) (h.one own m).1 (h.one own m).2 n1 n2 n3 (nz own m)
    refine ⟨fun r m => ?_, fun r m => ?_, ?_⟩
    · rcases List.mem_append.mp m with m | m
      · obtain ⟨own, mo, rfl⟩ := List.mem_map.mp m
        exact (cf own mo).1
      · rw [List.mem_singleton.mp m]
        exact n1
    · rcases List.mem_append.mp m with m | m
      · obtain ⟨own, mo, rfl⟩ := List.mem_map.mp m
        obtain ⟨_, c2, c3, _, _⟩ := cf own mo
        exact ⟨by rw [c2]; simp, by rw [piv_of c2]; exact c3⟩
      · rw [List.mem_singleton.mp m]
        exact ⟨by rw [n2]; simp, by rw [piv_of n2]; exact n3⟩
    · rw [List.pairwise_append]
      refine ⟨List.pairwise_map.mpr ?_, List.pairwise_singleton _ _, fun a ma b mb => ?_⟩
      · refine List.Pairwise.imp_of_mem (fun {a b} ma mb q => ?_) h.oth
        obtain ⟨_, a2, _, _, a5⟩ := cf a ma
        obtain ⟨_, b2, _, _, b5⟩ := cf b mb
        rw [piv_of a2, piv_of b2]
        exact ⟨a5 _ q.1 (nz b mb), b5 _ q.2 (nz a ma)⟩
      · obtain ⟨own, mo, rfl⟩ := List.mem_map.mp ma
        rw [List.mem_singleton.mp mb]
        obtain ⟨_, c2, _, c4, _⟩ := cf own mo
        rw [piv_of c2, piv_of n2]
        exact ⟨c4, nz own mo⟩
theorem Red.fold (hp : GoodP p) : ∀ (rows : List (List Int)) {found : List (List Int)}, Red p n found → (∀ r ∈ rows, IsRow p n r) → Red p n (rows.foldl (stepR p) found)
  | [], _, h, _ => h
  | r :: rows, _, h, hr => Red.fold hp rows (h.step hp (hr r List.mem_cons_self)) fun s m => hr s (List.mem_cons_of_mem _ m)
theorem redF_red (hp : GoodP p) {rows : List (List Int)} (hr : ∀ r ∈ rows, IsRow p n r) : Red p n (redF p rows) := Red.fold hp rows Red.nil hr
theorem stepR_len (p : Int) (found : List (List Int)) (row : List Int) : (stepR p found row).length ≤ found.length + 1 := by
  unfold stepR
  split <;> simp
theorem redF_len (p : Int) : ∀ (rows found : List (List Int)), (rows.foldl (stepR p) found).length ≤ found.length + rows.length
  | [], _ => by simp
  | r :: rows, found => by
    have h := redF_len p rows (stepR p found r)
    have h2 := stepR_len p found r
    simp only [List.foldl_cons, List.length_cons]
    omega
end
end Cn
/-! Loops and comprehensions over lists and tuples of data. -/
namespace Cn
open PySem PySem.Spec PyProof.Rows L2
open Evl (Ex)
/-- a list or a tuple of data -/
def LsAt {α : Type} (K : PySem.W.Frag) (H : Hp) (v : V) (f : α → PyData) (c : List α) : Prop := ∃ a xs, v = .ref a ∧ (SqL K H a xs ∨ SqT K H a xs) ∧ DpAll K H xs (c.map f)
section
variable {α : Type} {K : PySem.W.Frag} {f : α → PyData} {c : List α}
theorem LsAt.mono {H H' : Hp} {v : V} (h : LsAt K H v f c) (e : Ex H H') : LsAt K H' v f c := by
  obtain ⟨a, xs, h1, h2, h3⟩ := h
  exact ⟨a, xs, h1, h2.elim (fun z => .inl (Evl.ex_l e z)) (fun z => .inr (Evl.ex_t e z)), dps_mono e _ _ h3⟩
theorem LsAt.tup {H : Hp} {v : V} (h : Dp K H v (.tuple (c.map f))) : LsAt K H v f c := by
  obtain ⟨a, xs, h1, h2, h3⟩ := dp_tup h
  exact ⟨a, xs, h1, .inr h2, h3⟩
theorem LsAt.lst {H : Hp} {v : V} (h : Dp K H v (.list (c.map f))) : LsAt K H v f c := by
  obtain ⟨a, xs, h1, h2, h3⟩ := dp_lst h
  exact ⟨a, xs, h1, .inl h2, h3⟩
theorem ls_at {H : Hp} {xs : List V} {i : Nat} {x : V} (h : DpAll K H xs (c.map f)) (hx : xs[i]? = some x) : ∃ r, c[i]? = some r ∧ Dp K H x (f r) := by
  obtain ⟨d, hd, hv⟩ := dps_of h hx
  rw [List.getElem?_map] at hd
  cases e : c[i]? with
  | none => rw [e] at hd; cases hd
  | some r =>
    rw [e] at hd
    obtain rfl := Option.some.inj hd
    exact ⟨r, rfl, hv⟩
theorem dps_mapl {H : Hp} {xs : List V} (h : DpAll K H xs (c.map f)) : xs.length = c.length := by rw [dps_len h, List.length_map]
/-- for r in c -/
theorem seq_for {x : V} {H : Hp} {σ : L2.St} {g : TG} {tb : TS} {D : Ends} (hr : LsAt K H x f c) (Pv : Nat → L2.St → Hp → Prop) (h0 : Pv 0 σ H) (hx : ∀ i σ H', Pv i σ H' → Ex H H')
    (hs : ∀ i r x σ H', c[i]? = some r → Dp K H' x (f r) → Pv i σ H' → g x σ H' fun σ2 H2 => tb { D with nx := Pv (i + 1), ct := Pv (i + 1), bk := D.nx } σ2 H2) (hd : ∀ σ H', Pv c.length σ H' → D.nx σ H') :
    ∃ a xs, x = .ref a ∧ ((SqL K H a xs ∧ ∃ W : Nat → Nat → L2.St → Hp → Prop, (∃ m, W 0 m σ H) ∧ ∀ i m σ H, W i m σ H → ((Itl K a).stop i H ∧ D.nx σ H) ∨ ((Itl K a).go i H ∧ ∃ N : L2.St → Hp → Prop, (∀ σ' H', N σ' H' → ∃ m', m' < m ∧ W (i + 1) m' σ' H') ∧ ∀ x H', (Itl K a).yld i H x H' → g x σ H' fun σ2 H2 => tb { D with nx := N, ct := N, bk := D.nx } σ2 H2)) ∨
      (SqT K H a xs ∧ ∃ W : Nat → Nat → L2.St → Hp → Prop, (∃ m, W 0 m σ H) ∧ ∀ i m σ H, W i m σ H → ((Itt K a).stop i H ∧ D.nx σ H) ∨ ((Itt K a).go i H ∧ ∃ N : L2.St → Hp → Prop, (∀ σ' H', N σ' H' → ∃ m', m' < m ∧ W (i + 1) m' σ' H') ∧ ∀ x H', (Itt K a).yld i H x H' → g x σ H' fun σ2 H2 => tb { D with nx := N, ct := N, bk := D.nx } σ2 H2))) := by
  obtain ⟨a, xs, rfl, hsq, hdp⟩ := hr
  have turn : ∀ i x σ H', xs[i]? = some x → Pv i σ H' → g x σ H' fun σ2 H2 => tb { D with nx := Pv (i + 1), ct := Pv (i + 1), bk := D.nx } σ2 H2 := fun i x σ H' hx' p => by
    obtain ⟨r, hr, hd⟩ := ls_at (dps_mono (hx i σ H' p) _ _ hdp) hx'
    exact hs i r x σ H' hr hd p
  have el := dps_mapl hdp
  refine ⟨a, xs, rfl, ?_⟩
  rcases hsq with h | h
  · exact .inl ⟨h, for_list Pv h0 (fun i σ H' _ p => Evl.ex_l (hx i σ H' p) h) turn fun σ H' p => hd σ H' (by rw [← el]; exact p)⟩
  · exact .inr ⟨h, for_tup Pv h0 (fun i σ H' _ p => Evl.ex_t (hx i σ H' p) h) turn fun σ H' p => hd σ H' (by rw [← el]; exact p)⟩
theorem filt_take (keep : α → Bool) (c : List α) : ∀ n, ((List.range n).filter fun i => (c[i]?).any keep).filterMap (fun i => c[i]?) = (c.take n).filter keep
  | 0 => by simp
  | n + 1 => by
    rw [List.range_succ, List.filter_append, List.filterMap_append, filt_take keep c n, List.take_add_one, List.filter_append]
    congr 1
    cases e : c[n]? with
    | none => simp [e]
    | some r => cases h : keep r <;> simp [e, h]
theorem dps_filt {H : Hp} {out : α → PyData} : ∀ {L : List Nat} {vs : List V}, Paired (fun i v => ∀ r, c[i]? = some r → Dp K H v (out r)) L vs → (∀ i ∈ L, ∃ r, c[i]? = some r) → DpAll K H vs ((L.filterMap (fun i => c[i]?)).map out)
  | _, _, .nil, _ => .nil
  | i :: L, _, .cons h t, hm => by
    obtain ⟨r, e⟩ := hm i List.mem_cons_self
    rw [List.filterMap_cons, e]
    exact .cons (h r e) (dps_filt t fun j m => hm j (List.mem_cons_of_mem _ m))
/-- [.. for r in c if ..] -/
theorem seq_lc {x : V} {H1 : Hp} {σ : L2.St} {g : TG} {tt : TT} {te : TE} {ws : List Nat} {Q : Addr → Hp → Prop} (hr : LsAt K H1 x f c) (hz : c.length < sizeLine) (keep : α → Bool) (out : α → PyData) (fl : ∀ r, flatT (out r) = true) (gm : GMono g)
    (hs : ∀ r x H', r ∈ c → Ex H1 H' → Dp K H' x (f r) → g x (wipe σ ws) H' fun σ2 H2 => wipe σ2 ws = wipe σ ws ∧ Ex H' H2 ∧ Evl.EvT tt σ2 H2 (keep r) ∧ (keep r = true → EvP te σ2 H2 fun v H => Dp K H v (out r)))
    (k : ∀ D vs H', H1 D = none → Ex H1 H' → H' D = some (.lst vs) → DpAll K H' vs ((c.filter keep).map out) → Q D H') :
    ∃ a xs, x = .ref a ∧ ((SqL K H1 a xs ∧ ∀ D, H1 D = none → ∃ W : Nat → Nat → Hp → Prop, (∃ m, W 0 m (upd H1 D (.lst []))) ∧ ∀ i m H, W i m H →
      ((Itl K a).stop i H ∧ Q D H) ∨ ((Itl K a).go i H ∧ ∃ Nx : Hp → Prop, (∀ H', Nx H' → ∃ m', m' < m ∧ W (i + 1) m' H') ∧ ∀ x H', (Itl K a).yld i H x H' → g x (wipe σ ws) H' fun σ2 H2 => wipe σ2 ws = wipe σ ws ∧ tt σ2 H2 fun b H3 =>
        if b = true then te σ2 H3 fun y H4 => ∃ acc, H4 D = some (.lst acc) ∧ acc.length < sizeLine ∧ Nx (upd H4 D (.lst (acc ++ [y]))) else Nx H3)) ∨
      (SqT K H1 a xs ∧ ∀ D, H1 D = none → ∃ W : Nat → Nat → Hp → Prop, (∃ m, W 0 m (upd H1 D (.lst []))) ∧ ∀ i m H, W i m H →
      ((Itt K a).stop i H ∧ Q D H) ∨ ((Itt K a).go i H ∧ ∃ Nx : Hp → Prop, (∀ H', Nx H' → ∃ m', m' < m ∧ W (i + 1) m' H') ∧ ∀ x H', (Itt K a).yld i H x H' → g x (wipe σ ws) H' fun σ2 H2 => wipe σ2 ws = wipe σ ws ∧ tt σ2 H2 fun b H3 =>
        if b = true then te σ2 H3 fun y H4 => ∃ acc, H4 D = some (.lst acc) ∧ acc.length < sizeLine ∧ Nx (upd H4 D (.lst (acc ++ [y]))) else Nx H3))) := by
  obtain ⟨a, xs, rfl, hsq, hdp⟩ := hr
  have el := dps_mapl hdp
  have turn : ∀ i x H', xs[i]? = some x → Ex H1 H' → g x (wipe σ ws) H' fun σ2 H2 => wipe σ2 ws = wipe σ ws ∧ Ex H' H2 ∧ Evl.EvT tt σ2 H2 ((c[i]?).any keep) ∧ ((c[i]?).any keep = true → EvP te σ2 H2 fun v H => ∀ r, c[i]? = some r → Dp K H v (out r)) := fun i x H' hx e => by
    obtain ⟨r, hr, hd⟩ := ls_at (dps_mono e _ _ hdp) hx
    refine gm _ _ _ _ _ ?_ (hs r x H' (List.mem_of_getElem? hr) e hd)
    rintro σ2 H2 ⟨h1, h2, h3, h4⟩
    rw [hr]
    refine ⟨h1, h2, h3, fun hk H3 e3 Q' k' => h4 hk H3 e3 Q' fun v H4 e4 hv => k' v H4 e4 ?_⟩
    rintro r' e'
    obtain rfl : r = r' := Option.some.inj (hr.symm.trans e')
    exact hv
  have fin : ∀ D vs H', H1 D = none → Ex H1 H' → H' D = some (.lst vs) → Paired (fun i v => ∀ r, c[i]? = some r → Dp K H' v (out r)) ((List.range xs.length).filter fun i => (c[i]?).any keep) vs → Q D H' := fun D vs H' hD e hv hp => by
    refine k D vs H' hD e hv ?_
    have h2 := dps_filt hp fun i hi => by
      obtain ⟨h3, _⟩ := List.mem_filter.mp hi
      have h4 := List.mem_range.mp h3
      rw [el] at h4
      exact ⟨c[i], by simp [h4]⟩
    rw [filt_take, el, List.take_length] at h2
    exact h2
  have pm : ∀ (i : Nat) (v : V) (H H' : Hp), ExT K H H' → (∀ r, c[i]? = some r → Dp K H v (out r)) → ∀ r, c[i]? = some r → Dp K H' v (out r) := fun i v H H' e h r hr => dp_monoT e _ _ (fl r) (h r hr)
  refine ⟨a, xs, rfl, ?_⟩
  rcases hsq with h | h
  · exact .inl ⟨h, fun D hD => lcW walk_list hD K _ (fun i v H => ∀ r, c[i]? = some r → Dp K H v (out r)) gm (by rw [el]; exact hz) (fun H' e => Evl.ex_l e h) pm (fun i x H H' hi e y => by
      obtain ⟨rfl, hx⟩ := y
      exact turn i x _ hx e) (fun vs H' => fin D vs H' hD)⟩
  · exact .inr ⟨h, fun D hD => lcW walk_tup hD K _ (fun i v H => ∀ r, c[i]? = some r → Dp K H v (out r)) gm (by rw [el]; exact hz) (fun H' e => Evl.ex_t e h) pm (fun i x H H' hi e y => by
      obtain ⟨rfl, hx⟩ := y
      exact turn i x _ hx e) (fun vs H' => fin D vs H' hD)⟩
/-- [.. for i in range(n) if ..] -/
theorem rng_lc {H1 : Hp} {σ : L2.St} {g : TG} {tt : TT} {te : TE} {ws : List Nat} {Q : Addr → Hp → Prop} {lo : Int} {n : Nat} (hz : n < sizeLine) (keep : Nat → Bool) (out : Nat → PyData) (fl : ∀ r, flatT (out r) = true) (gm : GMono g)
    (hs : ∀ (i : Nat) H', i < n → Ex H1 H' → g (.int (lo + i)) (wipe σ ws) H' fun σ2 H2 => wipe σ2 ws = wipe σ ws ∧ Ex H' H2 ∧ Evl.EvT tt σ2 H2 (keep i) ∧ (keep i = true → EvP te σ2 H2 fun v H => Dp K H v (out i)))
    (k : ∀ D vs H', H1 D = none → Ex H1 H' → H' D = some (.lst vs) → DpAll K H' vs (((List.range n).filter keep).map out) → Q D H') :
    ∀ D, H1 D = none → ∃ W : Nat → Nat → Hp → Prop, (∃ m, W 0 m (upd H1 D (.lst []))) ∧ ∀ i m H, W i m H →
      ((Itr lo n).stop i H ∧ Q D H) ∨ ((Itr lo n).go i H ∧ ∃ Nx : Hp → Prop, (∀ H', Nx H' → ∃ m', m' < m ∧ W (i + 1) m' H') ∧ ∀ x H', (Itr lo n).yld i H x H' → g x (wipe σ ws) H' fun σ2 H2 => wipe σ2 ws = wipe σ ws ∧ tt σ2 H2 fun b H3 =>
        if b = true then te σ2 H3 fun y H4 => ∃ acc, H4 D = some (.lst acc) ∧ acc.length < sizeLine ∧ Nx (upd H4 D (.lst (acc ++ [y]))) else Nx H3) := by
  intro D hD
  refine lcW walk_range hD K keep (fun i v H => Dp K H v (out i)) gm hz (fun _ _ => trivial) (fun i v H H' e q => dp_monoT e _ _ (fl i) q) ?_ ?_
  · rintro i x H H' hi e ⟨rfl, rfl⟩
    exact hs i H' hi e
  · intro vs H' e hv hp
    exact k D vs H' hD e hv (dps_paired hp)
end
end Cn
namespace Cn
open PySem PySem.Spec PyProof.Rows L2
open Evl (Ex)
section
variable {P : Program} {w : World} {K : PySem.W.Frag} {mg : Str → Option Value} {base : Heap}
/-- a ground in use -/
structure GrOk (K : PySem.W.Frag) (H : Hp) (g : V) (p : Int) (n : Nat) : Prop where
  at_ : GrAt K H g p n
  p : GoodP p
  n2 : 2 ≤ n
  n100 : n ≤ 100
theorem GrOk.mono {H H' : Hp} {g : V} {p : Int} {n : Nat} (h : GrOk K H g p n) (e : Ex H H') : GrOk K H' g p n := ⟨h.at_.mono e, h.p, h.n2, h.n100⟩
theorem dp_rowmono {H H' : Hp} {v : V} {r : List Int} (e : Ex H H') (h : Dp K H v (rowD r)) : Dp K H' v (rowD r) := dp_mono e _ _ h
theorem dp_codemono {H H' : Hp} {v : V} {r : List (List Int)} (e : Ex H H') (h : Dp K H v (codeD r)) : Dp K H' v (codeD r) := dp_mono e _ _ h
/-! ### combined -/
def spCombined (K : PySem.W.Frag) : Sp := fun vs H Q _ => ∃ g a b p, ∃ n m : Nat, ∃ ns c, vs = [g, a, b] ∧ GrOk K H g p n ∧ Dp K H a (rowD ns) ∧ IsRow p m ns ∧ Dp K H b (codeD c) ∧ c.length = m ∧ m ≤ 100 ∧ (∀ r ∈ c, IsRow p n r) ∧
  ∀ v H', Ex H H' → Dp K H' v (rowD (combR p n ns c)) → Q v H'
theorem sc_combined : FnScope ["ground", "numbers", "rows", "found", "number", "row"] ["ground", "numbers", "rows"] (defScope s_combined) := ⟨rfl, rfl, rfl, by decide +kernel, rfl, by decide +kernel, by decide +kernel⟩
def combAt (p : Int) (n : Nat) (ns : List Int) (c : List (List Int)) (i : Nat) : List Int := ((ns.zip c).take i).foldl (fun f x => addR p f (scaR p x.1 x.2)) (zeroR n)
theorem combAt_row {p : Int} {n : Nat} (hp : 0 < p) (ns : List Int) (c : List (List Int)) : ∀ i, IsRow p n (combAt p n ns c i)
  | 0 => isrow_zero hp n
  | i + 1 => by
    have h := combAt_row (n := n) hp ns c i
    unfold combAt at h ⊢
    rw [List.take_add_one, List.foldl_append]
    cases e : (ns.zip c)[i]? with
    | none => exact h
    | some x => exact isrow_add hp h.len
theorem combAt_succ {p : Int} {n i : Nat} {ns : List Int} {c : List (List Int)} {x : Int} {r : List Int} (h1 : ns[i]? = some x) (h2 : c[i]? = some r) : combAt p n ns c (i + 1) = addR p (combAt p n ns c i) (scaR p x r) := by
  unfold combAt
  have e : (ns.zip c)[i]? = some (x, r) := by
    rw [List.getElem?_zip_eq_some]
    exact ⟨h1, h2⟩
  rw [List.take_add_one, List.foldl_append, e]
  rfl
theorem row_bd {p : Int} (hp : GoodP p) {n : Nat} {r : List Int} (h : IsRow p n r) (i : Nat) : -1000 ≤ r.getD i 0 ∧ r.getD i 0 ≤ 1000 := by
  have := hp.most
  have := h.lo i
  have := h.hi i
  omega
theorem in_gzero {i : Nat} {σ : L2.St} {H : Hp} {Q : VK} {v : V} {p : Int} {n : Nat} (hi : σ[i]? = some (some v)) (hg : GrOk K H v p n) (q : ∀ v H', Ex H H' → Dp K H' v (rowD (zeroR n)) → Q v H') : tMeth (He.ga K "Ground") "zero" (spGzero K) [] E0 (tVar i) tNil σ H Q := by
  obtain ⟨a, dx, rfl, ha⟩ := id hg.at_
  exact ⟨_, hi, a, dx, _, rfl, ha, gr_no (by decide +kernel) (by decide +kernel) p n, _, p, n, rfl, hg.at_, hg.n2, hg.n100, q⟩
theorem cal_combined (E : En K mg) : Cal P w K mg base 3 "combined" ["ground", "numbers", "rows"] (spCombined K) := by
  obtain ⟨fd, F, g⟩ := E.c_combined
  refine ⟨⟨fd, ?_, F.binds fun _ _ _ _ _ _ us hl => match us, hl with | [_, _, _], _ => rfl⟩, g, F.kp⟩
  refine F.ok sc_combined (fun vs H Q E h => ?_) (fun cdv A outer s H vs Q E' hr h => ?_)
  · obtain ⟨g, a, b, p, n, m, ns, c, rfl, _⟩ := h
    rfl
  · obtain ⟨g, a, b, p, n, m, ns, c, rfl, hg, ha, hns, hb, hc, hm, hrow, q⟩ := h
    obtain ⟨a, rfl, ta⟩ := dp_row ha
    obtain ⟨b, cs, rfl, tb, hcs⟩ := dp_tup hb
    have p0 := hg.p.pos
    have l1 : ns.length = m := hns.len
    have l2 : cs.length = m := by rw [dps_mapl hcs, hc]
    refine ⟨_, pss_cons (ps_set (i := 3) sc_combined.nd rfl (.inl rfl) (pe_calM0 E.clG (cal_Gzero (P := P) (w := w) (base := base) E) (hr.mono (by decide)) (pv 0)))
      (pss_cons (ps_for PassesOwn.never rfl (RZ.pi_zipA (by rfl) E.n_zip (pa_cons (pv 1) (pa_cons (pv 2) pa_nil)))
        (pg_tup rfl (pgs_cons (pg_name (i := 4) sc_combined.nd rfl (.inl rfl)) (pgs_cons (pg_name (i := 5) sc_combined.nd rfl (.inl rfl)) pgs_nil)))
        (pss_one (ps_set (i := 3) sc_combined.nd rfl (.inl rfl) (pe_cal (cal_added (P := P) (w := w) (base := base) E) (hr.mono (by decide)) (pa_cons (pv 0) (pa_cons (pv 3) (pa_cons (pe_cal (cal_scaled (P := P) (w := w) (base := base) E) (hr.mono (by decide)) (pa_cons (pv 0) (pa_cons (pv 4) (pa_cons (pv 5) pa_nil)))) pa_nil)))))))
      (pss_one (ps_ret (pv 3)))), ?_⟩
    refine in_gzero rfl hg fun z Hz ez hz => ?_
    refine ⟨_, rfl, _, rfl, a, b, _, _, rfl, .inr ⟨Evl.ex_t ez ta, Evl.ex_t ez tb, ?_⟩⟩
    refine for_it (walk_zipT (xs := ns.map V.int) (ys := cs) (n := m) (by simp [l1]) l2) (fun i σ H' => ∃ v x y, σ = [some g, some (.ref a), some (.ref b), some v, x, y] ∧ Ex H H' ∧ Dp K H' v (rowD (combAt p n ns c i))) ⟨z, none, none, rfl, ez, hz⟩ (fun i σ H' _ z => by obtain ⟨_, _, _, _, e, _⟩ := z; exact ⟨Evl.ex_t e ta, Evl.ex_t e tb⟩) ?_ ?_
    · rintro i x σ H1 H2 hi ⟨v, x0, y0, rfl, e, hv⟩ ⟨T, x1, x2, rfl, hT, rfl, h1, h2⟩
      have e1 := getD_of h1
      have hi1 : i < ns.length := by omega
      have en : ns[i]? = some (ns.getD i 0) := by
        rw [List.getD_eq_getElem?_getD, List.getElem?_eq_getElem hi1]
        rfl
      obtain ⟨r, er, hd⟩ := ls_at (dps_mono (e.trans (Ex.new (o := .tup [x1, x2]) hT)) _ _ hcs) h2
      subst e1
      have hr' := hrow r (List.mem_of_getElem? er)
      have hc' := combAt_row (n := n) p0 ns c i
      refine ⟨T, _, rfl, .inl (.inl upd_same), rfl, _, _, rfl, _, _, rfl, rfl, _, rfl, _, rfl, _, rfl, _, rfl, x2, rfl, ?_⟩
      refine ⟨g, _, x2, p, n, r, rfl, (hg.mono (e.trans (Ex.new hT))).at_, p0, (row_bd hg.p hns i).1, (row_bd hg.p hns i).2, hd, by have := hr'.len; have := hg.n100; omega, fun u H3 e3 hu => ?_⟩
      refine ⟨g, v, u, p, n, _, _, rfl, (hg.mono ((e.trans (Ex.new hT)).trans e3)).at_, p0, dp_rowmono ((Ex.new hT).trans e3) hv, hu, by rw [hc'.len, sca_len, hr'.len], by rw [hc'.len]; exact hg.n100, fun u4 H4 e4 h4 => ?_⟩
      refine ⟨u4, _, _, rfl, ((e.trans (Ex.new hT)).trans e3).trans e4, ?_⟩
      rw [combAt_succ en er]
      exact h4
    · rintro σ H' ⟨v, x0, y0, rfl, e, hv⟩
      refine ⟨_, rfl, q v H' e ?_⟩
      have e2 : combAt p n ns c m = combR p n ns c := by
        unfold combAt combR
        rw [List.take_of_length_le (by rw [List.length_zip]; omega)]
      rw [e2] at hv
      exact hv
/-! ### without -/
def spWithout (K : PySem.W.Frag) : Sp := fun vs H Q _ => ∃ g a b p, ∃ n : Nat, ∃ r c, vs = [g, a, b] ∧ GrOk K H g p n ∧ Dp K H a (rowD r) ∧ IsRow p n r ∧ LsAt K H b rowD c ∧ Piv p n c ∧
  ∀ v H', Ex H H' → Dp K H' v (rowD (withR p r c)) → Q v H'
theorem sc_without : FnScope ["ground", "row", "base", "left", "own"] ["ground", "row", "base"] (defScope s_without) := ⟨rfl, rfl, rfl, by decide +kernel, rfl, by decide +kernel, by decide +kernel⟩
def withAt (p : Int) (r : List Int) (c : List (List Int)) (i : Nat) : List Int := withR p r (c.take i)
theorem withAt_succ {p : Int} {i : Nat} {r o : List Int} {c : List (List Int)} (h : c[i]? = some o) : withAt p r c (i + 1) = stepW p (withAt p r c i) o := by
  unfold withAt withR
  rw [List.take_add_one, List.foldl_append, h]
  rfl
theorem optV_piv {r : List Int} (h : pivO r ≠ none) : optV (pivO r) = .int (piv r : Nat) := by rw [pivO_piv h] <;> rfl
theorem at_row {r : List Int} {i : Nat} (h : i < r.length) : atI (r.map V.int) ((i : Nat) : Int) = some (.int (r.getD i 0)) := atI_nat (by
  rw [List.getElem?_map, List.getD_eq_getElem?_getD, List.getElem?_eq_getElem h]
  rfl)
theorem cal_without (E : En K mg) : Cal P w K mg base 3 "without" ["ground", "row", "base"] (spWithout K) := by
  obtain ⟨fd, F, g⟩ := E.c_without
  refine ⟨⟨fd, ?_, F.binds fun _ _ _ _ _ _ us hl => match us, hl with | [_, _, _], _ => rfl⟩, g, F.kp⟩
  refine F.ok sc_without (fun vs H Q E h => ?_) (fun cdv A outer s H vs Q E' hr h => ?_)
  · obtain ⟨g, a, b, p, n, r, c, rfl, _⟩ := h
    rfl
  · obtain ⟨g, a, b, p, n, r, c, rfl, hg, ha, hrow, hb, hc, q⟩ := h
    have p0 := hg.p.pos
    refine ⟨_, pss_cons (ps_set (i := 3) sc_without.nd rfl (.inl rfl) (pv 1))
      (pss_cons (ps_for PassesOwn.never rfl (pi_seq K (pv 2)) (pg_name (i := 4) sc_without.nd rfl (.inl rfl))
        (pss_one (ps_set (i := 3) sc_without.nd rfl (.inl rfl) (pe_cal (cal_subtracted (P := P) (w := w) (base := base) E) (hr.mono (by decide)) (pa_cons (pv 0) (pa_cons (pv 3) (pa_cons
          (pe_cal (cal_scaled (P := P) (w := w) (base := base) E) (hr.mono (by decide)) (pa_cons (pv 0) (pa_cons (pe_ix (ixt K) (pv 3) (pe_cal (cal_pivot (P := P) (w := w) (base := base) E) (hr.mono (by decide)) (pa_cons (pv 4) pa_nil)) (fun _ _ => rfl)) (pa_cons (pv 4) pa_nil)))) pa_nil)))))))
      (pss_one (ps_ret (pv 3)))), ?_⟩
    refine ⟨_, rfl, _, rfl, seq_for hb (fun i σ H' => ∃ v x, σ = [some g, some a, some b, some v, x] ∧ Ex H H' ∧ Dp K H' v (rowD (withAt p r c i))) ⟨a, none, rfl, Ex.refl _, ha⟩ (fun i σ H' z => by obtain ⟨_, _, _, e, _⟩ := z; exact e) ?_ ?_⟩
    · rintro i o x σ H1 ho hx ⟨v, x0, rfl, e, hv⟩
      obtain ⟨ro, po⟩ := hc o (List.mem_of_getElem? ho)
      have hl : IsRow p n (withAt p r c i) := withR_row p0 _ hrow
      obtain ⟨v, rfl, tv⟩ := dp_row hv
      have lp : piv o < (withAt p r c i).length := by rw [hl.len, ← ro.len]; exact piv_lt po
      refine ⟨_, rfl, _, rfl, _, rfl, _, rfl, x, rfl, ?_⟩
      refine ⟨x, o, rfl, hx, by rw [ro.len]; exact hg.n100, fun H2 e2 => ?_⟩
      rw [optV_piv po]
      refine ⟨v, _, _, _, rfl, rfl, Evl.ex_t e2 tv, at_row lp, x, rfl, ?_⟩
      refine ⟨g, _, x, p, n, o, rfl, (hg.mono (e.trans e2)).at_, p0, (row_bd hg.p hl _).1, (row_bd hg.p hl _).2, dp_rowmono e2 hx, by rw [ro.len]; exact hg.n100, fun u H3 e3 hu => ?_⟩
      refine ⟨g, _, u, p, n, _, _, rfl, (hg.mono ((e.trans e2).trans e3)).at_, p0, dp_rowmono (e2.trans e3) hv, hu, by rw [hl.len, sca_len, ro.len], by rw [hl.len]; exact hg.n100, fun u4 H4 e4 h4 => ?_⟩
      refine ⟨u4, _, rfl, (e.trans e2).trans (e3.trans e4), ?_⟩
      rw [withAt_succ ho]
      exact h4
    · rintro σ H' ⟨v, x0, rfl, e, hv⟩
      refine ⟨_, rfl, q v H' e ?_⟩
      unfold withAt at hv
      rw [List.take_length] at hv
      exact hv
end
end Cn
namespace Cn
open PySem PySem.Spec PyProof.Rows L2
open Evl (Ex)
section
variable {X : Cx} {k : Nat} {C m : Str} {ps : List Str} {sp : Sp} {pos apos : Pos} {e o : PySem.Expr} {es : List PySem.Expr} {t : TA} {ta : TE}
theorem pe_calM {K : PySem.W.Frag} {mg : Str → Option Value} {P : Program} {w : World} {base : Heap} {pl : Sem Bool} (cl : Cls K (He.ga K C)) (c : CalM P w K mg base k C m ps sp) (hr : Room k X.A) (he : PE X o ta) (ha : PA X (e :: es) t) (hP : X.prog = P := by rfl) (hw : X.w = w := by rfl) (hK : X.K = K := by rfl) (hM : X.mg = mg := by rfl) (hB : X.base = base := by rfl)
    (hst : starEach (e :: es) X.env = (false, eval e X.env) :: starEach es X.env := by rfl) (hpl : (backTo pos (starEach es X.env)).any (·.1) = false := by rfl)
    (hev : eval (.Call (.Attribute o m apos) (e :: es) [] pos) X.env = (do let ov ← eval o X.env; standAt apos.atName; let (f, first) ← holding [ov] (getMethod ov m pl); callWith pos f first (backTo pos (starEach (e :: es) X.env)) (backToKw pos (keywordEach [] X.env))) := by rfl) :
    PE X (.Call (.Attribute o m apos) (e :: es) [] pos) (tMeth (He.ga K C) m sp [] E0 ta t) := by
  subst hP hw hK hM hB
  obtain ⟨fd, F, b⟩ := c.ok
  exact pe_meth (pl := pl) he cl c.me F hr b .nil pass0 ha hst hpl hev
end
theorem ex_none {H H' : Hp} {a : Addr} (e : Ex H H') (h : H' a = none) : H a = none := by
  cases q : H a with
  | none => rfl
  | some o => rw [e _ _ q] at h; cases h
section
variable {P : Program} {w : World} {K : PySem.W.Frag} {mg : Str → Option Value} {base : Heap}
/-! ### reduced -/
def spReduced (K : PySem.W.Frag) : Sp := fun vs H Q _ => ∃ g a p, ∃ n : Nat, ∃ c, vs = [g, a] ∧ GrOk K H g p n ∧ LsAt K H a rowD c ∧ (∀ r ∈ c, IsRow p n r) ∧ c.length ≤ 100 ∧
  ∀ v H', Ex H H' → Dp K H' v (codeD (redL p c)) → Q v H'
theorem sc_reduced : FnScope ["ground", "rows", "found", "row", "left", "new", "own"] ["ground", "rows"] (defScope s_reduced) := ⟨rfl, rfl, rfl, by decide +kernel, rfl, by decide +kernel, by decide +kernel⟩
def redAt (p : Int) (c : List (List Int)) (i : Nat) : List (List Int) := redF p (c.take i)
theorem redAt_succ {p : Int} {i : Nat} {o : List Int} {c : List (List Int)} (h : c[i]? = some o) : redAt p c (i + 1) = stepR p (redAt p c i) o := by
  unfold redAt redF
  rw [List.take_add_one, List.foldl_append, h]
  rfl
theorem redAt_red {p : Int} {n : Nat} (hp : GoodP p) {c : List (List Int)} (hr : ∀ r ∈ c, IsRow p n r) (i : Nat) : Red p n (redAt p c i) := redF_red hp fun r m => hr r (List.mem_of_mem_take m)
theorem redAt_len (p : Int) (c : List (List Int)) (i : Nat) : (redAt p c i).length ≤ c.length := by
  have := redF_len p (c.take i) []
  have h2 : (c.take i).length ≤ c.length := by rw [List.length_take]; omega
  unfold redAt redF
  simp only [List.length_nil, Nat.zero_add] at this
  omega
theorem red_cons {p : Int} {n : Nat} (hn : 2 ≤ n) {c : List (List Int)} (hr : ∀ r ∈ c, IsRow p n r) : ∀ d ∈ c, ∃ x r, rowD d = .tuple (x :: r) := fun d m => by
  have h := (hr d m).len
  match d, h with
  | [], h => simp at h; omega
  | x :: d, _ => exact ⟨_, _, rfl⟩
theorem filter_all {α : Type} (l : List α) : l.filter (fun _ => true) = l := List.filter_eq_self.mpr fun _ _ => rfl
theorem notN_none : (!decide (optV none = V.non)) = false := rfl
theorem notN_some (c : Nat) : (!decide (optV (some c) = V.non)) = true := rfl
theorem flat_map {α : Type} {f : α → PyData} (h : ∀ a, flatT (f a) = true) : ∀ {l : List α}, flatTs (l.map f) = true
  | [] => rfl
  | a :: l => by
    show (flatT (f a) && flatTs (l.map f)) = true
    rw [h a, flat_map h]
    rfl
theorem in_ginv {i : Nat} {σ : L2.St} {H : Hp} {Q : VK} {v : V} {p : Int} {n : Nat} {t : TA} (hi : σ[i]? = some (some v)) (hg : GrOk K H v p n) (q : t σ H fun vs H2 => spInv K (v :: (vs ++ [])) H2 Q E0) : tMeth (He.ga K "Ground") "inverse_of" (spInv K) [] E0 (tVar i) t σ H Q := by
  obtain ⟨a, dx, rfl, ha⟩ := id hg.at_
  exact ⟨_, hi, a, dx, _, rfl, ha, gr_no (by decide +kernel) (by decide +kernel) p n, q⟩
theorem cal_reduced (E : En K mg) : Cal P w K mg base 4 "reduced" ["ground", "rows"] (spReduced K) := by
  obtain ⟨fd, F, g⟩ := E.c_reduced
  refine ⟨⟨fd, ?_, F.binds fun _ _ _ _ _ _ us hl => match us, hl with | [_, _], _ => rfl⟩, g, F.kp⟩
  refine F.ok sc_reduced (fun vs H Q E h => ?_) (fun cdv A outer s H vs Q E' hr h => ?_)
  · obtain ⟨g, a, p, n, c, rfl, _⟩ := h
    rfl
  · obtain ⟨g, a, p, n, c, rfl, hg, hc, hrow, hcl, q⟩ := h
    have p0 := hg.p.pos
    have hu := hr.units
    refine ⟨_, pss_cons (ps_set (i := 2) sc_reduced.nd rfl (.inl rfl) (pe_lst pa_nil))
      (pss_cons (ps_for PassesOwn.never rfl (pi_seq K (pv 1)) (pg_name (i := 3) sc_reduced.nd rfl (.inl rfl))
        (pss_cons (ps_set (i := 4) sc_reduced.nd rfl (.inl rfl) (pe_cal (cal_without (P := P) (w := w) (base := base) E) (hr.mono (by decide)) (pa_cons (pv 0) (pa_cons (pv 3) (pa_cons (pv 2) pa_nil)))))
        (pss_one (ps_if (pt_cmpR op_notN (pe_cal (cal_pivot (P := P) (w := w) (base := base) E) (hr.mono (by decide)) (pa_cons (pv 4) pa_nil)) pe_non (nomark _))
          (pss_cons (ps_set (i := 5) sc_reduced.nd rfl (.inr rfl) (pe_cal (cal_scaled (P := P) (w := w) (base := base) E) (hr.mono (by decide)) (pa_cons (pv 0) (pa_cons
              (pe_calM E.clG (cal_Ginv (P := P) (w := w) (base := base) E) (hr.mono (by decide)) (pv 0) (pa_cons (pe_ix (ixt K) (pv 4) (pe_cal (cal_pivot (P := P) (w := w) (base := base) E) (hr.mono (by decide)) (pa_cons (pv 4) pa_nil)) (fun _ _ => rfl)) pa_nil))
              (pa_cons (pv 4) pa_nil)))))
          (pss_cons (ps_setLc (i := 2) (own := [("own", 6)]) (g := gName 6) (tt := tYes) rfl sc_reduced.nd rfl rfl rfl (pi_seq K (pv 2)) (blkOk_by (by kernel_rfl)) (fun _ _ _ _ _ => pg_name (i := 6) sc_reduced.nd rfl (.inl rfl)) (fun _ _ _ _ _ => pts_nil)
              (fun _ _ _ _ _ => pe_cal (cal_subtracted (P := P) (w := w) (base := base) E) (hr.mono (by decide)) (pa_cons (pv 0) (pa_cons (pv 6) (pa_cons
                (pe_cal (cal_scaled (P := P) (w := w) (base := base) E) (hr.mono (by decide)) (pa_cons (pv 0) (pa_cons (pe_ix (ixt K) (pv 6) (pe_cal (cal_pivot (P := P) (w := w) (base := base) E) (hr.mono (by decide)) (pa_cons (pv 5) pa_nil)) (fun _ _ => rfl)) (pa_cons (pv 5) pa_nil)))) pa_nil)))))
          (pss_one (ps_expr (pe_bm PySem.F.plainAttrs_list PySem.F.slot_list_append PySem.F.type_list_append mt_append (pv 2) (pa_cons (pv 5) pa_nil))))))
          pss_nil))))
      (pss_one (ps_ret (pe_callTy call_tuple_of (by rfl) E.n_tuple (by decide +kernel) (pa_cons (pe_callBK (cr_downR K hu) (by rfl) E.n_sorted (by decide +kernel) (pa_cons (pv 2) pa_nil) (pk_cons pe_bl pk_nil)) pa_nil))))), ?_⟩
    refine ⟨by show 0 ≤ sizeLine; decide, fun D0 hD0 => ?_⟩
    have e0 : Ex H (upd H D0 (.lst [])) := Ex.new hD0
    refine ⟨_, rfl, seq_for (hc.mono e0) (fun i σ H' => ∃ D xs x3 x4 x5 x6, σ = [some g, some a, some (.ref D), x3, x4, x5, x6] ∧ Ex (upd H D0 (.lst [])) H' ∧ H' D = some (.lst xs) ∧ DpAll K H' xs ((redAt p c i).map rowD)) ⟨D0, [], none, none, none, none, rfl, Ex.refl _, upd_same, .nil⟩ ?_ ?_ ?_⟩
    · rintro i σ H' ⟨_, _, _, _, _, _, _, e, _⟩
      exact e
    · rintro i o x σ H1 ho hx ⟨D, xs, x3, x4, x5, x6, rfl, e, hDl, hds⟩
      have ro : IsRow p n o := hrow o (List.mem_of_getElem? ho)
      have hred := redAt_red hg.p hrow i
      have hgl : GrOk K H1 g p n := (hg.mono e0).mono e
      refine ⟨_, rfl, _, rfl, _, rfl, g, x, .ref D, p, n, o, redAt p c i, rfl, hgl, hx, ro, ⟨D, xs, rfl, .inl (.inl (.inl hDl)), hds⟩, hred.piv, fun v H2 e2 hv => ?_⟩
      have hl : IsRow p n (withR p o (redAt p c i)) := withR_row p0 _ ro
      have hlen : (withR p o (redAt p c i)).length ≤ 100 := by rw [hl.len]; exact hg.n100
      refine ⟨_, rfl, v, _, rfl, hv, hlen, fun H3 e3 => ?_⟩
      refine ⟨rfl, _, rfl, ?_⟩
      cases hp : pivO (withR p o (redAt p c i)) with
      | none =>
        rw [notN_none]
        refine iteF ⟨D, xs, _, _, _, _, rfl, e.trans (e2.trans e3), e3 _ _ (e2 _ _ hDl), ?_⟩
        rw [redAt_succ ho, stepR_none hp]
        exact dps_mono (e2.trans e3) _ _ hds
      | some cc =>
        rw [notN_some]
        obtain ⟨n1, n2, n3, n4⟩ := newR_facts hg.p hl hp
        obtain ⟨c1, c2⟩ := pivO_iff.mp hp
        have a0 : 0 < (withR p o (redAt p c i)).getD cc 0 := by have := hl.lo cc; omega
        have iv := hg.p.inv a0 (hl.hi cc)
        have ccl : cc < (withR p o (redAt p c i)).length := by
          rcases Nat.lt_or_ge cc (withR p o (redAt p c i)).length with z | z
          · exact z
          · exact absurd (get_out z) c1
        have pm := hg.p.most
        obtain ⟨v, rfl, tv⟩ := dp_row hv
        refine iteT ⟨_, rfl, in_ginv rfl (hgl.mono (e2.trans e3)) ⟨_, rfl, _, rfl, _, _, rfl, dp_rowmono e3 hv, hlen, fun H4 e4 => ?_⟩⟩
        rw [hp]
        have hgl4 := ((hgl.mono e2).mono e3).mono e4
        refine ⟨v, _, _, _, rfl, rfl, Evl.ex_t (e3.trans e4) tv, at_row ccl, g, p, n, _, _, rfl, hgl4.at_, iv, by omega, by have := hl.hi cc; omega, by omega, _, rfl, ?_⟩
        have ivl := iv.lo
        have ivh := iv.hi
        refine ⟨g, _, .ref v, p, n, _, rfl, hgl4.at_, p0, by omega, by omega, dp_rowmono (e3.trans e4) hv, hlen, fun u H5 e5 hu => ?_⟩
        have hu' : Dp K H5 u (rowD (newR p (withR p o (redAt p c i)) cc)) := hu
        have e25 : Ex H1 H5 := (e2.trans e3).trans (e4.trans e5)
        have hgl5 := hgl.mono e25
        refine ⟨_, rfl, seq_lc (c := redAt p c i) (f := rowD) ⟨D, xs, rfl, .inl (.inl (.inl (e25 _ _ hDl))), dps_mono e25 _ _ hds⟩ (sz100 (Nat.le_trans (redAt_len p c i) hcl)) (fun _ => true) (fun own => rowD (subR p own (scaR p (own.getD cc 0) (newR p (withR p o (redAt p c i)) cc)))) (fun _ => flat_row _) (gm_name 6) ?_ ?_⟩
        · intro own y H6 hm e6 hy
          refine ⟨rfl, Ex.refl _, et_yes, fun _ => ?_⟩
          intro H7 e7 Q' kk
          have row := hred.row own hm
          obtain ⟨y, rfl, ty⟩ := dp_row hy
          have hgl7 := hgl5.mono (e6.trans e7)
          refine ⟨_, rfl, _, rfl, _, rfl, _, rfl, _, rfl, u, _, rfl, dp_rowmono (e6.trans e7) hu', by rw [n1.len]; exact hg.n100, fun H8 e8 => ?_⟩
          rw [n2]
          refine ⟨y, _, _, _, rfl, rfl, Evl.ex_t (e7.trans e8) ty, at_row (by rw [row.len, ← hl.len]; exact ccl), _, rfl, ?_⟩
          refine ⟨g, _, u, p, n, _, rfl, (hgl7.mono e8).at_, p0, (row_bd hg.p row cc).1, (row_bd hg.p row cc).2, dp_rowmono ((e6.trans e7).trans e8) hu', by rw [n1.len]; exact hg.n100, fun t H9 e9 ht => ?_⟩
          exact ⟨g, _, t, p, n, _, _, rfl, ((hgl7.mono e8).mono e9).at_, p0, dp_rowmono ((e7.trans e8).trans e9) hy, ht, by rw [row.len, sca_len, n1.len], by rw [row.len]; exact hg.n100, fun t2 H10 e10 ht2 => kk _ _ ((e8.trans e9).trans e10) ht2⟩
        · intro D2 vs H6 hD2 e6 hv6 hd6
          rw [filter_all] at hd6
          have hlv : vs.length < sizeLine := by
            rw [dps_mapl hd6]
            exact sz100 (Nat.le_trans (redAt_len p c i) hcl)
          refine ⟨_, rfl, .inl ⟨rfl, vs, .inl (.inl hv6)⟩, _, rfl, D2, vs, u, rfl, rfl, hv6, hlv, ?_⟩
          refine ⟨D2, vs ++ [u], _, _, _, _, rfl, Evl.Ex.mut (e.trans (e25.trans e6)) (ex_none (e.trans e25) hD2), upd_same, ?_⟩
          rw [redAt_succ ho, stepR_some hp, List.map_append]
          refine dps_snoc ?_ (dp_monoT (ExT.mut hv6) _ _ (flat_row _) (dp_rowmono e6 hu'))
          rw [List.map_map]
          refine dps_monoT (ExT.mut hv6) _ _ ?_ hd6
          exact flat_map fun _ => flat_row _
    · rintro σ H' ⟨D, xs, x3, x4, x5, x6, rfl, e, hDl, hds⟩
      have hfull : redAt p c c.length = redF p c := by
        unfold redAt
        rw [List.take_length]
      rw [hfull] at hds
      refine ⟨_, rfl, rfl, D, xs, redF p c, rfl, .inl (.inl hDl), hds, red_cons hg.n2 (redF_red hg.p hrow).row, fun ys l hy hl => ?_⟩
      refine ⟨l, ys, rfl, .inl ⟨.inl (.inl upd_same), fun l2 hl2 => q _ _ ((e0.trans e).trans ((Ex.new hl).trans (Ex.new hl2))) (.tup (.inl (.inl upd_same)) ?_)⟩⟩
      exact dps_mono ((Ex.new hl).trans (Ex.new hl2)) _ _ hy
end
end Cn
namespace Cn
open PySem PySem.Spec PyProof.Rows L2
open Evl (Ex)
section
variable {K : PySem.W.Frag} {H : Hp}
theorem tyx_tup {a : Addr} {xs : List V} (h : SqT K H a xs) : TyX K H (.ref a) (.type "tuple") := by
  rcases h with (h | ⟨o, h⟩) | ⟨o, its, n, h, hc, _⟩
  · exact .base (.tup h)
  · exact .fTuple h
  · exact .kTuple h hc
theorem tyx_lst {a : Addr} {xs : List V} (h : SqL K H a xs) : TyX K H (.ref a) (.type "list") := by
  rcases h with (h | ⟨o, h⟩) | ⟨o, its, n, h, hc, _⟩
  · exact .base (.lst h)
  · exact .base (.frz h)
  · exact .kList h hc
theorem dps_bools : ∀ {bs : List Bool} {vs : List V}, DpAll K H vs (bs.map .bool) → vs = bs.map V.bl
  | [], _, h => by cases h; rfl
  | i :: r, _, h => by
    cases h with
    | cons h1 h2 =>
      cases h1
      rw [dps_bools h2]
      rfl
theorem can_map {α : Type} {f : α → PyData} (h : ∀ a, (f a).canLay0 = true) : ∀ l : List α, PyData.canLayAll0 (l.map f) = true
  | [] => by simp [PyData.canLayAll0]
  | a :: l => by
    show PyData.canLayAll0 (f a :: l.map f) = true
    rw [PyData.canLayAll0, h, can_map h l]
    rfl
theorem can_ints (r : List Int) : PyData.canLay0 (rowD r) = true := by
  show PyData.canLay0 (.tuple _) = true
  rw [PyData.canLay0]
  exact can_map (fun _ => by simp [PyData.canLay0]) r
theorem can_code (c : List (List Int)) : PyData.canLay0 (codeD c) = true := by
  show PyData.canLay0 (.tuple _) = true
  rw [PyData.canLay0]
  exact can_map can_ints c
theorem shaped_row (r : List Int) : SeqAt.shaped (rowD r) = true := by
  have h := depth_row r
  have h2 := can_ints r
  unfold SeqAt.shaped
  rw [h2, decide_eq_true (by omega)]
  rfl
theorem shaped_code (c : List (List Int)) : SeqAt.shaped (codeD c) = true := by
  have h := depth_code c
  have h2 := can_code c
  unfold SeqAt.shaped
  rw [h2, decide_eq_true (by omega)]
  rfl
end
section
variable {P : Program} {w : World} {K : PySem.W.Frag} {mg : Str → Option Value} {base : Heap}
theorem sc_code_of : FnScope ["ground", "rows"] ["ground", "rows"] (defScope s_code_of) := ⟨rfl, rfl, rfl, by decide +kernel, rfl, by decide +kernel, by decide +kernel⟩
theorem cal_code_of (E : En K mg) : Cal P w K mg base 5 "code_of" ["ground", "rows"] (spReduced K) := by
  obtain ⟨fd, F, g⟩ := E.c_code_of
  refine ⟨⟨fd, ?_, F.binds fun _ _ _ _ _ _ us hl => match us, hl with | [_, _], _ => rfl⟩, g, F.kp⟩
  refine F.ok sc_code_of (fun vs H Q E h => ?_) (fun cdv A outer s H vs Q E' hr h => ?_)
  · obtain ⟨g, a, p, n, c, rfl, _⟩ := h
    rfl
  · obtain ⟨g, a, p, n, c, rfl, h⟩ := h
    exact ⟨_, pss_one (ps_ret (pe_cal (cal_reduced (P := P) (w := w) (base := base) E) (hr.mono (by decide)) (pa_cons (pv 0) (pa_cons (pv 1) pa_nil)))), _, rfl, _, rfl, g, a, p, n, c, rfl, h⟩
def spRest (K : PySem.W.Frag) : Sp := fun vs H Q _ => ∃ g a b p, ∃ n : Nat, ∃ r c, vs = [g, b, a] ∧ GrOk K H g p n ∧ Dp K H a (rowD r) ∧ IsRow p n r ∧ LsAt K H b rowD c ∧ Piv p n c ∧
  ∀ v H', Ex H H' → Dp K H' v (rowD (withR p r c)) → Q v H'
theorem sc_rest : FnScope ["ground", "code", "row"] ["ground", "code", "row"] (defScope s_rest) := ⟨rfl, rfl, rfl, by decide +kernel, rfl, by decide +kernel, by decide +kernel⟩
theorem cal_rest (E : En K mg) : Cal P w K mg base 4 "rest" ["ground", "code", "row"] (spRest K) := by
  obtain ⟨fd, F, g⟩ := E.c_rest
  refine ⟨⟨fd, ?_, F.binds fun _ _ _ _ _ _ us hl => match us, hl with | [_, _, _], _ => rfl⟩, g, F.kp⟩
  refine F.ok sc_rest (fun vs H Q E h => ?_) (fun cdv A outer s H vs Q E' hr h => ?_)
  · obtain ⟨g, a, b, p, n, r, c, rfl, _⟩ := h
    rfl
  · obtain ⟨g, a, b, p, n, r, c, rfl, h⟩ := h
    exact ⟨_, pss_one (ps_ret (pe_cal (cal_without (P := P) (w := w) (base := base) E) (hr.mono (by decide)) (pa_cons (pv 0) (pa_cons (pv 2) (pa_cons (pv 1) pa_nil))))), _, rfl, _, rfl, _, rfl, g, a, b, p, n, r, c, rfl, h⟩
/-- whether a row is in a code -/
def inC (p : Int) (n : Nat) (c : List (List Int)) (r : List Int) : Bool := decide (withR p r c = zeroR n)
def spIsIn (K : PySem.W.Frag) : Sp := fun vs H Q _ => ∃ g a b p, ∃ n : Nat, ∃ r c, vs = [g, b, a] ∧ GrOk K H g p n ∧ Dp K H a (rowD r) ∧ IsRow p n r ∧ LsAt K H b rowD c ∧ Piv p n c ∧
  ∀ H', Ex H H' → Q (.bl (inC p n c r)) H'
theorem sc_is_in : FnScope ["ground", "code", "row"] ["ground", "code", "row"] (defScope s_is_in) := ⟨rfl, rfl, rfl, by decide +kernel, rfl, by decide +kernel, by decide +kernel⟩
theorem cal_is_in (E : En K mg) : Cal P w K mg base 5 "is_in" ["ground", "code", "row"] (spIsIn K) := by
  obtain ⟨fd, F, g⟩ := E.c_is_in
  refine ⟨⟨fd, ?_, F.binds fun _ _ _ _ _ _ us hl => match us, hl with | [_, _, _], _ => rfl⟩, g, F.kp⟩
  refine F.ok sc_is_in (fun vs H Q E h => ?_) (fun cdv A outer s H vs Q E' hr h => ?_)
  · obtain ⟨g, a, b, p, n, r, c, rfl, _⟩ := h
    rfl
  · obtain ⟨g, a, b, p, n, r, c, rfl, hg, ha, hr1, hb, hc, q⟩ := h
    have hu := hr.units
    refine ⟨_, pss_one (ps_ret (pe_cmpR (op_eqK K hu) (pe_cal (cal_rest (P := P) (w := w) (base := base) E) (hr.mono (by decide)) (pa_cons (pv 0) (pa_cons (pv 1) (pa_cons (pv 2) pa_nil)))) (pe_calM0 E.clG (cal_Gzero (P := P) (w := w) (base := base) E) (hr.mono (by decide)) (pv 0)) (nomark _))), ?_⟩
    refine ⟨_, rfl, _, rfl, _, rfl, g, a, b, p, n, r, c, rfl, hg, ha, hr1, hb, hc, fun v H1 e1 hv => ?_⟩
    refine in_gzero rfl (hg.mono e1) fun z H2 e2 hz => ⟨_, _, dp_rowmono e2 hv, hz, shaped_row _, shaped_row _, ?_⟩
    rw [eqv_row]
    exact q _ (e1.trans e2)
def spWithin (K : PySem.W.Frag) : Sp := fun vs H Q _ => ∃ g a b p, ∃ n : Nat, ∃ d c, vs = [g, a, b] ∧ GrOk K H g p n ∧ LsAt K H a rowD d ∧ (∀ r ∈ d, IsRow p n r) ∧ d.length ≤ 100 ∧ LsAt K H b rowD c ∧ Piv p n c ∧
  ∀ H', Ex H H' → Q (.bl (d.all (inC p n c))) H'
theorem sc_is_within : FnScope ["ground", "one", "other", "row"] ["ground", "one", "other"] (defScope s_is_within) := ⟨rfl, rfl, rfl, by decide +kernel, rfl, by decide +kernel, by decide +kernel⟩
theorem cal_is_within (E : En K mg) : Cal P w K mg base 6 "is_within" ["ground", "one", "other"] (spWithin K) := by
  obtain ⟨fd, F, g⟩ := E.c_is_within
  refine ⟨⟨fd, ?_, F.binds fun _ _ _ _ _ _ us hl => match us, hl with | [_, _, _], _ => rfl⟩, g, F.kp⟩
  refine F.ok sc_is_within (fun vs H Q E h => ?_) (fun cdv A outer s H vs Q E' hr h => ?_)
  · obtain ⟨g, a, b, p, n, d, c, rfl, _⟩ := h
    rfl
  · obtain ⟨g, a, b, p, n, d, c, rfl, hg, ha, hd, hdl, hb, hc, q⟩ := h
    refine ⟨_, pss_one (ps_ret (pe_callB (cb_all K) (by rfl) E.n_all (by decide +kernel) (pa_cons (pe_lc (own := [("row", 3)]) (g := gName 3) (tt := tYes) rfl sc_is_within.nd (pi_seq K (pv 1)) (blkOk_by (by kernel_rfl)) (fun _ _ _ _ _ => pg_name (i := 3) sc_is_within.nd rfl (.inl rfl)) (fun _ _ _ _ _ => pts_nil)
      (fun _ _ _ _ _ => pe_cal (cal_is_in (P := P) (w := w) (base := base) E) (hr.mono (by decide)) (pa_cons (pv 0) (pa_cons (pv 2) (pa_cons (pv 3) pa_nil))))) pa_nil))), ?_⟩
    refine ⟨_, rfl, seq_lc ha (sz100 hdl) (fun _ => true) (fun r => .bool (inC p n c r)) (fun _ => rfl) (gm_name 3) ?_ ?_⟩
    · intro r x H1 hm e hx
      refine ⟨rfl, Ex.refl _, et_yes, fun _ => ?_⟩
      intro H2 e2 Q' k
      exact ⟨_, rfl, _, rfl, _, rfl, g, x, b, p, n, r, c, rfl, hg.mono (e.trans e2), dp_rowmono e2 hx, hd r hm, hb.mono (e.trans e2), hc, fun H3 e3 => k _ _ e3 (.bl _)⟩
    · intro D vs H1 hD e hv hdp
      rw [filter_all] at hdp
      have e1 : vs = (d.map (inC p n c)).map V.bl := dps_bools (by rw [List.map_map]; exact hdp)
      subst e1
      refine ⟨D, d.map (inC p n c), rfl, .inl (.inl hv), ?_⟩
      rw [List.all_map]
      exact q _ e
/-! ### wrong_entry, check_code -/
def spWrong (K : PySem.W.Frag) : Sp := fun vs H Q _ => ∃ g a p, ∃ n : Nat, ∃ r, vs = [g, a] ∧ GrOk K H g p n ∧ Dp K H a (rowD r) ∧ IsRow p n r ∧ ∀ H', Ex H H' → Q .non H'
theorem sc_wrong_entry : FnScope ["ground", "row", "column", "entry"] ["ground", "row"] (defScope s_wrong_entry) := ⟨rfl, rfl, rfl, by decide +kernel, rfl, by decide +kernel, by decide +kernel⟩
theorem cal_wrong_entry (E : En K mg) : Cal P w K mg base 2 "wrong_entry" ["ground", "row"] (spWrong K) := by
  obtain ⟨fd, F, g⟩ := E.c_wrong_entry
  refine ⟨⟨fd, ?_, F.binds fun _ _ _ _ _ _ us hl => match us, hl with | [_, _], _ => rfl⟩, g, F.kp⟩
  refine F.ok sc_wrong_entry (fun vs H Q E h => ?_) (fun cdv A outer s H vs Q E' hr h => ?_)
  · obtain ⟨g, a, p, n, r, rfl, _⟩ := h
    rfl
  · obtain ⟨g, a, p, n, r, rfl, hg, ha, hrow, q⟩ := h
    obtain ⟨a, rfl, ta⟩ := dp_row ha
    refine ⟨_, pss_cons (ps_for PassesOwn.never rfl (pi_enT (by rfl) E.n_enumerate (pa_cons (pv 1) pa_nil)) (pg_tup rfl (pgs_cons (pg_name (i := 2) sc_wrong_entry.nd rfl (.inl rfl)) (pgs_cons (pg_name (i := 3) sc_wrong_entry.nd rfl (.inl rfl)) pgs_nil)))
      (pss_one (ps_if (pw_or (pt_not (pt_val (pe_cal (cal_is_number (P := P) (w := w) (base := base) E) (hr.mono (by decide)) (pa_cons (pv 3) pa_nil)))) (pw_or1 (pt_cmpR op_ge (pv 3) (pe_calM0 E.clG (cal_Gp (P := P) (w := w) (base := base) E) (hr.mono (by decide)) (pv 0)) (nomark _)))).pt (pss_one (ps_ret (pv 2))) pss_nil))) (pss_one (ps_ret pe_non)), ?_⟩
    refine ⟨_, rfl, a, _, rfl, ta, ?_⟩
    refine for_it walk_enT (fun i σ H' => ∃ x y, σ = [some g, some (.ref a), x, y] ∧ Ex H H') ⟨none, none, rfl, Ex.refl _⟩ (fun i σ H' _ z => by obtain ⟨_, _, _, e⟩ := z; exact Evl.ex_t e ta) ?_ ?_
    · rintro i x σ H1 H2 hi ⟨x0, y0, rfl, e⟩ ⟨T, x1, x2, rfl, hT, rfl, h1, h2⟩
      have e1 : x1 = .int (i : Nat) := (Option.some.inj h1).symm
      have e2 := getD_of h2
      subst e1 e2
      have e3 := e.trans (Ex.new (o := .tup [V.int (i : Nat), .int (r.getD i 0)]) hT)
      refine ⟨T, _, rfl, .inl (.inl upd_same), rfl, _, _, rfl, _, _, rfl, rfl, _, rfl, _, true, rfl, NumV.int (hrow.lo i), _, rfl, iteF ⟨_, rfl, in_gp rfl (hg.mono e3).at_ ?_⟩⟩
      refine ⟨_, _, rfl, rfl, _, rfl, ?_⟩
      rw [decide_eq_false (by have := hrow.hi i; omega)]
      exact iteF ⟨_, _, rfl, e3⟩
    · rintro σ H' ⟨x0, y0, rfl, e⟩
      exact q _ e
/-- a code as it is told -/
structure CodeOk (p : Int) (n : Nat) (c : List (List Int)) : Prop where
  red : Red p n c
  asc : c.Pairwise fun r s => piv r < piv s
  len : c.length ≤ n
theorem k_tt : PySem.W.kitOne K (.type "tuple") (.type "tuple") = some true := kit_ty (by decide +kernel)
/-- xs[:i] of a tuple -/
theorem sl_take {H : Hp} {a : Addr} {xs : List V} {ds : List PyData} {i : Nat} {Q : VK} (hx : SqT K H a xs) (hd : DpAll K H xs ds) (q : ∀ v H', Ex H H' → Dp K H' v (.tuple (ds.take i)) → Q v H') : rSlA K (.ref a) none (some (i : Int)) H Q := by
  refine ⟨a, xs, rfl, hx, fun h => ?_, fun _ T hT => ?_⟩
  · have h2 := h.2
    rw [HT.sIx_nat] at h2
    refine q _ _ (Ex.refl _) (.tup hx ?_)
    rw [List.take_of_length_le (by rw [← dps_len hd]; omega)]
    exact hd
  · refine q _ _ (Ex.new hT) (.tup (.inl (.inl upd_same)) (dps_mono (Ex.new hT) _ _ ?_))
    have e : cutV xs none (some (i : Int)) = xs.take i := by
      unfold cutV
      rw [HT.sIx_nat, HT.sIx_none, List.drop_zero, Nat.sub_zero]
      rcases Nat.lt_or_ge i xs.length with z | z
      · rw [Nat.min_eq_left (Nat.le_of_lt z)]
      · rw [Nat.min_eq_right z, List.take_length, List.take_of_length_le z]
    rw [e]
    exact dps_take i hd
theorem asc_at {c : List (List Int)} (h : c.Pairwise fun r s => piv r < piv s) {i j : Nat} {r s : List Int} (hij : i < j) (hi : c[i]? = some r) (hj : c[j]? = some s) : piv r < piv s := by
  obtain ⟨i1, rfl⟩ := List.getElem?_eq_some_iff.mp hi
  obtain ⟨j1, rfl⟩ := List.getElem?_eq_some_iff.mp hj
  exact List.pairwise_iff_getElem.mp h i j i1 j1 hij
theorem oth_take {p : Int} {n : Nat} {c : List (List Int)} (h : Red p n c) {i : Nat} {r s : List Int} (hi : c[i]? = some r) (hs : s ∈ c.take i) : s.getD (piv r) 0 = 0 := by
  obtain ⟨j, hj⟩ := List.getElem?_of_mem hs
  obtain ⟨j1, e⟩ := List.getElem?_eq_some_iff.mp hj
  have j2 : j < i ∧ j < c.length := by rw [List.length_take] at j1; omega
  obtain ⟨i1, rfl⟩ := List.getElem?_eq_some_iff.mp hi
  have q := List.pairwise_iff_getElem.mp h.oth j i j2.2 i1 j2.1
  rw [List.getElem_take] at e
  rw [e] at q
  exact q.1
def spCheck (K : PySem.W.Frag) : Sp := fun vs H Q _ => ∃ g a p, ∃ n : Nat, ∃ c, vs = [g, a] ∧ GrOk K H g p n ∧ Dp K H a (codeD c) ∧ CodeOk p n c ∧ ∀ H', Ex H H' → Q .non H'
theorem sc_check_code : FnScope ["ground", "value", "place", "row", "column", "here", "other"] ["ground", "value"] (defScope s_check_code) := ⟨rfl, rfl, rfl, by decide +kernel, rfl, by decide +kernel, by decide +kernel⟩
theorem cal_check_code (E : En K mg) : Cal P w K mg base 3 "check_code" ["ground", "value"] (spCheck K) := by
  obtain ⟨fd, F, g⟩ := E.c_check_code
  refine ⟨⟨fd, ?_, F.binds fun _ _ _ _ _ _ us hl => match us, hl with | [_, _], _ => rfl⟩, g, F.kp⟩
  refine F.ok sc_check_code (fun vs H Q E h => ?_) (fun cdv A outer s H vs Q E' hr h => ?_)
  · obtain ⟨g, a, p, n, c, rfl, _⟩ := h
    rfl
  · obtain ⟨g, a, p, n, c, rfl, hg, ha, hc, q⟩ := h
    obtain ⟨a, cs, rfl, ta, hcs⟩ := dp_tup ha
    have hu := hr.units
    have lcs : cs.length = c.length := dps_mapl hcs
    refine ⟨_, pss_cons (ps_if (pw_or (pt_not (pt_val (pe_callB (cb_isi K) (by rfl) E.n_isinstance (by decide +kernel) (pa_cons (pv 1) (pa_cons (pe_bltn (v := .ty "tuple") (by rfl) E.n_tuple (by decide +kernel) rfl) pa_nil)))))
        (pw_or1 (pt_cmpR op_gt (pe_callB (cb_len K) (by rfl) E.n_len (by decide +kernel) (pa_cons (pv 1) pa_nil)) (pe_calM0 E.clG (cal_Gn (P := P) (w := w) (base := base) E) (hr.mono (by decide)) (pv 0)) (nomark _)))).pt (pss_one ps_never) pss_nil)
      (pss_cons (ps_for PassesOwn.never rfl (pi_enT (by rfl) E.n_enumerate (pa_cons (pv 1) pa_nil)) (pg_tup rfl (pgs_cons (pg_name (i := 2) sc_check_code.nd rfl (.inl rfl)) (pgs_cons (pg_name (i := 3) sc_check_code.nd rfl (.inl rfl)) pgs_nil)))
        (pss_cons (ps_if (pw_or (pt_not (pt_val (pe_callB (cb_isi K) (by rfl) E.n_isinstance (by decide +kernel) (pa_cons (pv 3) (pa_cons (pe_bltn (v := .ty "tuple") (by rfl) E.n_tuple (by decide +kernel) rfl) pa_nil)))))
          (pw_or1 (pt_cmpR op_ne (pe_callB (cb_len K) (by rfl) E.n_len (by decide +kernel) (pa_cons (pv 3) pa_nil)) (pe_calM0 E.clG (cal_Gn (P := P) (w := w) (base := base) E) (hr.mono (by decide)) (pv 0)) (nomark _)))).pt (pss_one ps_never) pss_nil)
        (pss_cons (ps_set (i := 4) sc_check_code.nd rfl (.inl rfl) (pe_cal (cal_wrong_entry (P := P) (w := w) (base := base) E) (hr.mono (by decide)) (pa_cons (pv 0) (pa_cons (pv 3) pa_nil))))
        (pss_one (ps_if (pt_cmpR op_notN (pv 4) pe_non (nomark _)) (pss_one ps_never) pss_nil)))))
      (pss_one (ps_for PassesOwn.never rfl (pi_enT (by rfl) E.n_enumerate (pa_cons (pv 1) pa_nil)) (pg_tup rfl (pgs_cons (pg_name (i := 2) sc_check_code.nd rfl (.inl rfl)) (pgs_cons (pg_name (i := 3) sc_check_code.nd rfl (.inl rfl)) pgs_nil)))
        (pss_cons (ps_set (i := 5) sc_check_code.nd rfl (.inr rfl) (pe_cal (cal_pivot (P := P) (w := w) (base := base) E) (hr.mono (by decide)) (pa_cons (pv 3) pa_nil)))
        (pss_cons (ps_if (pw_or (pt_cmpR op_isN (pv 5) pe_non (nomark _)) (pw_or (pt_cmpR op_ne (pe_ix (ixt K) (pv 3) (pv 5) (fun _ _ => rfl)) pe_int (nomark _))
            (pw_or1 (pt_val (pe_callB (cb_any K) (by rfl) E.n_any (by decide +kernel) (pa_cons (pe_lc (own := [("other", 6)]) (g := gName 6) (tt := tYes) rfl sc_check_code.nd (pi_seq K (pe_slice sl_tupA (pv 1) po_none (po_some (pv 2)))) (blkOk_by (by kernel_rfl)) (fun _ _ _ _ _ => pg_name (i := 6) sc_check_code.nd rfl (.inl rfl)) (fun _ _ _ _ _ => pts_nil)
              (fun _ _ _ _ _ => pe_cmpR op_ne (pe_ix (ixt K) (pv 6) (pv 5) (fun _ _ => rfl)) pe_int (nomark _))) pa_nil)))))).pt (pss_one ps_never) pss_nil)
        (pss_one (ps_if (pw_and (pt_cmpR op_gt (pv 2) pe_int (nomark _)) (pw_and1 (pt_cmpR op_ge (pe_cal (cal_pivot (P := P) (w := w) (base := base) E) (hr.mono (by decide)) (pa_cons (pe_ix (ixt K) (pv 1) (pe_op op_sub (pv 2) pe_int) (fun _ _ => rfl)) pa_nil)) (pv 5) (nomark _)))).pt (pss_one ps_never) pss_nil))))))), ?_⟩
    refine ⟨_, rfl, _, _, _, _, _, rfl, .ty _, tyx_tup ta, k_tt, _, rfl, iteF ⟨_, rfl, a, cs, rfl, .inr ta, in_gn rfl hg.at_ ⟨_, _, rfl, rfl, _, rfl, ?_⟩⟩⟩
    rw [decide_eq_false (by have := hc.len; omega)]
    refine iteF ?_
    refine ⟨_, rfl, a, _, rfl, ta, ?_⟩
    refine for_it walk_enT (fun i σ H' => ∃ x y z u v, σ = [some g, some (.ref a), x, y, z, u, v] ∧ Ex H H') ⟨none, none, none, none, none, rfl, Ex.refl _⟩ (fun i σ H' _ z => by obtain ⟨_, _, _, _, _, _, e⟩ := z; exact Evl.ex_t e ta) ?_ ?_
    · rintro i x σ H1 H2 hi ⟨x0, y0, z0, u0, v0, rfl, e⟩ ⟨T, x1, x2, rfl, hT, rfl, h1, h2⟩
      have e1 : x1 = .int (i : Nat) := (Option.some.inj h1).symm
      subst e1
      have e3 := e.trans (Ex.new (o := .tup [V.int (i : Nat), x2]) hT)
      obtain ⟨r, er, hd⟩ := ls_at (dps_mono e3 _ _ hcs) h2
      have rr := hc.red.row r (List.mem_of_getElem? er)
      obtain ⟨b, rfl, tb⟩ := dp_row hd
      refine ⟨T, _, rfl, .inl (.inl upd_same), rfl, _, _, rfl, _, _, rfl, rfl, _, rfl, _, _, _, _, _, rfl, .ty _, tyx_tup tb, k_tt, _, rfl, iteF ⟨_, rfl, b, _, rfl, .inr tb, in_gn rfl (hg.mono e3).at_ ⟨rfl, _, rfl, ?_⟩⟩⟩
      rw [decide_eq_true (by rw [List.length_map, rr.len])]
      refine iteF ⟨_, rfl, _, rfl, g, _, p, n, r, rfl, hg.mono e3, hd, rr, fun H3 e4 => ⟨_, rfl, rfl, _, rfl, iteF ⟨_, _, _, _, _, rfl, e3.trans e4⟩⟩⟩
    · rintro σ H0 ⟨x0, y0, z0, u0, v0, rfl, e⟩
      refine ⟨_, rfl, a, _, rfl, Evl.ex_t e ta, ?_⟩
      refine for_it walk_enT (fun i σ H' => ∃ x y z u v, σ = [some g, some (.ref a), x, y, z, u, v] ∧ Ex H H') ⟨_, _, _, _, _, rfl, e⟩ (fun i σ H' _ z => by obtain ⟨_, _, _, _, _, _, e⟩ := z; exact Evl.ex_t e ta) ?_ ?_
      · rintro i x σ H1 H2 hi ⟨x0, y0, z0, u0, v0, rfl, e⟩ ⟨T, x1, x2, rfl, hT, rfl, h1, h2⟩
        have e1 : x1 = .int (i : Nat) := (Option.some.inj h1).symm
        subst e1
        have e3 := e.trans (Ex.new (o := .tup [V.int (i : Nat), x2]) hT)
        obtain ⟨r, er, hd⟩ := ls_at (dps_mono e3 _ _ hcs) h2
        have mr := List.mem_of_getElem? er
        have rr := hc.red.row r mr
        obtain ⟨po, p1⟩ := hc.red.one r mr
        have pl := piv_lt po
        refine ⟨T, _, rfl, .inl (.inl upd_same), rfl, _, _, rfl, _, _, rfl, rfl, _, rfl, x2, r, rfl, hd, by rw [rr.len]; exact hg.n100, fun H3 e4 => ?_⟩
        rw [optV_piv po]
        obtain ⟨b, rfl, tb⟩ := dp_row (dp_rowmono e4 hd)
        refine ⟨_, rfl, rfl, _, rfl, iteF ⟨_, rfl, _, rfl, b, _, _, _, rfl, rfl, tb, at_row pl, ?_⟩⟩
        rw [p1]
        refine ⟨rfl, _, rfl, iteF ⟨_, rfl, _, rfl, _, rfl, sl_take (Evl.ex_t (e3.trans e4) ta) (dps_mono (e3.trans e4) _ _ hcs) fun w H4 e5 hw => ?_⟩⟩
        rw [← List.map_take] at hw
        refine seq_lc (LsAt.tup hw) (sz100 (by rw [List.length_take]; have := hc.len; have := hg.n100; omega)) (fun _ => true) (fun _ => .bool false) (fun _ => rfl) (gm_name 6) ?_ ?_
        · intro s y H5 hm e6 hy
          refine ⟨rfl, Ex.refl _, et_yes, fun _ => ?_⟩
          intro H6 e7 Q' k
          have so := oth_take hc.red er hm
          have sr := hc.red.row s (List.mem_of_mem_take hm)
          obtain ⟨y, rfl, ty⟩ := dp_row hy
          refine ⟨_, rfl, _, rfl, y, _, _, _, rfl, rfl, Evl.ex_t e7 ty, at_row (by rw [sr.len, ← rr.len]; exact pl), ?_⟩
          rw [so]
          exact ⟨rfl, k _ _ (Ex.refl _) (.bl _)⟩
        · intro D vs H5 hD e6 hv hdp
          rw [filter_all] at hdp
          have e1 : vs = ((c.take i).map fun _ => false).map V.bl := dps_bools (by rw [List.map_map]; exact hdp)
          subst e1
          refine ⟨D, _, rfl, .inl (.inl hv), _, rfl, ?_⟩
          have ef : (((c.take i).map fun _ => false).any id) = false := by
            rw [List.any_map]
            simp
          rw [ef]
          have e9 := ((e3.trans e4).trans e5).trans e6
          refine iteF ⟨_, rfl, _, _, rfl, rfl, _, rfl, ?_⟩
          rcases Nat.eq_zero_or_pos i with hi0 | hi0
          · subst hi0
            exact iteF (iteF ⟨_, _, _, _, _, rfl, e9⟩)
          · rw [decide_eq_true (by omega)]
            have hi1 : i - 1 < cs.length := by omega
            obtain ⟨r', er', hd'⟩ := ls_at (dps_mono e9 _ _ hcs) (List.getElem?_eq_getElem hi1)
            have mr' := List.mem_of_getElem? er'
            have po' := (hc.red.one r' mr').1
            refine iteT ⟨_, rfl, _, rfl, _, _, rfl, rfl, a, cs, _, _, rfl, rfl, Evl.ex_t e9 ta, ?_, _, r', rfl, hd', by rw [(hc.red.row r' mr').len]; exact hg.n100, fun H6 e10 => ?_⟩
            · rw [show ((i : Int) - 1) = ((i - 1 : Nat) : Int) by omega]
              exact atI_nat (List.getElem?_eq_getElem hi1)
            · rw [optV_piv po']
              refine ⟨_, rfl, _, _, rfl, rfl, _, rfl, ?_⟩
              have lt := asc_at hc.asc (show i - 1 < i by omega) er' er
              rw [decide_eq_false (by omega)]
              exact iteF ⟨_, _, _, _, _, rfl, e9.trans e10⟩
      · rintro σ H0 ⟨x0, y0, z0, u0, v0, rfl, e⟩
        exact q _ e
end
end Cn
namespace Cn
open PySem PySem.Spec PyProof.Rows L2
open Evl (Ex)
section
variable {P : Program} {w : World} {K : PySem.W.Frag} {mg : Str → Option Value} {base : Heap}
/-! ### is_prime -/
def spPrime : Sp := fun vs H Q _ => ∃ p, vs = [.int p] ∧ GoodP p ∧ Q (.bl true) H
theorem sc_is_prime : FnScope ["value", "factor"] ["value"] (defScope s_is_prime) := ⟨rfl, rfl, rfl, by decide +kernel, rfl, by decide +kernel, by decide +kernel⟩
theorem nat_prime : ∀ k ∈ [2, 3, 5, 7, 11, 13], ∀ f ∈ List.range 14, 2 ≤ f → f * f ≤ k → k % f ≠ 0 := by decide +kernel
theorem good_mod {p : Int} (h : GoodP p) {f : Nat} (f2 : 2 ≤ f) (f13 : f ≤ 13) (hf : (f : Int) * f ≤ p) : p % (f : Int) ≠ 0 := by
  obtain ⟨k, hk, rfl⟩ := h
  have h2 : ((f * f : Nat) : Int) ≤ (k : Int) := by rw [Int.natCast_mul]; exact hf
  have := nat_prime k hk f (List.mem_range.mpr (by omega)) f2 (by omega)
  rw [← Int.natCast_emod]
  omega
theorem cal_is_prime (E : En K mg) : Cal P w K mg base 2 "is_prime" ["value"] spPrime := by
  obtain ⟨fd, F, g⟩ := E.c_is_prime
  refine ⟨⟨fd, ?_, F.binds fun _ _ _ _ _ _ us hl => match us, hl with | [_], _ => rfl⟩, g, F.kp⟩
  refine F.ok sc_is_prime (fun vs H Q E h => ?_) (fun cdv A outer s H vs Q E' hr h => ?_)
  · obtain ⟨p, rfl, _⟩ := h
    rfl
  · obtain ⟨p, rfl, hp, q⟩ := h
    have p2 := hp.two
    have p13 := hp.most
    refine ⟨_, pss_cons (ps_if (pw_or (pt_not (pt_val (pe_cal (cal_is_number (P := P) (w := w) (base := base) E) (hr.mono (by decide)) (pa_cons (pv 0) pa_nil)))) (pw_or1 (pt_cmpR op_lt (pv 0) pe_int (nomark _)))).pt (pss_one ps_never) pss_nil)
      (pss_cons (ps_set (i := 1) sc_is_prime.nd rfl (.inl rfl) pe_int)
      (pss_cons (ps_while PassesOwn.never (pt_cmpR op_le (pe_op op_mul (pv 1) (pv 1)) (pv 0) (nomark _)) (pss_cons (ps_if (pt_cmpR op_eq (pe_op op_mod (pv 0) (pv 1)) pe_int (nomark _)) (pss_one ps_never) pss_nil) (pss_one (ps_aug (i := 1) sc_is_prime.nd rfl (.inl rfl) pe_int ip_add))))
      (pss_one (ps_ret pe_bl)))), ?_⟩
    refine ⟨_, rfl, _, true, rfl, NumV.int (by omega), _, rfl, iteF ⟨_, rfl, _, _, rfl, rfl, _, rfl, ?_⟩⟩
    rw [decide_eq_false (by omega)]
    refine iteF ?_
    refine while_by (fun σ H' => H' = H ∧ ∃ f : Nat, σ = [some (.int p), some (.int f)] ∧ 2 ≤ f ∧ f ≤ 14) (fun σ H' => match σ with | [_, some (.int f)] => (14 - f).toNat | _ => 0) ⟨rfl, 2, rfl, by omega, by omega⟩ ?_ ?_
    · rintro σ H' ⟨rfl, f, rfl, f2, f14⟩
      refine ⟨_, rfl, _, rfl, _, _, rfl, rfl, .inl ⟨by omega, by omega⟩, _, rfl, _, _, rfl, rfl, _, rfl, ?_⟩
      refine ite2 (fun h => ?_) (fun h => ?_)
      · have h1 : (f : Int) * f ≤ p := of_decide_eq_true h
        have f13 : f ≤ 13 := by
          rcases Nat.lt_or_ge 13 f with z | z
          · have e : f = 14 := by omega
            subst e
            omega
          · exact z
        have hm := good_mod hp f2 f13 h1
        refine ⟨_, rfl, _, rfl, _, _, rfl, rfl, by omega, rfl, _, rfl, ?_⟩
        rw [decide_eq_false (fun z => hm (V.int.inj z))]
        refine iteF ⟨_, rfl, _, _, rfl, rfl, ⟨rfl, f + 1, rfl, by omega, by omega⟩, ?_⟩
        show (14 - ((f : Int) + 1)).toNat < (14 - (f : Int)).toNat
        omega
      · exact q
    · rintro σ H' Q1 Q2 h ⟨v, e1, u, e2, i, j, e3, e4, c1, z, e5, i2, j2, e6, e7, kk, e8, q1⟩
      exact ⟨v, e1, u, e2, i, j, e3, e4, c1, z, e5, i2, j2, e6, e7, kk, e8, h _ _ q1⟩
end
end Cn
namespace Cn
open PySem PySem.Spec PyProof.Rows L2
open Evl (Ex)
/-- the class C, made by its __init__ -/
structure CalN (P : Program) (w : World) (K : PySem.W.Frag) (mg : Str → Option Value) (base : Heap) (k : Nat) (C : Str) (ps : List Str) (sp : Sp) : Prop where
  ok : ∃ fd, FnOk P w K mg base CX0 k (He.ma K (He.ga K C) "__init__") fd ps sp ∧ Binds K fd ps []
  mk_ : Mk K (He.ga K C) (He.ma K (He.ga K C) "__init__")
  g : mg C = some (.ref (He.ga K C))
section
variable {X : Cx} {k : Nat} {C m : Str} {ps : List Str} {sp : Sp} {p pos apos : Pos} {e o : PySem.Expr} {es : List PySem.Expr} {t : TA} {ta : TE}
theorem pe_new {K : PySem.W.Frag} {mg : Str → Option Value} {P : Program} {w : World} {base : Heap} (c : CalN P w K mg base k C ps sp) (hr : Room (k + 1) X.A) (ha : PA X (e :: es) t) (hP : X.prog = P := by rfl) (hw : X.w = w := by rfl) (hK : X.K = K := by rfl) (hM : X.mg = mg := by rfl) (hB : X.base = base := by rfl)
    (hg : Gl X C := by rfl) (hdb : (C == ("__debug__" : Str)) = false := by decide) (he : starEach (e :: es) X.env = (false, eval e X.env) :: starEach es X.env := by rfl) (hpl : (backTo pos (starEach es X.env)).any (·.1) = false := by rfl) :
    PE X (.Call (.Name C p) (e :: es) [] pos) (tMake (He.ga K C) sp [] E0 t) := by
  subst hP hw hK hM hB
  obtain ⟨fd, F, b⟩ := c.ok
  exact pe_make c.mk_ F hr hg c.g b .nil pass0 ha hdb he hpl
end
section
variable {P : Program} {w : World} {K : PySem.W.Frag} {mg : Str → Option Value} {base : Heap}
/-! ### Ground(p, n) -/
def spGround (K : PySem.W.Frag) : Sp := fun vs H Q _ => ∃ x dx H0 p, ∃ n : Nat, vs = [.ref x, .int p, .int n] ∧ H0 x = none ∧ H0 dx = none ∧ dx ≠ x ∧ H = upd (upd H0 dx (.own x)) x (.ins (CG K) dx []) ∧ GoodP p ∧
  ∀ H', Ex H0 H' → GrAt K H' (.ref x) p n → Q .non H'
theorem sc_Ground : FnScope ["self", "p", "n"] ["self", "p", "n"] (defScope s_Ground_init) := ⟨rfl, rfl, rfl, by decide +kernel, rfl, by decide +kernel, by decide +kernel⟩
theorem put_pn (p n : Int) : putF "length" (.int n) (putF "prime" (.int p) []) = [(("prime" : Str), V.int p), ("length", V.int n)] := by
  have e : ¬ (("prime" : Str) = ("length" : Str)) := by decide +kernel
  show putF ("length" : Str) (.int n) [(("prime" : Str), V.int p)] = _
  unfold putF
  rw [if_neg e]
  rfl
theorem cal_Ground (E : En K mg) : CalN P w K mg base 3 "Ground" ["self", "p", "n"] (spGround K) := by
  obtain ⟨fd, F, g, g2⟩ := E.c_Ground_init
  refine ⟨⟨fd, ?_, F.binds fun _ _ _ _ _ _ us hl => match us, hl with | [_, _, _], _ => rfl⟩, g, g2⟩
  refine F.ok sc_Ground (fun vs H Q E h => ?_) (fun cdv A outer s H vs Q E' hr h => ?_)
  · obtain ⟨x, dx, H0, p, n, rfl, _⟩ := h
    rfl
  · obtain ⟨x, dx, H0, p, n, rfl, hx, hdx, hne, rfl, hp, q⟩ := h
    refine ⟨_, pss_cons (ps_if (pt_not (pt_val (pe_cal (cal_is_prime (P := P) (w := w) (base := base) E) (hr.mono (by decide)) (pa_cons (pv 1) pa_nil)))) (pss_one ps_never) pss_nil)
      (pss_cons (ps_if (pt_not (pt_val (pe_cal (cal_is_number (P := P) (w := w) (base := base) E) (hr.mono (by decide)) (pa_cons (pv 2) pa_nil)))) (pss_one ps_never) pss_nil)
      (pss_cons (ps_fld (pv 0) (pv 1) rfl) (pss_one (ps_fld (pv 0) (pv 2) rfl)))), ?_⟩
    have e1 : Ex H0 (upd (upd H0 dx (.own x)) x (.ins (CG K) dx [])) := (Ex.new hdx).trans (Ex.new (by rw [upd_ne hne.symm]; exact hx))
    refine ⟨_, rfl, p, rfl, hp, _, rfl, iteF ⟨_, rfl, _, true, rfl, NumV.int (by omega), _, rfl, iteF ⟨_, rfl, _, rfl, x, _, dx, _, rfl, upd_same, E.clG, E.at_prime, by decide, _, rfl, _, rfl, x, _, dx, _, rfl, upd_same, E.clG, E.at_length, by show 1 < 1000; decide, ?_⟩⟩⟩
    rw [put_pn]
    exact q _ (Evl.Ex.mut (Evl.Ex.mut e1 hx) hx) ⟨x, dx, rfl, upd_same⟩
/-! ### code_fault, first_wrong -/
theorem sc_code_fault : FnScope ["ground", "value", "error"] ["ground", "value"] (defScope s_code_fault) := ⟨rfl, rfl, rfl, by decide +kernel, rfl, by decide +kernel, by decide +kernel⟩
theorem cal_code_fault (E : En K mg) : Cal P w K mg base 4 "code_fault" ["ground", "value"] (spCheck K) := by
  obtain ⟨fd, F, g⟩ := E.c_code_fault
  refine ⟨⟨fd, ?_, F.binds fun _ _ _ _ _ _ us hl => match us, hl with | [_, _], _ => rfl⟩, g, F.kp⟩
  refine F.ok sc_code_fault (fun vs H Q E h => ?_) (fun cdv A outer s H vs Q E' hr h => ?_)
  · obtain ⟨g, a, p, n, c, rfl, _⟩ := h
    rfl
  · obtain ⟨g, a, p, n, c, rfl, hg, ha, hc, q⟩ := h
    refine ⟨_, pss_cons (ps_try_thru0 (pss_one (ps_expr (pe_cal (cal_check_code (P := P) (w := w) (base := base) E) (hr.mono (by decide)) (pa_cons (pv 0) (pa_cons (pv 1) pa_nil)))))) (pss_one (ps_ret pe_non)), ?_⟩
    exact ⟨_, rfl, _, rfl, g, a, p, n, c, rfl, hg, ha, hc, fun H' e => q H' e⟩
/-- a nest as it is told -/
structure NestOk (p : Int) (n : Nat) (cs : List (List (List Int))) : Prop where
  len : cs.length = n - 1
  at_ : ∀ k c, cs[k]? = some c → CodeOk p n c ∧ c.length = k + 1
  up : ∀ k c d, cs[k]? = some c → cs[k + 1]? = some d → c.all (inC p n d) = true
def prevC (cs : List (List (List Int))) : Nat → List (List Int)
  | 0 => []
  | i + 1 => cs.getD i []
theorem prev_ok {p : Int} {n : Nat} {cs : List (List (List Int))} (h : NestOk p n cs) {i : Nat} {c : List (List Int)} (hi : cs[i]? = some c) : (∀ r ∈ prevC cs i, IsRow p n r) ∧ (prevC cs i).length ≤ n ∧ (prevC cs i).all (inC p n c) = true := by
  match i with
  | 0 => exact ⟨fun r m => (by simp [prevC] at m), Nat.zero_le _, rfl⟩
  | i + 1 =>
    have hl : i < cs.length := by
      have := (List.getElem?_eq_some_iff.mp hi).1
      omega
    have e : cs[i]? = some (prevC cs (i + 1)) := by
      show cs[i]? = some (cs.getD i [])
      rw [List.getD_eq_getElem?_getD, List.getElem?_eq_getElem hl]
      rfl
    obtain ⟨h1, _⟩ := h.at_ i _ e
    exact ⟨h1.red.row, h1.len, h.up i _ _ e hi⟩
theorem dp_prev {K : PySem.W.Frag} {H : Hp} {cs : List (List (List Int))} {i : Nat} {c : List (List Int)} {v : V} (hi : cs[i]? = some c) (h : Dp K H v (codeD c)) : Dp K H v (codeD (prevC cs (i + 1))) := by
  have e : prevC cs (i + 1) = c := by
    show cs.getD i [] = c
    rw [List.getD_eq_getElem?_getD, hi]
    rfl
  rw [e]
  exact h
def spFirst (K : PySem.W.Frag) : Sp := fun vs H Q _ => ∃ g a p, ∃ n : Nat, ∃ cs, vs = [g, a] ∧ GrAt K H g p n ∧ GoodP p ∧ n ≤ 100 ∧ Dp K H a (.list (cs.map codeD)) ∧ NestOk p n cs ∧ ∀ H', Ex H H' → Q .non H'
theorem sc_first_wrong : FnScope ["ground", "codes", "before", "k", "code", "path"] ["ground", "codes"] (defScope s_first_wrong) := ⟨rfl, rfl, rfl, by decide +kernel, rfl, by decide +kernel, by decide +kernel⟩
theorem k_lt_any : PySem.W.kitAny K (.type "list") [.type "list", .type "tuple"] = some true := by
  have k1 : PySem.W.kitOne K (.type "list") (.type "list") = some true := kit_ty (by decide +kernel)
  simp only [PySem.W.kitAny, k1]
  try rfl
theorem cal_first_wrong (E : En K mg) : Cal P w K mg base 7 "first_wrong" ["ground", "codes"] (spFirst K) := by
  obtain ⟨fd, F, g⟩ := E.c_first_wrong
  refine ⟨⟨fd, ?_, F.binds fun _ _ _ _ _ _ us hl => match us, hl with | [_, _], _ => rfl⟩, g, F.kp⟩
  refine F.ok sc_first_wrong (fun vs H Q E h => ?_) (fun cdv A outer s H vs Q E' hr h => ?_)
  · obtain ⟨g, a, p, n, c, rfl, _⟩ := h
    rfl
  · obtain ⟨g, a, p, n, cs, rfl, hg, hp, hn, ha, hcs, q⟩ := h
    obtain ⟨a, xs, rfl, ta, hxs⟩ := dp_lst ha
    have lxs : xs.length = cs.length := dps_mapl hxs
    refine ⟨_, pss_cons (ps_if (pw_or (pt_not (pt_val (pe_callB call_isiT (by rfl) E.n_isinstance (by decide +kernel) (pa_cons (pv 1) (pa_cons (pe_tup (pa_cons (pe_bltn (v := .ty "list") (by rfl) E.n_list (by decide +kernel) rfl) (pa_cons (pe_bltn (v := .ty "tuple") (by rfl) E.n_tuple (by decide +kernel) rfl) pa_nil))) pa_nil)))))
        (pw_or1 (pt_cmpR op_ne (pe_callB (cb_len K) (by rfl) E.n_len (by decide +kernel) (pa_cons (pv 1) pa_nil)) (pe_callB (call_max2 rfl) (by rfl) E.n_max (by decide +kernel) (pa_cons pe_int (pa_cons (pe_op op_sub (pe_calM0 E.clG (cal_Gn (P := P) (w := w) (base := base) E) (hr.mono (by decide)) (pv 0)) pe_int) pa_nil))) (nomark _)))).pt (pss_one ps_never) pss_nil)
      (pss_cons (ps_set (i := 2) sc_first_wrong.nd rfl (.inl rfl) (pe_tup pa_nil))
      (pss_cons (ps_for PassesOwn.never rfl (pi_enum (by rfl) E.n_enumerate (pa_cons (pv 1) pa_nil)) (pg_tup rfl (pgs_cons (pg_name (i := 3) sc_first_wrong.nd rfl (.inl rfl)) (pgs_cons (pg_name (i := 4) sc_first_wrong.nd rfl (.inl rfl)) pgs_nil)))
        (pss_cons (ps_set (i := 5) sc_first_wrong.nd rfl (.inl rfl) (pe_cal (cal_code_fault (P := P) (w := w) (base := base) E) (hr.mono (by decide)) (pa_cons (pv 0) (pa_cons (pv 4) pa_nil))))
        (pss_cons (ps_if (pt_cmpR op_notN (pv 5) pe_non (nomark _)) (pss_one ps_never) pss_nil)
        (pss_cons (ps_if (pw_or (pt_cmpR op_ne (pe_callB (cb_len K) (by rfl) E.n_len (by decide +kernel) (pa_cons (pv 4) pa_nil)) (pe_op op_add (pv 3) pe_int) (nomark _))
          (pw_or1 (pt_not (pt_val (pe_cal (cal_is_within (P := P) (w := w) (base := base) E) (hr.mono (by decide)) (pa_cons (pv 0) (pa_cons (pv 2) (pa_cons (pv 4) pa_nil)))))))).pt (pss_one ps_never) pss_nil)
        (pss_one (ps_set (i := 2) sc_first_wrong.nd rfl (.inl rfl) (pv 4)))))))
      (pss_one (ps_ret pe_non)))), ?_⟩
    refine ⟨_, rfl, by show 2 ≤ sizeLine; decide, fun T hT => ?_⟩
    have e0 : Ex H (upd H T (.tup [.ty "list", .ty "tuple"])) := Ex.new hT
    refine ⟨_, T, _, _, _, _, rfl, upd_same, .cons (.ty _) (.cons (.ty _) .nil), tyx_lst (Evl.ex_l e0 ta), k_lt_any, _, rfl, iteF ⟨_, rfl, a, xs, rfl, .inl (Evl.ex_l e0 ta), in_gn rfl (hg.mono e0) ⟨_, _, rfl, rfl, _, _, rfl, rfl, _, rfl, ?_⟩⟩⟩
    have hl : ((xs.length : Nat) : Int) = if (n : Int) - 1 > 0 then (n : Int) - 1 else 0 := by
      have := hcs.len
      split <;> omega
    rw [decide_eq_true (congrArg V.int hl)]
    refine iteF ⟨by show 0 ≤ sizeLine; decide, fun T2 hT2 => ?_⟩
    have e1 : Ex H (upd (upd H T (.tup [.ty "list", .ty "tuple"])) T2 (.tup [])) := e0.trans (Ex.new hT2)
    refine ⟨_, rfl, a, xs, rfl, Evl.ex_l e1 ta, ?_⟩
    refine for_it walk_enum (fun i σ H' => ∃ b x y z, σ = [some g, some (.ref a), some b, x, y, z] ∧ Ex H H' ∧ Dp K H' b (codeD (prevC cs i))) ⟨_, none, none, none, rfl, e1, .tup (.inl (.inl upd_same)) .nil⟩ (fun i σ H' _ z => by obtain ⟨_, _, _, _, _, e, _⟩ := z; exact Evl.ex_l e ta) ?_ ?_
    · rintro i x σ H1 H2 hi ⟨b, x0, y0, z0, rfl, e, hb⟩ ⟨T, x1, x2, rfl, hT, rfl, h1, h2⟩
      have e1 : x1 = .int (i : Nat) := (Option.some.inj h1).symm
      subst e1
      have e3 := e.trans (Ex.new (o := .tup [V.int (i : Nat), x2]) hT)
      obtain ⟨c, er, hd⟩ := ls_at (dps_mono e3 _ _ hxs) h2
      obtain ⟨cok, clen⟩ := hcs.at_ i c er
      have n2 : 2 ≤ n := by
        have := hcs.len
        omega
      have hgl : GrOk K (upd H1 T (.tup [V.int (i : Nat), x2])) g p n := ⟨hg.mono e3, hp, n2, hn⟩
      obtain ⟨p1, p2, p3⟩ := prev_ok hcs er
      refine ⟨T, _, rfl, .inl (.inl upd_same), rfl, _, _, rfl, _, _, rfl, rfl, _, rfl, _, rfl, g, x2, p, n, c, rfl, hgl, hd, cok, fun H3 e4 => ⟨_, rfl, rfl, _, rfl, iteF ?_⟩⟩
      obtain ⟨b2, ys, rfl, tb, hys⟩ := dp_tup hd
      refine ⟨_, rfl, b2, ys, rfl, .inr (Evl.ex_t e4 tb), _, rfl, _, _, rfl, rfl, rfl, _, rfl, ?_⟩
      rw [decide_eq_true (by rw [dps_mapl hys, clen]; rfl)]
      refine iteF ⟨_, rfl, _, rfl, _, rfl, g, b, _, p, n, prevC cs i, c, rfl, hgl.mono e4, LsAt.tup (dp_codemono ((Ex.new hT).trans e4) hb), p1, by omega, LsAt.tup (dp_codemono e4 hd), cok.red.piv, fun H4 e5 => ?_⟩
      rw [p3]
      exact ⟨_, rfl, iteF ⟨_, rfl, _, _, _, _, rfl, (e3.trans e4).trans e5, dp_prev er (dp_codemono (e4.trans e5) hd)⟩⟩
    · rintro σ H' ⟨b, x0, y0, z0, rfl, e, hb⟩
      exact q _ e
end
end Cn
/-! The unit rows; codes by their ranks. -/
namespace Cn
section
variable {p : Int} {n : Nat}
def unitR (n k : Nat) : List Int := mk n fun c => if k = c then 1 else 0
theorem unitsL_eq (n : Nat) : unitsL n = (List.range n).map (unitR n) := rfl
theorem unit_get {k : Nat} (hk : k < n) (i : Nat) : (unitR n k).getD i 0 = if k = i then 1 else 0 := by
  unfold unitR
  rw [mk_get]
  by_cases h : i < n
  · rw [if_pos h]
  · rw [if_neg h, if_neg (by omega)]
theorem unit_row (hp : 2 ≤ p) {k : Nat} (hk : k < n) : IsRow p n (unitR n k) := by
  refine ⟨mk_len _ _, fun i => ?_, fun i => ?_⟩ <;> rw [unit_get hk] <;> split <;> omega
theorem unit_piv {k : Nat} (hk : k < n) : pivO (unitR n k) = some k := by
  refine pivO_iff.mpr ⟨?_, fun j hj => ?_⟩
  · rw [unit_get hk, if_pos rfl]
    decide
  · rw [unit_get hk, if_neg (by omega)]
theorem units_red (hp : 2 ≤ p) (n : Nat) : Red p n (unitsL n) := by
  refine ⟨fun r m => ?_, fun r m => ?_, ?_⟩
  · obtain ⟨k, hk, rfl⟩ := List.mem_map.mp m
    exact unit_row hp (List.mem_range.mp hk)
  · obtain ⟨k, hk, rfl⟩ := List.mem_map.mp m
    have hk := List.mem_range.mp hk
    have h := unit_piv hk
    show pivO (unitR n k) ≠ none ∧ (unitR n k).getD (piv (unitR n k)) 0 = 1
    rw [piv_of h, h, unit_get hk, if_pos rfl]
    exact ⟨by simp, rfl⟩
  · rw [unitsL_eq, List.pairwise_map]
    refine List.Pairwise.imp_of_mem ?_ (List.pairwise_lt_range (n := n))
    intro a b ma mb hab
    have ha := List.mem_range.mp ma
    have hb := List.mem_range.mp mb
    rw [piv_of (unit_piv ha), piv_of (unit_piv hb), unit_get ha, unit_get hb, if_neg (by omega), if_neg (by omega)]
    exact ⟨rfl, rfl⟩
theorem units_len (n : Nat) : (unitsL n).length = n := by rw [unitsL_eq, List.length_map, List.length_range]
theorem units_ok (hp : 2 ≤ p) (n : Nat) : CodeOk p n (unitsL n) := by
  refine ⟨units_red hp n, ?_, by rw [units_len]; exact Nat.le_refl _⟩
  rw [unitsL_eq, List.pairwise_map]
  refine List.Pairwise.imp_of_mem ?_ (List.pairwise_lt_range (n := n))
  intro a b ma mb hab
  rw [piv_of (unit_piv (List.mem_range.mp ma)), piv_of (unit_piv (List.mem_range.mp mb))]
  exact hab
theorem nil_ok (p : Int) (n : Nat) : CodeOk p n [] := ⟨Red.nil, .nil, Nat.zero_le _⟩
end
end Cn
namespace Cn
open PySem PySem.Spec PyProof.Rows L2
open Evl (Ex)
section
variable {P : Program} {w : World} {K : PySem.W.Frag} {mg : Str → Option Value} {base : Heap}
/-! ### Nest(ground, codes) -/
def spNest (K : PySem.W.Frag) : Sp := fun vs H Q _ => ∃ x dx H0 g c p, ∃ n : Nat, ∃ cs, vs = [.ref x, g, c] ∧ H0 x = none ∧ H0 dx = none ∧ dx ≠ x ∧ H = upd (upd H0 dx (.own x)) x (.ins (CN K) dx []) ∧ GrAt K H0 g p n ∧ GoodP p ∧ n ≤ 100 ∧ Dp K H0 c (.list (cs.map codeD)) ∧ NestOk p n cs ∧
  ∀ H', Ex H0 H' → NeAt K H' (.ref x) p n cs → Q .non H'
theorem sc_Nest : FnScope ["self", "ground", "codes", "path"] ["self", "ground", "codes"] (defScope s_Nest_init) := ⟨rfl, rfl, rfl, by decide +kernel, rfl, by decide +kernel, by decide +kernel⟩
theorem ne_gc : ¬ (("own_ground" : Str) = ("own_codes" : Str)) := by decide +kernel
theorem put_gc (g c : V) : putF "own_codes" c (putF "own_ground" g []) = [(("own_ground" : Str), g), ("own_codes", c)] := by
  show putF ("own_codes" : Str) c [(("own_ground" : Str), g)] = _
  unfold putF
  rw [if_neg ne_gc]
  rfl
theorem cal_Nest (E : En K mg) : CalN P w K mg base 8 "Nest" ["self", "ground", "codes"] (spNest K) := by
  obtain ⟨fd, F, g, g2⟩ := E.c_Nest_init
  refine ⟨⟨fd, ?_, F.binds fun _ _ _ _ _ _ us hl => match us, hl with | [_, _, _], _ => rfl⟩, g, g2⟩
  refine F.ok sc_Nest (fun vs H Q E h => ?_) (fun cdv A outer s H vs Q E' hr h => ?_)
  · obtain ⟨x, dx, H0, g, c, p, n, cs, rfl, _⟩ := h
    rfl
  · obtain ⟨x, dx, H0, g, c, p, n, cs, rfl, hx, hdx, hne, rfl, hg, hp, hn, hc, hok, q⟩ := h
    refine ⟨_, pss_cons (ps_set (i := 3) sc_Nest.nd rfl (.inl rfl) (pe_cal (cal_first_wrong (P := P) (w := w) (base := base) E) (hr.mono (by decide)) (pa_cons (pv 1) (pa_cons (pv 2) pa_nil))))
      (pss_cons (ps_if (pt_cmpR op_notN (pv 3) pe_non (nomark _)) (pss_one ps_never) pss_nil)
      (pss_cons (ps_fld (pv 0) (pv 1) rfl) (pss_one (ps_fld (pv 0) (pe_callTy call_tuple_of (by rfl) E.n_tuple (by decide +kernel) (pa_cons (pv 2) pa_nil)) rfl)))), ?_⟩
    have e1 : Ex H0 (upd (upd H0 dx (.own x)) x (.ins (CN K) dx [])) := (Ex.new hdx).trans (Ex.new (by rw [upd_ne hne.symm]; exact hx))
    refine ⟨_, rfl, _, rfl, g, c, p, n, cs, rfl, hg.mono e1, hp, hn, dp_mono e1 _ _ hc, hok, fun H2 e2 => ⟨_, rfl, rfl, _, rfl, iteF ?_⟩⟩
    have hx2 : H2 x = some (.ins (CN K) dx []) := e2 _ _ upd_same
    refine ⟨_, rfl, _, rfl, x, _, dx, _, rfl, hx2, E.clN, E.at_own_ground, by show 0 < 1000; decide, ?_⟩
    have e3 : Ex H0 (upd H2 x (.ins (CN K) dx (putF "own_ground" g []))) := Evl.Ex.mut (e1.trans e2) hx
    obtain ⟨c, xs, rfl, tc, hxs⟩ := dp_lst hc
    refine ⟨_, rfl, c, xs, rfl, .inl ⟨Evl.ex_l e3 tc, fun l hl => ⟨_, rfl, x, _, dx, _, rfl, (by rw [upd_ne (ne_of_none upd_same hl)]; exact upd_same), E.clN, E.at_own_codes, by show 1 < 1000; decide, ?_⟩⟩⟩
    rw [put_gc]
    have e4 : Ex H0 (upd (upd H2 x (.ins (CN K) dx (putF "own_ground" g []))) l (.tup xs)) := e3.trans (Ex.new hl)
    have e5 := Evl.Ex.mut (o := .ins (CN K) dx [(("own_ground" : Str), g), ("own_codes", .ref l)]) e4 hx
    have lx : l ≠ x := fun z => by rw [z, upd_same] at hl; cases hl
    refine q _ e5 ⟨x, dx, g, .ref l, rfl, upd_same, hg.mono e5, .tup (.inl (.inl (by rw [upd_ne lx]; exact upd_same))) ?_⟩
    exact dps_mono e5 _ _ hxs
/-! ### its methods -/
theorem look_g (g c : V) : List.lookup ("own_ground" : Str) [(("own_ground" : Str), g), ("own_codes", c)] = some g := by simp [List.lookup]
theorem ne_cg : (("own_codes" : Str) == ("own_ground" : Str)) = false := by decide +kernel
theorem look_c (g c : V) : List.lookup ("own_codes" : Str) [(("own_ground" : Str), g), ("own_codes", c)] = some c := by
  simp only [List.lookup, ne_cg]
  simp
theorem ne_no {m : Str} (h1 : (m == ("own_ground" : Str)) = false) (h2 : (m == ("own_codes" : Str)) = false) (g c : V) : List.lookup m [(("own_ground" : Str), g), ("own_codes", c)] = none := by
  simp only [List.lookup, h1, h2]
def spNground (K : PySem.W.Frag) : Sp := fun vs H Q _ => ∃ v p, ∃ n : Nat, ∃ cs, vs = [v] ∧ NeAt K H v p n cs ∧ ∀ g, GrAt K H g p n → Q g H
theorem sc_Nground : FnScope ["self"] ["self"] (defScope s_Nest_ground) := ⟨rfl, rfl, rfl, by decide +kernel, rfl, by decide +kernel, by decide +kernel⟩
theorem cal_Nground (E : En K mg) : CalM P w K mg base 1 "Nest" "ground" ["self"] (spNground K) := by
  obtain ⟨fd, F, g⟩ := E.c_Nest_ground
  refine ⟨⟨fd, ?_, F.binds fun _ _ _ _ _ _ us hl => match us, hl with | [_], _ => rfl⟩, g⟩
  refine F.ok sc_Nground (fun vs H Q E h => ?_) (fun cdv A outer s H vs Q E' hr h => ?_)
  · obtain ⟨v, p, n, cs, rfl, _⟩ := h
    rfl
  · obtain ⟨v, p, n, cs, rfl, ⟨a, dx, g, c, rfl, ha, hg, hc⟩, q⟩ := h
    exact ⟨_, pss_one (ps_ret (pe_fld (pv 0) rfl)), _, rfl, a, _, dx, _, _, rfl, ha, E.clN, E.at_own_ground, look_g g c, q g hg⟩
def spNcodes (K : PySem.W.Frag) : Sp := fun vs H Q _ => ∃ v p, ∃ n : Nat, ∃ cs, vs = [v] ∧ NeAt K H v p n cs ∧ ∀ l xs, H l = none → DpAll K H xs (cs.map codeD) → Q (.ref l) (upd H l (.lst xs))
theorem sc_Ncodes : FnScope ["self"] ["self"] (defScope s_Nest_codes) := ⟨rfl, rfl, rfl, by decide +kernel, rfl, by decide +kernel, by decide +kernel⟩
theorem cal_Ncodes (E : En K mg) : CalM P w K mg base 1 "Nest" "codes" ["self"] (spNcodes K) := by
  obtain ⟨fd, F, g⟩ := E.c_Nest_codes
  refine ⟨⟨fd, ?_, F.binds fun _ _ _ _ _ _ us hl => match us, hl with | [_], _ => rfl⟩, g⟩
  refine F.ok sc_Ncodes (fun vs H Q E h => ?_) (fun cdv A outer s H vs Q E' hr h => ?_)
  · obtain ⟨v, p, n, cs, rfl, _⟩ := h
    rfl
  · obtain ⟨v, p, n, cs, rfl, ⟨a, dx, g, c, rfl, ha, hg, hc⟩, q⟩ := h
    obtain ⟨c, xs, rfl, tc, hxs⟩ := dp_tup hc
    exact ⟨_, pss_one (ps_ret (pe_callTy (ct_list K) (by rfl) E.n_list (by decide +kernel) (pa_cons (pe_fld (pv 0) rfl) pa_nil))), _, rfl, a, _, dx, _, _, rfl, ha, E.clN, E.at_own_codes, look_c g _, c, xs, rfl, .inr tc, fun l hl => q l xs hl hxs⟩
def codeAt (n : Nat) (cs : List (List (List Int))) (i : Nat) : List (List Int) := if i = 0 then [] else if i = n then unitsL n else cs.getD (i - 1) []
def spNcode (K : PySem.W.Frag) : Sp := fun vs H Q _ => ∃ v p, ∃ n i : Nat, ∃ cs, vs = [v, .int i] ∧ NeAt K H v p n cs ∧ cs.length = n - 1 ∧ n ≤ 100 ∧ i ≤ n ∧ ∀ v H', Ex H H' → Dp K H' v (codeD (codeAt n cs i)) → Q v H'
theorem sc_Ncode : FnScope ["self", "i", "n"] ["self", "i"] (defScope s_Nest_code) := ⟨rfl, rfl, rfl, by decide +kernel, rfl, by decide +kernel, by decide +kernel⟩
theorem cal_Ncode (E : En K mg) : CalM P w K mg base 2 "Nest" "code" ["self", "i"] (spNcode K) := by
  obtain ⟨fd, F, g⟩ := E.c_Nest_code
  refine ⟨⟨fd, ?_, F.binds fun _ _ _ _ _ _ us hl => match us, hl with | [_, _], _ => rfl⟩, g⟩
  refine F.ok sc_Ncode (fun vs H Q E h => ?_) (fun cdv A outer s H vs Q E' hr h => ?_)
  · obtain ⟨v, p, n, i, cs, rfl, _⟩ := h
    rfl
  · obtain ⟨v, p, n, i, cs, rfl, ⟨a, dx, g, c, rfl, ha, hg, hc⟩, hcl, hn, hi, q⟩ := h
    obtain ⟨c, xs, rfl, tc, hxs⟩ := dp_tup hc
    obtain ⟨ga, gdx, rfl, hga⟩ := id hg
    refine ⟨_, pss_cons (ps_set (i := 2) sc_Ncode.nd rfl (.inl rfl) (pe_calM0 E.clG (cal_Gn (P := P) (w := w) (base := base) E) (hr.mono (by decide)) (pe_fld (pv 0) rfl)))
      (pss_cons (ps_if (pw_or (pt_not (pt_val (pe_cal (cal_is_number (P := P) (w := w) (base := base) E) (hr.mono (by decide)) (pa_cons (pv 1) pa_nil)))) (pw_or1 (pt_cmpR op_gt (pv 1) (pv 2) (nomark _)))).pt (pss_one ps_never) pss_nil)
      (pss_cons (ps_if (pt_cmpR op_eq (pv 1) pe_int (nomark _)) (pss_one (ps_ret (pe_tup pa_nil))) pss_nil)
      (pss_one (ps_ret (pe_ifExp (pt_cmpR op_eq (pv 1) (pv 2) (nomark _)) (pe_calM0 E.clG (cal_Gunits (P := P) (w := w) (base := base) E) (hr.mono (by decide)) (pe_fld (pv 0) rfl)) (pe_ix (ixt K) (pe_fld (pv 0) rfl) (pe_op op_sub (pv 1) pe_int) (fun _ _ => rfl))))))), ?_⟩
    refine ⟨_, rfl, a, _, dx, _, _, rfl, ha, E.clN, E.at_own_ground, look_g _ _, ga, gdx, _, rfl, hga, gr_no (by decide +kernel) (by decide +kernel) p n, _, p, n, rfl, hg, ?_⟩
    refine ⟨_, rfl, _, true, rfl, NumV.int (by omega), _, rfl, iteF ⟨_, rfl, _, rfl, _, _, rfl, rfl, _, rfl, ?_⟩⟩
    rw [decide_eq_false (by omega)]
    refine iteF ⟨_, rfl, rfl, _, rfl, ?_⟩
    rcases Nat.eq_zero_or_pos i with h0 | h0
    · subst h0
      refine iteT ⟨by show 0 ≤ sizeLine; decide, fun T hT => q _ _ (Ex.new hT) (.tup (.inl (.inl upd_same)) .nil)⟩
    · rw [decide_eq_false (fun z => by have := V.int.inj z; omega)]
      refine iteF ⟨_, rfl, _, rfl, rfl, _, rfl, ?_⟩
      by_cases hin : i = n
      · rw [decide_eq_true (congrArg V.int (congrArg Nat.cast hin))]
        refine iteT ⟨_, rfl, a, _, dx, _, _, rfl, ha, E.clN, E.at_own_ground, look_g _ _, ga, gdx, _, rfl, hga, gr_no (by decide +kernel) (by decide +kernel) p n, _, p, n, rfl, hg, hn, fun v H' e hv => q v H' e ?_⟩
        unfold codeAt
        rw [if_neg (by omega), if_pos hin]
        exact hv
      · rw [decide_eq_false (fun z => hin (by have := V.int.inj z; omega))]
        have hi1 : i - 1 < xs.length := by
          rw [dps_mapl hxs]
          omega
        obtain ⟨d, er, hd⟩ := ls_at hxs (List.getElem?_eq_getElem hi1)
        refine iteF ⟨_, rfl, a, _, dx, _, _, rfl, ha, E.clN, E.at_own_codes, look_c _ _, _, rfl, _, _, rfl, rfl, c, xs, _, xs[i - 1]'hi1, rfl, rfl, tc, ?_, q _ _ (Ex.refl _) ?_⟩
        · rw [show ((i : Int) - 1) = ((i - 1 : Nat) : Int) by omega]
          exact atI_nat (List.getElem?_eq_getElem hi1)
        · unfold codeAt
          rw [if_neg (by omega), if_neg hin, List.getD_eq_getElem?_getD, er]
          exact hd
/-- nest.ground(), nest.code(i) -/
theorem in_ng {i : Nat} {σ : L2.St} {H : Hp} {Q : VK} {v : V} {p : Int} {n : Nat} {cs : List (List (List Int))} (hi : σ[i]? = some (some v)) (hg : NeAt K H v p n cs) (q : ∀ g, GrAt K H g p n → Q g H) : tMeth (He.ga K "Nest") "ground" (spNground K) [] E0 (tVar i) tNil σ H Q := by
  obtain ⟨a, dx, g, c, rfl, ha, h⟩ := id hg
  exact ⟨_, hi, a, dx, _, rfl, ha, ne_no (by decide +kernel) (by decide +kernel) _ _, _, p, n, cs, rfl, hg, q⟩
theorem in_ncode {i : Nat} {σ : L2.St} {H : Hp} {Q : VK} {v : V} {p : Int} {n : Nat} {cs : List (List (List Int))} {t : TA} (hi : σ[i]? = some (some v)) (hg : NeAt K H v p n cs) (q : t σ H fun vs H2 => spNcode K (v :: (vs ++ [])) H2 Q E0) : tMeth (He.ga K "Nest") "code" (spNcode K) [] E0 (tVar i) t σ H Q := by
  obtain ⟨a, dx, g, c, rfl, ha, h⟩ := id hg
  exact ⟨_, hi, a, dx, _, rfl, ha, ne_no (by decide +kernel) (by decide +kernel) _ _, q⟩
theorem in_ncodes {i : Nat} {σ : L2.St} {H : Hp} {Q : VK} {v : V} {p : Int} {n : Nat} {cs : List (List (List Int))} (hi : σ[i]? = some (some v)) (hg : NeAt K H v p n cs) (q : ∀ l xs, H l = none → DpAll K H xs (cs.map codeD) → Q (.ref l) (upd H l (.lst xs))) : tMeth (He.ga K "Nest") "codes" (spNcodes K) [] E0 (tVar i) tNil σ H Q := by
  obtain ⟨a, dx, g, c, rfl, ha, h⟩ := id hg
  exact ⟨_, hi, a, dx, _, rfl, ha, ne_no (by decide +kernel) (by decide +kernel) _ _, _, p, n, cs, rfl, hg, q⟩
/-- ground's method of what a nest's ground() gave -/
theorem in_ngn {i : Nat} {σ : L2.St} {H : Hp} {Q : VK} {v : V} {p : Int} {n : Nat} {cs : List (List (List Int))} (hi : σ[i]? = some (some v)) (hg : NeAt K H v p n cs) (q : Q (.int n) H) : tMeth (He.ga K "Ground") "n" (spGn K) [] E0 (tMeth (He.ga K "Nest") "ground" (spNground K) [] E0 (tVar i) tNil) tNil σ H Q :=
  in_ng hi hg fun g hg2 => by
    obtain ⟨ga, gdx, rfl, hga⟩ := id hg2
    exact ⟨ga, gdx, _, rfl, hga, gr_no (by decide +kernel) (by decide +kernel) p n, _, p, n, rfl, hg2, q⟩
/-! ### is_level -/
def spIsLevel (K : PySem.W.Frag) : Sp := fun vs H Q _ => ∃ v x p, ∃ n : Nat, ∃ cs, vs = [v, x] ∧ NeAt K H v p n cs ∧ ((∃ i : Int, x = .int i ∧ Q (.bl (decide (0 < i ∧ i < n))) H) ∨ (NumV K H x false ∧ (∀ i, x ≠ .int i) ∧ Q (.bl false) H))
theorem sc_is_level : FnScope ["nest", "value"] ["nest", "value"] (defScope s_is_level) := ⟨rfl, rfl, rfl, by decide +kernel, rfl, by decide +kernel, by decide +kernel⟩
theorem cal_is_level (E : En K mg) : Cal P w K mg base 2 "is_level" ["nest", "value"] (spIsLevel K) := by
  obtain ⟨fd, F, g⟩ := E.c_is_level
  refine ⟨⟨fd, ?_, F.binds fun _ _ _ _ _ _ us hl => match us, hl with | [_, _], _ => rfl⟩, g, F.kp⟩
  refine F.ok sc_is_level (fun vs H Q E h => ?_) (fun cdv A outer s H vs Q E' hr h => ?_)
  · obtain ⟨v, x, p, n, cs, rfl, _⟩ := h
    rfl
  · obtain ⟨v, x, p, n, cs, rfl, hv, h⟩ := h
    refine ⟨_, pss_one (ps_ret (pe_and (pe_cal (cal_is_number (P := P) (w := w) (base := base) E) (hr.mono (by decide)) (pa_cons (pv 1) pa_nil)) (pe_one (pe_chain op_lt op_lt pe_int (pv 1) (pe_calM0 E.clG (cal_Gn (P := P) (w := w) (base := base) E) (hr.mono (by decide)) (pe_calM0 E.clN (cal_Nground (P := P) (w := w) (base := base) E) (hr.mono (by decide)) (pv 0))))))), ?_⟩
    rcases h with ⟨i, rfl, q⟩ | ⟨hx, hne, q⟩
    · refine ⟨_, rfl, _, decide (0 ≤ i), rfl, .inl ⟨i, rfl, rfl⟩, _, rfl, ?_⟩
      by_cases h0 : 0 ≤ i
      · rw [decide_eq_true h0]
        refine iteT ⟨_, rfl, _, _, rfl, rfl, _, rfl, ?_⟩
        by_cases h1 : 0 < i
        · rw [decide_eq_true h1]
          refine iteT (in_ngn rfl hv ⟨_, _, rfl, rfl, ?_⟩)
          have e : decide (0 < i ∧ i < n) = decide (i < n) := by simp [h1]
          rw [e] at q
          exact q
        · rw [decide_eq_false h1]
          rw [decide_eq_false (fun z => h1 z.1)] at q
          exact iteF q
      · rw [decide_eq_false h0]
        rw [decide_eq_false (fun z => h0 (by omega))] at q
        exact iteF q
    · exact ⟨_, rfl, _, false, rfl, hx, _, rfl, iteF q⟩
end
end Cn
namespace Cn
open PySem PySem.Spec PyProof.Rows L2
open Evl (Ex)
section
variable {P : Program} {w : World} {K : PySem.W.Frag} {mg : Str → Option Value} {base : Heap}
theorem codeAt_ok {p : Int} {n : Nat} {cs : List (List (List Int))} (hp : 2 ≤ p) (h : NestOk p n cs) {i : Nat} (hi : i ≤ n) : CodeOk p n (codeAt n cs i) ∧ (codeAt n cs i).length = i := by
  unfold codeAt
  by_cases h0 : i = 0
  · rw [if_pos h0]
    exact ⟨nil_ok p n, h0.symm⟩
  · rw [if_neg h0]
    by_cases hn : i = n
    · rw [if_pos hn]
      exact ⟨units_ok hp n, by rw [units_len, hn]⟩
    · rw [if_neg hn]
      have hl : i - 1 < cs.length := by
        have := h.len
        omega
      have e : cs[i - 1]? = some (cs.getD (i - 1) []) := by
        rw [List.getD_eq_getElem?_getD, List.getElem?_eq_getElem hl]
        rfl
      obtain ⟨h1, h2⟩ := h.at_ _ _ e
      exact ⟨h1, by omega⟩
/-- a deed that can be done -/
structure DeedOk (p : Int) (n : Nat) (cs : List (List (List Int))) (i : Nat) (c : List (List Int)) : Prop where
  lo : 1 ≤ i
  hi : i < n
  ok : CodeOk p n c
  len : c.length = i
  ne : c ≠ codeAt n cs i
  down : (codeAt n cs (i - 1)).all (inC p n c) = true
  up : c.all (inC p n (codeAt n cs (i + 1))) = true
def deedD (i : Nat) (c : List (List Int)) : PyData := .tuple [.int (i : Nat), codeD c]
def spIsDeed (K : PySem.W.Frag) : Sp := fun vs H Q _ => ∃ v d p, ∃ n i : Nat, ∃ cs c, vs = [v, d] ∧ NeAt K H v p n cs ∧ GoodP p ∧ n ≤ 100 ∧ NestOk p n cs ∧ Dp K H d (deedD i c) ∧ DeedOk p n cs i c ∧ ∀ H', Ex H H' → Q (.bl true) H'
theorem sc_is_deed : FnScope ["nest", "value", "level", "code"] ["nest", "value"] (defScope s_is_deed) := ⟨rfl, rfl, rfl, by decide +kernel, rfl, by decide +kernel, by decide +kernel⟩
theorem dp_deed {H : Hp} {v : V} {i : Nat} {c : List (List Int)} (h : Dp K H v (deedD i c)) : ∃ a b, v = .ref a ∧ SqT K H a [.int (i : Nat), b] ∧ Dp K H b (codeD c) := by
  obtain ⟨a, xs, rfl, ha, hd⟩ := dp_tup h
  cases hd with
  | cons h1 h2 =>
    cases h2 with
    | cons h3 h4 =>
      cases h4
      rw [dp_int h1] at ha
      exact ⟨a, _, rfl, ha, h3⟩
theorem cal_is_deed (E : En K mg) : Cal P w K mg base 7 "is_deed" ["nest", "value"] (spIsDeed K) := by
  obtain ⟨fd, F, g⟩ := E.c_is_deed
  refine ⟨⟨fd, ?_, F.binds fun _ _ _ _ _ _ us hl => match us, hl with | [_, _], _ => rfl⟩, g, F.kp⟩
  refine F.ok sc_is_deed (fun vs H Q E h => ?_) (fun cdv A outer s H vs Q E' hr h => ?_)
  · obtain ⟨v, d, p, n, i, cs, c, rfl, _⟩ := h
    rfl
  · obtain ⟨v, d, p, n, i, cs, c, rfl, hv, hp, hn, hns, hd, ⟨h1, h2, h3, h4, h5, h6, h7⟩, q⟩ := h
    obtain ⟨a, b, rfl, ta, hb⟩ := dp_deed hd
    have hu := hr.units
    have p2 := hp.two
    refine ⟨_, pss_cons (ps_if (pw_or (pt_not (pt_val (pe_callB (cb_isi K) (by rfl) E.n_isinstance (by decide +kernel) (pa_cons (pv 1) (pa_cons (pe_bltn (v := .ty "tuple") (by rfl) E.n_tuple (by decide +kernel) rfl) pa_nil)))))
        (pw_or (pt_cmpR op_ne (pe_callB (cb_len K) (by rfl) E.n_len (by decide +kernel) (pa_cons (pv 1) pa_nil)) pe_int (nomark _))
        (pw_or1 (pt_not (pt_val (pe_cal (cal_is_level (P := P) (w := w) (base := base) E) (hr.mono (by decide)) (pa_cons (pv 0) (pa_cons (pe_ix (ixt K) (pv 1) pe_int (fun _ _ => rfl)) pa_nil)))))))).pt (pss_one ps_never) pss_nil)
      (pss_cons (ps_asg (pv 1) (pg_tup rfl (pgs_cons (pg_name (i := 2) sc_is_deed.nd rfl (.inl rfl)) (pgs_cons (pg_name (i := 3) sc_is_deed.nd rfl (.inl rfl)) pgs_nil))))
      (pss_cons (ps_if (pw_or (pt_cmpR op_notN (pe_cal (cal_code_fault (P := P) (w := w) (base := base) E) (hr.mono (by decide)) (pa_cons (pe_calM0 E.clN (cal_Nground (P := P) (w := w) (base := base) E) (hr.mono (by decide)) (pv 0)) (pa_cons (pv 3) pa_nil))) pe_non (nomark _))
        (pw_or (pt_cmpR op_ne (pe_callB (cb_len K) (by rfl) E.n_len (by decide +kernel) (pa_cons (pv 3) pa_nil)) (pv 2) (nomark _))
        (pw_or1 (pt_cmpR (op_eqK K hu) (pv 3) (pe_calM E.clN (cal_Ncode (P := P) (w := w) (base := base) E) (hr.mono (by decide)) (pv 0) (pa_cons (pv 2) pa_nil)) (nomark _))))).pt (pss_one ps_never) pss_nil)
      (pss_cons (ps_if (pt_not (pt_val (pe_cal (cal_is_within (P := P) (w := w) (base := base) E) (hr.mono (by decide)) (pa_cons (pe_calM0 E.clN (cal_Nground (P := P) (w := w) (base := base) E) (hr.mono (by decide)) (pv 0)) (pa_cons (pe_calM E.clN (cal_Ncode (P := P) (w := w) (base := base) E) (hr.mono (by decide)) (pv 0) (pa_cons (pe_op op_sub (pv 2) pe_int) pa_nil)) (pa_cons (pv 3) pa_nil)))))) (pss_one ps_never) pss_nil)
      (pss_one (ps_ret (pe_cal (cal_is_within (P := P) (w := w) (base := base) E) (hr.mono (by decide)) (pa_cons (pe_calM0 E.clN (cal_Nground (P := P) (w := w) (base := base) E) (hr.mono (by decide)) (pv 0)) (pa_cons (pv 3) (pa_cons (pe_calM E.clN (cal_Ncode (P := P) (w := w) (base := base) E) (hr.mono (by decide)) (pv 0) (pa_cons (pe_op op_add (pv 2) pe_int) pa_nil)) pa_nil))))))))), ?_⟩
    have go : ∀ {H' g}, GrAt K H' g p n → GrOk K H' g p n := fun h => ⟨h, hp, by omega, hn⟩
    obtain ⟨oi, oil⟩ := codeAt_ok p2 hns (show i ≤ n by omega)
    obtain ⟨od, odl⟩ := codeAt_ok p2 hns (show i - 1 ≤ n by omega)
    obtain ⟨ou, oul⟩ := codeAt_ok p2 hns (show i + 1 ≤ n by omega)
    refine ⟨_, rfl, _, _, _, _, _, rfl, .ty _, tyx_tup ta, k_tt, _, rfl, iteF ⟨_, rfl, a, _, rfl, .inr ta, rfl, _, rfl, iteF ⟨_, rfl, _, rfl, a, _, _, _, rfl, rfl, ta, atI_nat (j := 0) rfl, v, _, p, n, cs, rfl, hv, .inl ⟨i, rfl, _, rfl, ?_⟩⟩⟩⟩
    rw [decide_eq_true (show 0 < (i : Int) ∧ (i : Int) < n by omega)]
    refine iteF ⟨_, rfl, a, _, rfl, ta, rfl, _, _, rfl, _, _, rfl, rfl, ?_⟩
    refine in_ng rfl hv fun g hg => ⟨_, rfl, g, b, p, n, c, rfl, go hg, hb, h3, fun H1 e1 => ⟨rfl, _, rfl, iteF ?_⟩⟩
    obtain ⟨b, ys, rfl, tb, hys⟩ := dp_tup hb
    refine ⟨_, rfl, b, ys, rfl, .inr (Evl.ex_t e1 tb), _, rfl, rfl, _, rfl, ?_⟩
    rw [decide_eq_true (by rw [dps_mapl hys, h4])]
    refine iteF ⟨_, rfl, in_ncode rfl (hv.mono e1) ⟨_, rfl, v, p, n, i, cs, rfl, hv.mono e1, hns.len, hn, by omega, fun u H2 e2 hu2 => ⟨_, _, dp_codemono (e1.trans e2) hb, hu2, shaped_code _, shaped_code _, _, rfl, ?_⟩⟩⟩
    rw [eqv_code, decide_eq_false h5]
    have e12 := e1.trans e2
    refine iteF (in_ng rfl (hv.mono e12) fun g2 hg2 => in_ncode rfl (hv.mono e12) ⟨_, rfl, _, _, rfl, rfl, v, p, n, i - 1, cs, ?_, hv.mono e12, hns.len, hn, by omega, fun u2 H3 e3 hu3 => ?_⟩)
    · show [v, V.int ((i : Int) - 1)] = _
      rw [show ((i : Int) - 1) = ((i - 1 : Nat) : Int) by omega]
    refine ⟨_, rfl, g2, u2, _, p, n, _, c, rfl, go (hg2.mono e3), LsAt.tup hu3, od.red.row, by have := od.len; omega, LsAt.tup (dp_codemono (e12.trans e3) hb), h3.red.piv, fun H4 e4 => ?_⟩
    rw [h6]
    have e34 := (e12.trans e3).trans e4
    refine ⟨_, rfl, iteF (in_ng rfl (hv.mono e34) fun g3 hg3 => ⟨_, rfl, in_ncode rfl (hv.mono e34) ⟨_, rfl, _, _, rfl, rfl, v, p, n, i + 1, cs, rfl, hv.mono e34, hns.len, hn, by omega, fun u4 H5 e5 hu5 => ?_⟩⟩)⟩
    refine ⟨g3, _, u4, p, n, c, _, rfl, go (hg3.mono e5), LsAt.tup (dp_codemono (e34.trans e5) hb), h3.red.row, by have := h3.len; omega, LsAt.tup hu5, ou.red.piv, fun H6 e6 => ?_⟩
    rw [h7]
    exact q _ ((e34.trans e5).trans e6)
/-! ### done -/
def spDone (K : PySem.W.Frag) : Sp := fun vs H Q _ => ∃ v d p, ∃ n i : Nat, ∃ cs c, vs = [v, d] ∧ NeAt K H v p n cs ∧ GoodP p ∧ n ≤ 100 ∧ NestOk p n cs ∧ Dp K H d (deedD i c) ∧ DeedOk p n cs i c ∧ NestOk p n (cs.set (i - 1) c) ∧
  ∀ v H', Ex H H' → NeAt K H' v p n (cs.set (i - 1) c) → Q v H'
theorem sc_done : FnScope ["nest", "deed", "codes"] ["nest", "deed"] (defScope s_done) := ⟨rfl, rfl, rfl, by decide +kernel, rfl, by decide +kernel, by decide +kernel⟩
theorem cal_done (E : En K mg) : Cal P w K mg base 10 "done" ["nest", "deed"] (spDone K) := by
  obtain ⟨fd, F, g⟩ := E.c_done
  refine ⟨⟨fd, ?_, F.binds fun _ _ _ _ _ _ us hl => match us, hl with | [_, _], _ => rfl⟩, g, F.kp⟩
  refine F.ok sc_done (fun vs H Q E h => ?_) (fun cdv A outer s H vs Q E' hr h => ?_)
  · obtain ⟨v, d, p, n, i, cs, c, rfl, _⟩ := h
    rfl
  · obtain ⟨v, d, p, n, i, cs, c, rfl, hv, hp, hn, hns, hd, hok, hns2, q⟩ := h
    obtain ⟨a, b, rfl, ta, hb⟩ := dp_deed hd
    refine ⟨_, pss_cons (ps_if (pt_not (pt_val (pe_cal (cal_is_deed (P := P) (w := w) (base := base) E) (hr.mono (by decide)) (pa_cons (pv 0) (pa_cons (pv 1) pa_nil))))) (pss_one ps_never) pss_nil)
      (pss_cons (ps_set (i := 2) sc_done.nd rfl (.inl rfl) (pe_calM0 E.clN (cal_Ncodes (P := P) (w := w) (base := base) E) (hr.mono (by decide)) (pv 0)))
      (pss_cons (ps_asg (pe_ix (ixt K) (pv 1) pe_int (fun _ _ => rfl)) (pg_sub (pv 2) (pe_op op_sub (pe_ix (ixt K) (pv 1) pe_int (fun _ _ => rfl)) pe_int) set_list))
      (pss_one (ps_ret (pe_new (cal_Nest (P := P) (w := w) (base := base) E) (hr.mono (by decide)) (pa_cons (pe_calM0 E.clN (cal_Nground (P := P) (w := w) (base := base) E) (hr.mono (by decide)) (pv 0)) (pa_cons (pv 2) pa_nil))))))), ?_⟩
    refine ⟨_, rfl, _, rfl, v, _, p, n, i, cs, c, rfl, hv, hp, hn, hns, hd, hok, fun H1 e1 => ⟨_, rfl, iteF (in_ncodes rfl (hv.mono e1) fun l xs hl hxs => ?_)⟩⟩
    have e2 := e1.trans (Ex.new (o := .lst xs) hl)
    have hi := hok.lo
    have hi2 := hok.hi
    have lx : xs.length = n - 1 := by rw [dps_mapl hxs, hns.len]
    have hl0 := ex_none e1 hl
    refine ⟨_, rfl, a, _, _, b, rfl, rfl, Evl.ex_t e2 ta, atI_nat (j := 1) rfl, ?_⟩
    refine ⟨_, rfl, _, rfl, a, _, _, _, rfl, rfl, Evl.ex_t e2 ta, atI_nat (j := 0) rfl, _, _, rfl, rfl, l, xs, _, i - 1, rfl, rfl, upd_same, ?_, ?_⟩
    · unfold ixN
      rw [if_pos (by omega)]
      rw [show ((i : Int) - 1).toNat = i - 1 by omega, if_pos (by omega)]
    have e3 : Ex H (upd (upd H1 l (.lst xs)) l (.lst (xs.set (i - 1) b))) := Evl.Ex.mut e2 hl0
    refine in_ng rfl (hv.mono e3) fun g hg => ⟨_, rfl, fun x dx hx hdx hne => ?_⟩
    refine ⟨x, dx, _, g, .ref l, p, n, cs.set (i - 1) c, rfl, hx, hdx, hne, rfl, hg, hp, hn, .lst (.inl (.inl upd_same)) ?_, hns2, fun H5 e5 h5 => ⟨rfl, q _ _ (e3.trans e5) h5⟩⟩
    have e4 : Ex H1 (upd (upd H1 l (.lst xs)) l (.lst (xs.set (i - 1) b))) := Evl.Ex.mut (Ex.new hl) hl
    have h6 := dps_set (i - 1) (dps_mono e4 _ _ hxs) (dp_codemono e3 hb)
    rw [← List.map_set] at h6
    exact h6
end
end Cn
/-! range objects as values. -/
namespace Cn
open PySem PySem.Spec PyProof.Rows L2
def rRange1 : List V → Hp → VK → Prop := fun vs H Q => ∃ j, vs = [V.int j] ∧ ∀ p, H p = none → Q (.ref p) (upd H p (.rng 0 j))
theorem cr_rngV {X : Cx} : CallR X (.type "range") rRange1 := by
  intro pins s σ H vs us Q I r h
  obtain ⟨j, rfl, q⟩ := h
  cases r with
  | cons rj rr =>
    cases rr
    obtain ⟨t, rfl⟩ := rj
    exact call_range_1 ⟨.ref s.heap.objs.size, upd H s.heap.objs.size (.rng 0 j), I.laid (t' := s.toks + 1 + 1) (fun b o e => Heap.get?_push_of_some _ e) (Nat.le_refl _) ⟨_, _, _, Heap.get?_push_size _ rfl⟩, rfl, q _ (I.hok.fresh (Nat.le_refl _))⟩
def iRngV (te : TE) : TI := fun σ H R => te σ H fun x H1 => ∃ a, ∃ n : Nat, x = .ref a ∧ H1 a = some (.rng 0 n) ∧ n < 2 ^ 62 ∧ R (Itr 0 n) H1
theorem pi_rngV {X : Cx} {tg l : PySem.Expr} {tl : TE} (hl : PE X l tl) : PI X tg l (iRngV tl) := by
  refine ⟨fun pins s σ H R I h => thn (hl.run pins s σ H _ I h) fun v s1 z => ?_⟩
  obtain ⟨x, H1, I1, r1, a, n, rfl, ha, hn, q⟩ := z
  cases r1
  obtain ⟨t, u, w, ho⟩ := (show ObjOk X.prog X.w H1 s1.heap a (.rng 0 n) from I1.hok a _ ha)
  refine wpAny_pyIter_range (show IsRange s1.heap a 0 (n : Int) 1 t u w from ho) (small_one (by decide) (by decide) (by omega) (by omega)) ?_
  refine ⟨s1.heap.objs.size, [s1.heap.objs.size], _, _, H1, rfl, I1.kept (t' := s1.toks) fun b o e => Heap.get?_push_of_some _ e, turn_range _ 0 n, ?_, fun b hb => ?_, q⟩
  · have e1 : (0 : Int) + ((0 : Nat) : Int) * 1 = 0 := by simp
    have e2 : ((n : Nat) : Int) - ((0 : Nat) : Int) = Builtin.Range.rangeSize 0 n 1 := by rw [rangeSize_one]; split <;> omega
    show IsRangeIter _ _ ((0 : Int) + ((0 : Nat) : Int) * 1) (((n : Nat) : Int) - ((0 : Nat) : Int)) 1
    rw [e1, e2]
    exact Heap.get?_push_size _ rfl
  · obtain rfl : b = s1.heap.objs.size := by simpa using hb
    exact I1.fpOk (Nat.le_refl _) (I1.hok.fresh (Nat.le_refl _))
end Cn
namespace Cn
open PySem PySem.Spec PyProof.Rows L2
open Evl (Ex)
theorem ip_fdivI {X : Cx} : PIp X .FloorDiv (rI CDiv fun i j => .int (i / j)) := by
  intro pins s σ H x y v u Q I r1 r2 h
  exact iop_fdiv pins s σ H x y v u Q I r1 r2 h
section
variable {P : Program} {w : World} {K : PySem.W.Frag} {mg : Str → Option Value} {base : Heap}
/-! ### gauss, count_codes, many_behind: two columns, rank 1 -/
def spGauss : Sp := fun vs H Q _ => ∃ p n r : Int, vs = [.int p, .int n, .int r] ∧ GoodP p ∧ ((n = 2 ∧ r = 1 ∧ ∀ H', Ex H H' → Q (.int (p + 1)) H') ∨ (r = 0 ∧ 0 ≤ n ∧ ∀ H', Ex H H' → Q (.int 1) H'))
theorem sc_gauss : FnScope ["p", "n", "rank", "above", "below", "k"] ["p", "n", "rank"] (defScope s_gauss) := ⟨rfl, rfl, rfl, by decide +kernel, rfl, by decide +kernel, by decide +kernel⟩
theorem nat_gauss : ∀ k ∈ ([2, 3, 5, 7, 11, 13] : List Nat), ((k : Int) ^ 2 - 1) / ((k : Int) ^ 1 - 1) = k + 1 := by decide +kernel
theorem good_gauss {p : Int} (h : GoodP p) : (1 * (p ^ 2 - 1)) / (1 * (p ^ 1 - 1)) = p + 1 := by
  obtain ⟨k, hk, rfl⟩ := h
  have := nat_gauss k hk
  rw [Int.one_mul, Int.one_mul]
  exact this
theorem nat_sq : ∀ k ∈ ([2, 3, 5, 7, 11, 13] : List Nat), ((k : Int) ^ 2 - 1) < 1000 ∧ 0 < ((k : Int) ^ 2 - 1) ∧ (k : Int) ^ 1 - 1 < 1000 ∧ 0 < (k : Int) ^ 1 - 1 := by decide +kernel
theorem good_sq {p : Int} (h : GoodP p) : p ^ 2 - 1 < 1000 ∧ 0 < p ^ 2 - 1 ∧ p ^ 1 - 1 < 1000 ∧ 0 < p ^ 1 - 1 := by
  obtain ⟨k, hk, rfl⟩ := h
  exact nat_sq k hk
theorem cal_gauss (E : En K mg) : Cal P w K mg base 2 "gauss" ["p", "n", "rank"] spGauss := by
  obtain ⟨fd, F, g⟩ := E.c_gauss
  refine ⟨⟨fd, ?_, F.binds fun _ _ _ _ _ _ us hl => match us, hl with | [_, _, _], _ => rfl⟩, g, F.kp⟩
  refine F.ok sc_gauss (fun vs H Q E h => ?_) (fun cdv A outer s H vs Q E' hr h => ?_)
  · obtain ⟨p, n, r, rfl, _⟩ := h
    rfl
  · obtain ⟨p, n, r, rfl, hp, h⟩ := h
    have p2 := hp.two
    have p13 := hp.most
    refine ⟨_, pss_cons (ps_if (pt_cmpR op_gt (pv 2) (pv 1) (nomark _)) (pss_one ps_never) pss_nil)
      (pss_cons (ps_asg (pe_tup (pa_cons pe_int (pa_cons pe_int pa_nil))) (pg_tup rfl (pgs_cons (pg_name (i := 3) sc_gauss.nd rfl (.inl rfl)) (pgs_cons (pg_name (i := 4) sc_gauss.nd rfl (.inl rfl)) pgs_nil))))
      (pss_cons (ps_for PassesOwn.never rfl (pi_range1 (by rfl) E.n_range (pa_cons (pv 2) pa_nil)) (pg_name (i := 5) sc_gauss.nd rfl (.inl rfl))
        (pss_cons (ps_aug (i := 3) sc_gauss.nd rfl (.inl rfl) (pe_op op_sub (pe_cal (cal_power (P := P) (w := w) (base := base) E) (hr.mono (by decide)) (pa_cons (pv 0) (pa_cons (pe_op op_sub (pv 1) (pv 5)) pa_nil))) pe_int) ip_mulI)
        (pss_one (ps_aug (i := 4) sc_gauss.nd rfl (.inl rfl) (pe_op op_sub (pe_cal (cal_power (P := P) (w := w) (base := base) E) (hr.mono (by decide)) (pa_cons (pv 0) (pa_cons (pe_op op_add (pv 5) pe_int) pa_nil))) pe_int) ip_mulI))))
      (pss_one (ps_ret (pe_op op_fdiv (pv 3) (pv 4)))))), ?_⟩
    refine ⟨_, rfl, _, rfl, _, _, rfl, rfl, _, rfl, ?_⟩
    rcases h with ⟨rfl, rfl, q⟩ | ⟨rfl, hn, q⟩
    · refine iteF ⟨by show 2 ≤ sizeLine; decide, fun T hT => ⟨T, _, rfl, .inl (.inl upd_same), rfl, _, _, rfl, _, _, rfl, rfl, _, rfl, _, rfl, by decide, by decide, ?_⟩⟩
      obtain ⟨s1, s2, s3, s4⟩ := good_sq hp
      refine for_range (n := 1) (fun i σ H' => H' = upd H T (.tup [.int 1, .int 1]) ∧ ((i = 0 ∧ σ = [some (.int p), some (.int 2), some (.int 1), some (.int 1), some (.int 1), none]) ∨ (i = 1 ∧ ∃ x, σ = [some (.int p), some (.int 2), some (.int 1), some (.int (1 * (p ^ 2 - 1))), some (.int (1 * (p ^ 1 - 1))), x]))) ⟨rfl, .inl ⟨rfl, rfl⟩⟩ ?_ ?_
      · rintro i σ H' hi ⟨rfl, ⟨rfl, rfl⟩ | ⟨rfl, _⟩⟩
        · refine ⟨_, rfl, _, rfl, _, rfl, _, rfl, _, _, rfl, rfl, p, 2, rfl, by omega, p13, by decide, _, _, rfl, rfl, _, _, rfl, rfl, .inr ⟨by omega, by omega⟩, ?_⟩
          refine ⟨_, rfl, _, rfl, _, rfl, _, _, rfl, rfl, p, 1, rfl, by omega, p13, by decide, _, _, rfl, rfl, _, _, rfl, rfl, .inr ⟨by omega, by omega⟩, rfl, .inr ⟨rfl, _, rfl⟩⟩
        · omega
      · rintro σ H' ⟨rfl, ⟨h, _⟩ | ⟨_, x, rfl⟩⟩
        · omega
        · refine ⟨_, rfl, _, rfl, _, _, rfl, rfl, ⟨by omega, by omega⟩, ?_⟩
          have e := good_gauss hp
          have k := q _ (Ex.new (o := .tup [.int 1, .int 1]) hT)
          rw [← e] at k
          exact k
    · rw [decide_eq_false (by omega)]
      refine iteF ⟨by show 2 ≤ sizeLine; decide, fun T hT => ⟨T, _, rfl, .inl (.inl upd_same), rfl, _, _, rfl, _, _, rfl, rfl, _, rfl, _, rfl, by decide, by decide, ?_⟩⟩
      refine for_range (n := 0) (fun i σ H' => H' = upd H T (.tup [.int 1, .int 1]) ∧ σ = [some (.int p), some (.int n), some (.int 0), some (.int 1), some (.int 1), none]) ⟨rfl, rfl⟩ (fun i σ H' hi => absurd hi (by omega)) ?_
      rintro σ H' ⟨rfl, rfl⟩
      exact ⟨_, rfl, _, rfl, _, _, rfl, rfl, ⟨by omega, by omega⟩, q _ (Ex.new hT)⟩
def spCount (K : PySem.W.Frag) : Sp := fun vs H Q _ => ∃ g p, vs = [g, .int 1] ∧ GrAt K H g p 2 ∧ GoodP p ∧ ∀ H', Ex H H' → Q (.int (p + 1)) H'
theorem sc_count_codes : FnScope ["ground", "rank"] ["ground", "rank"] (defScope s_count_codes) := ⟨rfl, rfl, rfl, by decide +kernel, rfl, by decide +kernel, by decide +kernel⟩
theorem cal_count_codes (E : En K mg) : Cal P w K mg base 3 "count_codes" ["ground", "rank"] (spCount K) := by
  obtain ⟨fd, F, g⟩ := E.c_count_codes
  refine ⟨⟨fd, ?_, F.binds fun _ _ _ _ _ _ us hl => match us, hl with | [_, _], _ => rfl⟩, g, F.kp⟩
  refine F.ok sc_count_codes (fun vs H Q E h => ?_) (fun cdv A outer s H vs Q E' hr h => ?_)
  · obtain ⟨g, p, rfl, _⟩ := h
    rfl
  · obtain ⟨g, p, rfl, hg, hp, q⟩ := h
    refine ⟨_, pss_one (ps_ret (pe_cal (cal_gauss (P := P) (w := w) (base := base) E) (hr.mono (by decide)) (pa_cons (pe_calM0 E.clG (cal_Gp (P := P) (w := w) (base := base) E) (hr.mono (by decide)) (pv 0)) (pa_cons (pe_calM0 E.clG (cal_Gn (P := P) (w := w) (base := base) E) (hr.mono (by decide)) (pv 0)) (pa_cons (pv 1) pa_nil))))), ?_⟩
    exact in_gp rfl hg (in_gn rfl hg ⟨_, rfl, p, 2, 1, rfl, hp, .inl ⟨rfl, rfl, q⟩⟩)
def spMany (K : PySem.W.Frag) : Sp := fun vs H Q _ => ∃ g p c, vs = [g, .int c, .int 1, .int 0] ∧ GrAt K H g p 2 ∧ GoodP p ∧ ((c = 1 ∧ ∀ H', Ex H H' → Q (.int p) H') ∨ (c = 2 ∧ ∀ H', Ex H H' → Q (.int 1) H'))
theorem sc_many_behind : FnScope ["ground", "column", "chosen", "left", "more"] ["ground", "column", "chosen", "left"] (defScope s_many_behind) := ⟨rfl, rfl, rfl, by decide +kernel, rfl, by decide +kernel, by decide +kernel⟩
theorem cal_many_behind (E : En K mg) : Cal P w K mg base 3 "many_behind" ["ground", "column", "chosen", "left"] (spMany K) := by
  obtain ⟨fd, F, g⟩ := E.c_many_behind
  refine ⟨⟨fd, ?_, F.binds fun _ _ _ _ _ _ us hl => match us, hl with | [_, _, _, _], _ => rfl⟩, g, F.kp⟩
  refine F.ok sc_many_behind (fun vs H Q E h => ?_) (fun cdv A outer s H vs Q E' hr h => ?_)
  · obtain ⟨g, p, c, rfl, _⟩ := h
    rfl
  · obtain ⟨g, p, c, rfl, hg, hp, h⟩ := h
    have p2 := hp.two
    have p13 := hp.most
    refine ⟨_, pss_cons (ps_set (i := 4) sc_many_behind.nd rfl (.inl rfl) (pe_op op_sub (pe_calM0 E.clG (cal_Gn (P := P) (w := w) (base := base) E) (hr.mono (by decide)) (pv 0)) (pv 1)))
      (pss_one (ps_ret (pe_ifExp (pt_cmpR op_gt (pv 3) (pv 4) (nomark _)) pe_int (pe_op op_mul (pe_cal (cal_power (P := P) (w := w) (base := base) E) (hr.mono (by decide)) (pa_cons (pe_calM0 E.clG (cal_Gp (P := P) (w := w) (base := base) E) (hr.mono (by decide)) (pv 0)) (pa_cons (pe_op op_mul (pv 2) (pe_op op_sub (pv 4) (pv 3))) pa_nil)))
        (pe_cal (cal_gauss (P := P) (w := w) (base := base) E) (hr.mono (by decide)) (pa_cons (pe_calM0 E.clG (cal_Gp (P := P) (w := w) (base := base) E) (hr.mono (by decide)) (pv 0)) (pa_cons (pv 4) (pa_cons (pv 3) pa_nil)))))))), ?_⟩
    refine in_gn rfl hg ⟨_, rfl, _, _, rfl, rfl, ?_⟩
    rcases h with ⟨rfl, q⟩ | ⟨rfl, q⟩
    · refine ⟨_, rfl, _, rfl, _, _, rfl, rfl, _, rfl, iteF (in_gp rfl hg ⟨_, rfl, _, rfl, _, rfl, _, _, rfl, rfl, _, _, rfl, rfl, .inl ⟨by omega, by omega⟩, p, 1, rfl, by omega, p13, by decide, in_gp rfl hg ⟨_, rfl, _, rfl, p, 1, 0, rfl, hp, .inr ⟨rfl, by omega, fun H1 e1 => ⟨_, _, rfl, rfl, .inr ⟨by omega, by omega⟩, ?_⟩⟩⟩⟩)⟩
      show Q (.int (p ^ 1 * 1)) H1
      rw [Int.pow_one, Int.mul_one]
      exact q _ e1
    · refine ⟨_, rfl, _, rfl, _, _, rfl, rfl, _, rfl, iteF (in_gp rfl hg ⟨_, rfl, _, rfl, _, rfl, _, _, rfl, rfl, _, _, rfl, rfl, .inl ⟨by omega, by omega⟩, p, 0, rfl, by omega, p13, by decide, in_gp rfl hg ⟨_, rfl, _, rfl, p, 0, 0, rfl, hp, .inr ⟨rfl, by omega, fun H1 e1 => ⟨_, _, rfl, rfl, .inr ⟨by omega, by omega⟩, ?_⟩⟩⟩⟩)⟩
      show Q (.int (p ^ 0 * 1)) H1
      rw [Int.pow_zero, Int.mul_one]
      exact q _ e1
end
end Cn
namespace Cn
open PySem PySem.Spec PyProof.Rows L2
open Evl (Ex)
theorem op_notInK {X : Cx} (K : PySem.W.Frag) (hK : X.K = K := by rfl) : OpR X (compareOp .NotIn) (rIn K true) := by
  subst hK
  exact op_notIn_seq
section
variable {P : Program} {w : World} {K : PySem.W.Frag} {mg : Str → Option Value} {base : Heap}
/-! ### pivots_at -/
def spPivotsAt (K : PySem.W.Frag) : Sp := fun vs H Q _ => ∃ g p t, vs = [g, .int 1, .int t] ∧ GrAt K H g p 2 ∧ GoodP p ∧ 0 ≤ t ∧ t ≤ p ∧
  ∀ T D H', Ex H H' → H' T = some (.tup [.ref D, .int (if t < p then t else 0)]) → H' D = some (.lst [.int (if t < p then 0 else 1)]) → Q (.ref T) H'
theorem sc_pivots_at : FnScope ["ground", "rank", "number", "columns", "factor", "left", "column", "chosen", "many"] ["ground", "rank", "number"] (defScope s_pivots_at) := ⟨rfl, rfl, rfl, by decide +kernel, rfl, by decide +kernel, by decide +kernel⟩
theorem cal_pivots_at (E : En K mg) : Cal P w K mg base 4 "pivots_at" ["ground", "rank", "number"] (spPivotsAt K) := by
  obtain ⟨fd, F, g⟩ := E.c_pivots_at
  refine ⟨⟨fd, ?_, F.binds fun _ _ _ _ _ _ us hl => match us, hl with | [_, _, _], _ => rfl⟩, g, F.kp⟩
  refine F.ok sc_pivots_at (fun vs H Q E h => ?_) (fun cdv A outer s H vs Q E' hr h => ?_)
  · obtain ⟨g, p, t, rfl, _⟩ := h
    rfl
  · obtain ⟨g, p, t, rfl, hg, hp, t0, t1, q⟩ := h
    have p2 := hp.two
    have p13 := hp.most
    refine ⟨_, pss_cons (ps_par3 (i := 3) (j := 4) (l := 5) rfl sc_pivots_at.nd rfl rfl rfl (by decide) (by decide) (by decide) rfl rfl rfl (pa_cons (pe_lst pa_nil) (pa_cons pe_int (pa_cons (pv 2) pa_nil))) rfl)
      (pss_cons (ps_for PassesOwn.never rfl (pi_range1 (by rfl) E.n_range (pa_cons (pe_calM0 E.clG (cal_Gn (P := P) (w := w) (base := base) E) (hr.mono (by decide)) (pv 0)) pa_nil)) (pg_name (i := 6) sc_pivots_at.nd rfl (.inl rfl))
        (pss_cons (ps_set (i := 7) sc_pivots_at.nd rfl (.inl rfl) (pe_callB (cb_len K) (by rfl) E.n_len (by decide +kernel) (pa_cons (pv 3) pa_nil)))
        (pss_cons (ps_set (i := 8) sc_pivots_at.nd rfl (.inl rfl) (pe_ifExp (pt_cmpR op_eq (pv 7) (pv 1) (nomark _)) pe_int (pe_op op_mul (pv 4) (pe_cal (cal_many_behind (P := P) (w := w) (base := base) E) (hr.mono (by decide)) (pa_cons (pv 0) (pa_cons (pe_op op_add (pv 6) pe_int) (pa_cons (pe_op op_add (pv 7) pe_int) (pa_cons (pe_op op_sub (pe_op op_sub (pv 1) (pv 7)) pe_int) pa_nil))))))))
        (pss_one (ps_if (pt_cmpR op_lt (pv 5) (pv 8) (nomark _)) (pss_one (ps_expr (pe_bm PySem.F.plainAttrs_list PySem.F.slot_list_append PySem.F.type_list_append mt_append (pv 3) (pa_cons (pv 6) pa_nil))))
          (pss_cons (ps_aug (i := 5) sc_pivots_at.nd rfl (.inl rfl) (pv 8) ip_sub) (pss_one (ps_aug (i := 4) sc_pivots_at.nd rfl (.inl rfl) (pe_cal (cal_power (P := P) (w := w) (base := base) E) (hr.mono (by decide)) (pa_cons (pe_calM0 E.clG (cal_Gp (P := P) (w := w) (base := base) E) (hr.mono (by decide)) (pv 0)) (pa_cons (pv 7) pa_nil))) ip_mulI))))))))
      (pss_one (ps_ret (pe_tup (pa_cons (pv 3) (pa_cons (pv 5) pa_nil)))))), ?_⟩
    refine ⟨by show 0 ≤ sizeLine; decide, fun D hD => ⟨_, rfl, _, _, _, rfl, ?_⟩⟩
    have e0 : Ex H (upd H D (.lst [])) := Ex.new hD
    refine in_gn rfl (hg.mono e0) ⟨2, rfl, by decide, by decide, ?_⟩
    refine for_range (n := 2) (fun i σ H' => Ex H H' ∧ ∃ x y z, ((i = 0 ∧ H' D = some (.lst []) ∧ σ = [some g, some (.int 1), some (.int t), some (.ref D), some (.int 1), some (.int t), x, y, z]) ∨
      (i = 1 ∧ ((t < p ∧ H' D = some (.lst [.int 0]) ∧ σ = [some g, some (.int 1), some (.int t), some (.ref D), some (.int 1), some (.int t), x, y, z]) ∨ (t = p ∧ H' D = some (.lst []) ∧ σ = [some g, some (.int 1), some (.int t), some (.ref D), some (.int (1 * p ^ 0)), some (.int (t - 1 * p)), x, y, z]))) ∨
      (i = 2 ∧ ∃ f, ((t < p ∧ H' D = some (.lst [.int 0]) ∧ σ = [some g, some (.int 1), some (.int t), some (.ref D), f, some (.int (t - 0)), x, y, z]) ∨ (t = p ∧ H' D = some (.lst [.int 1]) ∧ σ = [some g, some (.int 1), some (.int t), some (.ref D), f, some (.int (t - 1 * p)), x, y, z]))))) ⟨e0, none, none, none, .inl ⟨rfl, upd_same, rfl⟩⟩ ?_ ?_
    · rintro i σ H' hi ⟨e, x, y, z, ⟨rfl, hl, rfl⟩ | ⟨rfl, ⟨ht, hl, rfl⟩ | ⟨ht, hl, rfl⟩⟩ | ⟨rfl, _⟩⟩
      · refine ⟨_, rfl, D, [], rfl, .inl (.inl (.inl hl)), _, rfl, _, rfl, rfl, _, rfl, iteF ⟨_, rfl, _, rfl, _, rfl, _, _, rfl, rfl, _, rfl, _, _, rfl, rfl, _, rfl, _, rfl, _, _, rfl, rfl, _, _, rfl, rfl, g, p, 1, rfl, hg.mono e, hp, .inl ⟨rfl, fun H1 e1 => ?_⟩⟩⟩
        refine ⟨_, _, rfl, rfl, .inl ⟨by decide, by decide⟩, _, rfl, _, rfl, _, _, rfl, rfl, _, rfl, ?_⟩
        have hl1 := e1 _ _ hl
        by_cases ht : t < p
        · rw [decide_eq_true (by omega)]
          refine iteT ⟨_, rfl, .inl ⟨rfl, [], .inl (.inl hl1)⟩, _, rfl, D, [], _, rfl, rfl, hl1, by show 0 < sizeLine; decide, ?_⟩
          exact ⟨Evl.Ex.mut (e.trans e1) hD, _, _, _, .inr (.inl ⟨rfl, .inl ⟨ht, upd_same, rfl⟩⟩)⟩
        · rw [decide_eq_false (by omega)]
          refine iteF ⟨_, rfl, _, rfl, _, _, rfl, rfl, _, rfl, in_gp rfl (hg.mono (e.trans e1)) ⟨_, rfl, p, 0, rfl, by omega, p13, by decide, _, _, rfl, rfl, .inl ⟨by decide, by decide⟩, ?_⟩⟩
          exact ⟨e.trans e1, _, _, _, .inr (.inl ⟨rfl, .inr ⟨by omega, hl1, rfl⟩⟩)⟩
      · refine ⟨_, rfl, D, _, rfl, .inl (.inl (.inl hl)), _, rfl, _, rfl, rfl, _, rfl, iteT ⟨_, rfl, _, rfl, _, _, rfl, rfl, _, rfl, ?_⟩⟩
        rw [decide_eq_false (by omega)]
        refine iteF ⟨_, rfl, _, rfl, _, _, rfl, rfl, _, rfl, in_gp rfl (hg.mono e) ⟨_, rfl, p, 1, rfl, by omega, p13, by decide, _, _, rfl, rfl, .inl ⟨by decide, by decide⟩, ?_⟩⟩
        exact ⟨e, _, _, _, .inr (.inr ⟨rfl, _, .inl ⟨ht, hl, rfl⟩⟩)⟩
      · refine ⟨_, rfl, D, [], rfl, .inl (.inl (.inl hl)), _, rfl, _, rfl, rfl, _, rfl, iteF ⟨_, rfl, _, rfl, _, rfl, _, _, rfl, rfl, _, rfl, _, _, rfl, rfl, _, rfl, _, rfl, _, _, rfl, rfl, _, _, rfl, rfl, g, p, 2, rfl, hg.mono e, hp, .inr ⟨rfl, fun H1 e1 => ?_⟩⟩⟩
        refine ⟨_, _, rfl, rfl, .inr ⟨by decide, by decide⟩, _, rfl, _, rfl, _, _, rfl, rfl, _, rfl, ?_⟩
        have hl1 := e1 _ _ hl
        rw [decide_eq_true (by rw [Int.pow_zero]; omega)]
        refine iteT ⟨_, rfl, .inl ⟨rfl, [], .inl (.inl hl1)⟩, _, rfl, D, [], _, rfl, rfl, hl1, by show 0 < sizeLine; decide, ?_⟩
        exact ⟨Evl.Ex.mut (e.trans e1) hD, _, _, _, .inr (.inr ⟨rfl, _, .inr ⟨ht, upd_same, rfl⟩⟩)⟩
      · omega
    · rintro σ H' ⟨e, x, y, z, ⟨h, _⟩ | ⟨h, _⟩ | ⟨_, f, ⟨ht, hl, rfl⟩ | ⟨ht, hl, rfl⟩⟩⟩
      · omega
      · omega
      · refine ⟨_, rfl, _, rfl, by show 2 ≤ sizeLine; decide, fun T hT => q T D _ (e.trans (Ex.new hT)) ?_ ?_⟩
        · rw [upd_same, if_pos ht, Int.sub_zero]
        · rw [upd_ne (ne_of_none hl hT), if_pos ht]
          exact hl
      · refine ⟨_, rfl, _, rfl, by show 2 ≤ sizeLine; decide, fun T hT => q T D _ (e.trans (Ex.new hT)) ?_ ?_⟩
        · rw [upd_same, if_neg (by omega), show t - 1 * p = 0 by omega]
        · rw [upd_ne (ne_of_none hl hT), if_neg (by omega)]
          exact hl
/-! ### free_places -/
def freeD (c : Int) : List PyData := if c = 0 then [.tuple [.int 0, .int 1]] else []
def spFree (K : PySem.W.Frag) : Sp := fun vs H Q _ => ∃ g p D c, vs = [g, .ref D] ∧ GrAt K H g p 2 ∧ H D = some (.lst [.int c]) ∧ (c = 0 ∨ c = 1) ∧ ∀ v H', Ex H H' → Dp K H' v (.list (freeD c)) → Q v H'
theorem sc_free_places : FnScope ["ground", "columns", "rows", "k", "c"] ["ground", "columns"] (defScope s_free_places) := ⟨rfl, rfl, rfl, by decide +kernel, rfl, by decide +kernel, by decide +kernel⟩
theorem cal_free_places (E : En K mg) : Cal P w K mg base 2 "free_places" ["ground", "columns"] (spFree K) := by
  obtain ⟨fd, F, g⟩ := E.c_free_places
  refine ⟨⟨fd, ?_, F.binds fun _ _ _ _ _ _ us hl => match us, hl with | [_, _], _ => rfl⟩, g, F.kp⟩
  refine F.ok sc_free_places (fun vs H Q E h => ?_) (fun cdv A outer s H vs Q E' hr h => ?_)
  · obtain ⟨g, p, D, c, rfl, _⟩ := h
    rfl
  · obtain ⟨g, p, D, c, rfl, hg, hD, hc, q⟩ := h
    refine ⟨_, pss_cons (ps_set (i := 2) sc_free_places.nd rfl (.inl rfl) (pe_callTy cr_rngV (by rfl) E.n_range (by decide +kernel) (pa_cons (pe_callB (cb_len K) (by rfl) E.n_len (by decide +kernel) (pa_cons (pv 1) pa_nil)) pa_nil)))
      (pss_one (ps_ret (pe_lc2 (own := [("k", 3), ("c", 4)]) (vs1 := [4]) (g := gName 3) (g1 := gName 4) (tt := tYes) rfl sc_free_places.nd (pi_rngV (pv 2)) (blkOk_by (by kernel_rfl)) (by decide)
        (fun _ _ _ _ _ => pg_name (i := 3) sc_free_places.nd rfl (.inl rfl)) (fun _ _ _ _ _ => pts_nil)
        (fun _ _ _ _ _ => pi_range2 (by rfl) E.n_range (pa_cons (pe_op op_add (pe_ix (ixl K) (pv 1) (pv 3) (fun _ _ => rfl)) pe_int) (pa_cons (pe_calM0 E.clG (cal_Gn (P := P) (w := w) (base := base) E) (hr.mono (by decide)) (pv 0)) pa_nil)))
        (fun _ _ _ _ _ => pg_name (i := 4) sc_free_places.nd rfl (.inl rfl)) (fun _ _ _ _ _ => pts_one (pt_cmpR (op_notInK K) (pv 4) (pv 1) (by rfl)))
        (fun _ _ _ _ _ => pe_tup (pa_cons (pv 3) (pa_cons (pv 4) pa_nil)))))), ?_⟩
    refine ⟨_, rfl, D, _, rfl, .inl (.inl (.inl hD)), _, rfl, fun R hR => ?_⟩
    have e0 : Ex H (upd H R (.rng 0 1)) := Ex.new hR
    refine ⟨_, rfl, R, 1, rfl, upd_same, by decide, fun L hL => ?_⟩
    have fin : ∀ vs H', Ex (upd H R (.rng 0 1)) H' → H' L = some (.lst vs) → DpAll K H' vs (freeD c) → Q (.ref L) H' := fun vs H' e hv hd => q _ _ (e0.trans e) (.lst (.inl (.inl hv)) hd)
    have eL : Ex (upd H R (.rng 0 1)) (upd (upd H R (.rng 0 1)) L (.lst [])) := Ex.new hL
    refine ⟨fun i m H' => (i = 0 ∧ m = 1 ∧ H' = upd (upd H R (.rng 0 1)) L (.lst [])) ∨ (i = 1 ∧ m = 0 ∧ Ex (upd H R (.rng 0 1)) H' ∧ ∃ vs, H' L = some (.lst vs) ∧ DpAll K H' vs (freeD c)), ⟨1, .inl ⟨rfl, rfl, rfl⟩⟩, ?_⟩
    rintro i m H' (⟨rfl, rfl, rfl⟩ | ⟨rfl, rfl, e, vs, hv, hd⟩)
    · refine .inr ⟨by show 0 < 1; decide, fun H' => Ex (upd H R (.rng 0 1)) H' ∧ ∃ vs, H' L = some (.lst vs) ∧ DpAll K H' vs (freeD c), fun H' h => ⟨0, by decide, .inr ⟨rfl, rfl, h⟩⟩, ?_⟩
      rintro x H' ⟨rfl, rfl⟩
      have hD' : upd (upd H R (.rng 0 1)) L (.lst []) D = some (.lst [.int c]) := eL _ _ (e0 _ _ hD)
      have hg' := (hg.mono e0).mono eL
      refine ⟨rfl, ?_⟩
      unfold tYes
      refine iteT ?_
      refine ⟨_, rfl, _, rfl, D, [.int c], 0, .int c, rfl, rfl, .inl (.inl hD'), atI_nat (j := 0) rfl, _, _, rfl, rfl, in_gn rfl hg' ⟨c + 1, 2, rfl, ⟨by omega, by omega, by decide, by decide⟩, ?_⟩⟩
      rcases hc with rfl | rfl
      · refine ⟨fun j k H' => (j = 0 ∧ k = 1 ∧ H' = upd (upd H R (.rng 0 1)) L (.lst [])) ∨ (j = 1 ∧ k = 0 ∧ Ex (upd H R (.rng 0 1)) H' ∧ ∃ vs, H' L = some (.lst vs) ∧ DpAll K H' vs (freeD 0)), ⟨1, .inl ⟨rfl, rfl, rfl⟩⟩, ?_⟩
        rintro j k H' (⟨rfl, rfl, rfl⟩ | ⟨rfl, rfl, h⟩)
        · refine .inr ⟨by show 0 < _; decide, fun H' => Ex (upd H R (.rng 0 1)) H' ∧ ∃ vs, H' L = some (.lst vs) ∧ DpAll K H' vs (freeD 0), fun H' h => ⟨0, by decide, .inr ⟨rfl, rfl, h⟩⟩, ?_⟩
          rintro x H' ⟨rfl, rfl⟩
          refine ⟨rfl, _, rfl, _, rfl, D, _, rfl, .inl (.inl (.inl hD')), rfl, rfl, _, rfl, iteT ⟨_, rfl, _, rfl, by show 2 ≤ sizeLine; decide, fun T hT => ?_⟩⟩
          have hLT := (Ex.new (o := HO.tup [V.int (0 + ((0 : Nat) : Int)), .int (0 + 1 + ((0 : Nat) : Int))]) hT) L _ upd_same
          have nTL : T ≠ L := fun z => by rw [z, upd_same] at hT; cases hT
          refine ⟨[], hLT, by show 0 < sizeLine; decide, ?_, [.ref T], upd_same, ?_⟩
          · exact Evl.Ex.mut (eL.trans (Ex.new hT)) hL
          · exact .cons (.tup (.inl (.inl (by rw [upd_ne nTL]; exact upd_same))) (.cons (.int 0) (.cons (.int 1) .nil))) .nil
        · exact .inl ⟨by show 1 ≤ _; decide, h⟩
      · refine ⟨fun j k H' => j = 0 ∧ H' = upd (upd H R (.rng 0 1)) L (.lst []), ⟨0, rfl, rfl⟩, ?_⟩
        rintro j k H' ⟨rfl, rfl⟩
        exact .inl ⟨by show _ ≤ 0; decide, eL, [], upd_same, .nil⟩
    · exact .inl ⟨by show 1 ≤ 1; decide, fin vs H' e hv hd⟩
end
end Cn
namespace Cn
open PySem PySem.Spec PyProof.Rows L2
open Evl (Ex)
section
variable {P : Program} {w : World} {K : PySem.W.Frag} {mg : Str → Option Value} {base : Heap}
def lineR (p t : Int) : List Int := if t < p then [1, t] else [0, 1]
def spCodeAt (K : PySem.W.Frag) : Sp := fun vs H Q _ => ∃ g p t, vs = [g, .int 1, .int t] ∧ GrAt K H g p 2 ∧ GoodP p ∧ 0 ≤ t ∧ t ≤ p ∧ ∀ v H', Ex H H' → Dp K H' v (codeD [lineR p t]) → Q v H'
theorem sc_code_at : FnScope ["ground", "rank", "number", "columns", "left", "units", "rows", "k", "column", "row"] ["ground", "rank", "number"] (defScope s_code_at) := ⟨rfl, rfl, rfl, by decide +kernel, rfl, by decide +kernel, by decide +kernel⟩
theorem in_gunits {i : Nat} {σ : L2.St} {H : Hp} {Q : VK} {v : V} {p : Int} {n : Nat} (hi : σ[i]? = some (some v)) (hg : GrAt K H v p n) (hn : n ≤ 100) (q : ∀ v H', Ex H H' → Dp K H' v (codeD (unitsL n)) → Q v H') : tMeth (He.ga K "Ground") "units" (spGunits K) [] E0 (tVar i) tNil σ H Q := by
  obtain ⟨a, dx, rfl, ha⟩ := id hg
  exact ⟨_, hi, a, dx, _, rfl, ha, gr_no (by decide +kernel) (by decide +kernel) p n, _, p, n, rfl, hg, hn, q⟩
theorem units2 : unitsL 2 = [[1, 0], [0, 1]] := by decide +kernel
theorem cal_code_at (E : En K mg) : Cal P w K mg base 5 "code_at" ["ground", "rank", "number"] (spCodeAt K) := by
  obtain ⟨fd, F, g⟩ := E.c_code_at
  refine ⟨⟨fd, ?_, F.binds fun _ _ _ _ _ _ us hl => match us, hl with | [_, _, _], _ => rfl⟩, g, F.kp⟩
  refine F.ok sc_code_at (fun vs H Q E h => ?_) (fun cdv A outer s H vs Q E' hr h => ?_)
  · obtain ⟨g, p, t, rfl, _⟩ := h
    rfl
  · obtain ⟨g, p, t, rfl, hg, hp, t0, t1, q⟩ := h
    have p2 := hp.two
    have p13 := hp.most
    refine ⟨_, pss_cons (ps_if (pt_cmpR op_ge (pv 2) (pe_cal (cal_count_codes (P := P) (w := w) (base := base) E) (hr.mono (by decide)) (pa_cons (pv 0) (pa_cons (pv 1) pa_nil))) (nomark _)) (pss_one ps_never) pss_nil)
      (pss_cons (ps_asg (pe_cal (cal_pivots_at (P := P) (w := w) (base := base) E) (hr.mono (by decide)) (pa_cons (pv 0) (pa_cons (pv 1) (pa_cons (pv 2) pa_nil)))) (pg_tup rfl (pgs_cons (pg_name (i := 3) sc_code_at.nd rfl (.inl rfl)) (pgs_cons (pg_name (i := 4) sc_code_at.nd rfl (.inl rfl)) pgs_nil))))
      (pss_cons (ps_set (i := 5) sc_code_at.nd rfl (.inr rfl) (pe_calM0 E.clG (cal_Gunits (P := P) (w := w) (base := base) E) (hr.mono (by decide)) (pv 0)))
      (pss_cons (ps_setLc (i := 6) (own := [("column", 8)]) (g := gName 8) (tt := tYes) rfl sc_code_at.nd rfl rfl rfl (pi_list (pv 3)) (blkOk_by (by kernel_rfl)) (fun _ _ _ _ _ => pg_name (i := 8) sc_code_at.nd rfl (.inl rfl)) (fun _ _ _ _ _ => pts_nil)
        (fun _ _ _ _ _ => pe_callTy (ct_list K) (by rfl) E.n_list (by decide +kernel) (pa_cons (pe_ix (ixt K) (pv 5) (pv 8) (fun _ _ => rfl)) pa_nil)))
      (pss_cons (ps_for PassesOwn.never rfl (pi_list (pe_revL (pe_cal (cal_free_places (P := P) (w := w) (base := base) E) (hr.mono (by decide)) (pa_cons (pv 0) (pa_cons (pv 3) pa_nil))))) (pg_tup rfl (pgs_cons (pg_name (i := 7) sc_code_at.nd rfl (.inl rfl)) (pgs_cons (pg_name (i := 8) sc_code_at.nd rfl (.inl rfl)) pgs_nil)))
        (pss_cons (ps_asg (pe_op op_mod (pv 4) (pe_calM0 E.clG (cal_Gp (P := P) (w := w) (base := base) E) (hr.mono (by decide)) (pv 0))) (pg_sub (pe_ix (ixl K) (pv 6) (pv 7) (fun _ _ => rfl)) (pv 8) set_list))
        (pss_one (ps_aug (i := 4) sc_code_at.nd rfl (.inl rfl) (pe_calM0 E.clG (cal_Gp (P := P) (w := w) (base := base) E) (hr.mono (by decide)) (pv 0)) ip_fdivI))))
      (pss_one (ps_ret (pe_callTy (ct_tuple K) (by rfl) E.n_tuple (by decide +kernel) (pa_cons (pe_lc (own := [("row", 9)]) (g := gName 9) (tt := tYes) rfl sc_code_at.nd (pi_list (pv 6)) (blkOk_by (by kernel_rfl)) (fun _ _ _ _ _ => pg_name (i := 9) sc_code_at.nd rfl (.inl rfl)) (fun _ _ _ _ _ => pts_nil)
        (fun _ _ _ _ _ => pe_callTy (ct_tuple K) (by rfl) E.n_tuple (by decide +kernel) (pa_cons (pv 9) pa_nil))) pa_nil)))))))), ?_⟩
    refine ⟨_, rfl, _, rfl, _, rfl, g, p, rfl, hg, hp, fun H1 e1 => ⟨_, _, rfl, rfl, _, rfl, ?_⟩⟩
    rw [decide_eq_false (by omega)]
    refine iteF ⟨_, rfl, _, rfl, _, rfl, g, p, t, rfl, hg.mono e1, hp, t0, t1, fun T D H2 e2 hT hD => ?_⟩
    refine ⟨T, _, rfl, .inl (.inl hT), rfl, _, _, rfl, _, _, rfl, rfl, ?_⟩
    obtain ⟨c, hcd⟩ : ∃ c : Int, c = if t < p then 0 else 1 := ⟨_, rfl⟩
    obtain ⟨l, hl⟩ : ∃ l : Int, l = if t < p then t else 0 := ⟨_, rfl⟩
    rw [← hcd] at hD
    rw [← hl]
    have hc : c = 0 ∨ c = 1 := by
      rw [hcd]
      split <;> simp
    have hg2 := hg.mono (e1.trans e2)
    refine in_gunits rfl (n := 2) hg2 (by decide) fun U H3 e3 hU => ?_
    have hg3 := hg2.mono e3
    have hD3 := e3 _ _ hD
    rw [units2] at hU
    obtain ⟨U, us, rfl, tU, hus⟩ := dp_tup hU
    cases hus with
    | @cons u0 _ _ _ hu0 hus1 =>
    cases hus1 with
    | @cons u1 _ _ _ hu1 hus2 =>
    cases hus2
    obtain ⟨u0, rfl, tu0⟩ := dp_row hu0
    obtain ⟨u1, rfl, tu1⟩ := dp_row hu1
    obtain ⟨row, hrow⟩ : ∃ row : List Int, row = if c = 0 then [1, 0] else [0, 1] := ⟨_, rfl⟩
    obtain ⟨uc, hat, tuc⟩ : ∃ uc, atI [V.ref u0, .ref u1] c = some (.ref uc) ∧ SqT K H3 uc (row.map V.int) := by
      rcases hc with rfl | rfl
      · exact ⟨u0, atI_nat (j := 0) rfl, by rw [hrow, if_pos rfl]; exact tu0⟩
      · exact ⟨u1, atI_nat (j := 1) rfl, by rw [hrow, if_neg (by decide)]; exact tu1⟩
    refine ⟨_, rfl, D, rfl, ⟨_, .inl (.inl hD3)⟩, fun L hL => ?_⟩
    refine ⟨fun i m H' => (i = 0 ∧ m = 1 ∧ H' = upd H3 L (.lst [])) ∨ (i = 1 ∧ m = 0 ∧ Ex H3 H' ∧ ∃ M, L ≠ M ∧ H3 M = none ∧ H' L = some (.lst [.ref M]) ∧ H' M = some (.lst (row.map V.int))), ⟨1, .inl ⟨rfl, rfl, rfl⟩⟩, ?_⟩
    rintro i m H' (⟨rfl, rfl, rfl⟩ | ⟨rfl, rfl, e4, M, hLM, hM, hL4, hM4⟩)
    · have hD4 : upd H3 L (.lst []) D = some (.lst [.int c]) := (Ex.new hL) _ _ hD3
      refine .inr ⟨⟨_, _, .inl (.inl hD4), rfl⟩, fun H' => Ex H3 H' ∧ ∃ M, L ≠ M ∧ H3 M = none ∧ H' L = some (.lst [.ref M]) ∧ H' M = some (.lst (row.map V.int)), fun H' h => ⟨0, by decide, .inr ⟨rfl, rfl, h⟩⟩, ?_⟩
      rintro x H' ⟨rfl, hx⟩
      obtain rfl : x = .int c := (Option.some.inj (hx _ (.inl (.inl hD4)))).symm
      refine ⟨rfl, ?_⟩
      unfold tYes
      refine iteT ⟨_, rfl, _, rfl, U, _, c, .ref uc, rfl, rfl, Evl.ex_t (Ex.new hL) tU, hat, uc, _, rfl, .inr (Evl.ex_t (Ex.new hL) tuc), fun M hM => ?_⟩
      have hLM : L ≠ M := ne_of_none upd_same hM
      refine ⟨[], by rw [upd_ne hLM]; exact upd_same, by show 0 < sizeLine; decide, Evl.Ex.mut ((Ex.new hL).trans (Ex.new hM)) hL, M, hLM, ex_none (Ex.new hL) hM, upd_same, ?_⟩
      rw [upd_ne hLM.symm]
      exact upd_same
    · refine .inl ⟨⟨_, .inl (.inl (e4 _ _ hD3)), by show 1 ≤ 1; decide⟩, ?_⟩
      have hg4 := hg3.mono e4
      refine ⟨_, rfl, _, rfl, g, p, D, c, rfl, hg4, e4 _ _ hD3, hc, fun v H5 e5 hv => ?_⟩
      obtain ⟨v, vs, rfl, tv, hvs⟩ := dp_lst hv
      refine ⟨v, vs, rfl, tv, fun R hR => ?_⟩
      have e6 := e5.trans (Ex.new (o := .lst vs.reverse) hR)
      have eH : Ex H H3 := (e1.trans e2).trans e3
      have hLR : L ≠ R := ne_of_none (e5 _ _ hL4) hR
      have hMR : M ≠ R := ne_of_none (e5 _ _ hM4) hR
      have hl46 : (upd H5 R (.lst vs.reverse)) L = some (.lst [.ref M]) := by rw [upd_ne hLR]; exact e5 _ _ hL4
      have hm46 : (upd H5 R (.lst vs.reverse)) M = some (.lst (row.map V.int)) := by rw [upd_ne hMR]; exact e5 _ _ hM4
      refine ⟨R, rfl, ⟨_, .inl (.inl upd_same)⟩, ?_⟩
      refine for_list (xs := vs.reverse) (fun i σ H' => Ex H3 H' ∧ ExT K (upd H5 R (.lst vs.reverse)) H' ∧ H' R = some (.lst vs.reverse) ∧ H' L = some (.lst [.ref M]) ∧ ∃ lv x y z, σ = [some g, some (.int 1), some (.int t), some (.ref D), lv, some (.ref U), some (.ref L), x, y, z] ∧
        ((i = 0 ∧ H' M = some (.lst (row.map V.int)) ∧ lv = some (.int l)) ∨ (i = 1 ∧ t < p ∧ H' M = some (.lst [.int 1, .int t])))) ⟨e4.trans e6, ExT.refl _ _, upd_same, hl46, _, _, _, _, rfl, .inl ⟨rfl, hm46, rfl⟩⟩ (fun i σ H' _ z => .inl (.inl z.2.2.1)) ?_ ?_
      · rintro i x σ H' hx ⟨f1, f2, f3, f4, lv, x0, y0, z0, rfl, ⟨rfl, f5, rfl⟩ | ⟨rfl, ht, f5⟩⟩
        · rcases hc with rfl | rfl
          · have ht : t < p := by
              by_cases h : t < p
              · exact h
              · rw [if_neg h] at hcd
                omega
            rw [if_pos ht] at hl
            subst hl
            rw [if_pos rfl] at hrow
            subst hrow
            have hvs' : DpAll K H5 vs [.tuple [.int 0, .int 1]] := hvs
            cases hvs' with
            | @cons y _ _ _ hy hn =>
              cases hn
              obtain rfl : y = x := Option.some.inj hx
              obtain ⟨T2, ws, rfl, tT2, hws⟩ := dp_tup hy
              have ews : ws = [V.int 0, .int 1] := dps_ints (r := [0, 1]) hws
              subst ews
              have hgl : GrAt K H' g p 2 := hg3.mono f1
              refine ⟨T2, _, rfl, f2 _ _ (Evl.ex_t (Ex.new hR) tT2), rfl, _, _, rfl, _, _, rfl, rfl, ?_⟩
              refine ⟨_, rfl, in_gp rfl hgl ⟨_, _, rfl, rfl, by omega, _, rfl, _, rfl, L, _, 0, .ref M, rfl, rfl, .inl (.inl f4), atI_nat (j := 0) rfl, _, rfl, M, _, 1, 1, rfl, rfl, f5, rfl, ?_⟩⟩
              have hne : R ≠ M := hMR.symm
              have g1 : Ex H3 (upd H' M (.lst ((List.map V.int [1, 0]).set 1 (.int (l % p))))) := Evl.Ex.mut f1 hM
              refine ⟨_, rfl, in_gp rfl (hg3.mono g1) ⟨_, _, rfl, rfl, ⟨by omega, by omega⟩, g1, f2.trans (ExT.mut f5), by rw [upd_ne hne]; exact f3, by rw [upd_ne hLM]; exact f4, _, _, _, _, rfl, .inr ⟨rfl, ht, ?_⟩⟩⟩
              rw [upd_same]
              show some (HO.lst [V.int 1, V.int (l % p)]) = _
              rw [Int.emod_eq_of_lt t0 ht]
          · have hvs' : DpAll K H5 vs [] := hvs
            cases hvs'
            cases hx
        · rcases hc with rfl | rfl
          · have hvs' : DpAll K H5 vs [.tuple [.int 0, .int 1]] := hvs
            cases hvs' with
            | cons hy hn =>
              cases hn
              cases hx
          · have hvs' : DpAll K H5 vs [] := hvs
            cases hvs'
            cases hx
      · rintro σ H' ⟨f1, f2, f3, f4, lv, x0, y0, z0, rfl, hf⟩
        have hM7 : H' M = some (.lst ((lineR p t).map V.int)) := by
          rcases hc with rfl | rfl
          · have ht : t < p := by
              by_cases h : t < p
              · exact h
              · rw [if_neg h] at hcd
                omega
            have hvs' : DpAll K H5 vs [.tuple [.int 0, .int 1]] := hvs
            cases hvs' with
            | cons hy hn =>
              cases hn
              rcases hf with ⟨h0, _⟩ | ⟨_, _, h1⟩
              · cases h0
              · unfold lineR
                rw [if_pos ht]
                exact h1
          · have ht : ¬ t < p := fun h => by
              rw [if_pos h] at hcd
              omega
            have hvs' : DpAll K H5 vs [] := hvs
            cases hvs'
            rcases hf with ⟨_, h1, _⟩ | ⟨h0, _⟩
            · unfold lineR
              rw [if_neg ht]
              rw [if_neg (by decide)] at hrow
              rw [← hrow]
              exact h1
            · cases h0
        refine ⟨_, rfl, L, rfl, ⟨_, .inl (.inl f4)⟩, fun D2 hD2 => ?_⟩
        refine lcW (walk_list (xs := [V.ref M])) hD2 K (fun _ => true) (fun i v H => Dp K H v (rowD (lineR p t))) (gm_name 9) (by show 1 < sizeLine; decide) (fun H' e => .inl (.inl (e _ _ f4))) (fun _ _ _ _ e q => dp_monoT e _ _ (flat_row _) q) ?_ ?_
        · rintro i x H7 H8 hi e7 ⟨rfl, hx⟩
          have hi0 : i = 0 := Nat.lt_one_iff.mp hi
          subst hi0
          obtain rfl : V.ref M = x := Option.some.inj hx
          refine ⟨rfl, Ex.refl _, et_yes, fun _ => ?_⟩
          intro H9 e9 Q' k
          exact ⟨_, rfl, M, _, rfl, .inl ⟨.inl (.inl (e9 _ _ (e7 _ _ hM7))), fun T9 hT9 => k _ _ (Ex.new hT9) (row_dp (.inl (.inl upd_same)))⟩⟩
        · intro ys H9 e9 hv9 hp9
          rw [range_all] at hp9
          refine ⟨D2, ys, rfl, .inl ⟨.inl (.inl hv9), fun T9 hT9 => q _ _ ((eH.trans f1).trans (e9.trans (Ex.new hT9))) (.tup (.inl (.inl upd_same)) (dps_mono (Ex.new hT9) _ _ ?_))⟩⟩
          have h9 := dps_paired (f := fun _ => rowD (lineR p t)) hp9
          exact h9
end
end Cn
namespace Cn
open PySem PySem.Spec PyProof.Rows L2
open Evl (Ex)
section
variable {P : Program} {w : World} {K : PySem.W.Frag} {mg : Str → Option Value} {base : Heap}
/-! ### all_codes -/
def linesL (p : Int) : List (List (List Int)) := (List.range (p.toNat + 1)).map fun t => [lineR p (t : Nat)]
def spAllCodes (K : PySem.W.Frag) : Sp := fun vs H Q _ => ∃ g p, vs = [g, .int 1] ∧ GrAt K H g p 2 ∧ GoodP p ∧ ∀ D vs H', H D = none → Ex H H' → H' D = some (.lst vs) → DpAll K H' vs ((linesL p).map codeD) → Q (.ref D) H'
theorem sc_all_codes : FnScope ["ground", "rank", "number"] ["ground", "rank"] (defScope s_all_codes) := ⟨rfl, rfl, rfl, by decide +kernel, rfl, by decide +kernel, by decide +kernel⟩
theorem cal_all_codes (E : En K mg) : Cal P w K mg base 6 "all_codes" ["ground", "rank"] (spAllCodes K) := by
  obtain ⟨fd, F, g⟩ := E.c_all_codes
  refine ⟨⟨fd, ?_, F.binds fun _ _ _ _ _ _ us hl => match us, hl with | [_, _], _ => rfl⟩, g, F.kp⟩
  refine F.ok sc_all_codes (fun vs H Q E h => ?_) (fun cdv A outer s H vs Q E' hr h => ?_)
  · obtain ⟨g, p, rfl, _⟩ := h
    rfl
  · obtain ⟨g, p, rfl, hg, hp, q⟩ := h
    have p2 := hp.two
    have p13 := hp.most
    refine ⟨_, pss_one (ps_ret (pe_lc (own := [("number", 2)]) (g := gName 2) (tt := tYes) rfl sc_all_codes.nd (pi_range1 (by rfl) E.n_range (pa_cons (pe_cal (cal_count_codes (P := P) (w := w) (base := base) E) (hr.mono (by decide)) (pa_cons (pv 0) (pa_cons (pv 1) pa_nil))) pa_nil)) (blkOk_by (by kernel_rfl)) (fun _ _ _ _ _ => pg_name (i := 2) sc_all_codes.nd rfl (.inl rfl)) (fun _ _ _ _ _ => pts_nil)
      (fun _ _ _ _ _ => pe_cal (cal_code_at (P := P) (w := w) (base := base) E) (hr.mono (by decide)) (pa_cons (pv 0) (pa_cons (pv 1) (pa_cons (pv 2) pa_nil)))))), ?_⟩
    refine ⟨_, rfl, _, rfl, g, p, rfl, hg, hp, fun H1 e1 => ⟨p + 1, rfl, by omega, by omega, ?_⟩⟩
    refine rng_lc (K := K) (lo := 0) (n := (p + 1).toNat) (sz100 (by omega)) (fun _ => true) (fun t => codeD [lineR p (t : Nat)]) (fun _ => flat_code _) (gm_name 2) ?_ ?_
    · intro i H2 hi e2
      refine ⟨rfl, Ex.refl _, et_yes, fun _ => ?_⟩
      intro H3 e3 Q' k
      refine ⟨_, rfl, _, rfl, _, rfl, g, p, i, ?_, hg.mono ((e1.trans e2).trans e3), hp, by omega, by omega, fun v H4 e4 hv => k _ _ e4 hv⟩
      show [g, V.int 1, V.int (0 + (i : Int))] = _
      rw [Int.zero_add]
    · intro D vs H2 hD e2 hv hd
      rw [filter_all] at hd
      refine q _ _ _ (ex_none e1 hD) (e1.trans e2) hv ?_
      unfold linesL
      rw [List.map_map, show p.toNat + 1 = (p + 1).toNat by omega]
      exact hd
/-! ### codes_of_rank, between_codes -/
def baseL (p : Int) (low high : List (List Int)) : List (List Int) := redL p (high.map fun r => withR p r low)
def midC (p : Int) (n : Nat) (low high : List (List Int)) (t : Nat) : List (List Int) := redL p (low ++ [combR p n (lineR p (t : Nat)) (baseL p low high)])
def betweenL (p : Int) (n : Nat) (low high : List (List Int)) : List (List (List Int)) := upC ((List.range (p.toNat + 1)).map (midC p n low high))
structure BtwOk (p : Int) (n : Nat) (low high : List (List Int)) : Prop where
  lo : CodeOk p n low
  hi : CodeOk p n high
  lt : low.length < n
  two : (baseL p low high).length = 2
  ne : ∀ t : Nat, (t : Int) ≤ p → midC p n low high t ≠ []
def spBetween (K : PySem.W.Frag) : Sp := fun vs H Q _ => ∃ g a b p, ∃ n : Nat, ∃ low high, (vs = [g, a, b] ∨ vs = [g, a, b, .int 1]) ∧ GrOk K H g p n ∧ Dp K H a (codeD low) ∧ Dp K H b (codeD high) ∧ BtwOk p n low high ∧
  ∀ v H', Ex H H' → Dp K H' v (.list ((betweenL p n low high).map codeD)) → Q v H'
theorem downR_perm (l : List (List Int)) : (downR l).Perm l := List.mergeSort_perm _ _
theorem redL_mem {p : Int} {c : List (List Int)} {r : List Int} : r ∈ redL p c ↔ r ∈ redF p c := (downR_perm _).mem_iff
theorem redL_len (p : Int) (c : List (List Int)) : (redL p c).length ≤ c.length := by
  have h := redF_len p c []
  unfold redL
  rw [(downR_perm _).length_eq]
  simpa [redF] using h
theorem sc_codes_of_rank : FnScope ["ground", "low", "high", "more", "base", "found", "code", "row", "numbers"] ["ground", "low", "high", "more"] (defScope s_codes_of_rank) := ⟨rfl, rfl, rfl, by decide +kernel, rfl, by decide +kernel, by decide +kernel⟩
theorem line_row {p : Int} (hp : GoodP p) {t : Int} (t0 : 0 ≤ t) : IsRow p 2 (lineR p t) := by
  have := hp.two
  unfold lineR
  split
  · refine ⟨rfl, fun i => ?_, fun i => ?_⟩ <;> match i with
      | 0 => simp <;> omega
      | 1 => simp <;> omega
      | i + 2 => simp <;> omega
  · refine ⟨rfl, fun i => ?_, fun i => ?_⟩ <;> match i with
      | 0 => simp <;> omega
      | 1 => simp <;> omega
      | i + 2 => simp <;> omega
theorem comb_row {p : Int} {n : Nat} (hp : 0 < p) (ns : List Int) (c : List (List Int)) : IsRow p n (combR p n ns c) := by
  have h := combAt_row (n := n) hp ns c (ns.zip c).length
  unfold combAt at h
  rw [List.take_length] at h
  exact h
theorem with_rows {p : Int} {n : Nat} (hp : 0 < p) {low high : List (List Int)} (h : ∀ r ∈ high, IsRow p n r) : ∀ r ∈ high.map (fun r => withR p r low), IsRow p n r := fun r m => by
  obtain ⟨s, hs, rfl⟩ := List.mem_map.mp m
  exact withR_row hp _ (h s hs)
def spRank (K : PySem.W.Frag) : Sp := fun vs H Q _ => ∃ g a b p, ∃ n : Nat, ∃ low high, vs = [g, a, b, .int 1] ∧ GrOk K H g p n ∧ Dp K H a (codeD low) ∧ Dp K H b (codeD high) ∧ BtwOk p n low high ∧
  ∀ v H', Ex H H' → Dp K H' v (.list ((betweenL p n low high).map codeD)) → Q v H'
theorem cal_codes_of_rank (E : En K mg) : Cal P w K mg base 7 "codes_of_rank" ["ground", "low", "high", "more"] (spRank K) := by
  obtain ⟨fd, F, g⟩ := E.c_codes_of_rank
  refine ⟨⟨fd, ?_, F.binds fun _ _ _ _ _ _ us hl => match us, hl with | [_, _, _, _], _ => rfl⟩, g, F.kp⟩
  refine F.ok sc_codes_of_rank (fun vs H Q E h => ?_) (fun cdv A outer s H vs Q E' hr h => ?_)
  · obtain ⟨g, a, b, p, n, low, high, rfl, _⟩ := h
    rfl
  · obtain ⟨g, a, b, p, n, low, high, rfl, hg, ha, hb, ⟨hlo, hhi, hlt, h2, hne⟩, q⟩ := h
    have hp := hg.p
    have p2 := hp.two
    have p13 := hp.most
    have p0 := hp.pos
    have hu := hr.units
    have hn := hg.n100
    have brow := with_rows (low := low) p0 hhi.red.row
    have bred : ∀ r ∈ baseL p low high, IsRow p n r := fun r m => (redF_red hp brow).row r (redL_mem.mp m)
    refine ⟨_, pss_cons (ps_set (i := 4) sc_codes_of_rank.nd rfl (.inr rfl) (pe_cal (cal_code_of (P := P) (w := w) (base := base) E) (hr.mono (by decide)) (pa_cons (pv 0) (pa_cons (pe_lc (own := [("row", 7)]) (g := gName 7) (tt := tYes) rfl sc_codes_of_rank.nd (pi_seq K (pv 2)) (blkOk_by (by kernel_rfl)) (fun _ _ _ _ _ => pg_name (i := 7) sc_codes_of_rank.nd rfl (.inl rfl)) (fun _ _ _ _ _ => pts_nil)
        (fun _ _ _ _ _ => pe_cal (cal_rest (P := P) (w := w) (base := base) E) (hr.mono (by decide)) (pa_cons (pv 0) (pa_cons (pv 1) (pa_cons (pv 7) pa_nil))))) pa_nil))))
      (pss_cons (ps_set (i := 5) sc_codes_of_rank.nd rfl (.inl rfl) (pe_lst pa_nil))
      (pss_cons (ps_for PassesOwn.never rfl (pi_list (pe_cal (cal_all_codes (P := P) (w := w) (base := base) E) (hr.mono (by decide)) (pa_cons (pe_new (cal_Ground (P := P) (w := w) (base := base) E) (hr.mono (by decide)) (pa_cons (pe_calM0 E.clG (cal_Gp (P := P) (w := w) (base := base) E) (hr.mono (by decide)) (pv 0)) (pa_cons (pe_callB (cb_len K) (by rfl) E.n_len (by decide +kernel) (pa_cons (pv 4) pa_nil)) pa_nil))) (pa_cons (pv 3) pa_nil)))) (pg_name (i := 6) sc_codes_of_rank.nd rfl (.inl rfl))
        (pss_one (ps_expr (pe_bm PySem.F.plainAttrs_list PySem.F.slot_list_append PySem.F.type_list_append mt_append (pv 5) (pa_cons (pe_cal (cal_code_of (P := P) (w := w) (base := base) E) (hr.mono (by decide)) (pa_cons (pv 0) (pa_cons
          (pe_lst (StX.pa_star (pv 1) (StX.pa_star (pe_lc (own := [("numbers", 8)]) (g := gName 8) (tt := tYes) rfl sc_codes_of_rank.nd (pi_seq K (pv 6)) (blkOk_by (by kernel_rfl)) (fun _ _ _ _ _ => pg_name (i := 8) sc_codes_of_rank.nd rfl (.inl rfl)) (fun _ _ _ _ _ => pts_nil)
            (fun _ _ _ _ _ => pe_cal (cal_combined (P := P) (w := w) (base := base) E) (hr.mono (by decide)) (pa_cons (pv 0) (pa_cons (pv 8) (pa_cons (pv 4) pa_nil))))) pa_nil))) pa_nil))) pa_nil)))))
      (pss_one (ps_ret (pe_callB (cr_upC K hu) (by rfl) E.n_sorted (by decide +kernel) (pa_cons (pv 5) pa_nil)))))), ?_⟩
    refine ⟨_, rfl, _, rfl, seq_lc (LsAt.tup hb) (sz100 (by have := hhi.len; omega)) (fun _ => true) (fun r => rowD (withR p r low)) (fun _ => flat_row _) (gm_name 7) ?_ ?_⟩
    · intro r x H1 hm e1 hx
      refine ⟨rfl, Ex.refl _, et_yes, fun _ => ?_⟩
      intro H2 e2 Q' k
      exact ⟨_, rfl, _, rfl, _, rfl, g, x, a, p, n, r, low, rfl, hg.mono (e1.trans e2), dp_rowmono e2 hx, hhi.red.row r hm, LsAt.tup (dp_codemono (e1.trans e2) ha), hlo.red.piv, fun v H3 e3 hv => k _ _ e3 hv⟩
    · intro D0 vs0 H1 hD0 e1 hv0 hd0
      rw [filter_all] at hd0
      refine ⟨g, _, p, n, high.map fun r => withR p r low, rfl, hg.mono e1, ⟨D0, vs0, rfl, .inl (.inl (.inl hv0)), by rw [List.map_map]; exact hd0⟩, brow, by rw [List.length_map]; have := hhi.len; omega, fun B H2 e2 hB => ?_⟩
      have hB' : Dp K H2 B (codeD (baseL p low high)) := hB
      obtain ⟨B, bs, rfl, tB, hbs⟩ := dp_tup hB'
      refine ⟨by show 0 ≤ sizeLine; decide, fun F hF => ?_⟩
      have e3 := (e1.trans e2).trans (Ex.new (o := .lst []) hF)
      have e23 : Ex H2 (upd H2 F (.lst [])) := Ex.new hF
      refine in_gp rfl (hg.mono e3).at_ ⟨_, rfl, B, bs, rfl, .inr (Evl.ex_t e23 tB), fun x dx hx hdx hxd => ?_⟩
      have lb : bs.length = 2 := by rw [dps_mapl hbs, h2]
      refine ⟨x, dx, _, p, 2, ?_, hx, hdx, hxd, rfl, hp, fun H4 e4 hg4 => ⟨rfl, _, rfl, .ref x, p, rfl, hg4, hp, fun C cs H5 hC0 e5 hC hcs => ?_⟩⟩
      · show [V.ref x, V.int p, V.int (bs.length : Nat)] = _
        rw [lb]
      have e25 : Ex H2 H5 := e23.trans (e4.trans e5)
      have e05 : Ex H H5 := (e1.trans e2).trans e25
      have hF5 : H5 F = some (.lst []) := (e4.trans e5) _ _ upd_same
      have lcs : cs.length = p.toNat + 1 := by
        rw [dps_mapl hcs]
        unfold linesL
        rw [List.length_map, List.length_range]
      have hF4 : H4 F = some (.lst []) := e4 _ _ upd_same
      have hCF : C ≠ F := (ne_of_none hF4 hC0).symm
      obtain ⟨a, las, rfl, tA, hlas⟩ := dp_tup ha
      have hmid : ∀ i, i < p.toNat + 1 → ((List.range (p.toNat + 1)).map (midC p n low high)).take (i + 1) = ((List.range (p.toNat + 1)).map (midC p n low high)).take i ++ [midC p n low high i] := fun i hi => by
        rw [List.take_add_one, List.getElem?_map, List.getElem?_range hi]
        rfl
      refine ⟨C, rfl, ⟨_, .inl (.inl hC)⟩, ?_⟩
      refine for_list (xs := cs) (fun i σ H' => Ex H2 H' ∧ ExT K H5 H' ∧ H' C = some (.lst cs) ∧ ∃ fs x y z, σ = [some g, some (.ref a), some b, some (.int 1), some (.ref B), some (.ref F), x, y, z] ∧ H' F = some (.lst fs) ∧ DpAll K H' fs ((((List.range (p.toNat + 1)).map (midC p n low high)).take i).map codeD)) ⟨e25, ExT.refl _ _, hC, [], _, _, _, rfl, hF5, .nil⟩ (fun i σ H' _ z => .inl (.inl z.2.2.1)) ?_ ?_
      · rintro i x σ H' hx ⟨f1, f2, f3, fs, x0, y0, z0, rfl, f4, f5⟩
        have hi : i < cs.length := (List.getElem?_eq_some_iff.mp hx).1
        rw [lcs] at hi
        obtain ⟨c, hc, hdc⟩ := ls_at hcs hx
        have ec : c = [lineR p (i : Nat)] := by
          unfold linesL at hc
          rw [List.getElem?_map, List.getElem?_range hi] at hc
          exact (Option.some.inj hc).symm
        subst ec
        have hdc' := dp_monoT f2 _ _ (flat_code _) hdc
        have f0 : Ex H H' := (e1.trans e2).trans f1
        refine ⟨_, rfl, .inl ⟨rfl, fs, .inl (.inl f4)⟩, _, rfl, _, rfl, a, las, rfl, .inl (Evl.ex_t f0 tA), _, rfl, seq_lc (f := rowD) (c := [lineR p (i : Nat)]) (LsAt.tup hdc') (by show 1 < sizeLine; decide) (fun _ => true) (fun ns => rowD (combR p n ns (baseL p low high))) (fun _ => flat_row _) (gm_name 8) ?_ ?_⟩
        · intro r y H6 hm e6 hy
          obtain rfl := List.mem_singleton.mp hm
          refine ⟨rfl, Ex.refl _, et_yes, fun _ => ?_⟩
          intro H7 e7 Q' k
          exact ⟨_, rfl, _, rfl, _, rfl, g, y, .ref B, p, n, 2, lineR p (i : Nat), baseL p low high, rfl, hg.mono (f0.trans (e6.trans e7)), dp_rowmono e7 hy, line_row hp (by omega), dp_codemono (f1.trans (e6.trans e7)) hB', h2, by decide, bred, fun v H8 e8 hv => k _ _ e8 hv⟩
        · intro D2 vs2 H6 hD2 e6 hv2 hd2
          rw [filter_all] at hd2
          have lvs2 : vs2.length = 1 := by rw [dps_len hd2]; rfl
          have llas : las.length ≤ n := by rw [dps_mapl hlas]; exact hlo.len
          have hle : (las ++ (vs2 ++ [])).length ≤ sizeLine := by
            have : 101 < sizeLine := by decide
            rw [List.length_append, List.length_append, lvs2]
            simp only [List.length_nil]
            omega
          refine ⟨D2, vs2, rfl, .inr (.inl (.inl hv2)), hle, fun L hL => ?_⟩
          have e7 := e6.trans (Ex.new (o := .lst (las ++ (vs2 ++ []))) hL)
          have row2 : ∀ r ∈ low ++ [combR p n (lineR p (i : Nat)) (baseL p low high)], IsRow p n r := fun r m => by
            rcases List.mem_append.mp m with m | m
            · exact hlo.red.row r m
            · rw [List.mem_singleton.mp m]
              exact comb_row p0 _ _
          refine ⟨g, .ref L, p, n, low ++ [combR p n (lineR p (i : Nat)) (baseL p low high)], rfl, hg.mono (f0.trans e7), ⟨L, _, rfl, .inl (.inl (.inl upd_same)), ?_⟩, row2, by rw [List.length_append, List.length_singleton]; omega, fun v H8 e8 hv => ?_⟩
          · have h9 := dps_app (dps_mono (f0.trans e7) _ _ hlas) (dps_app (dps_mono (Ex.new hL) _ _ hd2) .nil)
            rw [List.append_nil (as := List.map _ _)] at h9
            rw [List.map_append]
            exact h9
          · have e9 := e7.trans e8
            have f48 : H8 F = some (.lst fs) := e9 _ _ f4
            have lfs : fs.length < sizeLine := by
              rw [dps_mapl f5]
              refine sz100 ?_
              rw [List.length_take, List.length_map, List.length_range]
              omega
            refine ⟨F, fs, v, rfl, rfl, f48, lfs, Evl.Ex.mut (f1.trans e9) hF, (f2.trans (ExT.of e9)).trans (ExT.mut f48), by rw [upd_ne hCF]; exact e9 _ _ f3, fs ++ [v], _, _, _, rfl, upd_same, ?_⟩
            rw [hmid i hi, List.map_append]
            refine dps_snoc (dps_monoT ((ExT.of e9).trans (ExT.mut f48)) _ _ (flat_map fun _ => flat_code _) f5) ?_
            exact dp_monoT (ExT.mut f48) _ _ (flat_code _) hv
      · rintro σ H' ⟨f1, f2, f3, fs, x0, y0, z0, rfl, f4, f5⟩
        rw [lcs, List.take_of_length_le (by rw [List.length_map, List.length_range]; exact Nat.le_refl _)] at f5
        refine ⟨_, rfl, F, fs, _, rfl, .inl (.inl f4), f5, fun d hd => ?_, fun ys l hy hl => q _ _ (((e1.trans e2).trans f1).trans (Ex.new hl)) (.lst (.inl (.inl upd_same)) (dps_mono (Ex.new hl) _ _ hy))⟩
        obtain ⟨t, ht, rfl⟩ := List.mem_map.mp hd
        have ht := List.mem_range.mp ht
        have h9 := hne t (by omega)
        cases e : midC p n low high t with
        | nil => exact absurd e h9
        | cons r rs => exact ⟨_, _, rfl⟩
theorem sc_between_codes : FnScope ["ground", "low", "high"] ["ground", "low", "high"] (defScope s_between_codes) := ⟨rfl, rfl, rfl, by decide +kernel, rfl, by decide +kernel, by decide +kernel⟩
def spBtw (K : PySem.W.Frag) : Sp := fun vs H Q _ => ∃ g a b p, ∃ n : Nat, ∃ low high, vs = [g, a, b] ∧ GrOk K H g p n ∧ Dp K H a (codeD low) ∧ Dp K H b (codeD high) ∧ BtwOk p n low high ∧
  ∀ v H', Ex H H' → Dp K H' v (.list ((betweenL p n low high).map codeD)) → Q v H'
theorem cal_between_codes (E : En K mg) : Cal P w K mg base 8 "between_codes" ["ground", "low", "high"] (spBtw K) := by
  obtain ⟨fd, F, g⟩ := E.c_between_codes
  refine ⟨⟨fd, ?_, F.binds fun _ _ _ _ _ _ us hl => match us, hl with | [_, _, _], _ => rfl⟩, g, F.kp⟩
  refine F.ok sc_between_codes (fun vs H Q E h => ?_) (fun cdv A outer s H vs Q E' hr h => ?_)
  · obtain ⟨g, a, b, p, n, low, high, rfl, _⟩ := h
    rfl
  · obtain ⟨g, a, b, p, n, low, high, rfl, h⟩ := h
    exact ⟨_, pss_one (ps_ret (pe_cal (cal_codes_of_rank (P := P) (w := w) (base := base) E) (hr.mono (by decide)) (pa_cons (pv 0) (pa_cons (pv 1) (pa_cons (pv 2) (pa_cons pe_int pa_nil)))))), _, rfl, _, rfl, _, rfl, g, a, b, p, n, low, high, rfl, h⟩
end
end Cn
/-! NoLevel: an own error over an own error over LookupError, whose __init__ says super().__init__(..), then a field. -/
namespace Cn
namespace NL
open PySem PySem.W PySem.Calls PyProof.Rows PySem.HandSPX
open Builtin Builtin.ObjectAttr
abbrev leT : List Value := [.type "LookupError", .type "Exception", .type "BaseException", .type "object"]
abbrev iArgs (p1 p2 : Pos) : Arguments := { posonlyargs := [], args := [{ arg := "self", annotation := none, pos := p1 }, { arg := "level", annotation := none, pos := p2 }], vararg := none, kwonlyargs := [], kw_defaults := [], kwarg := none, defaults := [] }
/-- what is known of NoLevel at C (over NM), its __init__ at fI, that def's code and cell -/
structure NlTxt (prog : Program) (K : Frag) (mg : Str → Option Value) (C NM fI cda cc : Addr) : Prop where
  gC : mg "NoLevel" = some (.ref C)
  sup : mg "super" = none
  cls : ∃ nm q N bs sn sub ab col dd k0 k1 k2 k3 k5, K.lookup C = some (excClassObj nm q C N bs (.ref NM :: leT) true sn sub ab col dd k0 k1 k2 k3 k5 "LookupError.__new__")
  sa : findIn K (.ref C) "__setattr__" = some (some (.builtin "object.__setattr__"))
  ga : findIn K (.ref C) "__getattribute__" = some (some (.builtin "BaseException.__getattribute__"))
  gg : findIn K (.ref C) "__getattr__" = some none
  noN : findIn K (.ref C) "level" = some none
  iC : findIn K (.ref C) "__init__" = some (some (.ref fI))
  tC : typeIn K (.ref fI) = some (.type "function")
  kC : keepIn K (.ref C) = true
  exC : subIn K (.ref C) (.type "BaseException") = some true
  leC : subIn K (.ref C) (.type "LookupError") = some true
  obC : mroIn K C (.type "object") = some true
  slf : mroIn K C (.ref C) = some true
  tyC : typeIn K (.ref C) = some (.type "type")
  hdC : hasDictIn K C = true
  te : exmOne K (.ref C) (.ref C) = some true
  up : ks_superIn K C C "__init__" = some (some (.builtin "LookupError.__init__"))
  opq : nsIn K cStatics "thirdparty.any" = some none
  tps : (prog.main.scope.names.lookup ("super" : Str)).isSome = false
  code : ∃ ccl cdd vs ccs file tf, K.lookup cda = some ⟨ccl, cdd, .fields vs, ccs⟩ ∧ vs[2]? = some (.str file tf) ∧ ((prog.main.file : Str) == file) = true
  cell : ∃ cl cld csl, K.lookup cc = some ⟨cl, cld, .cell (some (.ref C)), csl⟩
  fn : ∃ (oc : Value) (od : Option Addr) (doc pm : Value) (an : Option Addr) (ct : Value) (osl : Array (Option Value)),
    K.lookup fI = some ⟨oc, od, .func (ksFn "__init__" "NoLevel.__init__" (C8.fnArgs (L2.inClass (top 8) 0)) (C8.fnBody (L2.inClass (top 8) 0)) (C8.fnScope (L2.inClass (top 8) 0)) .none .none doc pm an (.ref cda) ct cc), osl⟩ ∧ codeIn K (.ref cda) "NoLevel.__init__" = true
abbrev nlS : Stmt := L2.inClass (top 8) 0
theorem nl_cells : ∀ x ∈ (C8.fnScope nlS).names, x.2 ≠ .cell := by decide +kernel
theorem nl_self : (C8.fnScope nlS).names.lookup ("self" : Str) = some .local := by kernel_rfl
theorem nl_level : (C8.fnScope nlS).names.lookup ("level" : Str) = some .local := by kernel_rfl
theorem nl_super : (C8.fnScope nlS).names.lookup ("super" : Str) = some .globalImplicit := by kernel_rfl
theorem nl_class : (C8.fnScope nlS).names.lookup ("__class__" : Str) = some .free := by kernel_rfl
theorem nl_kind : (C8.fnScope nlS).kind = .function := by kernel_rfl
theorem nl_body : ∃ p0 p1 p2 k p3 p4 p5 q1 q2 q3 q4, C8.fnBody nlS = [.Expr (.Call (.Attribute (.Call (.Name "super" p0) [] [] p1) "__init__" p2) [.Constant (.str "there is no such level") k p3] [] p4) p5, .Assign [.Attribute (.Name "self" q1) "level" q2] (.Name "level" q3) q4] ∧
    ∀ env, ∃ pl : Sem Bool, PySem.eval (.Call (.Attribute (.Call (.Name "super" p0) [] [] p1) "__init__" p2) [.Constant (.str "there is no such level") k p3] [] p4) env = (do
      let ov ← attributeBase (.Call (.Name "super" p0) [] [] p1) "__init__" env (PySem.eval (.Call (.Name "super" p0) [] [] p1) env)
      standAt p2.atName
      let (f, first) ← holding [ov] (getMethod ov "__init__" pl)
      callWith p4 f first (backTo p4 (starEach [.Constant (.str "there is no such level") k p3] env)) []) :=
  ⟨_, _, _, _, _, _, _, _, _, _, _, rfl, fun _ => ⟨_, rfl⟩⟩
theorem nl_args : ∃ p1 p2, C8.fnArgs nlS = iArgs p1 p2 := ⟨_, _, rfl⟩
theorem le_pass (self : Value) (a b : Addr) : refuseLoop self "__setattr__" (.ref a :: .ref b :: leT) = pure () := by
  rw [refuseLoop_ref, refuseLoop_ref]
  exact F.store_LookupError.passes self
theorem le_has (NM : Addr) (X : String) : (Value.ref NM :: leT).contains (.type X) = leT.contains (.type X) := by
  rw [List.contains_cons]
  rfl
section
variable {prog : Program} {w : World} {A : Around} {E : Value → Shared → Prop} {R : Result → Shared → Prop} {hp : Heap} {g : Array GenState} {d : Drawn} {t : Nat} {os : OsState}
/-- self.name = v, the exception has no dict yet -/
theorem own_set {K : W.Frag} {name : Str} {tk : Tok} {v : Value} {x C NM : Addr} {fv : Array Value} {cd : ClassData}
    (X : K.In hp) (hx : hp.get? x = some { cls := .ref C, data := .fields fv }) (hcd : W.clsIn K C = some cd) (hm : cd.mro = .ref C :: .ref NM :: leT) (hob : W.mroIn K C (.type "object") = some true) (hh : cd.hasDict = true) (ha : W.findIn K (.ref C) name = some none)
    (hq : ∀ h' tk' dx, (∀ b o, b ≠ x → hp.get? b = some o → h'.get? b = some o) → hp.objs.size ≤ dx → dx ≠ x → h'.get? x = some { cls := .ref C, dict := some dx, data := .fields fv } →
      h'.Ns1 dx (fun y => if y = name then some v else none) → R (.ok (.ret .none)) ⟨h', g, d, tk', os⟩) :
    codeAny (model prog w) A (.call (.builtin "object.__setattr__") ⟨[.ref x, .str name tk, v], []⟩) R ⟨hp, g, d, t, os⟩ := by
  have IA : W.InstAt hp x { cls := .ref C, data := .fields fv } C none := ⟨hx, rfl, rfl, trivial⟩
  have SO := F.store_object
  have xs : x ≠ hp.objs.size := Nat.ne_of_lt (Heap.lt_size hx)
  have su : W.Looks (model prog w) hp (isInstance (.ref x) (.type "object")) true := IA.type.andThen (W.looks_mroIn X hob)
  refine codeAny_call_builtin SO.slot.plain SO.entry (@W.check_slot (model prog w) _ _ ⟨hp, g, d, t, os⟩ "object.__setattr__" "object" "__setattr__" (.ref x) [.str name tk, v] [] _ SO.kind SO.split su (SO.args (.ref x) (.str name tk) v) ?_)
  have m1 : W.Looks (model prog w) hp (mroOf (.ref C)) cd.mro := (W.looks_clsIn X hcd).andThen .now
  have m2 : W.Looks (model prog w) hp (storeTaker? none) none := .now
  have m3 : W.Looks (model prog w) hp (classData C) cd := W.looks_clsIn X hcd
  rw [W.osa_eq, refuse_eq]
  refine wpAny_bind (wpAny_bind (IA.type.at (wpAny_bind (m1.at ?_))))
  rw [hm, le_pass]
  refine wpAny_pure (wpAny_bind (IA.type.at (wpAny_bind ((W.looks_findIn X ha).at (wpAny_bind (m2.at ?_))))))
  show wpAny _ _ (storeInOwnDict (.ref x) (.ref C) (.str name tk) name v false) _ _ _
  obtain ⟨nm, bs, mro, ns, qn, hd, sn, sb, ab, col, del⟩ := cd
  dsimp only at hh
  subst hh
  unfold storeInOwnDict ownDictForStores
  repeat (first | with_reducible refine store_in_new ?_ ?_ | with_reducible refine wpAny_loadPart_at hx ?_ | with_reducible refine m3.at ?_ | wp_step)
  · exact ⟨_, #[], _, (Heap.get?_update_ne _ _ _ _ xs.symm).trans (Heap.get?_push_at rfl rfl), rfl, fun e he => absurd he (by simp), fun _ => rfl⟩
  · intro h' tk' hn' hs
    have hx1 : (hp.push { cls := .type "dict", data := .dict #[] }).get? x = some { cls := .ref C, data := .fields fv } := Heap.get?_push_of_some _ hx
    refine hq h' tk' hp.objs.size (fun b o hb ho => ?_) (Nat.le_refl _) xs.symm ?_ hn'
    · exact (hs.2 b (Nat.ne_of_lt (Heap.lt_size ho))).trans ((Heap.get?_update_ne _ _ _ _ hb).trans (Heap.get?_push_of_some _ ho))
    · exact (hs.2 x xs).trans (Heap.get?_update_self _ hx1 rfl)
/-- what __init__ leaves of a fresh exception at x -/
structure InitDone (h h' : Heap) (x C dx : Addr) (v : Value) : Prop where
  keep : ∀ b o, b ≠ x → h.get? b = some o → h'.get? b = some o
  obj : ∃ t1 : Addr, h'.get? x = some { cls := .ref C, dict := some dx, data := .fields #[.ref t1, .none, .none, .none, .bool false, .none] }
  big : h.objs.size ≤ dx
  ne : dx ≠ x
  ns : h'.Ns1 dx (fun y => if y = "level" then some v else none)
/-- the bound LookupError.__init__ called -/
theorem mw_call {nm q : Str} {C N NM u x t0 : Addr} {bs : List Value} {sn : List Str} {sub : List Value} {ab : Bool} {col : Option Bool} {dd : Option Addr} {k0 k1 k2 k3 k5 : Option Value} {rest : List Value} {Q : Value → Shared → Prop}
    (hC : hp.get? C = some (excClassObj nm q C N bs (.ref NM :: leT) true sn sub ab col dd k0 k1 k2 k3 k5 "LookupError.__new__")) (hx : hp.get? x = some (excO C t0)) (hu : hp.get? u = some (kxs_mw "LookupError.__init__" x)) (hz : rest.length ≤ sizeLine)
    (hq : ∀ h' t1, (∀ b o, b ≠ x → hp.get? b = some o → h'.get? b = some o) → h'.get? x = some (excO C t1) → Q .none ⟨h', g, d, t, os⟩) :
    wpAny (model prog w) A (call (.ref u) rest) Q E ⟨hp, g, d, t, os⟩ := by
  have FB := F.excBase_LookupError
  refine wpAny_call (codeAny_of_tree ?_)
  show wpAny _ A.in1 (callAny (.ref u) ⟨rest, []⟩) _ _ _
  unfold callAny
  refine wpAny_bind (wpAny_load hu ?_)
  have e1 : (Value.type "method-wrapper" == Value.type "method" || Value.type "method-wrapper" == Value.type "builtin_function_or_method" || Value.type "method-wrapper" == Value.type "method-wrapper") = true := by decide
  simp only [kxs_mw, e1, if_true]
  refine KFB.if_so (by decide) ?_
  refine wpAny_bind (check_bound_init FB.toExcCallFacts hC hx rfl ?_)
  refine wpAny_bind (wpAny_pure (wpAny_pure ?_))
  refine ⟨plainId_quiet FB.init.plain _, codeAny_builtin FB.initEntry ?_⟩
  exact exc_init_tree (cls := .ref C) (t0 := t0) (dv := none) (c2 := .none) (c3 := .none) (b4 := .bool false) hx hz fun h' k1 k2 _ => hq h' _ k1 k2
theorem nl_init {K : Frag} {mg mb : Str → Option Value} {C NM fI cda cc : Addr} (T : NlTxt prog K mg C NM fI cda cc) {x t0 : Addr} {v : Value} (X : K.In hp) (hlim : hp.NoLimit) (hg : hp.Ns mainGlobals mg) (hb : hp.Ns builtinsNs mb) (hs : mb "super" = some (.type "super"))
    (hx : hp.get? x = some (excO C t0)) (hnx : K.lookup x = none) (hroom : A.depth < recursionLimit)
    (hq : ∀ h' tk dx, InitDone hp h' x C dx v → R (.ok (.ret .none)) ⟨h', g, d, tk, os⟩) :
    codeAny (model prog w) A (.call (.ref fI) ⟨[.ref x, v], []⟩) R ⟨hp, g, d, t, os⟩ := by
  obtain ⟨oc, od, doc, pm, an, ct, osl, ho, hcd⟩ := T.fn
  obtain ⟨nm, q, N, bs, sn, sub, ab, col, dd, k0, k1, k2, k3, k5, hC⟩ := T.cls
  obtain ⟨ccl, cdd, vs, ccs, file, tf, hcda, hvs, hfile⟩ := T.code
  obtain ⟨cl, cld, csl, hcc⟩ := T.cell
  have hcl : clsIn K C = some { name := nm, bases := bs, mro := .ref C :: .ref NM :: leT, ns := N, qualname := q, hasDict := true, slotNames := sn, subclasses := sub, abstract := ab, collection := col, hasDel := false } := by unfold clsIn; rw [hC] <;> rfl
  obtain ⟨p0, p1, p2, k, p3, p4, p5, q1, q2, q3, q4, hbd, hev⟩ := nl_body
  refine ks_codeAny_call_defAt (body := C8.fnBody nlS) (binds := [("self", .ref x), ("level", v)]) hroom (X _ _ ho) rfl hlim (codeRec_of X hcd) rfl (BindsTo.of_eq (by first | rfl | with_unfolding_all rfl)) nl_cells (by intro y hy; rcases List.mem_cons.mp hy with rfl | hy; exact nl_self; rw [List.mem_singleton.mp hy]; exact nl_level) (fun h₁ hns hk₁ => ?_)
  rw [hbd]
  have X1 : K.In h₁ := X.keeps hk₁
  have hx1 := hk₁ _ _ hx
  have IA : W.InstAt h₁ x (excO C t0) C none := ⟨hx1, rfl, rfl, trivial⟩
  have hxC : x ≠ C := ks_ne X1 IA hcl
  obtain ⟨pl, hev⟩ := hev (ksEnv "NoLevel.__init__" (C8.fnScope nlS) hp.objs.size fI (.ref cda) cc)
  refine ks_wpAt_execs_cons (ks_wpAt_Expr_any (ks_wpAt_MethodCall (pl := pl) ?_ hev))
  refine ks_wpAt_super_base (env := ksEnv "NoLevel.__init__" (C8.fnScope nlS) hp.objs.size fI (.ref cda) cc) nl_super nl_class (by decide) rfl (X1 _ _ ho) rfl rfl rfl (X1 _ _ hcda) rfl hvs hfile T.tps ?_
  refine ks_loadName_global nl_kind nl_super (loadGlobal_builtin (env := ksEnv "NoLevel.__init__" (C8.fnScope nlS) hp.objs.size fI (.ref cda) cc) (hg.keeps hk₁) T.sup (hb.keeps hk₁) hs ⟨rfl, ?_⟩)
  refine wpAny_loadName_free nl_kind nl_class rfl ⟨_, X1 _ _ hcc, rfl⟩ ?_
  refine wpAny_loadName_local nl_kind nl_self hns (v := .ref x) (by first | rfl | kernel_rfl) ?_
  refine ks_wpAny_isType_cls (X1 _ _ hC) rfl ⟨rfl, ?_⟩
  refine ks_wpAny_call_super (X1 _ _ hC) rfl hx1 rfl (fun c e => by cases e) (looks_mroIn X1 T.slf) (fun h₂ e₂ k₂ => ?_)
  have X2 : K.In h₂ := X1.keeps k₂
  have hx2 := k₂ _ _ hx1
  have IB : W.InstAt h₂ x (excO C t0) C none := ⟨hx2, rfl, rfl, trivial⟩
  have hup := T.up
  unfold ks_superIn at hup
  rw [hcl] at hup
  refine kxs_getMethod kxs_LookupError e₂ (looks_opaque X2 T.opq) ((looks_clsIn X2 hcl).andThen .now) rfl X2 hup (IB.type.andThen (looks_subIn X2 T.leC)) hxC (by decide) ?_
  have k23 : ∀ b o, h₂.get? b = some o → (h₂.push (kxs_mw "LookupError.__init__" x)).get? b = some o := fun b o e => Heap.get?_push_of_some _ e
  have hu3 : (h₂.push (kxs_mw "LookupError.__init__" x)).get? h₂.objs.size = some (kxs_mw "LookupError.__init__" x) := Heap.get?_push_size _ rfl
  refine kxs_callWith (i := "LookupError.__init__") (x := x) rfl (evalArgs_plain (spliced_more (Constant_str (spliced_none ⟨hu3, ?_⟩))))
  refine mw_call (X2.keeps k23 _ _ hC) (k23 _ _ hx2) hu3 (by rw [sizeLine_eq]; show 1 ≤ _; decide) fun h₄ t4 k4 hx4 => ?_
  have k14 : ∀ b o, b ≠ x → h₁.get? b = some o → h₄.get? b = some o := fun b o hb e => k4 b o hb (k23 _ _ (k₂ _ _ e))
  have X4 : K.In h₄ := fun a o e => k14 a o (fun z => by rw [z, hnx] at e; cases e) (X1 a o e)
  have hLx : hp.objs.size ≠ x := Nat.ne_of_gt (Heap.lt_size hx)
  have hns4 : h₄.Ns hp.objs.size (fun y => ([("self", Value.ref x), ("level", v)] : List (Str × Value)).reverse.lookup y) := hns.at fun o e => k14 _ o hLx e
  refine _root_.PySem.wpAt_of_wpAny ?_
  refine wpAny_execs_cons (plainObj_wpAny_Assign_Attribute ?_)
  refine wpAny_Name (wpAny_loadName_local nl_kind nl_level hns4 (v := v) (by first | rfl | kernel_rfl) ?_) (by decide)
  refine wpAny_Name (wpAny_loadName_local nl_kind nl_self hns4 (v := .ref x) (by first | rfl | kernel_rfl) ?_) (by decide)
  refine set_plain X4 (ox := excO C t4) (od := none) ⟨hx4, rfl, rfl, trivial⟩ T.sa ?_
  refine own_set X4 hx4 hcl rfl T.obC rfl T.noN (fun h₅ tk₅ dx k₅ dn dne hx₅ hn₅ => ?_)
  show wpAny _ _ (execs _ _) _ _ _
  refine wpAny_execs_nil (hq h₅ tk₅ dx ⟨fun b o hb e => k₅ b o hb (k14 b o hb (hk₁ b o e)), ⟨t4, hx₅⟩, ?_, dne, hn₅⟩)
  have z : hp.objs.size < h₄.objs.size := hns4.lt
  have z2 : h₄.objs.size ≤ dx := dn
  show hp.objs.size ≤ dx
  omega
/-- a made NoLevel -/
structure Made (h h' : Heap) (e C d : Addr) (v : Value) : Prop where
  keep : ∀ b o, h.get? b = some o → h'.get? b = some o
  new : h.objs.size ≤ e
  obj : ∃ oe vs, h'.get? e = some oe ∧ oe.cls = .ref C ∧ oe.dict = some d ∧ oe.data = .fields vs ∧ vs[1]? = some .none
  dbig : h.objs.size ≤ d
  dne : d ≠ e
  ns : h'.Ns1 d (fun y => if y = "level" then some v else none)
theorem nl_made {s : Shared} {K : Frag} {mg mb : Str → Option Value} {C NM fI cda cc : Addr} (T : NlTxt prog K mg C NM fI cda cc) {v : Value} (X : K.In s.heap) (hlim : s.heap.NoLimit) (hg : s.heap.Ns mainGlobals mg) (hb : s.heap.Ns builtinsNs mb) (hs : mb "super" = some (.type "super")) (hroom : A.depth + 1 < recursionLimit)
    (hq : ∀ h' tk e d, Made s.heap h' e C d v → R (.ok (.ret (.ref e))) { s with heap := h', toks := tk }) :
    codeAny (model prog w) A (.call (.ref C) ⟨[v], []⟩) R s := by
  obtain ⟨nm, q, N, bs, sn, sub, ab, col, dd, k0, k1, k2, k3, k5, hC⟩ := T.cls
  obtain ⟨hp, g, dr, tk, os⟩ := s
  have kk : ∀ b o, hp.get? b = some o → ((hp.push (kdv_tup [v])).push (excO C hp.objs.size)).get? b = some o := fun b o e => Heap.get?_push_of_some _ (Heap.get?_push_of_some _ e)
  have hat : ((hp.push (kdv_tup [v])).push (excO C hp.objs.size)).get? (hp.objs.size + 1) = some (excO C hp.objs.size) := by heap_get
  have hnx : K.lookup (hp.objs.size + 1) = none := by
    cases e : K.lookup (hp.objs.size + 1) with
    | none => rfl
    | some o => exact absurd (Nat.lt_of_succ_lt (Heap.lt_size (X _ _ e))) (Nat.lt_irrefl _)
  refine call_own F.excBase_LookupError (fun Y => le_has NM Y) (X _ _ hC) (looks_findIn X T.iC) (fun self => bind_fn X self T.tC) (by rw [sizeLine_eq]; show 1 ≤ _; decide) ?_
  refine nl_init (t := tk) T (X.keeps kk) (hlim.keeps kk) (hg.keeps kk) (hb.keeps kk) hs hat hnx ?_ fun h' tk' dx ID => ?_
  · show A.depth + 1 < recursionLimit
    exact hroom
  · obtain ⟨k', ⟨t1, hx⟩, dn, dne, hns⟩ := ID
    have old : ∀ b o, hp.get? b = some o → h'.get? b = some o := fun b o e => k' b o (Nat.ne_of_lt (Nat.lt_succ_of_lt (Heap.lt_size e))) (kk b o e)
    have z : hp.objs.size + 1 + 1 ≤ dx := by
      first
        | (simpa only [Heap.size_push] using dn)
        | exact dn
    exact ⟨rfl, hq h' tk' (hp.objs.size + 1) dx ⟨old, Nat.le_succ _, ⟨_, _, hx, rfl, rfl, rfl, rfl⟩, Nat.le_trans (Nat.le_trans (Nat.le_succ _) (Nat.le_succ _)) z, dne, hns⟩⟩
end
end NL
end Cn
/-! raise NoLevel(e), in the hand layer. -/
namespace Cn
open PySem PySem.Spec PyProof.Rows L2
theorem relO_nl {v : V} {v' : Value} (r : RelV v v') (f : Str) : RelO (List.lookup f [(("level" : Str), v)]) (if f = "level" then some v' else none) := by
  by_cases hw : f = "level"
  · subst hw
    rw [if_pos rfl]
    have q : List.lookup ("level" : Str) [(("level" : Str), v)] = some v := by simp [List.lookup]
    rw [q]
    exact r
  · rw [if_neg hw]
    have qw : (f == ("level" : Str)) = false := by simpa using hw
    have q2 : List.lookup f [(("level" : Str), v)] = none := by simp [List.lookup, qw]
    rw [q2]
    trivial
theorem boot_super : bootBuiltins "super" = some (.type "super") := by decide +kernel
section
variable {X : Cx} {C NM fI cda cc : Addr}
/-- NoLevel(e) -/
def tMkNl (C : Addr) (ta : TA) : L2.St → Hp → XK → Prop := fun σ H Q => ta σ H fun vs H1 => ∃ v, vs = [v] ∧ ∀ d, H1 d = none → Q (.ref C) (some d) (upd H1 d (.xd [(("level" : Str), v)]))
theorem pmk_nl {a : PySem.Expr} {ta : TA} {p pos : Pos} {k : Nat} (T : NL.NlTxt X.prog X.K X.mg C NM fI cda cc) (hr : Room k X.A) (ha : PA X [a] ta) (hg : Gl X "NoLevel" := by rfl)
    (he : starEach (a :: []) X.env = (false, eval a X.env) :: starEach [] X.env := by rfl) (hpl : (backTo pos (starEach [] X.env)).any (·.1) = false := by rfl) :
    PMk X (.Call (.Name "NoLevel" p) [a] [] pos) (tMkNl C ta) := by
  intro pins s σ H Q I h
  refine wpAny_Call_Name_kw (ld_glob I hg T.gC ?_)
  refine PySem.W.callWith_K (h₀ := X.base) I.ok.mod.kin T.kC (thn (ha.run pos pins s σ H _ I h) fun us s1 hh => ?_) he hpl
  obtain ⟨vs, H1, I1, r1, v, ev, q1⟩ := hh
  subst ev
  refine ⟨I1.kIn, ?_⟩
  cases r1 with
  | cons rv rn =>
    rename_i v' us'
    cases rn
    show wpAny _ _ (call (.ref C) [v']) _ _ _
    obtain ⟨mb, b1, b2⟩ := I1.mod.blt
    have hlim := I1.nolimit
    have hgl : s1.heap.Ns mainGlobals X.mg := I1.mod.glob.keeps I1.bk
    have hbl : s1.heap.Ns builtinsNs mb := b1.keeps I1.bk
    obtain ⟨hp, g, dr, tk, os⟩ := s1
    refine wpAny_call (NL.nl_made T I1.kIn hlim hgl hbl ((b2 _ (by decide)).trans boot_super) (by have := hr.dp; omega) fun h' tk' e d M => ?_)
    show MkP X pins σ Q (.ref e) ⟨h', g, dr, tk', os⟩
    obtain ⟨oe, fv, hoe, hc, hd, hdat, h1⟩ := M.obj
    have hns := M.ns
    obtain ⟨G', g1, g2⟩ := restrict h' fun b => decide (b ≠ e)
    have gk : ∀ b, b ≠ e → G'.get? b = h'.get? b := fun b hb => g1 b (decide_eq_true hb)
    have ge : G'.get? e = none := g2 e (by simp)
    have old : ∀ b o, hp.get? b = some o → G'.get? b = some o := fun b o q => (gk b (Nat.ne_of_lt (Nat.lt_of_lt_of_le (Heap.lt_size q) M.new))).trans (M.keep b o q)
    have ob : ObjOk X.prog X.w (upd H1 d (.xd [(("level" : Str), v)])) G' d (.xd [(("level" : Str), v)]) := ⟨_, hns.at (fun o q => (gk d M.dne).trans q), fun f => relO_nl rv f⟩
    have J : Inv X pins σ (upd H1 d (.xd [(("level" : Str), v)])) ⟨G', g, dr, tk', os⟩ := I1.laid (t' := tk') old M.dbig ob
    refine ⟨e, oe, fv, ⟨G', g, dr, tk', os⟩, _, .ref C, some d, rfl, J, fun b o q => ?_, ge, hoe, ⟨hc, hd⟩, hdat, h1, ?_, rfl, I1.bare, raises_own T.exC T.tyC, q1 d (I1.hok.fresh M.dbig)⟩
    · by_cases hb : b = e
      · have q' : G'.get? b = some o := q
        rw [hb, ge] at q'
        cases q'
      · exact (gk b hb).symm.trans q
    · rw [upd_ne (Ne.symm M.dne)]
      exact I1.hok.fresh M.new
/-- raise NoLevel(e) -/
def tRaiseNl (C : Addr) (W : WX) (ta : TA) : TS := fun _ σ H => tMkNl C ta σ H fun cls d H' => W cls d σ H'
theorem ps_raiseNl {a : PySem.Expr} {ta : TA} {W : WX} {p pos pos2 : Pos} {k : Nat} (hc : X.calm = true) (T : NL.NlTxt X.prog X.K X.mg C NM fI cda cc) (hr : Room k X.A) (tk : Takes X W) (ha : PA X [a] ta) (hg : Gl X "NoLevel" := by rfl)
    (he : starEach (a :: []) X.env = (false, eval a X.env) :: starEach [] X.env := by rfl) (hpl : (backTo pos (starEach [] X.env)).any (·.1) = false := by rfl) :
    PS X (.Raise (some (.Call (.Name "NoLevel" p) [a] [] pos)) none pos2) (tRaiseNl C W ta) := ps_raise hc tk (pmk_nl T hr ha hg he hpl)
end
end Cn
namespace Cn
open PySem PySem.Spec PyProof.Rows L2
open Evl (Ex)
section
variable {P : Program} {w : World} {K : PySem.W.Frag} {mg : Str → Option Value} {base : Heap}
/-! ### deeds_at where the level is one -/
def deedsC (p : Int) (n : Nat) (cs : List (List (List Int))) (i : Nat) : List (List (List Int)) := (betweenL p n (codeAt n cs (i - 1)) (codeAt n cs (i + 1))).filter fun c => decide (c ≠ codeAt n cs i)
def LvlOk (p : Int) (n : Nat) (cs : List (List (List Int))) (i : Nat) : Prop := 1 ≤ i ∧ i < n ∧ BtwOk p n (codeAt n cs (i - 1)) (codeAt n cs (i + 1))
def spDeedsAt (K : PySem.W.Frag) : Sp := fun vs H Q _ => ∃ v p, ∃ n i : Nat, ∃ cs, vs = [v, .int i] ∧ NeAt K H v p n cs ∧ GoodP p ∧ n ≤ 100 ∧ NestOk p n cs ∧ LvlOk p n cs i ∧
  ∀ D ys H', H D = none → Ex H H' → H' D = some (.lst ys) → DpAll K H' ys ((deedsC p n cs i).map (deedD i)) → Q (.ref D) H'
theorem sc_deeds_at : FnScope ["nest", "level", "codes", "code"] ["nest", "level"] (defScope s_deeds_at) := ⟨rfl, rfl, rfl, by decide +kernel, rfl, by decide +kernel, by decide +kernel⟩
theorem betw_len (p : Int) (n : Nat) (low high : List (List Int)) : (betweenL p n low high).length = p.toNat + 1 := by
  unfold betweenL upC
  rw [(List.mergeSort_perm _ _).length_eq, List.length_map, List.length_range]
theorem flat_deed (i : Nat) (c : List (List Int)) : flatT (deedD i c) = true := by
  have h := flat_code c
  unfold deedD
  simp only [flatT, flatTs, Bool.and_true]
  exact h
theorem flat_app : ∀ {ds es : List PyData}, flatTs ds = true → flatTs es = true → flatTs (ds ++ es) = true
  | [], _, _, h => h
  | d :: ds, es, h1, h2 => by
    have f2 : flatT d = true ∧ flatTs ds = true := by simpa [flatTs] using h1
    show (flatT d && flatTs (ds ++ es)) = true
    rw [f2.1, flat_app f2.2 h2]
    rfl
theorem cal_deeds_at (E : En K mg) : Cal P w K mg base 9 "deeds_at" ["nest", "level"] (spDeedsAt K) := by
  obtain ⟨fd, F, g⟩ := E.c_deeds_at
  refine ⟨⟨fd, ?_, F.binds fun _ _ _ _ _ _ us hl => match us, hl with | [_, _], _ => rfl⟩, g, F.kp⟩
  refine F.ok sc_deeds_at (fun vs H Q E h => ?_) (fun cdv A outer s H vs Q E' hr h => ?_)
  · obtain ⟨v, p, n, i, cs, rfl, _⟩ := h
    rfl
  · obtain ⟨v, p, n, i, cs, rfl, hv, hp, hn, hns, ⟨i1, i2, hbt⟩, q⟩ := h
    have hu := hr.units
    have p13 := hp.most
    refine ⟨_, pss_cons (ps_if (pt_not (pt_val (pe_cal (cal_is_level (P := P) (w := w) (base := base) E) (hr.mono (by decide)) (pa_cons (pv 0) (pa_cons (pv 1) pa_nil))))) (pss_one ps_never) pss_nil)
      (pss_cons (ps_set (i := 2) sc_deeds_at.nd rfl (.inl rfl) (pe_cal (cal_between_codes (P := P) (w := w) (base := base) E) (hr.mono (by decide)) (pa_cons (pe_calM0 E.clN (cal_Nground (P := P) (w := w) (base := base) E) (hr.mono (by decide)) (pv 0))
        (pa_cons (pe_calM E.clN (cal_Ncode (P := P) (w := w) (base := base) E) (hr.mono (by decide)) (pv 0) (pa_cons (pe_op op_sub (pv 1) pe_int) pa_nil)) (pa_cons (pe_calM E.clN (cal_Ncode (P := P) (w := w) (base := base) E) (hr.mono (by decide)) (pv 0) (pa_cons (pe_op op_add (pv 1) pe_int) pa_nil)) pa_nil)))))
      (pss_one (ps_ret (pe_lc (own := [("code", 3)]) (g := gName 3) rfl sc_deeds_at.nd (pi_seq K (pv 2)) (blkOk_by (by kernel_rfl)) (fun _ _ _ _ _ => pg_name (i := 3) sc_deeds_at.nd rfl (.inl rfl))
        (fun _ _ _ _ _ => pts_one (pt_cmpR (op_neK K hu) (pv 3) (pe_calM E.clN (cal_Ncode (P := P) (w := w) (base := base) E) (hr.mono (by decide)) (pv 0) (pa_cons (pv 1) pa_nil)) (nomark _))) (fun _ _ _ _ _ => pe_tup (pa_cons (pv 1) (pa_cons (pv 3) pa_nil))))))), ?_⟩
    refine ⟨_, rfl, _, rfl, v, _, p, n, cs, rfl, hv, .inl ⟨i, rfl, _, rfl, ?_⟩⟩
    rw [decide_eq_true (show 0 < (i : Int) ∧ (i : Int) < n by omega)]
    refine iteF (in_ng rfl hv fun g hg => in_ncode rfl hv ⟨_, rfl, _, _, rfl, rfl, v, p, n, i - 1, cs, ?_, hv, hns.len, hn, by omega, fun u1 H1 e1 hu1 => in_ncode rfl (hv.mono e1) ⟨_, rfl, _, _, rfl, rfl, v, p, n, i + 1, cs, rfl, hv.mono e1, hns.len, hn, by omega, fun u2 H2 e2 hu2 => ?_⟩⟩)
    · show [v, V.int ((i : Int) - 1)] = _
      rw [show ((i : Int) - 1) = ((i - 1 : Nat) : Int) by omega]
    have e12 := e1.trans e2
    refine ⟨g, u1, u2, p, n, _, _, rfl, ⟨hg.mono e12, hp, by omega, hn⟩, dp_codemono e2 hu1, hu2, hbt, fun L H3 e3 hL => ?_⟩
    have e03 := e12.trans e3
    refine ⟨_, rfl, seq_lc (LsAt.lst hL) (sz100 (by rw [betw_len]; omega)) (fun c => decide (c ≠ codeAt n cs i)) (fun c => deedD i c) (fun c => flat_deed i c) (gm_name 3) ?_ ?_⟩
    · intro c x H4 hm e4 hx
      refine ⟨rfl, Ex.refl _, ?_, fun _ => ?_⟩
      · intro H5 e5 Q' k
        refine ⟨_, rfl, in_ncode rfl (hv.mono (e03.trans (e4.trans e5))) ⟨_, rfl, v, p, n, i, cs, rfl, hv.mono (e03.trans (e4.trans e5)), hns.len, hn, by omega, fun u H6 e6 hu6 => ⟨_, _, dp_codemono (e5.trans e6) hx, hu6, shaped_code _, shaped_code _, _, rfl, ?_⟩⟩⟩
        rw [eqv_code]
        have ed : (!decide (c = codeAt n cs i)) = decide (c ≠ codeAt n cs i) := by simp
        rw [ed]
        exact k _ e6
      · intro H5 e5 Q' k
        exact ⟨_, rfl, _, rfl, by show 2 ≤ sizeLine; decide, fun T hT => k _ _ (Ex.new hT) (.tup (.inl (.inl upd_same)) (.cons (.int _) (.cons (dp_codemono (e5.trans (Ex.new hT)) hx) .nil)))⟩
    · intro D ys H4 hD e4 hy hd
      exact q D ys H4 (ex_none e03 hD) (e03.trans e4) hy hd
/-! ### all_deeds -/
def allD (p : Int) (n : Nat) (cs : List (List (List Int))) (m : Nat) : List PyData := (List.range m).flatMap fun j => (deedsC p n cs (j + 1)).map (deedD (j + 1))
def spAllDeeds (K : PySem.W.Frag) : Sp := fun vs H Q _ => ∃ v p, ∃ n : Nat, ∃ cs, vs = [v] ∧ NeAt K H v p n cs ∧ GoodP p ∧ n ≤ 100 ∧ NestOk p n cs ∧ (∀ i, 1 ≤ i → i < n → LvlOk p n cs i) ∧
  ∀ D ys H', H D = none → Ex H H' → H' D = some (.lst ys) → DpAll K H' ys (allD p n cs (n - 1)) → Q (.ref D) H'
theorem sc_all_deeds : FnScope ["nest", "found", "level"] ["nest"] (defScope s_all_deeds) := ⟨rfl, rfl, rfl, by decide +kernel, rfl, by decide +kernel, by decide +kernel⟩
theorem allD_succ (p : Int) (n : Nat) (cs : List (List (List Int))) (m : Nat) : allD p n cs (m + 1) = allD p n cs m ++ (deedsC p n cs (m + 1)).map (deedD (m + 1)) := by
  unfold allD
  rw [List.range_succ, List.flatMap_append]
  simp
theorem deeds_len {p : Int} (hp : GoodP p) (n : Nat) (cs : List (List (List Int))) (i : Nat) : (deedsC p n cs i).length ≤ 14 := by
  have h := List.length_filter_le (fun c => decide (c ≠ codeAt n cs i)) (betweenL p n (codeAt n cs (i - 1)) (codeAt n cs (i + 1)))
  rw [betw_len] at h
  have := hp.most
  unfold deedsC
  omega
theorem allD_len {p : Int} (hp : GoodP p) (n : Nat) (cs : List (List (List Int))) : ∀ m, (allD p n cs m).length ≤ 14 * m
  | 0 => by simp [allD]
  | m + 1 => by
    have h := allD_len hp n cs m
    have h2 := deeds_len hp n cs (m + 1)
    rw [allD_succ, List.length_append, List.length_map]
    omega
theorem allD_flat (p : Int) (n : Nat) (cs : List (List (List Int))) : ∀ m, flatTs (allD p n cs m) = true
  | 0 => rfl
  | m + 1 => by
    rw [allD_succ]
    have h := allD_flat p n cs m
    have h2 : flatTs ((deedsC p n cs (m + 1)).map (deedD (m + 1))) = true := flat_map (flat_deed (m + 1))
    exact flat_app h h2
theorem cal_all_deeds (E : En K mg) : Cal P w K mg base 10 "all_deeds" ["nest"] (spAllDeeds K) := by
  obtain ⟨fd, F, g⟩ := E.c_all_deeds
  refine ⟨⟨fd, ?_, F.binds fun _ _ _ _ _ _ us hl => match us, hl with | [_], _ => rfl⟩, g, F.kp⟩
  refine F.ok sc_all_deeds (fun vs H Q E h => ?_) (fun cdv A outer s H vs Q E' hr h => ?_)
  · obtain ⟨v, p, n, cs, rfl, _⟩ := h
    rfl
  · obtain ⟨v, p, n, cs, rfl, hv, hp, hn, hns, hlv, q⟩ := h
    refine ⟨_, pss_cons (ps_set (i := 1) sc_all_deeds.nd rfl (.inl rfl) (pe_lst pa_nil))
      (pss_cons (ps_for PassesOwn.never rfl (pi_range2 (by rfl) E.n_range (pa_cons pe_int (pa_cons (pe_calM0 E.clG (cal_Gn (P := P) (w := w) (base := base) E) (hr.mono (by decide)) (pe_calM0 E.clN (cal_Nground (P := P) (w := w) (base := base) E) (hr.mono (by decide)) (pv 0))) pa_nil))) (pg_name (i := 2) sc_all_deeds.nd rfl (.inl rfl))
        (pss_one (ps_expr (pe_bm PySem.F.plainAttrs_list PySem.F.slot_list_extend PySem.F.type_list_extend mt_extend (pv 1) (pa_cons (pe_cal (cal_deeds_at (P := P) (w := w) (base := base) E) (hr.mono (by decide)) (pa_cons (pv 0) (pa_cons (pv 2) pa_nil))) pa_nil)))))
      (pss_one (ps_ret (pv 1)))), ?_⟩
    refine ⟨by show 0 ≤ sizeLine; decide, fun D hD => ?_⟩
    have e0 : Ex H (upd H D (.lst [])) := Ex.new hD
    refine in_ngn rfl (hv.mono e0) ⟨1, n, rfl, ⟨by decide, by decide, by omega, by omega⟩, ?_⟩
    refine for_range (lo := 1) (n := ((n : Int) - 1).toNat) (fun i σ H' => ∃ xs x, σ = [some v, some (.ref D), x] ∧ Ex H H' ∧ H' D = some (.lst xs) ∧ DpAll K H' xs (allD p n cs i)) ⟨[], none, rfl, e0, upd_same, .nil⟩ ?_ ?_
    · rintro i σ H' hi ⟨xs, x, rfl, e, hx, hd⟩
      have hi2 : i + 1 < n := by omega
      have hlen := allD_len hp n cs i
      refine ⟨_, rfl, .inl ⟨rfl, xs, .inl (.inl hx)⟩, _, rfl, _, rfl, v, p, n, i + 1, cs, ?_, hv.mono e, hp, hn, hns, hlv (i + 1) (by omega) hi2, fun D2 ys H2 hD2 e2 hy hd2 => ?_⟩
      · show [v, V.int (1 + (i : Int))] = _
        rw [show (1 + (i : Int)) = ((i + 1 : Nat) : Int) by omega]
      · have hx2 := e2 _ _ hx
        refine ⟨D, D2, xs, ys, rfl, rfl, hx2, hy, ?_, xs ++ ys, _, rfl, Evl.Ex.mut (e.trans e2) hD, upd_same, ?_⟩
        · have h1 := dps_len hd
          have h2 : ys.length = (deedsC p n cs (i + 1)).length := dps_mapl hd2
          have h3 := deeds_len hp n cs (i + 1)
          have : 14 * 100 + 14 < sizeLine := by decide
          omega
        · rw [allD_succ]
          refine dps_app (dps_monoT ((ExT.of e2).trans (ExT.mut hx2)) _ _ (allD_flat p n cs i) hd) (dps_monoT (ExT.mut hx2) _ _ (flat_map (flat_deed (i + 1))) hd2)
    · rintro σ H' ⟨xs, x, rfl, e, hx, hd⟩
      rw [show ((n : Int) - 1).toNat = n - 1 by omega] at hd
      exact ⟨_, rfl, q D xs H' hD e hx hd⟩
end
end Cn
/-! repr, and defs that call it: no guard is up. -/
namespace Cn
open PySem PySem.Spec PyProof.Rows L2
open Evl (Ex)
/-- a promise where no guard is up -/
structure FnG (P : Program) (w : World) (K : PySem.W.Frag) (mg : Str → Option Value) (base : Heap) (k : Nat) (f : Addr) (fd : FuncData) (ps : List Str) (sp : Sp) : Prop where
  len : ∀ vs H Q E, sp vs H Q E → vs.length = ps.length
  run : ∀ (A : Around) (outer : List Env) (s : Shared) (H : Hp) (args : Args) (us : List Value) (vs : List V) (Q : VK) (E : XK), A.guards = some [] → Room k A → Env0 P w K mg base A outer s H → BindsTo s fd args (ps.zip us) → Vals vs us → sp vs H Q E →
    codeAny (model P w) A (.call (.ref f) args) (CR CX0 outer P w H s Q E) s
structure CalG (P : Program) (w : World) (K : PySem.W.Frag) (mg : Str → Option Value) (base : Heap) (k : Nat) (x : Str) (ps : List Str) (sp : Sp) : Prop where
  ok : ∃ fd, FnG P w K mg base k (He.ga K x) fd ps sp ∧ Binds K fd ps []
  g : mg x = some (.ref (He.ga K x))
  kp : PySem.W.keepIn K (.ref (He.ga K x)) = true
section
variable {P : Program} {w : World} {K : PySem.W.Frag} {mg : Str → Option Value} {base : Heap}
theorem okG {x qual : Str} {st : Stmt} {f : Addr} {fd : FuncData} {N ps : List Str} {k : Nat} {sp : Sp} (F : Fun K x qual st f fd) (S : FnScope N ps (defScope st)) (len : ∀ vs H Q E, sp vs H Q E → vs.length = ps.length)
    (hb : ∀ (cdv : Value) (A : Around) (outer : List Env) (s : Shared) (H : Hp) (vs : List V) (Q : VK) (E : XK), A.guards = some [] → Room k (A.deeper (envOfC qual (defScope st) s.heap.objs.size f cdv)) → sp vs H Q E →
      ∃ t, PSs (cxOf CX0 P w K mg base N qual (defScope st) f cdv A outer s H E).nox (defBody st) t ∧ t { nx := fun _ H' => Q .non H', rt := Q } (L2.start N vs) H) : FnG P w K mg base (k + 1) f fd ps sp := by
  obtain ⟨oc, od, kV, doc, pm, an, cdv, ct, osl, rfl, lk, hcd⟩ := F.ex
  refine ⟨len, fun A outer s H args us vs Q E hG hr e0 hbd r hsp => LamX.run_ofS lk hcd S hr e0 hbd r (len _ _ _ _ hsp) fun hr' => ?_⟩
  obtain ⟨t, h, q⟩ := hb cdv A outer s H vs Q E hG hr' hsp
  exact ⟨t, h.nox, q⟩
section
variable {X : Cx} {k : Nat} {x : Str} {ps : List Str} {sp : Sp} {p pos : Pos} {e : PySem.Expr} {es : List PySem.Expr} {t : TA}
theorem pe_calG (c : CalG P w K mg base k x ps sp) (hG : X.A.guards = some []) (hr : Room k X.A) (ha : PA X (e :: es) t) (hP : X.prog = P := by rfl) (hw : X.w = w := by rfl) (hK : X.K = K := by rfl) (hM : X.mg = mg := by rfl) (hB : X.base = base := by rfl) (hg : Gl X x := by rfl) (hd : (x == ("__debug__" : Str)) = false := by decide) (he : starEach (e :: es) X.env = (false, eval e X.env) :: starEach es X.env := by rfl)
    (hpl : (backTo pos (starEach es X.env)).any (·.1) = false := by rfl) : PE X (.Call (.Name x p) (e :: es) [] pos) (tCall sp [] E0 t) := by
  subst hP hw hK hM hB
  obtain ⟨fd, F, hb⟩ := c.ok
  refine ⟨fun pins s σ H Q I h => wpAny_Call_Name_kw (ld_glob I hg c.g ?_ hd)⟩
  refine PySem.W.callWith_K (h₀ := X.base) I.ok.mod.kin c.kp (thn (ha.run pos pins s σ H _ I h) fun us s1 ⟨vs, H1, I1, r, q⟩ => ⟨I1.kIn, ?_⟩) he hpl
  have q : sp (vs ++ []) H1 Q E0 := q
  rw [List.append_nil] at q
  have hl : us.length = ps.length := by rw [← r.length, F.len _ _ _ _ q]
  have hb1 := hb s1 us I1.kIn (by rw [List.append_nil]; exact hl)
  rw [List.append_nil] at hb1
  refine wpAny_call (codeAny_mono (F.run X.A X.stack s1 H1 ⟨us, []⟩ us vs Q E0 hG hr I1.env0 hb1 r q) fun r' s' hq => ?_)
  cases r' with
  | error e => exact False.elim hq
  | ok fl =>
    cases fl with
    | ret u => exact I1.after hq
    | next => exact False.elim hq
    | brk => exact False.elim hq
    | cont => exact False.elim hq
end
end
/-! ### repr of data -/
mutual
/-- no dict, small ints -/
def smallT : PyData → Bool
  | .none => true
  | .bool _ => true
  | .int i => decide (i.natAbs < 2 ^ 200)
  | .str _ => true
  | .list xs => smallTs xs
  | .tuple xs => smallTs xs
  | .dict _ => false
def smallTs : List PyData → Bool
  | [] => true
  | d :: ds => smallT d && smallTs ds
end
theorem log_small {n : Nat} (h : n < 2 ^ 200) : n.log2 < 1920 := by
  rcases Nat.eq_zero_or_pos n with rfl | h0
  · decide
  · have h2 := (Nat.log2_lt (Nat.ne_of_gt h0)).mpr h
    omega
mutual
theorem showable_of : ∀ d : PyData, smallT d = true → d.showable = true ∧ d.hasDict = false
  | .none, _ => by simp [PyData.showable, PyData.hasDict]
  | .bool _, _ => by simp [PyData.showable, PyData.hasDict]
  | .int i, h => by
    have h2 : i.natAbs < 2 ^ 200 := of_decide_eq_true (by simpa only [smallT] using h)
    simp only [PyData.showable, PyData.hasDict]
    exact ⟨decide_eq_true (log_small h2), trivial⟩
  | .str _, _ => by simp [PyData.showable, PyData.hasDict]
  | .list xs, h => by
    rw [PyData.showable, PyData.hasDict]
    exact showables_of xs (by simpa only [smallT] using h)
  | .tuple xs, h => by
    rw [PyData.showable, PyData.hasDict]
    exact showables_of xs (by simpa only [smallT] using h)
  | .dict _, h => by simp [smallT] at h
theorem showables_of : ∀ ds : List PyData, smallTs ds = true → PyData.showableAll ds = true ∧ PyData.hasDictAll ds = false
  | [], _ => by simp [PyData.showableAll, PyData.hasDictAll]
  | d :: ds, h => by
    have f2 : smallT d = true ∧ smallTs ds = true := by simpa [smallTs] using h
    have h1 := showable_of d f2.1
    have h3 := showables_of ds f2.2
    rw [PyData.showableAll, PyData.hasDictAll, h1.1, h1.2, h3.1, h3.2]
    exact ⟨rfl, rfl⟩
end
def rRepr (K : PySem.W.Frag) : List V → Hp → VK → Prop := fun vs H Q => ∃ a d, vs = [V.ref a] ∧ Dp K H (.ref a) d ∧ smallT d = true ∧ d.depth ≤ 20 ∧ d.shown.length ≤ sizeLine ∧ Q (.str d.shown) H
theorem cr_repr {X : Cx} (K : PySem.W.Frag) (hG : X.A.guards = some []) (hu : X.A.units + 64 < cLine) (hK : X.K = K := by rfl) : CallR X (.builtin "repr") (rRepr K) := by
  subst hK
  intro pins s σ H vs us Q I r h
  obtain ⟨a, d, rfl, hd, hs, hdep, hsz, q⟩ := h
  obtain rfl := Vals.ref1 r
  obtain ⟨as, rd⟩ := Dp.reads I d _ _ hd rfl
  obtain ⟨h1, h2⟩ := showable_of d hs
  exact repr_of_reads' (h₀ := s.heap) rd h1 (fun z => by rw [h2] at z; cases z) hG (by omega) (fun _ _ e => e) (fun h' u tk hk => ⟨.str d.shown, H, I.kept (t' := tk) hk, ⟨u, rfl⟩, q⟩) hsz
end Cn
/-! The law's source of choices. -/
namespace Cn
open PySem PySem.Spec PyProof.Rows L2
open Evl (Ex)
abbrev srcD (c : Addr) (left mixed turn : Int) : List (Key × V) := [(.inr "cells", .ref c), (.inr "left", .int left), (.inr "mixed", .int mixed), (.inr "turn", .int turn)]
/-- the source's dict at d, its cells at c, n of them -/
def SrcN (d c : Addr) (n : Nat) (H : Hp) : Prop := ∃ (cells : List Int) (left mixed turn : Int), H d = some (.dK (srcD c left mixed turn)) ∧ H c = some (.lst (cells.map V.int)) ∧ cells.length = n ∧ (∀ x ∈ cells, 0 ≤ x) ∧ 0 ≤ left
def Src (d c : Addr) (H : Hp) : Prop := ∃ n, SrcN d c n H
/-- all but the source stays -/
def ExS (d c : Addr) (H H' : Hp) : Prop := ∀ b o, b ≠ d → b ≠ c → H b = some o → H' b = some o
theorem ExS.refl (d c : Addr) (H : Hp) : ExS d c H H := fun _ _ _ _ e => e
theorem ExS.trans {d c : Addr} {H H1 H2 : Hp} (a : ExS d c H H1) (b : ExS d c H1 H2) : ExS d c H H2 := fun x o h1 h2 e => b x o h1 h2 (a x o h1 h2 e)
theorem ExS.of {d c : Addr} {H H' : Hp} (e : Ex H H') : ExS d c H H' := fun b o _ _ h => e b o h
theorem ExS.updD {d c : Addr} {H : Hp} (o : HO) : ExS d c H (upd H d o) := fun b u h1 _ e => by rw [upd_ne h1]; exact e
theorem ExS.updC {d c : Addr} {H : Hp} (o : HO) : ExS d c H (upd H c o) := fun b u _ h2 e => by rw [upd_ne h2]; exact e
theorem Src.ex {d c : Addr} {H H' : Hp} (h : Src d c H) (e : Ex H H') : Src d c H' := by
  obtain ⟨n, cells, left, mixed, turn, h1, h2, h3⟩ := h
  exact ⟨n, cells, left, mixed, turn, e _ _ h1, e _ _ h2, h3⟩
theorem v_cells (c : Addr) (l m t : Int) : valV (srcD c l m t) (.inr "cells") = some (.ref c) := rfl
theorem v_left (c : Addr) (l m t : Int) : valV (srcD c l m t) (.inr "left") = some (.int l) := rfl
theorem v_mixed (c : Addr) (l m t : Int) : valV (srcD c l m t) (.inr "mixed") = some (.int m) := rfl
theorem v_turn (c : Addr) (l m t : Int) : valV (srcD c l m t) (.inr "turn") = some (.int t) := rfl
theorem p_left (c : Addr) (l m t x : Int) : putK (srcD c l m t) (.inr "left") (.int x) = srcD c x m t := rfl
theorem p_turn (c : Addr) (l m t x : Int) : putK (srcD c l m t) (.inr "turn") (.int x) = srcD c l m x := rfl
theorem g_at {H : Hp} {d c : Addr} {l m t : Int} {k : Str} {v : V} (h : H d = some (.dK (srcD c l m t))) (hv : valV (srcD c l m t) (.inr k) = some v) : DGet H d (.str k) (some v) := by
  rw [← hv]
  exact DGet.k (k := .inr k) h
theorem src_ne {H : Hp} {d c : Addr} {l m t : Int} {xs : List V} (h1 : H d = some (.dK (srcD c l m t))) (h2 : H c = some (.lst xs)) : d ≠ c := fun z => by rw [z, h2] at h1; cases h1
section
variable {P : Program} {w : World} {K : PySem.W.Frag} {mg : Str → Option Value} {base : Heap}
def spPick : Sp := fun vs H Q _ => ∃ d c, ∃ many : Int, vs = [.ref d, .int many] ∧ Src d c H ∧ many ≤ 1000 ∧ ∀ (k : Nat) H', ((k : Int) < many ∨ k = 0) → ExS d c H H' → Src d c H' → Q (.int k) H'
theorem sc_pick : FnScope ["_law_source_here", "_law_many", "_law_left", "_law_mixed_here"] ["_law_source_here", "_law_many"] (defScope s_law_pick) := ⟨rfl, rfl, rfl, by decide +kernel, rfl, by decide +kernel, by decide +kernel⟩
theorem cal_pick (E : En K mg) : Cal P w K mg base 1 "_law_pick" ["_law_source_here", "_law_many"] spPick := by
  obtain ⟨fd, F, g⟩ := E.c_law_pick
  refine ⟨⟨fd, ?_, F.binds fun _ _ _ _ _ _ us hl => match us, hl with | [_, _], _ => rfl⟩, g, F.kp⟩
  refine F.ok sc_pick (fun vs H Q E h => ?_) (fun cdv A outer s H vs Q E' hr h => ?_)
  · obtain ⟨d, c, many, rfl, _⟩ := h
    rfl
  · obtain ⟨d, c, many, rfl, ⟨n, hsrc⟩, hm, q⟩ := h
    have hu := hr.units
    have hu1 : (A.deeper (envOfC "_law_pick" (defScope s_law_pick) s.heap.objs.size (He.ga K "_law_pick") cdv)).units + 1 < cLine := by omega
    refine ⟨_, pss_cons (ps_while PassesOwn.never (pw_and (pt_cmpR op_gt (pv 1) pe_int (nomark _)) (pw_and (pt_cmpR op_lt (pe_dget hu1 (pv 0) pe_str (fun _ _ => rfl)) pe_int (nomark _)) (pw_and1 (pt_cmpR op_gt (pe_callB (cb_len K) (by rfl) E.n_len (by decide +kernel) (pa_cons (pe_dget hu1 (pv 0) pe_str (fun _ _ => rfl)) pa_nil)) pe_int (nomark _))))).pt
        (pss_one (ps_dput hu1 (pv 0) pe_str (pe_bm0 PySem.F.plainAttrs_list PySem.F.slot_list_pop PySem.F.type_list_pop mt_pop (pe_dget hu1 (pv 0) pe_str (fun _ _ => rfl))) rfl)))
      (pss_cons (ps_set (i := 2) sc_pick.nd rfl (.inl rfl) (pe_dget hu1 (pv 0) pe_str (fun _ _ => rfl)))
      (pss_cons (ps_if (pw_or (pt_cmpR op_lt (pv 1) pe_int (nomark _)) (pw_or1 (pt_cmpR op_gt (pv 2) pe_int (nomark _)))).pt
          (pss_cons (ps_dput hu1 (pv 0) pe_str (pe_op op_fdiv (pv 2) (pe_callB (call_max2 rfl) (by rfl) E.n_max (by decide +kernel) (pa_cons pe_int (pa_cons (pv 1) pa_nil)))) rfl)
          (pss_one (ps_ret (pe_op op_mod (pe_callTy call_int1 (by rfl) E.n_int (by decide +kernel) (pa_cons (pv 2) pa_nil)) (pe_callB (call_max2 rfl) (by rfl) E.n_max (by decide +kernel) (pa_cons pe_int (pa_cons (pv 1) pa_nil)))))))
          pss_nil)
      (pss_cons (ps_dput hu1 (pv 0) pe_str (pe_op op_add (pe_dget hu1 (pv 0) pe_str (fun _ _ => rfl)) pe_int) rfl)
      (pss_cons (ps_set (i := 3) sc_pick.nd rfl (.inl rfl) (pe_op op_mod (pe_callTy call_int1 (by rfl) E.n_int (by decide +kernel) (pa_cons (pe_op op_add (pe_dget hu1 (pv 0) pe_str (fun _ _ => rfl)) (pe_op op_mul (pe_dget hu1 (pv 0) pe_str (fun _ _ => rfl)) pe_int)) pa_nil)) pe_int))
      (pss_cons (ps_set (i := 3) sc_pick.nd rfl (.inl rfl) (pe_op op_mod (pe_callTy call_int1 (by rfl) E.n_int (by decide +kernel) (pa_cons (pe_op op_add (pe_op op_mul (pv 3) (pv 3)) (pe_op op_mul (pe_dget hu1 (pv 0) pe_str (fun _ _ => rfl)) pe_int)) pa_nil)) pe_int))
      (pss_one (ps_ret (pe_op op_mod (pe_callTy call_int1 (by rfl) E.n_int (by decide +kernel) (pa_cons (pe_op op_fdiv (pv 3) pe_int) pa_nil)) (pv 1))))))))), ?_⟩
    have hM : 0 < (if many > 1 then many else 1) ∧ (if many > 1 then many else 1) < 1073741824 := by split <;> omega
    refine ⟨fun m σ H' => σ = [some (.ref d), some (.int many), none, none] ∧ ExS d c H H' ∧ SrcN d c m H', ⟨n, rfl, ExS.refl _ _ _, hsrc⟩, ?_⟩
    rintro m σ H' ⟨rfl, e, cells, left, mixed, turn, hd, hc, hlen, hpos, hl0⟩
    have hdc := src_ne hd hc
    refine ⟨_, rfl, _, _, rfl, rfl, _, rfl, ?_⟩
    by_cases h1 : many > 1
    · rw [decide_eq_true h1]
      refine iteT ⟨_, rfl, d, _, rfl, g_at hd (v_left _ _ _ _), _, _, rfl, rfl, _, rfl, ?_⟩
      by_cases h2 : left < 2
      · rw [decide_eq_true h2]
        refine iteT ⟨_, rfl, d, _, rfl, g_at hd (v_cells _ _ _ _), c, _, rfl, .inl (.inl (.inl hc)), _, _, rfl, rfl, _, rfl, ?_⟩
        rw [List.length_map]
        by_cases h3 : (cells.length : Int) > 0
        · rw [decide_eq_true h3]
          refine iteT ⟨fun σ' H'' => ∃ m', m' < m ∧ σ' = [some (.ref d), some (.int many), none, none] ∧ ExS d c H H'' ∧ SrcN d c m' H'', fun σ' H'' z => z, ?_⟩
          obtain ⟨ini, x, rfl⟩ : ∃ ini x, cells = ini ++ [x] := by
            rcases List.eq_nil_or_concat cells with h | ⟨ini, x, h⟩
            · rw [h] at h3; simp at h3
            · exact ⟨ini, x, by rw [h]; simp⟩
          have x0 : 0 ≤ x := hpos x (by simp)
          refine ⟨_, rfl, d, _, rfl, g_at hd (v_cells _ _ _ _), .inl ⟨rfl, _, .inl (.inl hc)⟩, c, _, .int x, rfl, rfl, hc, by simp, _, rfl, d, _, rfl, DPut.k (k := .inr "left") (by rw [upd_ne hdc]; exact hd) (by show 4 < sizeLine; decide), ini.length, ?_, rfl, ?_, ?_⟩
          · rw [← hlen]; simp
          · exact (e.trans (ExS.updC _)).trans (ExS.updD _)
          · refine ⟨ini, x, mixed, turn, by rw [upd_same, p_left], ?_, rfl, fun y hy => hpos y (by simp [hy]), x0⟩
            rw [upd_ne hdc.symm, upd_same]
            simp
        · rw [decide_eq_false h3]
          refine iteF ⟨_, rfl, d, _, rfl, g_at hd (v_left _ _ _ _), _, rfl, _, _, rfl, rfl, _, rfl, ?_⟩
          have ret1 : ∀ R : Prop, (Q (.int (left % (if many > 1 then many else 1))) (upd H' d (.dK (srcD c (left / (if many > 1 then many else 1)) mixed turn))) → R) → R := fun R hR => hR (by
            have h0 := Int.emod_nonneg left (show (if many > 1 then many else 1) ≠ 0 by omega)
            have h9 := Int.emod_lt_of_pos left hM.1
            have hk := q (left % (if many > 1 then many else 1)).toNat (upd H' d (.dK (srcD c (left / (if many > 1 then many else 1)) mixed turn))) (by
              by_cases h : many > 1
              · rw [if_pos h] at h9 h0 ⊢; exact .inl (by omega)
              · rw [if_neg h] at h9 h0 ⊢; exact .inr (by omega)) (e.trans (ExS.updD _)) ⟨m, cells, _, mixed, turn, upd_same, by rw [upd_ne hdc.symm]; exact hc, hlen, hpos, Int.ediv_nonneg hl0 (by omega)⟩
            rw [Int.toNat_of_nonneg h0] at hk
            exact hk)
          have out : d = d := rfl
          by_cases h4 : many < 2
          · rw [decide_eq_true h4]
            refine iteT (iteT ⟨_, rfl, _, rfl, 1, many, rfl, _, _, rfl, rfl, hM, _, rfl, d, _, rfl, DPut.k (k := .inr "left") hd (by show 4 < sizeLine; decide), _, rfl, .inl ⟨_, rfl, _, rfl, 1, many, rfl, _, _, rfl, rfl, hM.1, ?_⟩⟩)
            rw [p_left]
            exact ret1 _ id
          · rw [decide_eq_false h4]
            refine iteF ⟨_, rfl, _, _, rfl, rfl, _, rfl, ?_⟩
            by_cases h5 : left > 1
            · rw [decide_eq_true h5]
              refine iteT ⟨_, rfl, _, rfl, 1, many, rfl, _, _, rfl, rfl, hM, _, rfl, d, _, rfl, DPut.k (k := .inr "left") hd (by show 4 < sizeLine; decide), _, rfl, .inl ⟨_, rfl, _, rfl, 1, many, rfl, _, _, rfl, rfl, hM.1, ?_⟩⟩
              rw [p_left]
              exact ret1 _ id
            · rw [decide_eq_false h5]
              refine iteF ⟨_, rfl, d, _, rfl, g_at hd (v_turn _ _ _ _), _, _, rfl, rfl, _, rfl, d, _, rfl, DPut.k (k := .inr "turn") hd (by show 4 < sizeLine; decide), ?_⟩
              rw [p_turn]
              have hd2 : upd H' d (.dK (srcD c left mixed (turn + 1))) d = some (.dK (srcD c left mixed (turn + 1))) := upd_same
              refine ⟨_, rfl, d, _, rfl, g_at hd2 (v_mixed _ _ _ _), _, rfl, d, _, rfl, g_at hd2 (v_turn _ _ _ _), _, _, rfl, rfl, .inr ⟨by decide, by decide⟩, _, _, rfl, rfl, .inl ⟨_, rfl, _, _, rfl, rfl, by show (0 : Int) < _; decide, ?_⟩⟩
              have m0 := Int.emod_nonneg (mixed + (turn + 1) * 104729) (show (998244353 : Int) ≠ 0 by decide)
              have m1 := Int.emod_lt_of_pos (mixed + (turn + 1) * 104729) (show (0 : Int) < 998244353 by decide)
              have m2 : True := trivial
              refine ⟨_, rfl, _, rfl, _, _, rfl, rfl, .inl ⟨by omega, by omega⟩, _, rfl, d, _, rfl, g_at hd2 (v_turn _ _ _ _), _, _, rfl, rfl, .inr ⟨by decide, by decide⟩, _, _, rfl, rfl, .inl ⟨_, rfl, _, _, rfl, rfl, by show (0 : Int) < _; decide, ?_⟩⟩
              obtain ⟨y, hy⟩ : ∃ y : Int, y = ((mixed + (turn + 1) * 104729) % 998244353 * ((mixed + (turn + 1) * 104729) % 998244353) + (turn + 1) * 17) % 2147483647 := ⟨_, rfl⟩
              refine ⟨_, rfl, _, _, rfl, rfl, ⟨by decide, by decide⟩, .inl ⟨_, rfl, _, rfl, _, _, rfl, rfl, by omega, ?_⟩⟩
              have k0 := Int.emod_nonneg (y / 16) (show many ≠ 0 by omega)
              have k1 := Int.emod_lt_of_pos (y / 16) (show 0 < many by omega)
              have hk := q (y / 16 % many).toNat (upd H' d (.dK (srcD c left mixed (turn + 1)))) (.inl (by omega)) (e.trans (ExS.updD _)) ⟨m, cells, left, mixed, turn + 1, upd_same, by rw [upd_ne hdc.symm]; exact hc, hlen, hpos, hl0⟩
              rw [Int.toNat_of_nonneg k0, hy] at hk
              exact hk
      · rw [decide_eq_false h2]
        refine iteF ⟨_, rfl, d, _, rfl, g_at hd (v_left _ _ _ _), _, rfl, _, _, rfl, rfl, _, rfl, ?_⟩
        have ret1 : ∀ R : Prop, (Q (.int (left % (if many > 1 then many else 1))) (upd H' d (.dK (srcD c (left / (if many > 1 then many else 1)) mixed turn))) → R) → R := fun R hR => hR (by
          have h0 := Int.emod_nonneg left (show (if many > 1 then many else 1) ≠ 0 by omega)
          have h9 := Int.emod_lt_of_pos left hM.1
          have hk := q (left % (if many > 1 then many else 1)).toNat (upd H' d (.dK (srcD c (left / (if many > 1 then many else 1)) mixed turn))) (by
            by_cases h : many > 1
            · rw [if_pos h] at h9 h0 ⊢; exact .inl (by omega)
            · rw [if_neg h] at h9 h0 ⊢; exact .inr (by omega)) (e.trans (ExS.updD _)) ⟨m, cells, _, mixed, turn, upd_same, by rw [upd_ne hdc.symm]; exact hc, hlen, hpos, Int.ediv_nonneg hl0 (by omega)⟩
          rw [Int.toNat_of_nonneg h0] at hk
          exact hk)
        have out : d = d := rfl
        by_cases h4 : many < 2
        · rw [decide_eq_true h4]
          refine iteT (iteT ⟨_, rfl, _, rfl, 1, many, rfl, _, _, rfl, rfl, hM, _, rfl, d, _, rfl, DPut.k (k := .inr "left") hd (by show 4 < sizeLine; decide), _, rfl, .inl ⟨_, rfl, _, rfl, 1, many, rfl, _, _, rfl, rfl, hM.1, ?_⟩⟩)
          rw [p_left]
          exact ret1 _ id
        · rw [decide_eq_false h4]
          refine iteF ⟨_, rfl, _, _, rfl, rfl, _, rfl, ?_⟩
          by_cases h5 : left > 1
          · rw [decide_eq_true h5]
            refine iteT ⟨_, rfl, _, rfl, 1, many, rfl, _, _, rfl, rfl, hM, _, rfl, d, _, rfl, DPut.k (k := .inr "left") hd (by show 4 < sizeLine; decide), _, rfl, .inl ⟨_, rfl, _, rfl, 1, many, rfl, _, _, rfl, rfl, hM.1, ?_⟩⟩
            rw [p_left]
            exact ret1 _ id
          · rw [decide_eq_false h5]
            refine iteF ⟨_, rfl, d, _, rfl, g_at hd (v_turn _ _ _ _), _, _, rfl, rfl, _, rfl, d, _, rfl, DPut.k (k := .inr "turn") hd (by show 4 < sizeLine; decide), ?_⟩
            rw [p_turn]
            have hd2 : upd H' d (.dK (srcD c left mixed (turn + 1))) d = some (.dK (srcD c left mixed (turn + 1))) := upd_same
            refine ⟨_, rfl, d, _, rfl, g_at hd2 (v_mixed _ _ _ _), _, rfl, d, _, rfl, g_at hd2 (v_turn _ _ _ _), _, _, rfl, rfl, .inr ⟨by decide, by decide⟩, _, _, rfl, rfl, .inl ⟨_, rfl, _, _, rfl, rfl, by show (0 : Int) < _; decide, ?_⟩⟩
            have m0 := Int.emod_nonneg (mixed + (turn + 1) * 104729) (show (998244353 : Int) ≠ 0 by decide)
            have m1 := Int.emod_lt_of_pos (mixed + (turn + 1) * 104729) (show (0 : Int) < 998244353 by decide)
            have m2 : True := trivial
            refine ⟨_, rfl, _, rfl, _, _, rfl, rfl, .inl ⟨by omega, by omega⟩, _, rfl, d, _, rfl, g_at hd2 (v_turn _ _ _ _), _, _, rfl, rfl, .inr ⟨by decide, by decide⟩, _, _, rfl, rfl, .inl ⟨_, rfl, _, _, rfl, rfl, by show (0 : Int) < _; decide, ?_⟩⟩
            obtain ⟨y, hy⟩ : ∃ y : Int, y = ((mixed + (turn + 1) * 104729) % 998244353 * ((mixed + (turn + 1) * 104729) % 998244353) + (turn + 1) * 17) % 2147483647 := ⟨_, rfl⟩
            refine ⟨_, rfl, _, _, rfl, rfl, ⟨by decide, by decide⟩, .inl ⟨_, rfl, _, rfl, _, _, rfl, rfl, by omega, ?_⟩⟩
            have k0 := Int.emod_nonneg (y / 16) (show many ≠ 0 by omega)
            have k1 := Int.emod_lt_of_pos (y / 16) (show 0 < many by omega)
            have hk := q (y / 16 % many).toNat (upd H' d (.dK (srcD c left mixed (turn + 1)))) (.inl (by omega)) (e.trans (ExS.updD _)) ⟨m, cells, left, mixed, turn + 1, upd_same, by rw [upd_ne hdc.symm]; exact hc, hlen, hpos, hl0⟩
            rw [Int.toNat_of_nonneg k0, hy] at hk
            exact hk
    · rw [decide_eq_false h1]
      refine iteF ⟨_, rfl, d, _, rfl, g_at hd (v_left _ _ _ _), _, rfl, _, _, rfl, rfl, _, rfl, ?_⟩
      have ret1 : ∀ R : Prop, (Q (.int (left % (if many > 1 then many else 1))) (upd H' d (.dK (srcD c (left / (if many > 1 then many else 1)) mixed turn))) → R) → R := fun R hR => hR (by
        have h0 := Int.emod_nonneg left (show (if many > 1 then many else 1) ≠ 0 by omega)
        have h9 := Int.emod_lt_of_pos left hM.1
        have hk := q (left % (if many > 1 then many else 1)).toNat (upd H' d (.dK (srcD c (left / (if many > 1 then many else 1)) mixed turn))) (by
          by_cases h : many > 1
          · rw [if_pos h] at h9 h0 ⊢; exact .inl (by omega)
          · rw [if_neg h] at h9 h0 ⊢; exact .inr (by omega)) (e.trans (ExS.updD _)) ⟨m, cells, _, mixed, turn, upd_same, by rw [upd_ne hdc.symm]; exact hc, hlen, hpos, Int.ediv_nonneg hl0 (by omega)⟩
        rw [Int.toNat_of_nonneg h0] at hk
        exact hk)
      have out : d = d := rfl
      by_cases h4 : many < 2
      · rw [decide_eq_true h4]
        refine iteT (iteT ⟨_, rfl, _, rfl, 1, many, rfl, _, _, rfl, rfl, hM, _, rfl, d, _, rfl, DPut.k (k := .inr "left") hd (by show 4 < sizeLine; decide), _, rfl, .inl ⟨_, rfl, _, rfl, 1, many, rfl, _, _, rfl, rfl, hM.1, ?_⟩⟩)
        rw [p_left]
        exact ret1 _ id
      · rw [decide_eq_false h4]
        refine iteF ⟨_, rfl, _, _, rfl, rfl, _, rfl, ?_⟩
        by_cases h5 : left > 1
        · rw [decide_eq_true h5]
          refine iteT ⟨_, rfl, _, rfl, 1, many, rfl, _, _, rfl, rfl, hM, _, rfl, d, _, rfl, DPut.k (k := .inr "left") hd (by show 4 < sizeLine; decide), _, rfl, .inl ⟨_, rfl, _, rfl, 1, many, rfl, _, _, rfl, rfl, hM.1, ?_⟩⟩
          rw [p_left]
          exact ret1 _ id
        · rw [decide_eq_false h5]
          refine iteF ⟨_, rfl, d, _, rfl, g_at hd (v_turn _ _ _ _), _, _, rfl, rfl, _, rfl, d, _, rfl, DPut.k (k := .inr "turn") hd (by show 4 < sizeLine; decide), ?_⟩
          rw [p_turn]
          have hd2 : upd H' d (.dK (srcD c left mixed (turn + 1))) d = some (.dK (srcD c left mixed (turn + 1))) := upd_same
          refine ⟨_, rfl, d, _, rfl, g_at hd2 (v_mixed _ _ _ _), _, rfl, d, _, rfl, g_at hd2 (v_turn _ _ _ _), _, _, rfl, rfl, .inr ⟨by decide, by decide⟩, _, _, rfl, rfl, .inl ⟨_, rfl, _, _, rfl, rfl, by show (0 : Int) < _; decide, ?_⟩⟩
          have m0 := Int.emod_nonneg (mixed + (turn + 1) * 104729) (show (998244353 : Int) ≠ 0 by decide)
          have m1 := Int.emod_lt_of_pos (mixed + (turn + 1) * 104729) (show (0 : Int) < 998244353 by decide)
          have m2 : True := trivial
          refine ⟨_, rfl, _, rfl, _, _, rfl, rfl, .inl ⟨by omega, by omega⟩, _, rfl, d, _, rfl, g_at hd2 (v_turn _ _ _ _), _, _, rfl, rfl, .inr ⟨by decide, by decide⟩, _, _, rfl, rfl, .inl ⟨_, rfl, _, _, rfl, rfl, by show (0 : Int) < _; decide, ?_⟩⟩
          obtain ⟨y, hy⟩ : ∃ y : Int, y = ((mixed + (turn + 1) * 104729) % 998244353 * ((mixed + (turn + 1) * 104729) % 998244353) + (turn + 1) * 17) % 2147483647 := ⟨_, rfl⟩
          refine ⟨_, rfl, _, _, rfl, rfl, ⟨by decide, by decide⟩, .inl ⟨_, rfl, _, rfl, _, _, rfl, rfl, by omega, ?_⟩⟩
          have k0 := Int.emod_nonneg (y / 16) (show many ≠ 0 by omega)
          have k1 := Int.emod_lt_of_pos (y / 16) (show 0 < many by omega)
          have hk := q (y / 16 % many).toNat (upd H' d (.dK (srcD c left mixed (turn + 1)))) (.inl (by omega)) (e.trans (ExS.updD _)) ⟨m, cells, left, mixed, turn + 1, upd_same, by rw [upd_ne hdc.symm]; exact hc, hlen, hpos, hl0⟩
          rw [Int.toNat_of_nonneg k0, hy] at hk
          exact hk
end
end Cn
/-! The law's rows. -/
namespace Cn
open PySem PySem.Spec PyProof.Rows L2
open Evl (Ex)
def plusR (p : Int) (r : List Int) (t : Int) (s : List Int) : List Int := mk r.length fun k => (r.getD k 0 + t * s.getD k 0) % p
theorem mod_sub (a x p : Int) : (a - x % p) % p = (a - x) % p := by rw [Int.sub_emod, Int.emod_emod, ← Int.sub_emod]
theorem plus_step {p : Int} {r s : List Int} (h : r.length = s.length) : plusR p r (0 - r.getD (piv s) 0) s = stepW p r s := by
  unfold plusR stepW subR
  refine congrArg (mk r.length) (funext fun k => ?_)
  rw [sca_get, mod_sub, Int.zero_sub, Int.neg_mul, Int.sub_eq_add_neg]
theorem plus_sub {p : Int} {r s : List Int} {c : Nat} : plusR p r (0 - r.getD c 0) s = subR p r (scaR p (r.getD c 0) s) := by
  unfold plusR subR
  refine congrArg (mk r.length) (funext fun k => ?_)
  rw [sca_get, mod_sub, Int.zero_sub, Int.neg_mul, Int.sub_eq_add_neg]
theorem plus_sca {p : Int} {n : Nat} {k : Int} {s : List Int} (h : s.length = n) : plusR p (zeroR n) k s = scaR p k s := by
  unfold plusR scaR
  rw [zero_len, h]
  refine congrArg (mk n) (funext fun i => ?_)
  rw [zero_get, Int.zero_add]
section
variable {P : Program} {w : World} {K : PySem.W.Frag} {mg : Str → Option Value} {base : Heap}
def spPlus (K : PySem.W.Frag) : Sp := fun vs H Q _ => ∃ a b p t r s, vs = [.int p, a, .int t, b] ∧ 0 < p ∧ -1000 ≤ t ∧ t ≤ 1000 ∧ Dp K H a (rowD r) ∧ Dp K H b (rowD s) ∧ r.length = s.length ∧ r.length ≤ 100 ∧ ∀ v H', Ex H H' → Dp K H' v (rowD (plusR p r t s)) → Q v H'
theorem sc_plus : FnScope ["_law_p", "_law_one", "_law_times", "_law_other", "_law_k"] ["_law_p", "_law_one", "_law_times", "_law_other"] (defScope s_law_plus) := ⟨rfl, rfl, rfl, by decide +kernel, rfl, by decide +kernel, by decide +kernel⟩
theorem dps_intsD {H : Hp} {vs : List V} {n : Nat} {f : Nat → Int} (h : DpAll K H vs ((List.range n).map fun i => .int (f i))) : vs = (mk n f).map V.int := by
  refine dps_ints (K := K) (H := H) ?_
  unfold mk
  rw [List.map_map]
  exact h
theorem cal_plus (E : En K mg) : Cal P w K mg base 1 "_law_plus" ["_law_p", "_law_one", "_law_times", "_law_other"] (spPlus K) := by
  obtain ⟨fd, F, g⟩ := E.c_law_plus
  refine ⟨⟨fd, ?_, F.binds fun _ _ _ _ _ _ us hl => match us, hl with | [_, _, _, _], _ => rfl⟩, g, F.kp⟩
  refine F.ok sc_plus (fun vs H Q E h => ?_) (fun cdv A outer s H vs Q E' hr h => ?_)
  · obtain ⟨a, b, p, t, r, s, rfl, _⟩ := h
    rfl
  · obtain ⟨a, b, p, t, r, s, rfl, p0, t0, t1, ha, hb, hl, hz, q⟩ := h
    obtain ⟨a, rfl, ta⟩ := dp_row ha
    obtain ⟨b, rfl, tb⟩ := dp_row hb
    refine ⟨_, pss_one (ps_ret (pe_callTy (ct_tuple K) (by rfl) E.n_tuple (by decide +kernel) (pa_cons (pe_lc (own := [("_law_k", 4)]) (g := gName 4) (tt := tYes) rfl sc_plus.nd (pi_range1 (by rfl) E.n_range (pa_cons (pe_callB (cb_len K) (by rfl) E.n_len (by decide +kernel) (pa_cons (pv 1) pa_nil)) pa_nil)) (blkOk_by (by kernel_rfl)) (fun _ _ _ _ _ => pg_name (i := 4) sc_plus.nd rfl (.inl rfl)) (fun _ _ _ _ _ => pts_nil)
      (fun _ _ _ _ _ => pe_op op_mod (pe_callTy call_int1 (by rfl) E.n_int (by decide +kernel) (pa_cons (pe_op op_add (pe_ix (ixt K) (pv 1) (pv 4) (fun _ _ => rfl)) (pe_op op_mul (pv 2) (pe_ix (ixt K) (pv 3) (pv 4) (fun _ _ => rfl)))) pa_nil)) (pv 0))) pa_nil))), ?_⟩
    have hz2 : ((r.map V.int).length : Int) = r.length := by rw [List.length_map]
    refine ⟨_, rfl, a, _, rfl, .inr ta, ((r.length : Nat) : Int), by rw [List.length_map], by omega, by omega, ?_⟩
    refine rng_lc (K := K) (lo := 0) (n := ((r.length : Nat) : Int).toNat) (sz100 (by omega)) (fun _ => true) (fun k => .int ((r.getD k 0 + t * s.getD k 0) % p)) (fun _ => rfl) (gm_name 4) ?_ ?_
    · intro k H1 hk e1
      rw [Int.toNat_natCast] at hk
      refine ⟨rfl, Ex.refl _, et_yes, fun _ => ?_⟩
      intro H2 e2 Q' kk
      have e12 := e1.trans e2
      rw [show (0 + (k : Int)) = ((k : Nat) : Int) by omega]
      refine ⟨_, rfl, _, rfl, a, _, _, _, rfl, rfl, Evl.ex_t e12 ta, at_row hk, _, rfl, _, rfl, _, rfl, b, _, _, _, rfl, rfl, Evl.ex_t e12 tb, at_row (by omega), _, _, rfl, rfl, .inl ⟨by omega, by omega⟩, _, _, rfl, rfl, .inl ⟨_, rfl, _, rfl, _, _, rfl, rfl, p0, kk _ _ (Ex.refl _) (.int _)⟩⟩
    · intro D vs H1 hD e1 hv hd
      rw [filter_all, Int.toNat_natCast] at hd
      have ev : vs = (plusR p r t s).map V.int := dps_intsD hd
      exact ⟨D, vs, rfl, .inl ⟨.inl (.inl hv), fun l hl => q _ _ (e1.trans (Ex.new hl)) (row_dp (by rw [← ev]; exact .inl (.inl upd_same)))⟩⟩
/-! ### _law_units, _law_inverse, _law_pivot -/
def spLunits (K : PySem.W.Frag) : Sp := fun vs H Q _ => ∃ n : Nat, vs = [.int n] ∧ n ≤ 100 ∧ ∀ D ys H', H D = none → Ex H H' → H' D = some (.lst ys) → DpAll K H' ys ((unitsL n).map rowD) → Q (.ref D) H'
theorem sc_lunits : FnScope ["_law_n", "_law_k", "_law_place"] ["_law_n"] (defScope s_law_units) := ⟨rfl, rfl, rfl, by decide +kernel, rfl, by decide +kernel, by decide +kernel⟩
theorem cal_lunits (E : En K mg) : Cal P w K mg base 1 "_law_units" ["_law_n"] (spLunits K) := by
  obtain ⟨fd, F, g⟩ := E.c_law_units
  refine ⟨⟨fd, ?_, F.binds fun _ _ _ _ _ _ us hl => match us, hl with | [_], _ => rfl⟩, g, F.kp⟩
  refine F.ok sc_lunits (fun vs H Q E h => ?_) (fun cdv A outer s H vs Q E' hr h => ?_)
  · obtain ⟨n, rfl, _⟩ := h
    rfl
  · obtain ⟨n, rfl, hn, q⟩ := h
    refine ⟨_, pss_one (ps_ret (pe_lc (own := [("_law_k", 1)]) (g := gName 1) (tt := tYes) rfl sc_lunits.nd (pi_range1 (by rfl) E.n_range (pa_cons (pv 0) pa_nil)) (blkOk_by (by kernel_rfl)) (fun _ _ _ _ _ => pg_name (i := 1) sc_lunits.nd rfl (.inr rfl)) (fun _ _ _ _ _ => pts_nil)
      (fun _ _ _ _ _ => pe_callTy (ct_tuple K) (by rfl) E.n_tuple (by decide +kernel) (pa_cons (pe_lc (own := [("_law_place", 2)]) (g := gName 2) (tt := tYes) rfl sc_lunits.nd (pi_range1 (by rfl) E.n_range (pa_cons (pv 0) pa_nil)) (blkOk_by (by kernel_rfl)) (fun _ _ _ _ _ => pg_name (i := 2) sc_lunits.nd rfl (.inl rfl)) (fun _ _ _ _ _ => pts_nil)
        (fun _ _ _ _ _ => pe_callTy call_int1 (by rfl) E.n_int (by decide +kernel) (pa_cons (pe_cmpR op_eq (pv 1) (pv 2) (nomark _)) pa_nil))) pa_nil)))), ?_⟩
    refine ⟨_, rfl, n, rfl, by omega, by omega, ?_⟩
    refine rng_lc (K := K) (lo := 0) (n := ((n : Nat) : Int).toNat) (sz100 (by omega)) (fun _ => true) (fun k => rowD (mk n fun c => if k = c then 1 else 0)) (fun _ => flat_row _) (gm_name 1) ?_ ?_
    · intro k H1 hk e1
      refine ⟨rfl, Ex.refl _, et_yes, fun _ => ?_⟩
      intro H2 e2 Q' kk
      refine ⟨_, rfl, n, rfl, by omega, by omega, ?_⟩
      refine rng_lc (K := K) (lo := 0) (n := ((n : Nat) : Int).toNat) (sz100 (by omega)) (fun _ => true) (fun c => .int (if k = c then 1 else 0)) (fun _ => rfl) (gm_name 2) ?_ ?_
      · intro c H3 hc e3
        refine ⟨rfl, Ex.refl _, et_yes, fun _ => ?_⟩
        intro H4 e4 Q4 k4
        refine ⟨_, rfl, _, rfl, rfl, .inr ⟨_, rfl, k4 _ _ (Ex.refl _) ?_⟩⟩
        by_cases hkc : k = c
        · subst hkc
          rw [if_pos rfl, if_pos (by simp)]
          exact .int _
        · rw [if_neg hkc, if_neg (by simp; omega)]
          exact .int _
      · intro D vs H3 hD e3 hv hd
        rw [filter_all, Int.toNat_natCast] at hd
        have ev : vs = (mk n fun c => if k = c then 1 else 0).map V.int := dps_intsD hd
        exact ⟨D, vs, rfl, .inl ⟨.inl (.inl hv), fun l hl => kk _ _ (e3.trans (Ex.new hl)) (row_dp (by rw [← ev]; exact .inl (.inl upd_same)))⟩⟩
    · intro D vs H1 hD e1 hv hd
      rw [filter_all, Int.toNat_natCast] at hd
      refine q D vs H1 hD e1 hv ?_
      unfold unitsL
      rw [List.map_map]
      exact hd
end
end Cn
namespace Cn
open PySem PySem.Spec PyProof.Rows L2
open Evl (Ex)
theorem sz200 {n : Nat} (h : n ≤ 1000) : n < sizeLine := Nat.lt_of_le_of_lt h (by decide)
theorem filter_first {f : Nat → Bool} {n k : Nat} (hk : k < n) (h1 : f k = true) (h2 : ∀ j, j < k → f j = false) : ((List.range n).filter f)[0]? = some k := by
  rw [← List.head?_eq_getElem?, List.head?_filter, List.find?_range_eq_some]
  exact ⟨h1, List.mem_range.mpr hk, fun j hj => by rw [h2 j hj]; rfl⟩
theorem filter_none {f : Nat → Bool} {n : Nat} (h2 : ∀ j, j < n → f j = false) : (List.range n).filter f = [] := by
  rw [List.filter_eq_nil_iff]
  intro j hj
  rw [h2 j (List.mem_range.mp hj)]
  decide
section
variable {P : Program} {w : World} {K : PySem.W.Frag} {mg : Str → Option Value} {base : Heap}
def spLinv (K : PySem.W.Frag) : Sp := fun vs H Q _ => ∃ p a, ∃ k : Nat, vs = [.int p, .int a] ∧ IsInv p a k ∧ -1000 ≤ a ∧ a ≤ 1000 ∧ 2 ≤ p ∧ p ≤ 1000 ∧ ∀ H', Ex H H' → Q (.int k) H'
theorem sc_linv : FnScope ["_law_p", "_law_number", "_law_k"] ["_law_p", "_law_number"] (defScope s_law_inverse) := ⟨rfl, rfl, rfl, by decide +kernel, rfl, by decide +kernel, by decide +kernel⟩
theorem cal_linv (E : En K mg) : Cal P w K mg base 1 "_law_inverse" ["_law_p", "_law_number"] (spLinv K) := by
  obtain ⟨fd, F, g⟩ := E.c_law_inverse
  refine ⟨⟨fd, ?_, F.binds fun _ _ _ _ _ _ us hl => match us, hl with | [_, _], _ => rfl⟩, g, F.kp⟩
  refine F.ok sc_linv (fun vs H Q E h => ?_) (fun cdv A outer s H vs Q E' hr h => ?_)
  · obtain ⟨p, a, k, rfl, _⟩ := h
    rfl
  · obtain ⟨p, a, k, rfl, hk, a0, a1, p2, p1, q⟩ := h
    refine ⟨_, pss_one (ps_ret (pe_ix (ixl K) (pe_lc (own := [("_law_k", 2)]) (g := gName 2) rfl sc_linv.nd (pi_range1 (by rfl) E.n_range (pa_cons (pv 0) pa_nil)) (blkOk_by (by kernel_rfl)) (fun _ _ _ _ _ => pg_name (i := 2) sc_linv.nd rfl (.inl rfl))
      (fun _ _ _ _ _ => pts_one (pt_cmpR op_eq (pe_op op_mod (pe_callTy call_int1 (by rfl) E.n_int (by decide +kernel) (pa_cons (pe_op op_mul (pv 2) (pv 1)) pa_nil)) (pv 0)) pe_int (nomark _))) (fun _ _ _ _ _ => pv 2)) pe_int (fun _ _ => rfl))), ?_⟩
    refine ⟨_, rfl, p, rfl, by omega, by omega, ?_⟩
    refine rng_lc (K := K) (lo := 0) (n := p.toNat) (sz200 (by omega)) (fun j => decide ((a * (j : Nat)) % p = 1)) (fun j => .int (j : Nat)) (fun _ => rfl) (gm_name 2) ?_ ?_
    · intro j H1 hj e1
      rw [show (0 + (j : Int)) = ((j : Nat) : Int) by omega]
      refine ⟨rfl, Ex.refl _, ?_, fun _ => ?_⟩
      · intro H2 e2 Q' kk
        refine ⟨_, rfl, _, rfl, _, _, rfl, rfl, .inr ⟨by omega, by omega⟩, .inl ⟨_, rfl, _, rfl, _, _, rfl, rfl, by omega, rfl, _, rfl, ?_⟩⟩
        have e : decide (V.int ((j : Int) * a % p) = V.int 1) = decide ((a * (j : Nat)) % p = 1) := by
          rw [Int.mul_comm]
          by_cases h : (a * (j : Nat)) % p = 1
          · rw [decide_eq_true h, decide_eq_true (congrArg V.int h)]
          · rw [decide_eq_false h, decide_eq_false (fun z => h (V.int.inj z))]
        rw [e]
        exact kk _ (Ex.refl _)
      · intro H2 e2 Q' kk
        exact ⟨_, rfl, kk _ _ (Ex.refl _) (.int _)⟩
    · intro D vs H1 hD e1 hv hd
      have hf : ((List.range p.toNat).filter fun j => decide ((a * (j : Nat)) % p = 1))[0]? = some k := by
        have := hk.lo
        have h9 := hk.hi
        refine filter_first (by omega) (decide_eq_true hk.one) fun j hj => ?_
        rcases Nat.eq_zero_or_pos j with rfl | h0
        · exact decide_eq_false (by simp)
        · exact decide_eq_false (hk.first j h0 hj)
      obtain ⟨v, hv0, hdv⟩ := dps_at (i := 0) (d := .int (k : Nat)) hd (by rw [List.getElem?_map, hf]; rfl)
      rw [dp_int hdv] at hv0
      exact ⟨D, vs, 0, _, rfl, rfl, .inl (.inl hv), atI_nat (j := 0) hv0, q _ e1⟩
def spLpiv (K : PySem.W.Frag) : Sp := fun vs H Q _ => ∃ a r, vs = [a] ∧ Dp K H a (rowD r) ∧ r.length ≤ 100 ∧ ∀ H', Ex H H' → Q (optV (pivO r)) H'
theorem sc_lpiv : FnScope ["_law_row", "_law_found", "_law_k"] ["_law_row"] (defScope s_law_pivot) := ⟨rfl, rfl, rfl, by decide +kernel, rfl, by decide +kernel, by decide +kernel⟩
theorem shaped_ints (l : List Nat) : SeqAt.shaped (.list (l.map fun i => .int (i : Nat))) = true := by
  have h1 : PyData.canLay0 (.list (l.map fun i => .int (i : Nat))) = true := by
    rw [PyData.canLay0]
    exact can_map (fun _ => by simp [PyData.canLay0]) l
  have h2 : PyData.depthAll (l.map fun i => .int (i : Nat)) = 0 := by
    have := PySem.W.depth_ints (l.map fun i => ((i : Nat) : Int))
    rw [List.map_map] at this
    exact this
  unfold SeqAt.shaped
  rw [h1, PyData.depth, h2]
  rfl
theorem eqv_list_nil (ds : List PyData) : PyData.eqv (.list ds) (.list []) = decide (ds = []) := by
  rw [PyData.eqv]
  cases ds with
  | nil => simp [PyData.eqvAll]
  | cons d ds => simp [PyData.eqvAll]
theorem cal_lpiv (E : En K mg) : Cal P w K mg base 1 "_law_pivot" ["_law_row"] (spLpiv K) := by
  obtain ⟨fd, F, g⟩ := E.c_law_pivot
  refine ⟨⟨fd, ?_, F.binds fun _ _ _ _ _ _ us hl => match us, hl with | [_], _ => rfl⟩, g, F.kp⟩
  refine F.ok sc_lpiv (fun vs H Q E h => ?_) (fun cdv A outer s H vs Q E' hr h => ?_)
  · obtain ⟨a, r, rfl, _⟩ := h
    rfl
  · obtain ⟨a, r, rfl, ha, hz, q⟩ := h
    obtain ⟨a, rfl, ta⟩ := dp_row ha
    have hu := hr.units
    refine ⟨_, pss_cons (ps_setLc (i := 1) (own := [("_law_k", 2)]) (g := gName 2) rfl sc_lpiv.nd rfl rfl rfl (pi_range1 (by rfl) E.n_range (pa_cons (pe_callB (cb_len K) (by rfl) E.n_len (by decide +kernel) (pa_cons (pv 0) pa_nil)) pa_nil)) (blkOk_by (by kernel_rfl)) (fun _ _ _ _ _ => pg_name (i := 2) sc_lpiv.nd rfl (.inl rfl))
        (fun _ _ _ _ _ => pts_one (pt_cmpR op_ne (pe_ix (ixt K) (pv 0) (pv 2) (fun _ _ => rfl)) pe_int (nomark _))) (fun _ _ _ _ _ => pv 2))
      (pss_one (ps_ret (pe_ifExp (pt_cmpR (op_neK K hu) (pv 1) (pe_lst pa_nil) (nomark _)) (pe_ix (ixl K) (pv 1) pe_int (fun _ _ => rfl)) pe_non))), ?_⟩
    refine ⟨_, rfl, a, _, rfl, .inr ta, ((r.length : Nat) : Int), by rw [List.length_map], by omega, by omega, ?_⟩
    refine rng_lc (K := K) (lo := 0) (n := ((r.length : Nat) : Int).toNat) (sz100 (by omega)) (fun j => decide (r.getD j 0 ≠ 0)) (fun j => .int (j : Nat)) (fun _ => rfl) (gm_name 2) ?_ ?_
    · intro j H1 hj e1
      rw [Int.toNat_natCast] at hj
      rw [show (0 + (j : Int)) = ((j : Nat) : Int) by omega]
      refine ⟨rfl, Ex.refl _, ?_, fun _ => ?_⟩
      · intro H2 e2 Q' kk
        refine ⟨_, rfl, _, rfl, a, _, _, _, rfl, rfl, Evl.ex_t (e1.trans e2) ta, at_row hj, rfl, _, rfl, ?_⟩
        have e : (!decide (V.int (r.getD j 0) = V.int 0)) = decide (r.getD j 0 ≠ 0) := by
          by_cases h : r.getD j 0 = 0
          · rw [h]; rfl
          · rw [decide_eq_false (fun z => h (V.int.inj z)), decide_eq_true h]; rfl
        rw [e]
        exact kk _ (Ex.refl _)
      · intro H2 e2 Q' kk
        exact ⟨_, rfl, kk _ _ (Ex.refl _) (.int _)⟩
    · intro D vs H1 hD e1 hv hd
      rw [Int.toNat_natCast] at hd
      refine ⟨_, rfl, by show 0 ≤ sizeLine; decide, fun L hL => ?_⟩
      have e2 := e1.trans (Ex.new (o := .lst []) hL)
      have e12 : Ex H1 (upd H1 L (.lst [])) := Ex.new hL
      refine ⟨_, _, .lst (.inl (.inl (e12 _ _ hv))) (dps_mono e12 _ _ hd), .lst (.inl (.inl upd_same)) .nil, shaped_ints _, by decide +kernel, _, rfl, ?_⟩
      rw [eqv_list_nil]
      cases hp : pivO r with
      | none =>
        have h0 := pivO_no.mp hp
        have hf : ((List.range r.length).filter fun j => decide (r.getD j 0 ≠ 0)) = [] := filter_none fun j _ => decide_eq_false (fun z => z (h0 j))
        rw [hf]
        refine iteF ?_
        have k := q _ e2
        rw [hp] at k
        exact k
      | some c =>
        obtain ⟨h1, h2⟩ := pivO_iff.mp hp
        have cl : c < r.length := by
          rcases Nat.lt_or_ge c r.length with z | z
          · exact z
          · exact absurd (get_out z) h1
        have hf := filter_first (f := fun j => decide (r.getD j 0 ≠ 0)) cl (decide_eq_true h1) (fun j hj => decide_eq_false (fun z => z (h2 j hj)))
        obtain ⟨v, hv0, hdv⟩ := dps_at (i := 0) (d := .int (c : Nat)) hd (by rw [List.getElem?_map, hf]; rfl)
        rw [dp_int hdv] at hv0
        have hne : ¬ (((List.range r.length).filter fun j => decide (r.getD j 0 ≠ 0)).map fun j => PyData.int (j : Nat)) = [] := fun z => by
          rw [List.map_eq_nil_iff] at z
          rw [z] at hf
          cases hf
        rw [decide_eq_false hne]
        refine iteT ⟨_, rfl, D, vs, 0, _, rfl, rfl, .inl (.inl (e12 _ _ hv)), atI_nat (j := 0) hv0, ?_⟩
        have k := q _ e2
        rw [hp] at k
        exact k
end
end Cn
/-! Sorted lists of rows and codes. -/
namespace Cn
theorem perm_eq {α : Type} {R : α → α → Prop} (anti : ∀ a b, R a b → R b a → a = b) : ∀ {l m : List α}, l.Perm m → l.Pairwise R → m.Pairwise R → l = m
  | [], m, h, _, _ => (List.Perm.eq_nil h.symm).symm
  | x :: l, [], h, _, _ => by simp at h
  | x :: l, y :: m, h, hl, hm => by
    obtain ⟨l1, l2⟩ := List.pairwise_cons.mp hl
    obtain ⟨m1, m2⟩ := List.pairwise_cons.mp hm
    have e : x = y := by
      rcases List.mem_cons.mp (h.mem_iff.mp List.mem_cons_self) with e | hx
      · exact e
      · rcases List.mem_cons.mp (h.mem_iff.mpr List.mem_cons_self) with e | hy
        · exact e.symm
        · exact anti x y (l1 y hy) (m1 x hx)
    subst e
    rw [perm_eq anti ((List.perm_cons x).mp h) l2 m2]
theorem row_anti (a b : List Int) (h1 : ¬ a < b) (h2 : ¬ b < a) : a = b := List.le_antisymm (List.not_lt.mp h2) (List.not_lt.mp h1)
theorem row_tr (a b c : List Int) (h1 : ¬ a < b) (h2 : ¬ b < c) : ¬ a < c := List.not_lt.mpr (List.le_trans (List.not_lt.mp h2) (List.not_lt.mp h1))
theorem row_as (a b : List Int) (h : a < b) : ¬ b < a := List.not_lt.mpr (List.le_of_lt h)
theorem code_anti (a b : List (List Int)) (h1 : ¬ a < b) (h2 : ¬ b < a) : a = b := List.le_antisymm (List.not_lt.mp h2) (List.not_lt.mp h1)
theorem code_tr (a b c : List (List Int)) (h1 : ¬ a < b) (h2 : ¬ b < c) : ¬ a < c := List.not_lt.mpr (List.le_trans (List.not_lt.mp h2) (List.not_lt.mp h1))
theorem code_as (a b : List (List Int)) (h : a < b) : ¬ b < a := List.not_lt.mpr (List.le_of_lt h)
theorem bnot {p : Prop} [Decidable p] : (!decide p) = true ↔ ¬ p := by simp
theorem downR_srt (l : List (List Int)) : (downR l).Pairwise fun p q => ¬ p < q := by
  refine (List.pairwise_mergeSort (fun a b c h1 h2 => bnot.mpr (row_tr a b c (bnot.mp h1) (bnot.mp h2))) (fun a b => ?_) l).imp fun h => bnot.mp h
  by_cases h : a < b
  · rw [Bool.or_eq_true]; exact .inr (bnot.mpr (row_as a b h))
  · rw [Bool.or_eq_true]; exact .inl (bnot.mpr h)
theorem upR_srt (l : List (List Int)) : (upR l).Pairwise fun p q => ¬ q < p := by
  refine (List.pairwise_mergeSort (fun a b c h1 h2 => bnot.mpr (row_tr c b a (bnot.mp h2) (bnot.mp h1))) (fun a b => ?_) l).imp fun h => bnot.mp h
  by_cases h : b < a
  · rw [Bool.or_eq_true]; exact .inr (bnot.mpr (row_as b a h))
  · rw [Bool.or_eq_true]; exact .inl (bnot.mpr h)
theorem upC_srt (l : List (List (List Int))) : (upC l).Pairwise fun p q => ¬ q < p := by
  refine (List.pairwise_mergeSort (fun a b c h1 h2 => bnot.mpr (code_tr c b a (bnot.mp h2) (bnot.mp h1))) (fun a b => ?_) l).imp fun h => bnot.mp h
  by_cases h : b < a
  · rw [Bool.or_eq_true]; exact .inr (bnot.mpr (code_as b a h))
  · rw [Bool.or_eq_true]; exact .inl (bnot.mpr h)
theorem upR_prm (l : List (List Int)) : (upR l).Perm l := List.mergeSort_perm _ _
theorem upC_prm (l : List (List (List Int))) : (upC l).Perm l := List.mergeSort_perm _ _
theorem downR_prm (l : List (List Int)) : (downR l).Perm l := List.mergeSort_perm _ _
/-- sorted(l)[::-1] -/
theorem rev_up (l : List (List Int)) : (upR l).reverse = downR l := by
  refine perm_eq (R := fun p q => ¬ p < q) row_anti ((List.reverse_perm _).trans ((upR_prm l).trans (downR_prm l).symm)) ?_ (downR_srt l)
  rw [List.pairwise_reverse]
  exact upR_srt l
/-- one sorted list for one multiset -/
theorem upC_eq {l m : List (List (List Int))} (h : l.Perm m) : upC l = upC m :=
  perm_eq (R := fun p q => ¬ q < p) (fun a b h1 h2 => code_anti a b h2 h1) ((upC_prm l).trans (h.trans (upC_prm m).symm)) (upC_srt l) (upC_srt m)
theorem downR_eq {l m : List (List Int)} (h : l.Perm m) : downR l = downR m :=
  perm_eq (R := fun p q => ¬ p < q) row_anti ((downR_prm l).trans (h.trans (downR_prm m).symm)) (downR_srt l) (downR_srt m)
/-- a filter of a sorted list -/
theorem upC_filter (f : List (List Int) → Bool) (l : List (List (List Int))) : (upC l).filter f = upC (l.filter f) :=
  perm_eq (R := fun p q => ¬ q < p) (fun a b h1 h2 => code_anti a b h2 h1) (((upC_prm l).filter f).trans (upC_prm _).symm) ((upC_srt l).filter f) (upC_srt _)
end Cn
namespace Cn
open PySem PySem.Spec PyProof.Rows L2
open Evl (Ex)
section
variable {P : Program} {w : World} {K : PySem.W.Frag} {mg : Str → Option Value} {base : Heap}
def spLred (K : PySem.W.Frag) : Sp := fun vs H Q _ => ∃ a p, ∃ n : Nat, ∃ c, vs = [.int p, a] ∧ GoodP p ∧ 2 ≤ n ∧ n ≤ 100 ∧ LsAt K H a rowD c ∧ (∀ r ∈ c, IsRow p n r) ∧ c.length ≤ 100 ∧ ∀ v H', Ex H H' → Dp K H' v (codeD (redL p c)) → Q v H'
theorem sc_lred : FnScope ["_law_p", "_law_rows", "_law_found", "_law_row", "_law_one", "_law_place"] ["_law_p", "_law_rows"] (defScope s_law_reduced) := ⟨rfl, rfl, rfl, by decide +kernel, rfl, by decide +kernel, by decide +kernel⟩
theorem cal_lred (E : En K mg) : Cal P w K mg base 2 "_law_reduced" ["_law_p", "_law_rows"] (spLred K) := by
  obtain ⟨fd, F, g⟩ := E.c_law_reduced
  refine ⟨⟨fd, ?_, F.binds fun _ _ _ _ _ _ us hl => match us, hl with | [_, _], _ => rfl⟩, g, F.kp⟩
  refine F.ok sc_lred (fun vs H Q E h => ?_) (fun cdv A outer s H vs Q E' hr h => ?_)
  · obtain ⟨a, p, n, c, rfl, _⟩ := h
    rfl
  · obtain ⟨a, p, n, c, rfl, hp, n2, n100, hc, hrow, hcl, q⟩ := h
    have p0 := hp.pos
    have p2 := hp.two
    have p13 := hp.most
    have hu := hr.units
    refine ⟨_, pss_cons (ps_set (i := 2) sc_lred.nd rfl (.inl rfl) (pe_lst pa_nil))
      (pss_cons (ps_for PassesOwn.never rfl (pi_seq K (pv 1)) (pg_name (i := 3) sc_lred.nd rfl (.inr rfl))
        (pss_cons (ps_for PassesOwn.never rfl (pi_seq K (pv 2)) (pg_name (i := 4) sc_lred.nd rfl (.inl rfl))
          (pss_one (ps_set (i := 3) sc_lred.nd rfl (.inr rfl) (pe_cal (cal_plus (P := P) (w := w) (base := base) E) (hr.mono (by decide)) (pa_cons (pv 0) (pa_cons (pv 3) (pa_cons (pe_op op_sub pe_int (pe_ix (ixt K) (pv 3) (pe_cal (cal_lpiv (P := P) (w := w) (base := base) E) (hr.mono (by decide)) (pa_cons (pv 4) pa_nil)) (fun _ _ => rfl))) (pa_cons (pv 4) pa_nil))))))))
        (pss_cons (ps_set (i := 5) sc_lred.nd rfl (.inr rfl) (pe_cal (cal_lpiv (P := P) (w := w) (base := base) E) (hr.mono (by decide)) (pa_cons (pv 3) pa_nil)))
        (pss_one (ps_if (pt_cmpR op_notN (pv 5) pe_non (nomark _))
          (pss_cons (ps_set (i := 3) sc_lred.nd rfl (.inr rfl) (pe_cal (cal_plus (P := P) (w := w) (base := base) E) (hr.mono (by decide)) (pa_cons (pv 0) (pa_cons (pe_op op_repT (pe_tup (pa_cons pe_int pa_nil)) (pe_callB (cb_len K) (by rfl) E.n_len (by decide +kernel) (pa_cons (pv 3) pa_nil)))
              (pa_cons (pe_cal (cal_linv (P := P) (w := w) (base := base) E) (hr.mono (by decide)) (pa_cons (pv 0) (pa_cons (pe_ix (ixt K) (pv 3) (pv 5) (fun _ _ => rfl)) pa_nil))) (pa_cons (pv 3) pa_nil))))))
          (pss_one (ps_set (i := 2) sc_lred.nd rfl (.inl rfl) (pe_op op_cat (pe_lc (own := [("_law_one", 4)]) (g := gName 4) (tt := tYes) rfl sc_lred.nd (pi_seq K (pv 2)) (blkOk_by (by kernel_rfl)) (fun _ _ _ _ _ => pg_name (i := 4) sc_lred.nd rfl (.inl rfl)) (fun _ _ _ _ _ => pts_nil)
              (fun _ _ _ _ _ => pe_cal (cal_plus (P := P) (w := w) (base := base) E) (hr.mono (by decide)) (pa_cons (pv 0) (pa_cons (pv 4) (pa_cons (pe_op op_sub pe_int (pe_ix (ixt K) (pv 4) (pv 5) (fun _ _ => rfl))) (pa_cons (pv 3) pa_nil))))))
              (pe_lst (pa_cons (pv 3) pa_nil))))))
          pss_nil)))))
      (pss_one (ps_ret (pe_callTy call_tuple_of (by rfl) E.n_tuple (by decide +kernel) (pa_cons (pe_revL (pe_callB (cr_upR K hu) (by rfl) E.n_sorted (by decide +kernel) (pa_cons (pv 2) pa_nil))) pa_nil))))), ?_⟩
    refine ⟨by show 0 ≤ sizeLine; decide, fun D0 hD0 => ?_⟩
    have e0 : Ex H (upd H D0 (.lst [])) := Ex.new hD0
    refine ⟨_, rfl, seq_for (hc.mono e0) (fun i σ H' => ∃ D xs x3 x4 x5, σ = [some (.int p), some a, some (.ref D), x3, x4, x5] ∧ Ex (upd H D0 (.lst [])) H' ∧ H' D = some (.lst xs) ∧ DpAll K H' xs ((redAt p c i).map rowD)) ⟨D0, [], none, none, none, rfl, Ex.refl _, upd_same, .nil⟩ ?_ ?_ ?_⟩
    · rintro i σ H' ⟨_, _, _, _, _, _, e, _⟩
      exact e
    · rintro i o x σ H1 ho hx ⟨D, xs, x3, x4, x5, rfl, e, hDl, hds⟩
      have ro : IsRow p n o := hrow o (List.mem_of_getElem? ho)
      have hred := redAt_red hp hrow i
      have rlen := redAt_len p c i
      refine ⟨_, rfl, seq_for (f := rowD) (c := redAt p c i) (Pv := fun j σ H' => ∃ v y4 y5, σ = [some (.int p), some a, some (.ref D), some v, y4, y5] ∧ Ex H1 H' ∧ Dp K H' v (rowD (withAt p o (redAt p c i) j))) ⟨D, xs, rfl, .inl (.inl (.inl hDl)), hds⟩ ⟨x, x4, x5, rfl, Ex.refl _, hx⟩ ?_ ?_ ?_⟩
      · rintro j σ H' ⟨_, _, _, _, e, _⟩
        exact e
      · rintro j own y σ H2 hj hy ⟨v, y4, y5, rfl, e2, hv⟩
        obtain ⟨rown, pown⟩ := hred.piv own (List.mem_of_getElem? hj)
        have hl : IsRow p n (withAt p o (redAt p c i) j) := withR_row p0 _ ro
        obtain ⟨v, rfl, tv⟩ := dp_row hv
        have lp : piv own < (withAt p o (redAt p c i) j).length := by rw [hl.len, ← rown.len]; exact piv_lt pown
        refine ⟨_, rfl, _, rfl, _, rfl, _, rfl, y, own, rfl, hy, by rw [rown.len]; exact n100, fun H3 e3 => ?_⟩
        rw [optV_piv pown]
        have bd := row_bd hp hl (piv own)
        refine ⟨v, _, _, _, rfl, rfl, Evl.ex_t e3 tv, at_row lp, _, _, rfl, rfl, _, rfl, .ref v, y, p, _, _, own, rfl, p0, by omega, by omega, dp_rowmono e3 hv, dp_rowmono e3 hy, by rw [hl.len, rown.len], by rw [hl.len]; exact n100, fun u H4 e4 hu => ⟨u, _, _, rfl, (e2.trans e3).trans e4, ?_⟩⟩
        rw [withAt_succ hj, ← plus_step (by rw [hl.len, rown.len])]
        exact hu
      · rintro σ H2 ⟨v, y4, y5, rfl, e2, hv⟩
        have efull : withAt p o (redAt p c i) (redAt p c i).length = withR p o (redAt p c i) := by
          unfold withAt
          rw [List.take_length]
        rw [efull] at hv
        have hl : IsRow p n (withR p o (redAt p c i)) := withR_row p0 _ ro
        have hlen : (withR p o (redAt p c i)).length ≤ 100 := by rw [hl.len]; exact n100
        refine ⟨_, rfl, v, _, rfl, hv, hlen, fun H3 e3 => ⟨_, rfl, rfl, _, rfl, ?_⟩⟩
        cases hpv : pivO (withR p o (redAt p c i)) with
        | none =>
          rw [notN_none]
          refine iteF ⟨D, xs, _, _, _, rfl, e.trans (e2.trans e3), e3 _ _ (e2 _ _ hDl), ?_⟩
          rw [redAt_succ ho, stepR_none hpv]
          exact dps_mono (e2.trans e3) _ _ hds
        | some cc =>
          rw [notN_some]
          obtain ⟨n1, n2', n3, n4⟩ := newR_facts hp hl hpv
          obtain ⟨c1, c2⟩ := pivO_iff.mp hpv
          have a0 : 0 < (withR p o (redAt p c i)).getD cc 0 := by have := hl.lo cc; omega
          have iv := hp.inv a0 (hl.hi cc)
          have ivl := iv.lo
          have ivh := iv.hi
          have chi := hl.hi cc
          have ccl : cc < (withR p o (redAt p c i)).length := by
            rcases Nat.lt_or_ge cc (withR p o (redAt p c i)).length with z | z
            · exact z
            · exact absurd (get_out z) c1
          obtain ⟨v, rfl, tv⟩ := dp_row hv
          refine iteT ⟨_, rfl, by show 1 ≤ sizeLine; decide, fun T hT => ?_⟩
          have e4 := e3.trans (Ex.new (o := .tup [.int 0]) hT)
          refine ⟨_, rfl, v, _, rfl, .inr (Evl.ex_t e4 tv), T, n, [.int 0], rfl, by rw [List.length_map, hl.len], .inl (.inl upd_same), by simp, by omega, by omega, by decide, fun Z hZ => ?_⟩
          have hlz : (List.replicate (n : Int).toNat [V.int 0]).flatten = (zeroR n).map V.int := by rw [Int.toNat_natCast, zero_rep]
          rw [hlz] at *
          have e5 := e4.trans (Ex.new (o := .tup ((zeroR n).map V.int)) hZ)
          refine ⟨_, rfl, _, rfl, _, rfl, v, _, _, _, rfl, rfl, Evl.ex_t e5 tv, at_row ccl, p, _, _, rfl, iv, by omega, by omega, p2, by omega, fun H6 e6 => ?_⟩
          have e26 := e5.trans e6
          refine ⟨_, rfl, .ref Z, .ref v, p, _, zeroR n, _, rfl, p0, by omega, by omega, row_dp (Evl.ex_t e6 (.inl (.inl upd_same))), dp_rowmono e26 hv, by rw [zero_len, hl.len], by rw [zero_len]; exact n100, fun u H7 e7 hu => ?_⟩
          rw [plus_sca hl.len] at hu
          have hu' : Dp K H7 u (rowD (newR p (withR p o (redAt p c i)) cc)) := hu
          have e17 : Ex H1 H7 := e2.trans (e26.trans e7)
          refine ⟨_, rfl, seq_lc (c := redAt p c i) (f := rowD) ⟨D, xs, rfl, .inl (.inl (.inl (e17 _ _ hDl))), dps_mono e17 _ _ hds⟩ (sz100 (Nat.le_trans rlen hcl)) (fun _ => true) (fun own => rowD (subR p own (scaR p (own.getD cc 0) (newR p (withR p o (redAt p c i)) cc)))) (fun _ => flat_row _) (gm_name 4) ?_ ?_⟩
          · intro own y H8 hm e8 hy
            refine ⟨rfl, Ex.refl _, et_yes, fun _ => ?_⟩
            intro H9 e9 Q' kk
            have row := hred.row own hm
            have bd := row_bd hp row cc
            obtain ⟨y, rfl, ty⟩ := dp_row hy
            refine ⟨_, rfl, _, rfl, _, rfl, _, rfl, y, _, _, _, rfl, rfl, Evl.ex_t e9 ty, at_row (by rw [row.len, ← hl.len]; exact ccl), _, _, rfl, rfl, _, rfl, .ref y, u, p, _, own, _, rfl, p0, by omega, by omega, dp_rowmono e9 hy, dp_rowmono (e8.trans e9) hu', by rw [row.len, n1.len], by rw [row.len]; exact n100, fun t H10 e10 ht => kk _ _ e10 ?_⟩
            rw [plus_sub] at ht
            exact ht
          · intro D2 vs H8 hD2 e8 hv8 hd8
            rw [filter_all] at hd8
            have hlv : vs.length + 1 ≤ sizeLine := by
              have := sz100 (Nat.le_trans rlen hcl)
              rw [dps_mapl hd8]
              omega
            refine ⟨_, rfl, by show 1 ≤ sizeLine; decide, fun L hL => ⟨D2, L, vs, [u], rfl, rfl, (Ex.new hL) _ _ hv8, upd_same, hlv, fun M hM => ?_⟩⟩
            have e9 := (Ex.new (o := .lst [u]) hL).trans (Ex.new (o := .lst (vs ++ [u])) hM)
            refine ⟨M, vs ++ [u], _, _, _, rfl, e.trans (e17.trans (e8.trans e9)), upd_same, ?_⟩
            rw [redAt_succ ho, stepR_some hpv, List.map_append, List.map_map]
            exact dps_snoc (dps_mono e9 _ _ hd8) (dp_rowmono (e8.trans e9) hu')
    · rintro σ H' ⟨D, xs, x3, x4, x5, rfl, e, hDl, hds⟩
      have hfull : redAt p c c.length = redF p c := by
        unfold redAt
        rw [List.take_length]
      rw [hfull] at hds
      refine ⟨_, rfl, D, xs, redF p c, rfl, .inl (.inl hDl), hds, red_cons n2 (redF_red hp hrow).row, fun ys l hy hl => ⟨l, ys, rfl, .inl (.inl upd_same), fun l2 hl2 => ⟨l2, _, rfl, .inl ⟨.inl (.inl upd_same), fun l3 hl3 => q _ _ ((e0.trans e).trans ((Ex.new hl).trans ((Ex.new hl2).trans (Ex.new hl3)))) (.tup (.inl (.inl upd_same)) ?_)⟩⟩⟩⟩
      unfold redL
      rw [← rev_up, List.map_reverse]
      exact dps_rev (dps_mono ((Ex.new hl).trans ((Ex.new hl2).trans (Ex.new hl3))) _ _ hy)
end
end Cn
namespace Cn
open PySem PySem.Spec PyProof.Rows L2
open Evl (Ex)
theorem slL {X : Cx} (K : PySem.W.Frag) (hK : X.K = K := by rfl) : SlR X (rSlL K) := by
  subst hK
  exact sl_list
theorem cut_take (xs : List V) (i : Nat) : cutV xs none (some (i : Int)) = xs.take i := by
  unfold cutV
  rw [HT.sIx_nat, HT.sIx_none, List.drop_zero, Nat.sub_zero]
  rcases Nat.lt_or_ge i xs.length with z | z
  · rw [Nat.min_eq_left (Nat.le_of_lt z)]
  · rw [Nat.min_eq_right z, List.take_length, List.take_of_length_le z]
theorem opt_is (o : Option Nat) : decide (optV o = V.non) = decide (o = none) := by cases o <;> rfl
section
variable {P : Program} {w : World} {K : PySem.W.Frag} {mg : Str → Option Value} {base : Heap}
def spLin (K : PySem.W.Frag) : Sp := fun vs H Q _ => ∃ a b p, ∃ n : Nat, ∃ r c, vs = [.int p, b, a] ∧ GoodP p ∧ n ≤ 100 ∧ Dp K H a (rowD r) ∧ IsRow p n r ∧ LsAt K H b rowD c ∧ Piv p n c ∧ ∀ H', Ex H H' → Q (.bl (decide (pivO (withR p r c) = none))) H'
theorem sc_lin : FnScope ["_law_p", "_law_code", "_law_row", "_law_one"] ["_law_p", "_law_code", "_law_row"] (defScope s_law_is_in) := ⟨rfl, rfl, rfl, by decide +kernel, rfl, by decide +kernel, by decide +kernel⟩
theorem cal_lin (E : En K mg) : Cal P w K mg base 2 "_law_is_in" ["_law_p", "_law_code", "_law_row"] (spLin K) := by
  obtain ⟨fd, F, g⟩ := E.c_law_is_in
  refine ⟨⟨fd, ?_, F.binds fun _ _ _ _ _ _ us hl => match us, hl with | [_, _, _], _ => rfl⟩, g, F.kp⟩
  refine F.ok sc_lin (fun vs H Q E h => ?_) (fun cdv A outer s H vs Q E' hr h => ?_)
  · obtain ⟨a, b, p, n, r, c, rfl, _⟩ := h
    rfl
  · obtain ⟨a, b, p, n, r, c, rfl, hp, n100, ha, hrow, hb, hc, q⟩ := h
    have p0 := hp.pos
    refine ⟨_, pss_cons (ps_for PassesOwn.never rfl (pi_seq K (pv 1)) (pg_name (i := 3) sc_lin.nd rfl (.inl rfl))
          (pss_one (ps_set (i := 2) sc_lin.nd rfl (.inl rfl) (pe_cal (cal_plus (P := P) (w := w) (base := base) E) (hr.mono (by decide)) (pa_cons (pv 0) (pa_cons (pv 2) (pa_cons (pe_op op_sub pe_int (pe_ix (ixt K) (pv 2) (pe_cal (cal_lpiv (P := P) (w := w) (base := base) E) (hr.mono (by decide)) (pa_cons (pv 3) pa_nil)) (fun _ _ => rfl))) (pa_cons (pv 3) pa_nil))))))))
      (pss_one (ps_ret (pe_cmpR op_isN (pe_cal (cal_lpiv (P := P) (w := w) (base := base) E) (hr.mono (by decide)) (pa_cons (pv 2) pa_nil)) pe_non (nomark _)))), ?_⟩
    refine ⟨_, rfl, seq_for hb (fun j σ H' => ∃ v y, σ = [some (.int p), some b, some v, y] ∧ Ex H H' ∧ Dp K H' v (rowD (withAt p r c j))) ⟨a, none, rfl, Ex.refl _, ha⟩ (fun j σ H' z => by obtain ⟨_, _, _, e, _⟩ := z; exact e) ?_ ?_⟩
    · rintro j own y σ H2 hj hy ⟨v, y4, rfl, e2, hv⟩
      obtain ⟨rown, pown⟩ := hc own (List.mem_of_getElem? hj)
      have hl : IsRow p n (withAt p r c j) := withR_row p0 _ hrow
      obtain ⟨v, rfl, tv⟩ := dp_row hv
      have lp : piv own < (withAt p r c j).length := by rw [hl.len, ← rown.len]; exact piv_lt pown
      refine ⟨_, rfl, _, rfl, _, rfl, _, rfl, y, own, rfl, hy, by rw [rown.len]; exact n100, fun H3 e3 => ?_⟩
      rw [optV_piv pown]
      have bd := row_bd hp hl (piv own)
      refine ⟨v, _, _, _, rfl, rfl, Evl.ex_t e3 tv, at_row lp, _, _, rfl, rfl, _, rfl, .ref v, y, p, _, _, own, rfl, p0, by omega, by omega, dp_rowmono e3 hv, dp_rowmono e3 hy, by rw [hl.len, rown.len], by rw [hl.len]; exact n100, fun u H4 e4 hu => ⟨u, _, rfl, (e2.trans e3).trans e4, ?_⟩⟩
      rw [withAt_succ hj, ← plus_step (by rw [hl.len, rown.len])]
      exact hu
    · rintro σ H2 ⟨v, y4, rfl, e2, hv⟩
      have efull : withAt p r c c.length = withR p r c := by
        unfold withAt
        rw [List.take_length]
      rw [efull] at hv
      have hl : IsRow p n (withR p r c) := withR_row p0 _ hrow
      refine ⟨_, rfl, v, _, rfl, hv, by rw [hl.len]; exact n100, fun H3 e3 => ⟨rfl, ?_⟩⟩
      rw [opt_is]
      exact q _ (e2.trans e3)
/-! ### _law_codes, _law_whole -/
def codesL (p : Int) (rows : List (List Int)) : List (List (List Int)) := (List.range (rows.length - 1)).map fun j => redL p (rows.take (j + 1))
def spLcodes (K : PySem.W.Frag) : Sp := fun vs H Q _ => ∃ a xs p, ∃ n : Nat, ∃ rows, vs = [.int p, .ref a] ∧ GoodP p ∧ n ≤ 100 ∧ SqL K H a xs ∧ DpAll K H xs (rows.map rowD) ∧ rows.length = n ∧ (∀ r ∈ rows, IsRow p n r) ∧
  ∀ D ys H', H D = none → Ex H H' → H' D = some (.lst ys) → DpAll K H' ys ((codesL p rows).map codeD) → Q (.ref D) H'
theorem sc_lcodes : FnScope ["_law_p", "_law_base_here", "_law_k"] ["_law_p", "_law_base_here"] (defScope s_law_codes) := ⟨rfl, rfl, rfl, by decide +kernel, rfl, by decide +kernel, by decide +kernel⟩
theorem cal_lcodes (E : En K mg) : Cal P w K mg base 3 "_law_codes" ["_law_p", "_law_base_here"] (spLcodes K) := by
  obtain ⟨fd, F, g⟩ := E.c_law_codes
  refine ⟨⟨fd, ?_, F.binds fun _ _ _ _ _ _ us hl => match us, hl with | [_, _], _ => rfl⟩, g, F.kp⟩
  refine F.ok sc_lcodes (fun vs H Q E h => ?_) (fun cdv A outer s H vs Q E' hr h => ?_)
  · obtain ⟨a, xs, p, n, rows, rfl, _⟩ := h
    rfl
  · obtain ⟨a, xs, p, n, rows, rfl, hp, n100, ha, hx, hln, hrow, q⟩ := h
    have lx : xs.length = n := by rw [dps_mapl hx, hln]
    refine ⟨_, pss_one (ps_ret (pe_lc (own := [("_law_k", 2)]) (g := gName 2) (tt := tYes) rfl sc_lcodes.nd (pi_range2 (by rfl) E.n_range (pa_cons pe_int (pa_cons (pe_callB (cb_len K) (by rfl) E.n_len (by decide +kernel) (pa_cons (pv 1) pa_nil)) pa_nil))) (blkOk_by (by kernel_rfl)) (fun _ _ _ _ _ => pg_name (i := 2) sc_lcodes.nd rfl (.inl rfl)) (fun _ _ _ _ _ => pts_nil)
      (fun _ _ _ _ _ => pe_cal (cal_lred (P := P) (w := w) (base := base) E) (hr.mono (by decide)) (pa_cons (pv 0) (pa_cons (pe_slice (slL K) (pv 1) po_none (po_some (pv 2))) pa_nil))))), ?_⟩
    refine ⟨_, rfl, a, xs, rfl, .inl ha, 1, n, by rw [lx], ⟨by decide, by decide, by omega, by omega⟩, ?_⟩
    refine rng_lc (K := K) (lo := 1) (n := ((n : Int) - 1).toNat) (sz100 (by omega)) (fun _ => true) (fun j => codeD (redL p (rows.take (j + 1)))) (fun _ => flat_code _) (gm_name 2) ?_ ?_
    · intro j H1 hj e1
      refine ⟨rfl, Ex.refl _, et_yes, fun _ => ?_⟩
      intro H2 e2 Q' kk
      rw [show (1 + (j : Int)) = ((j + 1 : Nat) : Int) by omega]
      refine ⟨_, rfl, _, rfl, _, rfl, _, rfl, a, xs, rfl, Evl.ex_l (e1.trans e2) ha, fun T hT => ?_⟩
      rw [cut_take] at *
      refine ⟨.ref T, p, n, rows.take (j + 1), rfl, hp, by omega, n100, ⟨T, _, rfl, .inl (.inl (.inl upd_same)), ?_⟩, fun r m => hrow r (List.mem_of_mem_take m), by rw [List.length_take]; omega, fun v H3 e3 hv => kk _ _ ((Ex.new hT).trans e3) hv⟩
      rw [List.map_take]
      exact dps_take _ (dps_mono ((e1.trans e2).trans (Ex.new hT)) _ _ hx)
    · intro D vs H1 hD e1 hv hd
      rw [filter_all] at hd
      refine q D vs H1 hD e1 hv ?_
      unfold codesL
      rw [List.map_map, hln, show n - 1 = ((n : Int) - 1).toNat by omega]
      exact hd
end
end Cn
namespace Cn
open PySem PySem.Spec PyProof.Rows L2
open Evl (Ex)
section
variable {P : Program} {w : World} {K : PySem.W.Frag} {mg : Str → Option Value} {base : Heap}
def wholeL (n : Nat) (cs : List (List (List Int))) : List (List (List Int)) := ([] :: cs) ++ (if n = 0 then [] else [unitsL n])
def spLwhole (K : PySem.W.Frag) : Sp := fun vs H Q _ => ∃ a xs, ∃ n : Nat, ∃ cs, vs = [.ref a, .int n] ∧ n ≤ 100 ∧ SqL K H a xs ∧ DpAll K H xs (cs.map codeD) ∧ cs.length ≤ 100 ∧
  ∀ D ys H', H D = none → Ex H H' → H' D = some (.lst ys) → DpAll K H' ys ((wholeL n cs).map codeD) → Q (.ref D) H'
theorem sc_lwhole : FnScope ["_law_codes_here", "_law_n", "_law_found"] ["_law_codes_here", "_law_n"] (defScope s_law_whole) := ⟨rfl, rfl, rfl, by decide +kernel, rfl, by decide +kernel, by decide +kernel⟩
theorem cal_lwhole (E : En K mg) : Cal P w K mg base 2 "_law_whole" ["_law_codes_here", "_law_n"] (spLwhole K) := by
  obtain ⟨fd, F, g⟩ := E.c_law_whole
  refine ⟨⟨fd, ?_, F.binds fun _ _ _ _ _ _ us hl => match us, hl with | [_, _], _ => rfl⟩, g, F.kp⟩
  refine F.ok sc_lwhole (fun vs H Q E h => ?_) (fun cdv A outer s H vs Q E' hr h => ?_)
  · obtain ⟨a, xs, n, cs, rfl, _⟩ := h
    rfl
  · obtain ⟨a, xs, n, cs, rfl, n100, ha, hx, hcl, q⟩ := h
    have lx : xs.length ≤ 100 := by rw [dps_mapl hx]; exact hcl
    have big : 200 < sizeLine := by decide
    refine ⟨_, pss_cons (ps_set (i := 2) sc_lwhole.nd rfl (.inl rfl) (pe_op op_cat (pe_lst (pa_cons (pe_tup pa_nil) pa_nil)) (pe_callTy (ct_list K) (by rfl) E.n_list (by decide +kernel) (pa_cons (pv 0) pa_nil))))
      (pss_one (ps_ret (pe_ifExp (pt_cmpR op_gt (pv 1) pe_int (nomark _)) (pe_op op_cat (pv 2) (pe_lst (pa_cons (pe_callTy (ct_tuple K) (by rfl) E.n_tuple (by decide +kernel) (pa_cons (pe_cal (cal_lunits (P := P) (w := w) (base := base) E) (hr.mono (by decide)) (pa_cons (pv 1) pa_nil)) pa_nil)) pa_nil))) (pv 2)))), ?_⟩
    refine ⟨by show 0 ≤ sizeLine; decide, fun T hT => ⟨by show 1 ≤ sizeLine; decide, fun L1 hL1 => ⟨_, rfl, a, xs, rfl, .inl (Evl.ex_l ((Ex.new hT).trans (Ex.new hL1)) ha), fun L2' hL2 => ?_⟩⟩⟩
    have e1 := ((Ex.new (o := .tup []) hT).trans (Ex.new (o := .lst [.ref T]) hL1)).trans (Ex.new (o := .lst xs) hL2)
    refine ⟨L1, L2', [.ref T], xs, rfl, rfl, (Ex.new hL2) _ _ upd_same, upd_same, by show 1 + xs.length ≤ sizeLine; omega, fun M hM => ?_⟩
    have e2 := e1.trans (Ex.new (o := .lst ([.ref T] ++ xs)) hM)
    have eT := (((Ex.new hL1).trans (Ex.new hL2)).trans (Ex.new (o := .lst ([.ref T] ++ xs)) hM)) T _ (upd_same (H := H) (a := T) (o := .tup []))
    have d0 : DpAll K _ ([.ref T] ++ xs) (([] :: cs).map codeD) := .cons (.tup (.inl (.inl eT)) .nil) (dps_mono e2 _ _ hx)
    have hM0 : H M = none := ex_none e1 hM
    refine ⟨_, rfl, _, _, rfl, rfl, _, rfl, ?_⟩
    rcases Nat.eq_zero_or_pos n with h0 | h0
    · subst h0
      refine iteF ⟨_, rfl, q M _ _ hM0 e2 upd_same ?_⟩
      unfold wholeL
      rw [if_pos rfl, List.append_nil]
      exact d0
    · rw [decide_eq_true (by omega)]
      refine iteT ⟨_, rfl, _, rfl, n, rfl, n100, fun D ys H3 hD e3 hy hd => ⟨D, ys, rfl, .inl ⟨.inl (.inl hy), fun U hU => ⟨by show 1 ≤ sizeLine; decide, fun L3 hL3 => ?_⟩⟩⟩⟩
      have e34 := e3.trans ((Ex.new (o := .tup ys) hU).trans (Ex.new (o := .lst [.ref U]) hL3))
      refine ⟨M, L3, _, [.ref U], rfl, rfl, e34 _ _ upd_same, upd_same, by rw [List.length_append]; show 1 + xs.length + 1 ≤ sizeLine; omega, fun M2 hM2 => ?_⟩
      have e5 := (e2.trans e34).trans (Ex.new (o := .lst (([.ref T] ++ xs) ++ [.ref U])) hM2)
      refine q M2 _ _ (ex_none (e2.trans e34) hM2) e5 upd_same ?_
      unfold wholeL
      rw [if_neg (by omega), List.map_append]
      refine dps_app (dps_mono (e34.trans (Ex.new hM2)) _ _ d0) (.cons (.tup (.inl (.inl (((Ex.new hL3).trans (Ex.new hM2)) _ _ upd_same))) (dps_mono (((Ex.new hU).trans (Ex.new hL3)).trans (Ex.new hM2)) _ _ hd)) .nil)
/-! ### _law_digits -/
def digitsL (p : Nat) : Nat → List (List Int)
  | 0 => [[]]
  | m + 1 => (digitsL p m).flatMap fun s => (List.range p).map fun k => s ++ [((k : Nat) : Int)]
theorem digits_len (p : Nat) : ∀ m, (digitsL p m).length = p ^ m
  | 0 => rfl
  | m + 1 => by
    have h : ∀ l : List (List Int), (l.flatMap fun s => (List.range p).map fun k => s ++ [((k : Nat) : Int)]).length = l.length * p := fun l => by
      induction l with
      | nil => simp
      | cons a l ih => rw [List.flatMap_cons, List.length_append, ih, List.length_map, List.length_range, List.length_cons, Nat.succ_mul, Nat.add_comm]
    rw [digitsL, h, digits_len p m, Nat.pow_succ]
end
end Cn
namespace Cn
open PySem PySem.Spec PyProof.Rows L2
open Evl (Ex)
theorem ints_ex : ∀ {l : List Nat} {vs : List V}, Paired (fun _ v => ∃ z : Int, v = V.int z ∧ 0 ≤ z) l vs → ∃ zs : List Int, vs = zs.map V.int ∧ ∀ z ∈ zs, 0 ≤ z
  | _, _, .nil => ⟨[], rfl, fun z hz => by simp at hz⟩
  | _, _, .cons ⟨z, e, h0⟩ t => by
    obtain ⟨zs, e2, h2⟩ := ints_ex t
    exact ⟨z :: zs, by rw [e, e2] <;> rfl, fun y hy => (List.mem_cons.mp hy).elim (fun q => q ▸ h0) (h2 y)⟩
section
variable {P : Program} {w : World} {K : PySem.W.Frag} {mg : Str → Option Value} {base : Heap}
def spSource (K : PySem.W.Frag) : Sp := fun vs H Q _ => ∃ a, ∃ ns : List Int, vs = [.ref a] ∧ SqL K H a (ns.map V.int) ∧ ns.length < sizeLine ∧ ∀ d c H', H d = none → H c = none → Ex H H' → Src d c H' → Q (.ref d) H'
theorem sc_source : FnScope ["_law_script", "_law_mixed_here", "_law_cell"] ["_law_script"] (defScope s_law_source) := ⟨rfl, rfl, rfl, by decide +kernel, rfl, by decide +kernel, by decide +kernel⟩
theorem cal_source (E : En K mg) : Cal P w K mg base 1 "_law_source" ["_law_script"] (spSource K) := by
  obtain ⟨fd, F, g⟩ := E.c_law_source
  refine ⟨⟨fd, ?_, F.binds fun _ _ _ _ _ _ us hl => match us, hl with | [_], _ => rfl⟩, g, F.kp⟩
  refine F.ok sc_source (fun vs H Q E h => ?_) (fun cdv A outer s H vs Q E' hr h => ?_)
  · obtain ⟨a, ns, rfl, _⟩ := h
    rfl
  · obtain ⟨a, ns, rfl, ha, hz, q⟩ := h
    refine ⟨_, pss_cons (ps_set (i := 1) sc_source.nd rfl (.inl rfl) pe_int)
      (pss_cons (ps_for PassesOwn.never rfl (pi_list (pv 0)) (pg_name (i := 2) sc_source.nd rfl (.inl rfl))
        (pss_one (ps_set (i := 1) sc_source.nd rfl (.inl rfl) (pe_op op_mod (pe_callTy call_int1 (by rfl) E.n_int (by decide +kernel) (pa_cons (pe_op op_add (pe_op op_add (pe_op op_mul (pv 1) pe_int) (pe_op op_mul (pv 2) pe_int)) pe_int) pa_nil)) pe_int))))
      (pss_one (ps_ret (pe_disp (pps_cons pe_str (pe_revL (pe_lc (own := [("_law_cell", 2)]) (g := gName 2) (tt := tYes) rfl sc_source.nd (pi_list (pv 0)) (blkOk_by (by kernel_rfl)) (fun _ _ _ _ _ => pg_name (i := 2) sc_source.nd rfl (.inl rfl)) (fun _ _ _ _ _ => pts_nil)
          (fun _ _ _ _ _ => pe_callB call_abs (by rfl) E.n_abs (by decide +kernel) (pa_cons (pv 2) pa_nil))))
        (pps_cons pe_str pe_int (pps_cons pe_str (pv 1) (pps_cons pe_str pe_int pps_nil)))) rfl rfl (by simp) (by decide))))), ?_⟩
    refine ⟨_, rfl, a, rfl, ⟨_, ha⟩, ?_⟩
    refine for_list (xs := ns.map V.int) (fun i σ H' => ∃ m x, σ = [some (.ref a), some (.int m), x] ∧ H' = H) ⟨11, none, rfl, rfl⟩ (fun i σ H' _ z => by obtain ⟨_, _, _, rfl⟩ := z; exact ha) ?_ ?_
    · rintro i x σ H' hx ⟨m, x0, rfl, rfl⟩
      have e1 := getD_of hx
      subst e1
      exact ⟨_, rfl, _, _, rfl, rfl, .inr ⟨by decide, by decide⟩, _, rfl, _, _, rfl, rfl, .inr ⟨by decide, by decide⟩, _, _, rfl, rfl, _, _, rfl, rfl, .inl ⟨_, rfl, _, _, rfl, rfl, by show (0 : Int) < _; decide, _, _, rfl, rfl⟩⟩
    · rintro σ H' ⟨m, x0, rfl, rfl⟩
      refine fun d hd => ?_
      have e1 : Ex H' (upd H' d (.dK [])) := Ex.new hd
      refine ⟨_, rfl, a, rfl, ⟨_, Evl.ex_l e1 ha⟩, fun L hL => ?_⟩
      refine lcW walk_list hL K (fun _ => true) (fun i v _ => ∃ z : Int, v = .int z ∧ 0 ≤ z) (gm_name 2) (by rw [List.length_map]; exact hz) (fun H2 e2 => Evl.ex_l (e1.trans e2) ha) (fun _ _ _ _ _ q => q) ?_ ?_
      · rintro i x H1 H2 hi e2 ⟨rfl, hx⟩
        have e3 := getD_of hx
        subst e3
        refine ⟨rfl, Ex.refl _, et_yes, fun _ => ?_⟩
        intro H3 e4 Q' k
        exact ⟨_, rfl, _, rfl, k _ _ (Ex.refl _) ⟨_, rfl, by split <;> omega⟩⟩
      · intro vs H2 e2 hv hp
        obtain ⟨zs, hzs, hz0⟩ : ∃ zs : List Int, vs = zs.map V.int ∧ ∀ z ∈ zs, 0 ≤ z := ints_ex hp
        subst hzs
        refine ⟨L, _, rfl, .inl (.inl hv), fun c hc => ?_⟩
        have e3 := (e1.trans e2).trans (Ex.new (o := .lst ((zs.map V.int).reverse)) hc)
        have hd3 : upd H2 c (.lst (zs.map V.int).reverse) d = some (.dK []) := (e2.trans (Ex.new hc)) _ _ upd_same
        have hdc : d ≠ c := ne_of_none (e2 _ _ upd_same) hc
        refine ⟨_, rfl, hd3, srcD c 1 m 0, rfl, by show 4 ≤ 15; decide, ?_⟩
        refine q d c _ hd (ex_none (e1.trans e2) hc) (Evl.Ex.mut e3 hd) ⟨_, zs.reverse, 1, m, 0, ?_, ?_, rfl, fun x hx => hz0 x (List.mem_reverse.mp hx), by decide⟩
        · rw [upd_same]
          rfl
        · rw [upd_ne hdc.symm, upd_same, List.map_reverse]
end
end Cn
/-! a tuple times 1. -/
namespace Cn
open PySem PySem.Spec PyProof.Rows L2
theorem tuple_mul1 (l : Addr) (items : Array Value) (n : Nat) (dd : Option Addr) (sl : Array (Option Value)) (u : Tok) :
    Meets (Builtin.«tuple.__mul__» ⟨[.ref l, .int 1 u], []⟩) (fun _ R s => s.heap.get? l = some { cls := .type "tuple", dict := dd, data := .seq items n, slots := sl } ∧ R (.ok (.ret (Value.ref l))) s) :=
  .of_wp fun prog w A R s h => by
    obtain ⟨hp, g, d, tk, os⟩ := s
    obtain ⟨hl, h⟩ := h
    have f1 := AutoSeq1.idx_int
    wp_walk using wpAny_loadPart' hl
    exact ⟨_, rfl, h⟩
def rRep0 (K : PySem.W.Frag) : R2 := fun x y H Q => ∃ l k xs, x = .ref l ∧ y = .int k ∧ SqT K H l xs ∧ xs ≠ [] ∧ 1 ≤ k ∧ k ≤ 1000 ∧ xs.length ≤ 1000 ∧ (k = 1 → Q (.ref l) H) ∧ ∀ p, H p = none → Q (.ref p) (upd H p (.tup (List.replicate k.toNat xs).flatten))
theorem op_rep0 {X : Cx} (K : PySem.W.Frag) (hK : X.K = K := by rfl) : OpR X (binaryOp .Mult) (rRep0 K) := by
  subst hK
  intro pins s σ H x y v u Q I rx ry h
  obtain ⟨l, k, xs, rfl, rfl, hT, hne, h1, h2, hz, q1, q⟩ := h
  by_cases hk : k = 1
  · subst hk
    have q := q1 rfl
    cases rx
    obtain ⟨t, rfl⟩ := ry
    obtain ⟨its, r, ⟨⟨cls, dd, data, sl⟩, ho, hc, n, hd⟩, hs⟩ := I.tuple hT
    simp only at hc hd
    subst hc hd
    exact wpAny_binaryOp_repeat_ref (T := "tuple") (U := "int") (by decide) ⟨_, ho, rfl⟩ (fun s' => typeIs_int s' 1 t) noFill_tuple_mul F.fills_int_mul F.slot_int_rmul repeat_tuple F.slot_int_index.lookup
      (call_meets F.slot_int_rmul (typeIs_int s 1 t) F.entry_int_rmul (F.args_int_rmul_2 _ _) (int_rmul_tuple 1 t l its.toArray n dd sl)
        ⟨ho, rfl, ⟨_, ho, rfl⟩, call_meets F.slot_tuple_mul ⟨_, ho, rfl⟩ F.entry_tuple_mul (F.args_tuple_mul_2 _ _) (tuple_mul1 l its.toArray n dd sl t) ⟨ho, ⟨.ref l, H, I, rfl, q⟩⟩⟩)
  · exact op_repT pins s σ H _ _ v u Q I rx ry ⟨l, k, xs, rfl, rfl, hT, hne, by omega, h2, hz, q⟩
end Cn
namespace Cn
open PySem PySem.Spec PyProof.Rows L2
open Evl (Ex)
section
variable {X : Cx} {o e : PySem.Expr} {es : List PySem.Expr} {to : TE} {t : TA} {name : Str} {apos cpos : Pos} {T id : String} {r : V → List V → Hp → VK → Prop}
theorem pe_bmK (K : PySem.W.Frag) (pa : PlainAttrs T) (slot : Slot T name id) (hty : typeOf (.builtin id) = pure (.type "method_descriptor")) (hm : MtR X id r) (ho : PE X o to) (ha : PA X (e :: es) t) (hK : X.K = K := by rfl)
    (hbase : attributeBase o name X.env (eval o X.env) = eval o X.env := by rfl)
    (hfew : ((backTo cpos (starEach (e :: es) X.env)).all (fun x => !x.1) && (backToKw cpos (keywordEach [] X.env)).all (fun x => x.1.isSome) && decide ((e :: es).length + ([] : List Keyword).length + (if ([] : List Keyword).isEmpty then 0 else 1) < 30)) = true := by rfl)
    (hline : (apos.endLine == cpos.line) = true := by rfl) (hs : starEach (e :: es) X.env = (false, eval e X.env) :: starEach es X.env := by rfl) (hplain : (backTo cpos (starEach es X.env)).any (·.1) = false := by rfl) :
    PE X (.Call (.Attribute o name apos) (e :: es) [] cpos) (tBM K T r to t) := by
  subst hK
  exact pe_bm pa slot hty hm ho ha hbase hfew hline hs hplain
end
section
variable {P : Program} {w : World} {K : PySem.W.Frag} {mg : Str → Option Value} {base : Heap}
theorem Src.at {d c : Addr} {H : Hp} (h : Src d c H) : ∃ l m t xs, H d = some (.dK (srcD c l m t)) ∧ H c = some (.lst xs) := by
  obtain ⟨n, cells, l, m, t, h1, h2, _⟩ := h
  exact ⟨l, m, t, _, h1, h2⟩
/-! ### _law_of -/
def spOf : Sp := fun vs H Q _ => ∃ d c a xs, vs = [.ref d, .ref a] ∧ Src d c H ∧ a ≠ c ∧ H a = some (.lst xs) ∧ 1 ≤ xs.length ∧ xs.length ≤ 1000 ∧ ∀ (i : Nat) v H', xs[i]? = some v → ExS d c H H' → Src d c H' → Q v H'
theorem sc_of : FnScope ["_law_source_here", "_law_some"] ["_law_source_here", "_law_some"] (defScope s_law_of) := ⟨rfl, rfl, rfl, by decide +kernel, rfl, by decide +kernel, by decide +kernel⟩
theorem cal_of (E : En K mg) : Cal P w K mg base 2 "_law_of" ["_law_source_here", "_law_some"] spOf := by
  obtain ⟨fd, F, g⟩ := E.c_law_of
  refine ⟨⟨fd, ?_, F.binds fun _ _ _ _ _ _ us hl => match us, hl with | [_, _], _ => rfl⟩, g, F.kp⟩
  refine F.ok sc_of (fun vs H Q E h => ?_) (fun cdv A outer s H vs Q E' hr h => ?_)
  · obtain ⟨d, c, a, xs, rfl, _⟩ := h
    rfl
  · obtain ⟨d, c, a, xs, rfl, hs, hac, ha, h1, h2, q⟩ := h
    obtain ⟨l, m, t, ys, hd, hc⟩ := hs.at
    have had : a ≠ d := fun z => by rw [z, hd] at ha; cases ha
    refine ⟨_, pss_one (ps_ret (pe_ix (ixl K) (pv 1) (pe_cal (cal_pick (P := P) (w := w) (base := base) E) (hr.mono (by decide)) (pa_cons (pv 0) (pa_cons (pe_callB (cb_len K) (by rfl) E.n_len (by decide +kernel) (pa_cons (pv 1) pa_nil)) pa_nil))) (fun _ _ => rfl))), ?_⟩
    refine ⟨_, rfl, _, rfl, _, rfl, a, xs, rfl, .inl (.inl (.inl ha)), d, c, ((xs.length : Nat) : Int), rfl, hs, by omega, fun k H' hk e hs' => ?_⟩
    have hkl : k < xs.length := by omega
    exact ⟨a, xs, _, xs[k], rfl, rfl, .inl (.inl (e a _ had hac ha)), atI_nat (List.getElem?_eq_getElem hkl), q k _ H' (List.getElem?_eq_getElem hkl) e hs'⟩
/-! ### _law_mixed -/
def spMixed (K : PySem.W.Frag) : Sp := fun vs H Q _ => ∃ d c a xs, vs = [.ref d, .ref a] ∧ Src d c H ∧ SqL K H a xs ∧ xs.length ≤ 1000 ∧ ∀ D ys H', H D = none → ys.Perm xs → ExS d c H H' → Src d c H' → H' D = some (.lst ys) → Q (.ref D) H'
theorem sc_mixed : FnScope ["_law_source_here", "_law_things", "_law_rest", "_law_lap"] ["_law_source_here", "_law_things"] (defScope s_law_mixed) := ⟨rfl, rfl, rfl, by decide +kernel, rfl, by decide +kernel, by decide +kernel⟩
theorem perm_pop {α : Type} {acc rem xs : List α} {k : Nat} {y : α} (h : (acc ++ rem).Perm xs) (hk : rem[k]? = some y) : ((acc ++ [y]) ++ rem.eraseIdx k).Perm xs := by
  obtain ⟨hl, rfl⟩ := List.getElem?_eq_some_iff.mp hk
  refine List.Perm.trans ?_ h
  rw [List.append_assoc]
  refine List.Perm.append_left _ ?_
  have e1 : rem = rem.take k ++ rem[k] :: rem.drop (k + 1) := by
    rw [← List.drop_eq_getElem_cons hl, List.take_append_drop]
  rw [List.eraseIdx_eq_take_drop_succ]
  refine List.Perm.trans ?_ (List.Perm.of_eq e1.symm)
  exact (List.perm_middle (l₁ := rem.take k) (a := rem[k]) (l₂ := rem.drop (k + 1))).symm
theorem cal_mixed (E : En K mg) : Cal P w K mg base 2 "_law_mixed" ["_law_source_here", "_law_things"] (spMixed K) := by
  obtain ⟨fd, F, g⟩ := E.c_law_mixed
  refine ⟨⟨fd, ?_, F.binds fun _ _ _ _ _ _ us hl => match us, hl with | [_, _], _ => rfl⟩, g, F.kp⟩
  refine F.ok sc_mixed (fun vs H Q E h => ?_) (fun cdv A outer s H vs Q E' hr h => ?_)
  · obtain ⟨d, c, a, xs, rfl, _⟩ := h
    rfl
  · obtain ⟨d, c, a, xs, rfl, hs, ha, hxl, q⟩ := h
    refine ⟨_, pss_cons (ps_set (i := 2) sc_mixed.nd rfl (.inr rfl) (pe_callTy (ct_list K) (by rfl) E.n_list (by decide +kernel) (pa_cons (pv 1) pa_nil)))
      (pss_one (ps_ret (pe_lc (own := [("_law_lap", 3)]) (g := gName 3) (tt := tYes) rfl sc_mixed.nd (pi_range1 (by rfl) E.n_range (pa_cons (pe_callB (cb_len K) (by rfl) E.n_len (by decide +kernel) (pa_cons (pv 2) pa_nil)) pa_nil)) (blkOk_by (by kernel_rfl)) (fun _ _ _ _ _ => pg_name (i := 3) sc_mixed.nd rfl (.inl rfl)) (fun _ _ _ _ _ => pts_nil)
        (fun _ _ _ _ _ => pe_bmK K PySem.F.plainAttrs_list PySem.F.slot_list_pop PySem.F.type_list_pop mt_popAt (pv 2) (pa_cons (pe_cal (cal_pick (P := P) (w := w) (base := base) E) (hr.mono (by decide)) (pa_cons (pv 0) (pa_cons (pe_callB (cb_len K) (by rfl) E.n_len (by decide +kernel) (pa_cons (pv 2) pa_nil)) pa_nil))) pa_nil))))), ?_⟩
    refine ⟨_, rfl, a, xs, rfl, .inl ha, fun R hR => ?_⟩
    have e0 : Ex H (upd H R (.lst xs)) := Ex.new hR
    obtain ⟨l, m, t, ys, hd, hc⟩ := hs.at
    have hRd : R ≠ d := (ne_of_none hd hR).symm
    have hRc : R ≠ c := (ne_of_none hc hR).symm
    refine ⟨_, rfl, R, xs, rfl, .inl (.inl (.inl upd_same)), ((xs.length : Nat) : Int), rfl, by omega, by omega, fun D hD => ?_⟩
    have hDd : D ≠ d := (ne_of_none (e0 _ _ hd) hD).symm
    have hDc : D ≠ c := (ne_of_none (e0 _ _ hc) hD).symm
    have hDR : D ≠ R := (ne_of_none (upd_same (H := H) (a := R) (o := .lst xs)) hD).symm
    have hD0 := ex_none e0 hD
    rw [Int.toNat_natCast]
    refine ⟨fun i k H' => i + k = xs.length ∧ (∀ b o, b ≠ d → b ≠ c → b ≠ R → b ≠ D → H b = some o → H' b = some o) ∧ Src d c H' ∧ ∃ acc rem, H' D = some (.lst acc) ∧ H' R = some (.lst rem) ∧ (acc ++ rem).Perm xs ∧ acc.length = i, ⟨xs.length, by omega, fun b o _ _ h3 h4 h => by rw [upd_ne h4, upd_ne h3]; exact h, hs.ex (e0.trans (Ex.new hD)), [], xs, upd_same, by rw [upd_ne hDR.symm]; exact upd_same, List.Perm.refl _, rfl⟩, ?_⟩
    rintro i k H' ⟨hik, hkeep, hs', acc, rem, hA, hRm, hpm, hal⟩
    have hlen : acc.length + rem.length = xs.length := by rw [← List.length_append]; exact hpm.length_eq
    rcases Nat.eq_zero_or_pos k with h0 | h0
    · refine .inl ⟨by show xs.length ≤ i; omega, ?_⟩
      have hr0 : rem = [] := List.eq_nil_of_length_eq_zero (by omega)
      subst hr0
      rw [List.append_nil] at hpm
      refine q D acc H' hD0 hpm (fun b o h1 h2 h => ?_) hs' hA
      exact hkeep b o h1 h2 (fun z => by rw [z, hR] at h; cases h) (fun z => by rw [z, hD0] at h; cases h) h
    · refine .inr ⟨by show i < xs.length; omega, fun H'' => (i + 1) + (k - 1) = xs.length ∧ (∀ b o, b ≠ d → b ≠ c → b ≠ R → b ≠ D → H b = some o → H'' b = some o) ∧ Src d c H'' ∧ ∃ acc rem, H'' D = some (.lst acc) ∧ H'' R = some (.lst rem) ∧ (acc ++ rem).Perm xs ∧ acc.length = i + 1, fun H'' z => ⟨k - 1, by omega, z⟩, ?_⟩
      rintro x H'' ⟨rfl, rfl⟩
      refine ⟨rfl, ?_⟩
      unfold tYes
      refine iteT ⟨_, rfl, .inl ⟨rfl, rem, .inl (.inl hRm)⟩, _, rfl, _, rfl, R, rem, rfl, .inl (.inl (.inl hRm)), d, c, ((rem.length : Nat) : Int), rfl, hs', by omega, fun kk H3 hkk e3 hs3 => ?_⟩
      have hkl : kk < rem.length := by omega
      have hR3 := e3 R _ hRd hRc hRm
      have hD3 := e3 D _ hDd hDc hA
      have hsq : seqIndex? ((kk : Nat) : Int) rem.length = some kk := by
        have := ixN_seq (n := rem.length) (i := ((kk : Nat) : Int)) (j := kk) (by unfold ixN; rw [if_pos (by omega)]; rw [Int.toNat_natCast, if_pos (by omega)])
        exact this.1
      have hacc : acc.length < sizeLine := by
        have : 1000 < sizeLine := by decide
        omega
      refine ⟨R, rem, _, kk, rem[kk], rfl, rfl, hR3, by omega, by omega, hsq, List.getElem?_eq_getElem hkl, acc, by rw [upd_ne hDR]; exact hD3, hacc, by omega, ?_, ?_, acc ++ [rem[kk]], rem.eraseIdx kk, upd_same, by rw [upd_ne hDR.symm, upd_same], perm_pop hpm (List.getElem?_eq_getElem hkl), by rw [List.length_append, hal]; rfl⟩
      · intro b o h1 h2 h3 h4 h
        rw [upd_ne h4, upd_ne h3]
        exact e3 b o h1 h2 (hkeep b o h1 h2 h3 h4 h)
      · obtain ⟨n, cells, l, m, t, k1, k2, k3⟩ := hs3
        exact ⟨n, cells, l, m, t, by rw [upd_ne hDd.symm, upd_ne hRd.symm]; exact k1, by rw [upd_ne hDc.symm, upd_ne hRc.symm]; exact k2, k3⟩
end
end Cn
namespace Cn
open PySem PySem.Spec PyProof.Rows L2
open Evl (Ex)
/-- the bases that may be drawn -/
inductive Drawn (p : Int) (n : Nat) : List (List Int) → Prop
  | units : Drawn p n (unitsL n)
  | sca {rows : List (List Int)} (k : Nat) (t : Int) : Drawn p n rows → 1 ≤ t → t < p → Drawn p n (rows.set k (scaR p t (rows.getD k [])))
  | plus {rows : List (List Int)} (k j : Nat) (t : Int) : Drawn p n rows → k ≠ j → k < n → j < n → 0 ≤ t → t < p → Drawn p n (rows.set k (plusR p (rows.getD k []) t (rows.getD j [])))
  | perm {rows rows' : List (List Int)} : Drawn p n rows → rows'.Perm rows → Drawn p n rows'
theorem plus_zero {p : Int} {n : Nat} {r s : List Int} (hr : IsRow p n r) : plusR p r 0 s = r := by
  refine list_ext (mk_len _ _) fun i => ?_
  unfold plusR
  rw [mk_get]
  by_cases h : i < r.length
  · rw [if_pos h, Int.zero_mul, Int.add_zero, same_mod (hr.lo i) (hr.hi i)]
  · rw [if_neg h, get_out (by omega)]
theorem isrow_plus {p : Int} {n : Nat} {r s : List Int} {t : Int} (hp : 0 < p) (h : r.length = n) : IsRow p n (plusR p r t s) := by
  subst h
  exact isrow_mk hp _ _
theorem Drawn.rows {p : Int} {n : Nat} (hp : GoodP p) {rows : List (List Int)} (h : Drawn p n rows) : rows.length = n ∧ ∀ r ∈ rows, IsRow p n r := by
  induction h with
  | units => exact ⟨units_len n, (units_red hp.two n).row⟩
  | @sca rows k t _ _ _ ih =>
    refine ⟨by rw [List.length_set]; exact ih.1, fun r m => ?_⟩
    rcases List.mem_or_eq_of_mem_set m with m | rfl
    · exact ih.2 r m
    · by_cases hk : k < rows.length
      · refine isrow_sca hp.pos t (ih.2 _ ?_).len
        rw [List.getD_eq_getElem?_getD, List.getElem?_eq_getElem hk]
        exact List.getElem_mem hk
      · rw [List.set_eq_of_length_le (by omega)] at m
        exact ih.2 _ m
  | @plus rows k j t _ _ hk _ _ _ ih =>
    refine ⟨by rw [List.length_set]; exact ih.1, fun r m => ?_⟩
    rcases List.mem_or_eq_of_mem_set m with m | rfl
    · exact ih.2 r m
    · have hk' : k < rows.length := by omega
      refine isrow_plus hp.pos (ih.2 _ ?_).len
      rw [List.getD_eq_getElem?_getD, List.getElem?_eq_getElem hk']
      exact List.getElem_mem hk'
  | perm _ hp' ih => exact ⟨by rw [hp'.length_eq]; exact ih.1, fun r m => ih.2 r (hp'.mem_iff.mp m)⟩
abbrev grdD (p n : Int) (g : V) : List (Key × V) := [(.inr "p", .int p), (.inr "n", .int n), (.inr "made", g)]
theorem gv_p (p n : Int) (g : V) : valV (grdD p n g) (.inr "p") = some (.int p) := rfl
theorem gv_n (p n : Int) (g : V) : valV (grdD p n g) (.inr "n") = some (.int n) := rfl
theorem gv_made (p n : Int) (g : V) : valV (grdD p n g) (.inr "made") = some g := rfl
theorem gd_at {H : Hp} {d : Addr} {p n : Int} {g : V} {k : Str} {v : V} (h : H d = some (.dK (grdD p n g))) (hv : valV (grdD p n g) (.inr k) = some v) : DGet H d (.str k) (some v) := by
  rw [← hv]
  exact DGet.k (k := .inr k) h
section
variable {P : Program} {w : World} {K : PySem.W.Frag} {mg : Str → Option Value} {base : Heap}
theorem set_same {rows : List (List Int)} {k : Nat} (h : k < rows.length) : rows.set k (rows.getD k []) = rows := by
  rw [List.getD_eq_getElem?_getD, List.getElem?_eq_getElem h]
  exact List.set_getElem_self h
/-- a list rearranged: its data are too -/
theorem dps_permR {H : Hp} {rows : List (List Int)} {ys ys2 : List V} (h : DpAll K H ys (rows.map rowD)) (hp : ys2.Perm ys) : ∃ rows2 : List (List Int), rows2.Perm rows ∧ DpAll K H ys2 (rows2.map rowD) := by
  induction hp generalizing rows with
  | nil =>
    have := dps_mapl h
    exact ⟨rows, List.Perm.refl _, h⟩
  | @cons x l1 l2 _ ih =>
    cases rows with
    | nil => cases h
    | cons r rows =>
      have h' : DpAll K H (x :: l2) (rowD r :: rows.map rowD) := h
      cases h' with
      | cons h1 h2 =>
        obtain ⟨rows2, hp2, hd2⟩ := ih h2
        exact ⟨r :: rows2, hp2.cons r, .cons h1 hd2⟩
  | swap x y l =>
    match rows, h with
    | [], h => cases h
    | [r], h =>
      have h' : DpAll K H _ [rowD r] := h
      cases h' with
      | cons _ h2 => cases h2
    | r :: r' :: rows, h =>
      have h' : DpAll K H _ (rowD r :: rowD r' :: rows.map rowD) := h
      cases h' with
      | cons h1 h2 =>
        cases h2 with
        | cons h3 h4 => exact ⟨r' :: r :: rows, List.Perm.swap _ _ _, .cons h3 (.cons h1 h4)⟩
  | trans _ _ ih1 ih2 =>
    obtain ⟨rows2, hp2, hd2⟩ := ih2 h
    obtain ⟨rows3, hp3, hd3⟩ := ih1 hd2
    exact ⟨rows3, hp3.trans hp2, hd3⟩
theorem ExS.ext {d c : Addr} {H H' : Hp} (e : ExS d c H H') (h : Src d c H) : ExT K H H' := by
  obtain ⟨l, m, t, ys, hd, hc⟩ := h.at
  intro b xs hb
  rcases hb with (hb | ⟨o, hb⟩) | hb
  · exact .inl (.inl (e b _ (fun z => by rw [z, hd] at hb; cases hb) (fun z => by rw [z, hc] at hb; cases hb) hb))
  · exact .inl (.inr ⟨o, e b _ (fun z => by rw [z, hd] at hb; cases hb) (fun z => by rw [z, hc] at hb; cases hb) hb⟩)
  · exact .inr hb
/-- where a base is being drawn -/
structure BaseSt (K : PySem.W.Frag) (H : Hp) (d c : Addr) (p : Int) (n : Nat) (H' : Hp) (D : Addr) (rows : List (List Int)) (ys : List V) : Prop where
  ex : ExS d c H H'
  src : Src d c H'
  nd : D ≠ d
  nc : D ≠ c
  new : H D = none
  at_ : H' D = some (.lst ys)
  dp : DpAll K H' ys (rows.map rowD)
  dr : Drawn p n rows
theorem BaseSt.step {H H' H'' : Hp} {d c D : Addr} {p : Int} {n : Nat} {rows : List (List Int)} {ys : List V} (b : BaseSt K H d c p n H' D rows ys) (e : ExS d c H' H'') (hs : Src d c H'') : BaseSt K H d c p n H'' D rows ys :=
  ⟨b.ex.trans e, hs, b.nd, b.nc, b.new, e D _ b.nd b.nc b.at_, dps_monoT (e.ext b.src) _ _ (flat_map flat_row) b.dp, b.dr⟩
theorem BaseSt.ex' {H H' H'' : Hp} {d c D : Addr} {p : Int} {n : Nat} {rows : List (List Int)} {ys : List V} (b : BaseSt K H d c p n H' D rows ys) (e : Ex H' H'') : BaseSt K H d c p n H'' D rows ys := b.step (.of e) (b.src.ex e)
theorem BaseSt.put {H H' : Hp} {d c D : Addr} {p : Int} {n k : Nat} {rows : List (List Int)} {ys : List V} {u : V} {r : List Int} (b : BaseSt K H d c p n H' D rows ys) (hu : Dp K H' u (rowD r)) (hd : Drawn p n (rows.set k r)) : BaseSt K H d c p n (upd H' D (.lst (ys.set k u))) D (rows.set k r) (ys.set k u) := by
  obtain ⟨m, cells, l, mi, t, h1, h2, h3⟩ := b.src
  have et : ExT K H' (upd H' D (.lst (ys.set k u))) := ExT.mut b.at_
  refine ⟨fun x o hx1 hx2 h => ?_, ⟨m, cells, l, mi, t, by rw [upd_ne b.nd.symm]; exact h1, by rw [upd_ne b.nc.symm]; exact h2, h3⟩, b.nd, b.nc, b.new, upd_same, ?_, hd⟩
  · rw [upd_ne (fun z => by rw [z, b.new] at h; cases h)]
    exact b.ex x o hx1 hx2 h
  · rw [List.map_set]
    exact dps_set k (dps_monoT et _ _ (flat_map flat_row) b.dp) (dp_monoT et _ _ (flat_row r) hu)
theorem BaseSt.row {H H' : Hp} {d c D : Addr} {p : Int} {n k : Nat} {rows : List (List Int)} {ys : List V} (hp : GoodP p) (b : BaseSt K H d c p n H' D rows ys) (hk : k < n) : ∃ v, ys[k]? = some v ∧ Dp K H' v (rowD (rows.getD k [])) ∧ IsRow p n (rows.getD k []) := by
  obtain ⟨h1, h2⟩ := b.dr.rows hp
  have hk' : k < rows.length := by omega
  have e : rows[k]? = some (rows.getD k []) := by
    rw [List.getD_eq_getElem?_getD, List.getElem?_eq_getElem hk']
    rfl
  obtain ⟨v, h3, h4⟩ := dps_at (i := k) (d := rowD (rows.getD k [])) b.dp (by rw [List.getElem?_map, e]; rfl)
  exact ⟨v, h3, h4, h2 _ (List.mem_of_getElem? e)⟩
theorem BaseSt.len {H H' : Hp} {d c D : Addr} {p : Int} {n : Nat} {rows : List (List Int)} {ys : List V} (hp : GoodP p) (b : BaseSt K H d c p n H' D rows ys) : ys.length = n := by rw [dps_mapl b.dp, (b.dr.rows hp).1]
theorem ix_nat {n k : Nat} (h : k < n) : ixN n ((k : Nat) : Int) = some k := by
  unfold ixN
  rw [if_pos (by omega), Int.toNat_natCast, if_pos (by omega)]
def spBase (K : PySem.W.Frag) : Sp := fun vs H Q _ => ∃ d c gd g p, ∃ n : Nat, vs = [.ref d, .ref gd] ∧ Src d c H ∧ gd ≠ d ∧ H gd = some (.dK (grdD p n g)) ∧ GoodP p ∧ n ≤ 100 ∧
  ∀ D ys rows H', H D = none → ExS d c H H' → Src d c H' → H' D = some (.lst ys) → DpAll K H' ys (rows.map rowD) → Drawn p n rows → Q (.ref D) H'
theorem sc_base : FnScope ["_law_source_here", "_law_ground", "_law_p", "_law_rows", "_law_lap", "_law_k", "_law_place"] ["_law_source_here", "_law_ground"] (defScope s_law_base) := ⟨rfl, rfl, rfl, by decide +kernel, rfl, by decide +kernel, by decide +kernel⟩
theorem cal_base (E : En K mg) : Cal P w K mg base 3 "_law_base" ["_law_source_here", "_law_ground"] (spBase K) := by
  obtain ⟨fd, F, g⟩ := E.c_law_base
  refine ⟨⟨fd, ?_, F.binds fun _ _ _ _ _ _ us hl => match us, hl with | [_, _], _ => rfl⟩, g, F.kp⟩
  refine F.ok sc_base (fun vs H Q E h => ?_) (fun cdv A outer s H vs Q E' hr h => ?_)
  · obtain ⟨d, c, gd, g, p, n, rfl, _⟩ := h
    rfl
  · obtain ⟨d, c, gd, g, p, n, rfl, hs, hgd, hG, hp, n100, q⟩ := h
    have hu := hr.units
    have hu1 : (A.deeper (envOfC "_law_base" (defScope s_law_base) s.heap.objs.size (He.ga K "_law_base") cdv)).units + 1 < cLine := by omega
    refine ⟨_, pss_cons (ps_par (i := 2) (j := 3) rfl sc_base.nd rfl rfl (by decide) rfl rfl (pa_cons (pe_dget hu1 (pv 1) pe_str (fun _ _ => rfl)) (pa_cons (pe_cal (cal_lunits (P := P) (w := w) (base := base) E) (hr.mono (by decide)) (pa_cons (pe_dget hu1 (pv 1) pe_str (fun _ _ => rfl)) pa_nil)) pa_nil)) rfl)
      (pss_cons (ps_for PassesOwn.never rfl (pi_range1 (by rfl) E.n_range (pa_cons pe_int pa_nil)) (pg_name (i := 4) sc_base.nd rfl (.inl rfl))
        (pss_cons (ps_for PassesOwn.never rfl (pi_range1 (by rfl) E.n_range (pa_cons (pe_callB (cb_len K) (by rfl) E.n_len (by decide +kernel) (pa_cons (pv 3) pa_nil)) pa_nil)) (pg_name (i := 5) sc_base.nd rfl (.inl rfl))
          (pss_cons (ps_asg (pe_cal (cal_plus (P := P) (w := w) (base := base) E) (hr.mono (by decide)) (pa_cons (pv 2) (pa_cons (pe_op (op_rep0 K) (pe_tup (pa_cons pe_int pa_nil)) (pe_callB (cb_len K) (by rfl) E.n_len (by decide +kernel) (pa_cons (pv 3) pa_nil)))
              (pa_cons (pe_op op_add pe_int (pe_cal (cal_pick (P := P) (w := w) (base := base) E) (hr.mono (by decide)) (pa_cons (pv 0) (pa_cons (pe_op op_sub (pv 2) pe_int) pa_nil)))) (pa_cons (pe_ix (ixl K) (pv 3) (pv 5) (fun _ _ => rfl)) pa_nil))))) (pg_sub (pv 3) (pv 5) set_list))
          (pss_one (ps_for PassesOwn.never rfl (pi_range1 (by rfl) E.n_range (pa_cons (pe_callB (cb_len K) (by rfl) E.n_len (by decide +kernel) (pa_cons (pv 3) pa_nil)) pa_nil)) (pg_name (i := 6) sc_base.nd rfl (.inl rfl))
            (pss_one (ps_asg (pe_cal (cal_plus (P := P) (w := w) (base := base) E) (hr.mono (by decide)) (pa_cons (pv 2) (pa_cons (pe_ix (ixl K) (pv 3) (pv 5) (fun _ _ => rfl))
              (pa_cons (pe_op op_mul (pe_cal (cal_pick (P := P) (w := w) (base := base) E) (hr.mono (by decide)) (pa_cons (pv 0) (pa_cons (pv 2) pa_nil))) (pe_callTy call_int1 (by rfl) E.n_int (by decide +kernel) (pa_cons (pe_cmpR op_ne (pv 6) (pv 5) (nomark _)) pa_nil))) (pa_cons (pe_ix (ixl K) (pv 3) (pv 6) (fun _ _ => rfl)) pa_nil))))) (pg_sub (pv 3) (pv 5) set_list)))))))
        (pss_one (ps_set (i := 3) sc_base.nd rfl (.inl rfl) (pe_cal (cal_mixed (P := P) (w := w) (base := base) E) (hr.mono (by decide)) (pa_cons (pv 0) (pa_cons (pv 3) pa_nil)))))))
      (pss_one (ps_ret (pv 3)))), ?_⟩
    have p2 := hp.two
    have p13 := hp.most
    have p0 := hp.pos
    refine ⟨_, rfl, gd, _, rfl, gd_at hG (gv_p _ _ _), _, rfl, gd, _, rfl, gd_at hG (gv_n _ _ _), n, rfl, n100, fun D0 ys0 H1 hD0 e1 hy0 hd0 => ⟨_, _, rfl, ?_⟩⟩
    obtain ⟨l0, m0, t0, cy0, hsd, hsc⟩ := hs.at
    have b0 : BaseSt K H d c p n H1 D0 (unitsL n) ys0 := ⟨.of e1, hs.ex e1, (ne_of_none hsd hD0).symm, (ne_of_none hsc hD0).symm, hD0, hy0, hd0, .units⟩
    refine ⟨2, rfl, by decide, by decide, ?_⟩
    refine for_range (n := 2) (fun i σ H' => ∃ D rows ys x4 x5 x6, σ = [some (.ref d), some (.ref gd), some (.int p), some (.ref D), x4, x5, x6] ∧ BaseSt K H d c p n H' D rows ys) ⟨D0, _, ys0, none, none, none, rfl, b0⟩ ?_ ?_
    · rintro lap σ H2 hlap ⟨D, rows, ys, x4, x5, x6, rfl, b⟩
      refine ⟨_, rfl, D, ys, rfl, .inl (.inl (.inl b.at_)), ((n : Nat) : Int), by rw [b.len hp], by omega, by omega, ?_⟩
      rw [Int.toNat_natCast]
      refine for_range (n := n) (fun k σ H' => ∃ rows ys x4 x5 x6, σ = [some (.ref d), some (.ref gd), some (.int p), some (.ref D), x4, x5, x6] ∧ BaseSt K H d c p n H' D rows ys) ⟨rows, ys, _, _, _, rfl, b⟩ ?_ ?_
      · rintro k σ H3 hk ⟨rows, ys, x4, x5, x6, rfl, b⟩
        rw [show (0 + (k : Int)) = ((k : Nat) : Int) by omega]
        refine ⟨_, rfl, by show 1 ≤ sizeLine; decide, fun T hT => ⟨_, rfl, D, ys, rfl, .inl (.inl (.inl ((Ex.new hT) _ _ b.at_))), T, n, [.int 0], rfl, by rw [b.len hp], .inl (.inl upd_same), by simp, by omega, by omega, by decide, ?_⟩⟩
        refine ⟨fun h1 => ?_, fun Z hZ0 => ?_⟩
        · have hn1 : n = 1 := by omega
          have e4 : Ex H3 (upd H3 T (.tup [.int 0])) := Ex.new hT
          have hZ : Dp K (upd H3 T (.tup [.int 0])) (.ref T) (rowD (zeroR n)) := by
            rw [hn1]
            exact row_dp (.inl (.inl upd_same))
          refine ⟨_, rfl, _, rfl, _, _, rfl, rfl, d, c, p - 1, rfl, (b.ex' e4).src, by omega, fun t H5 ht e5 hs5 => ?_⟩
          have b5 := (b.ex' e4).step e5 hs5
          obtain ⟨v, hv, hdv, hrv⟩ := b5.row hp hk
          have hZ5 := dp_monoT (e5.ext (b.ex' e4).src) _ _ (flat_row _) hZ
          refine ⟨_, _, rfl, rfl, _, rfl, _, rfl, D, ys, _, v, rfl, rfl, .inl (.inl b5.at_), atI_nat hv, _, v, p, _, zeroR n, _, rfl, p0, by omega, by omega, hZ5, hdv, by rw [zero_len, hrv.len], by rw [zero_len]; exact n100, fun u H6 e6 hu => ?_⟩
          rw [plus_sca hrv.len] at hu
          have b6 := b5.ex' e6
          refine ⟨_, rfl, _, rfl, D, ys, _, k, rfl, rfl, b6.at_, by rw [b6.len hp]; exact ix_nat hk, ?_⟩
          have b7 := b6.put hu (Drawn.sca k (1 + (t : Int)) b6.dr (by omega) (by omega))
          refine ⟨_, rfl, D, _, rfl, .inl (.inl (.inl b7.at_)), ((n : Nat) : Int), by rw [b7.len hp], by omega, by omega, ?_⟩
          rw [Int.toNat_natCast]
          refine for_range (n := n) (fun j σ H' => ∃ rows ys x6, σ = [some (.ref d), some (.ref gd), some (.int p), some (.ref D), x4, some (.int (k : Nat)), x6] ∧ BaseSt K H d c p n H' D rows ys) ⟨_, _, _, rfl, b7⟩ ?_ ?_
          · rintro j σ H8 hj ⟨rows, ys, x6, rfl, b8⟩
            rw [show (0 + (j : Int)) = ((j : Nat) : Int) by omega]
            obtain ⟨v8, hv8, hdv8, hrv8⟩ := b8.row hp hk
            refine ⟨_, rfl, _, rfl, _, rfl, D, ys, _, v8, rfl, rfl, .inl (.inl b8.at_), atI_nat hv8, _, rfl, _, rfl, d, c, p, rfl, b8.src, by omega, fun t9 H9 ht9 e9 hs9 => ?_⟩
            have b9 := b8.step e9 hs9
            obtain ⟨w9, hw9, hdw9, hrw9⟩ := b9.row hp hj
            have hdv9 := dp_monoT (e9.ext b8.src) _ _ (flat_row _) hdv8
            refine ⟨_, rfl, _, rfl, rfl, .inr ⟨_, rfl, _, _, rfl, rfl, .inl ⟨by omega, by omega⟩, _, rfl, _, rfl, D, ys, _, w9, rfl, rfl, .inl (.inl b9.at_), atI_nat hw9, ?_⟩⟩
            by_cases hjk : j = k
            · subst hjk
              have ez : (if (!decide (V.int ((j : Nat) : Int) = V.int ((j : Nat) : Int))) = true then (1 : Int) else 0) = 0 := by simp
              refine ⟨v8, w9, p, 0, rows.getD j [], rows.getD j [], by show [V.int p, v8, V.int (((t9 : Nat) : Int) * (if (!decide (V.int ((j : Nat) : Int) = V.int ((j : Nat) : Int))) = true then (1 : Int) else 0)), w9] = _; rw [ez, Int.mul_zero], p0, by omega, by omega, hdv9, hdw9, hrv8.len.trans hrw9.len.symm, by rw [hrv8.len]; exact n100, fun u2 H10 e10 hu2 => ?_⟩
              have b10 := b9.ex' e10
              rw [plus_zero hrv8] at hu2
              refine ⟨_, rfl, _, rfl, D, ys, _, j, rfl, rfl, b10.at_, by rw [b10.len hp]; exact ix_nat hj, ?_⟩
              have es : rows.set j (rows.getD j []) = rows := set_same (by rw [(b10.dr.rows hp).1]; exact hj)
              exact ⟨_, _, _, rfl, b10.put hu2 (by rw [es]; exact b10.dr)⟩
            · have ez : (if (!decide (V.int ((j : Nat) : Int) = V.int ((k : Nat) : Int))) = true then (1 : Int) else 0) = 1 := by
                rw [decide_eq_false (fun z => hjk (by have := V.int.inj z; omega))]
                rfl
              refine ⟨v8, w9, p, t9, rows.getD k [], rows.getD j [], by show [V.int p, v8, V.int (((t9 : Nat) : Int) * (if (!decide (V.int ((j : Nat) : Int) = V.int ((k : Nat) : Int))) = true then (1 : Int) else 0)), w9] = _; rw [ez, Int.mul_one], p0, by omega, by omega, hdv9, hdw9, hrv8.len.trans hrw9.len.symm, by rw [hrv8.len]; exact n100, fun u2 H10 e10 hu2 => ?_⟩
              have b10 := b9.ex' e10
              refine ⟨_, rfl, _, rfl, D, ys, _, k, rfl, rfl, b10.at_, by rw [b10.len hp]; exact ix_nat hk, ?_⟩
              exact ⟨_, _, _, rfl, b10.put hu2 (Drawn.plus k j t9 b10.dr (fun z => hjk z.symm) hk hj (by omega) (by omega))⟩
          · rintro σ H8 ⟨rows, ys, x6, rfl, b8⟩
            exact ⟨rows, ys, _, _, _, rfl, b8⟩
        · have e4 : Ex H3 (upd (upd H3 T (.tup [.int 0])) Z (.tup (List.replicate (n : Int).toNat [V.int 0]).flatten)) := (Ex.new hT).trans (Ex.new hZ0)
          have hZ : Dp K (upd (upd H3 T (.tup [.int 0])) Z (.tup (List.replicate (n : Int).toNat [V.int 0]).flatten)) (.ref Z) (rowD (zeroR n)) := by
            refine row_dp (.inl (.inl ?_))
            rw [upd_same, Int.toNat_natCast, zero_rep]
          refine ⟨_, rfl, _, rfl, _, _, rfl, rfl, d, c, p - 1, rfl, (b.ex' e4).src, by omega, fun t H5 ht e5 hs5 => ?_⟩
          have b5 := (b.ex' e4).step e5 hs5
          obtain ⟨v, hv, hdv, hrv⟩ := b5.row hp hk
          have hZ5 := dp_monoT (e5.ext (b.ex' e4).src) _ _ (flat_row _) hZ
          refine ⟨_, _, rfl, rfl, _, rfl, _, rfl, D, ys, _, v, rfl, rfl, .inl (.inl b5.at_), atI_nat hv, _, v, p, _, zeroR n, _, rfl, p0, by omega, by omega, hZ5, hdv, by rw [zero_len, hrv.len], by rw [zero_len]; exact n100, fun u H6 e6 hu => ?_⟩
          rw [plus_sca hrv.len] at hu
          have b6 := b5.ex' e6
          refine ⟨_, rfl, _, rfl, D, ys, _, k, rfl, rfl, b6.at_, by rw [b6.len hp]; exact ix_nat hk, ?_⟩
          have b7 := b6.put hu (Drawn.sca k (1 + (t : Int)) b6.dr (by omega) (by omega))
          refine ⟨_, rfl, D, _, rfl, .inl (.inl (.inl b7.at_)), ((n : Nat) : Int), by rw [b7.len hp], by omega, by omega, ?_⟩
          rw [Int.toNat_natCast]
          refine for_range (n := n) (fun j σ H' => ∃ rows ys x6, σ = [some (.ref d), some (.ref gd), some (.int p), some (.ref D), x4, some (.int (k : Nat)), x6] ∧ BaseSt K H d c p n H' D rows ys) ⟨_, _, _, rfl, b7⟩ ?_ ?_
          · rintro j σ H8 hj ⟨rows, ys, x6, rfl, b8⟩
            rw [show (0 + (j : Int)) = ((j : Nat) : Int) by omega]
            obtain ⟨v8, hv8, hdv8, hrv8⟩ := b8.row hp hk
            refine ⟨_, rfl, _, rfl, _, rfl, D, ys, _, v8, rfl, rfl, .inl (.inl b8.at_), atI_nat hv8, _, rfl, _, rfl, d, c, p, rfl, b8.src, by omega, fun t9 H9 ht9 e9 hs9 => ?_⟩
            have b9 := b8.step e9 hs9
            obtain ⟨w9, hw9, hdw9, hrw9⟩ := b9.row hp hj
            have hdv9 := dp_monoT (e9.ext b8.src) _ _ (flat_row _) hdv8
            refine ⟨_, rfl, _, rfl, rfl, .inr ⟨_, rfl, _, _, rfl, rfl, .inl ⟨by omega, by omega⟩, _, rfl, _, rfl, D, ys, _, w9, rfl, rfl, .inl (.inl b9.at_), atI_nat hw9, ?_⟩⟩
            by_cases hjk : j = k
            · subst hjk
              have ez : (if (!decide (V.int ((j : Nat) : Int) = V.int ((j : Nat) : Int))) = true then (1 : Int) else 0) = 0 := by simp
              refine ⟨v8, w9, p, 0, rows.getD j [], rows.getD j [], by show [V.int p, v8, V.int (((t9 : Nat) : Int) * (if (!decide (V.int ((j : Nat) : Int) = V.int ((j : Nat) : Int))) = true then (1 : Int) else 0)), w9] = _; rw [ez, Int.mul_zero], p0, by omega, by omega, hdv9, hdw9, hrv8.len.trans hrw9.len.symm, by rw [hrv8.len]; exact n100, fun u2 H10 e10 hu2 => ?_⟩
              have b10 := b9.ex' e10
              rw [plus_zero hrv8] at hu2
              refine ⟨_, rfl, _, rfl, D, ys, _, j, rfl, rfl, b10.at_, by rw [b10.len hp]; exact ix_nat hj, ?_⟩
              have es : rows.set j (rows.getD j []) = rows := set_same (by rw [(b10.dr.rows hp).1]; exact hj)
              exact ⟨_, _, _, rfl, b10.put hu2 (by rw [es]; exact b10.dr)⟩
            · have ez : (if (!decide (V.int ((j : Nat) : Int) = V.int ((k : Nat) : Int))) = true then (1 : Int) else 0) = 1 := by
                rw [decide_eq_false (fun z => hjk (by have := V.int.inj z; omega))]
                rfl
              refine ⟨v8, w9, p, t9, rows.getD k [], rows.getD j [], by show [V.int p, v8, V.int (((t9 : Nat) : Int) * (if (!decide (V.int ((j : Nat) : Int) = V.int ((k : Nat) : Int))) = true then (1 : Int) else 0)), w9] = _; rw [ez, Int.mul_one], p0, by omega, by omega, hdv9, hdw9, hrv8.len.trans hrw9.len.symm, by rw [hrv8.len]; exact n100, fun u2 H10 e10 hu2 => ?_⟩
              have b10 := b9.ex' e10
              refine ⟨_, rfl, _, rfl, D, ys, _, k, rfl, rfl, b10.at_, by rw [b10.len hp]; exact ix_nat hk, ?_⟩
              exact ⟨_, _, _, rfl, b10.put hu2 (Drawn.plus k j t9 b10.dr (fun z => hjk z.symm) hk hj (by omega) (by omega))⟩
          · rintro σ H8 ⟨rows, ys, x6, rfl, b8⟩
            exact ⟨rows, ys, _, _, _, rfl, b8⟩
      · rintro σ H3 ⟨rows, ys, x4, x5, x6, rfl, b⟩
        refine ⟨_, rfl, _, rfl, d, c, D, ys, rfl, b.src, .inl (.inl b.at_), by rw [b.len hp]; omega, fun D2 ys2 H4 hD2 hpm e4 hs4 hy4 => ?_⟩
        obtain ⟨rows2, hp2, hd2⟩ := dps_permR b.dp hpm
        obtain ⟨l4, m4, t4, cy4, hd4, hc4⟩ := b.src.at
        have hn2 : H D2 = none := by
          cases hh : H D2 with
          | none => rfl
          | some o =>
            have := b.ex D2 o (fun z => by rw [z, hd4] at hD2; cases hD2) (fun z => by rw [z, hc4] at hD2; cases hD2) hh
            rw [hD2] at this
            cases this
        exact ⟨D2, rows2, ys2, _, _, _, rfl, b.ex.trans e4, hs4, (ne_of_none hd4 hD2).symm, (ne_of_none hc4 hD2).symm, hn2, hy4, dps_monoT (e4.ext b.src) _ _ (flat_map flat_row) hd2, b.dr.perm hp2⟩
    · rintro σ H2 ⟨D, rows, ys, x4, x5, x6, rfl, b⟩
      exact ⟨_, rfl, q D ys rows H2 b.new b.ex b.src b.at_ b.dp b.dr⟩
end
end Cn
namespace Cn
open PySem PySem.Spec PyProof.Rows L2
open Evl (Ex)
section
variable {P : Program} {w : World} {K : PySem.W.Frag} {mg : Str → Option Value} {base : Heap}
theorem ExS.none {d c : Addr} {H H' : Hp} {a : Addr} (e : ExS d c H H') (hs : Src d c H') (h : H' a = none) : H a = none := by
  obtain ⟨l, m, t, ys, hd, hc⟩ := hs.at
  cases hh : H a with
  | none => rfl
  | some o =>
    have := e a o (fun z => by rw [z, hd] at h; cases h) (fun z => by rw [z, hc] at h; cases h) hh
    rw [h] at this
    cases this
theorem GrAt.exS {H H' : Hp} {d c : Addr} {v : V} {p n : Int} (h : GrAt K H v p n) (e : ExS d c H H') (hs : Src d c H) : GrAt K H' v p n := by
  obtain ⟨l, m, t, ys, hd, hc⟩ := hs.at
  obtain ⟨a, dx, h1, h2⟩ := h
  exact ⟨a, dx, h1, e a _ (fun z => by rw [z, hd] at h2; cases h2) (fun z => by rw [z, hc] at h2; cases h2) h2⟩
def spAnyG (K : PySem.W.Frag) : Sp := fun vs H Q _ => ∃ d c, vs = [.ref d, .int 4] ∧ Src d c H ∧ ∀ gd g p (n : Nat) H', GoodP p → n ≤ 4 → (4 ≤ p → n ≤ 3) → H gd = none → ExS d c H H' → Src d c H' → H' gd = some (.dK (grdD p n g)) → GrAt K H' g p n → Q (.ref gd) H'
theorem sc_anyg : FnScope ["_law_source_here", "_law_most", "_law_p", "_law_n"] ["_law_source_here", "_law_most"] (defScope s_law_any_ground) := ⟨rfl, rfl, rfl, by decide +kernel, rfl, by decide +kernel, by decide +kernel⟩
theorem mem_p {v : V} {i : Nat} (h : ([.int 2, .int 2, .int 2, .int 3, .int 3, .int 5, .int 7, .int 11, .int 13] : List V)[i]? = some v) : ∃ p, v = .int p ∧ GoodP p := by
  have m := List.mem_of_getElem? h
  simp only [List.mem_cons, List.not_mem_nil, or_false] at m
  rcases m with rfl | rfl | rfl | rfl | rfl | rfl | rfl | rfl | rfl
  · exact ⟨2, rfl, 2, by decide, rfl⟩
  · exact ⟨2, rfl, 2, by decide, rfl⟩
  · exact ⟨2, rfl, 2, by decide, rfl⟩
  · exact ⟨3, rfl, 3, by decide, rfl⟩
  · exact ⟨3, rfl, 3, by decide, rfl⟩
  · exact ⟨5, rfl, 5, by decide, rfl⟩
  · exact ⟨7, rfl, 7, by decide, rfl⟩
  · exact ⟨11, rfl, 11, by decide, rfl⟩
  · exact ⟨13, rfl, 13, by decide, rfl⟩
theorem mem_n {v : V} {i : Nat} (h : ([.int 0, .int 1, .int 2, .int 2, .int 3, .int 3, .int 3, .int 4, .int 4, .int 5] : List V)[i]? = some v) : ∃ n : Nat, v = .int n ∧ n ≤ 5 := by
  have m := List.mem_of_getElem? h
  simp only [List.mem_cons, List.not_mem_nil, or_false] at m
  rcases m with rfl | rfl | rfl | rfl | rfl | rfl | rfl | rfl | rfl | rfl
  · exact ⟨0, rfl, by decide⟩
  · exact ⟨1, rfl, by decide⟩
  · exact ⟨2, rfl, by decide⟩
  · exact ⟨2, rfl, by decide⟩
  · exact ⟨3, rfl, by decide⟩
  · exact ⟨3, rfl, by decide⟩
  · exact ⟨3, rfl, by decide⟩
  · exact ⟨4, rfl, by decide⟩
  · exact ⟨4, rfl, by decide⟩
  · exact ⟨5, rfl, by decide⟩
theorem cal_anyg (E : En K mg) : Cal P w K mg base 5 "_law_any_ground" ["_law_source_here", "_law_most"] (spAnyG K) := by
  obtain ⟨fd, F, g⟩ := E.c_law_any_ground
  refine ⟨⟨fd, ?_, F.binds fun _ _ _ _ _ _ us hl => match us, hl with | [_, _], _ => rfl⟩, g, F.kp⟩
  refine F.ok sc_anyg (fun vs H Q E h => ?_) (fun cdv A outer s H vs Q E' hr h => ?_)
  · obtain ⟨d, c, rfl, _⟩ := h
    rfl
  · obtain ⟨d, c, rfl, hs, q⟩ := h
    refine ⟨_, pss_cons (ps_set (i := 2) sc_anyg.nd rfl (.inl rfl) (pe_cal (cal_of (P := P) (w := w) (base := base) E) (hr.mono (by decide)) (pa_cons (pv 0) (pa_cons (pe_lst (pa_cons pe_int (pa_cons pe_int (pa_cons pe_int (pa_cons pe_int (pa_cons pe_int (pa_cons pe_int (pa_cons pe_int (pa_cons pe_int (pa_cons pe_int pa_nil)))))))))) pa_nil))))
      (pss_cons (ps_set (i := 3) sc_anyg.nd rfl (.inl rfl) (pe_cal (cal_of (P := P) (w := w) (base := base) E) (hr.mono (by decide)) (pa_cons (pv 0) (pa_cons (pe_lst (pa_cons pe_int (pa_cons pe_int (pa_cons pe_int (pa_cons pe_int (pa_cons pe_int (pa_cons pe_int (pa_cons pe_int (pa_cons pe_int (pa_cons pe_int (pa_cons pe_int pa_nil))))))))))) pa_nil))))
      (pss_cons (ps_set (i := 3) sc_anyg.nd rfl (.inl rfl) (pe_callB (call_min2 rfl) (by rfl) E.n_min (by decide +kernel) (pa_cons (pv 3) (pa_cons (pe_ifExp (pt_cmpR op_lt (pv 2) pe_int (nomark _)) (pv 1) pe_int) pa_nil))))
      (pss_one (ps_ret (pe_disp (pps_cons pe_str (pv 2) (pps_cons pe_str (pv 3) (pps_cons pe_str (pe_new (cal_Ground (P := P) (w := w) (base := base) E) (hr.mono (by decide)) (pa_cons (pv 2) (pa_cons (pv 3) pa_nil))) pps_nil))) rfl rfl (by simp) (by decide)))))), ?_⟩
    refine ⟨_, rfl, by show 9 ≤ sizeLine; decide, fun L1 hL1 => ?_⟩
    obtain ⟨l0, m0, t0, y0, hd0, hc0⟩ := hs.at
    refine ⟨d, c, L1, _, rfl, hs.ex (Ex.new hL1), (ne_of_none hc0 hL1).symm, upd_same, by decide, by decide, fun i v H2 hv e2 hs2 => ?_⟩
    obtain ⟨p, rfl, hp⟩ := mem_p hv
    have e02 : ExS d c H H2 := (ExS.of (Ex.new hL1)).trans e2
    refine ⟨_, rfl, by show 10 ≤ sizeLine; decide, fun L2' hL2 => ?_⟩
    obtain ⟨l2, m2, t2, y2, hd2, hc2⟩ := hs2.at
    refine ⟨d, c, L2', _, rfl, hs2.ex (Ex.new hL2), (ne_of_none hc2 hL2).symm, upd_same, by decide, by decide, fun i3 v3 H3 hv3 e3 hs3 => ?_⟩
    obtain ⟨n, rfl, hn⟩ := mem_n hv3
    have e03 : ExS d c H H3 := e02.trans ((ExS.of (Ex.new hL2)).trans e3)
    have p2 := hp.two
    refine ⟨_, rfl, _, rfl, _, _, rfl, rfl, _, rfl, ?_⟩
    have key : ∀ n2 : Nat, n2 ≤ 4 → (4 ≤ p → n2 ≤ 3) → tRet (tDisp [(tC (.str "p"), tVar 2), (tC (.str "n"), tVar 3), (tC (.str "made"), tMake (He.ga K "Ground") (spGround K) [] E0 (tCons (tVar 2) (tCons (tVar 3) tNil)))]) { nx := fun x H' => Q V.non H', rt := Q } [some (.ref d), some (.int 4), some (.int p), some (.int n2)] H3 := fun n2 h4 h3 => by
      refine fun D hD => ⟨_, rfl, _, rfl, _, rfl, _, rfl, fun x dx hx hdx hne => ?_⟩
      have e4 : Ex H3 (upd H3 D (.dK [])) := Ex.new hD
      refine ⟨x, dx, _, p, n2, rfl, hx, hdx, hne, rfl, hp, fun H5 e5 hg5 => ⟨rfl, e5 _ _ upd_same, grdD p n2 (.ref x), rfl, by show 3 ≤ 15; decide, ?_⟩⟩
      have e35 : Ex H3 (upd H5 D (.dK (mergeK [] (grdD p n2 (.ref x))))) := Evl.Ex.mut (e4.trans e5) hD
      have hD0 : H D = none := e03.none hs3 hD
      refine q D (.ref x) p n2 _ hp h4 h3 hD0 (e03.trans (ExS.of e35)) (hs3.ex e35) ?_ ?_
      · rw [upd_same]
        rfl
      · obtain ⟨a, dx', ea, hga⟩ := hg5
        refine ⟨a, dx', ea, ?_⟩
        rw [upd_ne (fun z => by rw [z, e5 _ _ upd_same] at hga; cases hga)]
        exact hga
    by_cases hp4 : p < 4
    · rw [decide_eq_true hp4]
      refine iteT ⟨_, rfl, n, 4, rfl, ?_⟩
      by_cases h : (4 : Int) < n
      · rw [if_pos h]
        exact key 4 (by decide) (by omega)
      · rw [if_neg h]
        exact key n (by omega) (by omega)
    · rw [decide_eq_false hp4]
      refine iteF ⟨n, 3, rfl, ?_⟩
      by_cases h : (3 : Int) < n
      · rw [if_pos h]
        exact key 3 (by decide) (by omega)
      · rw [if_neg h]
        exact key n (by omega) (by omega)
end
end Cn
namespace Cn
open PySem PySem.Spec PyProof.Rows L2
open Evl (Ex)
section
variable {P : Program} {w : World} {K : PySem.W.Frag} {mg : Str → Option Value} {base : Heap}
def spGreatG (K : PySem.W.Frag) : Sp := fun vs H Q _ => ∃ d c, vs = [.ref d] ∧ Src d c H ∧ ∀ gd g p H', GoodP p → H gd = none → ExS d c H H' → Src d c H' → H' gd = some (.dK (grdD p 6 g)) → GrAt K H' g p 6 → Q (.ref gd) H'
theorem sc_greatg : FnScope ["_law_source_here", "_law_p"] ["_law_source_here"] (defScope s_law_great_ground) := ⟨rfl, rfl, rfl, by decide +kernel, rfl, by decide +kernel, by decide +kernel⟩
theorem mem_g {v : V} {i : Nat} (h : ([.int 7, .int 11, .int 13] : List V)[i]? = some v) : ∃ p, v = .int p ∧ GoodP p := by
  have m := List.mem_of_getElem? h
  simp only [List.mem_cons, List.not_mem_nil, or_false] at m
  rcases m with rfl | rfl | rfl
  · exact ⟨7, rfl, 7, by decide, rfl⟩
  · exact ⟨11, rfl, 11, by decide, rfl⟩
  · exact ⟨13, rfl, 13, by decide, rfl⟩
theorem cal_greatg (E : En K mg) : Cal P w K mg base 5 "_law_great_ground" ["_law_source_here"] (spGreatG K) := by
  obtain ⟨fd, F, g⟩ := E.c_law_great_ground
  refine ⟨⟨fd, ?_, F.binds fun _ _ _ _ _ _ us hl => match us, hl with | [_], _ => rfl⟩, g, F.kp⟩
  refine F.ok sc_greatg (fun vs H Q E h => ?_) (fun cdv A outer s H vs Q E' hr h => ?_)
  · obtain ⟨d, c, rfl, _⟩ := h
    rfl
  · obtain ⟨d, c, rfl, hs, q⟩ := h
    refine ⟨_, pss_cons (ps_set (i := 1) sc_greatg.nd rfl (.inl rfl) (pe_cal (cal_of (P := P) (w := w) (base := base) E) (hr.mono (by decide)) (pa_cons (pv 0) (pa_cons (pe_lst (pa_cons pe_int (pa_cons pe_int (pa_cons pe_int pa_nil)))) pa_nil))))
      (pss_one (ps_ret (pe_disp (pps_cons pe_str (pv 1) (pps_cons pe_str pe_int (pps_cons pe_str (pe_new (cal_Ground (P := P) (w := w) (base := base) E) (hr.mono (by decide)) (pa_cons (pv 1) (pa_cons pe_int pa_nil))) pps_nil))) rfl rfl (by simp) (by decide)))), ?_⟩
    refine ⟨_, rfl, by show 3 ≤ sizeLine; decide, fun L1 hL1 => ?_⟩
    obtain ⟨l0, m0, t0, y0, hd0, hc0⟩ := hs.at
    refine ⟨d, c, L1, _, rfl, hs.ex (Ex.new hL1), (ne_of_none hc0 hL1).symm, upd_same, by decide, by decide, fun i v H3 hv e2 hs3 => ?_⟩
    obtain ⟨p, rfl, hp⟩ := mem_g hv
    have e03 : ExS d c H H3 := (ExS.of (Ex.new hL1)).trans e2
    refine fun D hD => ⟨_, rfl, _, rfl, fun x dx hx hdx hne => ?_⟩
    have e4 : Ex H3 (upd H3 D (.dK [])) := Ex.new hD
    refine ⟨x, dx, _, p, 6, rfl, hx, hdx, hne, rfl, hp, fun H5 e5 hg5 => ⟨rfl, e5 _ _ upd_same, grdD p 6 (.ref x), rfl, by show 3 ≤ 15; decide, ?_⟩⟩
    have e35 : Ex H3 (upd H5 D (.dK (mergeK [] (grdD p 6 (.ref x))))) := Evl.Ex.mut (e4.trans e5) hD
    have hD0 : H D = none := e03.none hs3 hD
    refine q D (.ref x) p _ hp hD0 (e03.trans (ExS.of e35)) (hs3.ex e35) ?_ ?_
    · rw [upd_same]
      rfl
    · obtain ⟨a, dx', ea, hga⟩ := hg5
      refine ⟨a, dx', ea, ?_⟩
      rw [upd_ne (fun z => by rw [z, e5 _ _ upd_same] at hga; cases hga)]
      exact hga
/-! ### _law_drawn_codes -/
def spDrawn (K : PySem.W.Frag) : Sp := fun vs H Q _ => ∃ d c gd g p, ∃ n : Nat, vs = [.ref d, .ref gd] ∧ Src d c H ∧ gd ≠ d ∧ H gd = some (.dK (grdD p n g)) ∧ GoodP p ∧ n ≤ 100 ∧
  ∀ D ys rows H', H D = none → ExS d c H H' → Src d c H' → H' D = some (.lst ys) → Drawn p n rows → DpAll K H' ys ((codesL p rows).map codeD) → Q (.ref D) H'
theorem sc_drawn : FnScope ["_law_source_here", "_law_ground"] ["_law_source_here", "_law_ground"] (defScope s_law_drawn_codes) := ⟨rfl, rfl, rfl, by decide +kernel, rfl, by decide +kernel, by decide +kernel⟩
theorem cal_drawn (E : En K mg) : Cal P w K mg base 4 "_law_drawn_codes" ["_law_source_here", "_law_ground"] (spDrawn K) := by
  obtain ⟨fd, F, g⟩ := E.c_law_drawn_codes
  refine ⟨⟨fd, ?_, F.binds fun _ _ _ _ _ _ us hl => match us, hl with | [_, _], _ => rfl⟩, g, F.kp⟩
  refine F.ok sc_drawn (fun vs H Q E h => ?_) (fun cdv A outer s H vs Q E' hr h => ?_)
  · obtain ⟨d, c, gd, g, p, n, rfl, _⟩ := h
    rfl
  · obtain ⟨d, c, gd, g, p, n, rfl, hs, hgd, hG, hp, n100, q⟩ := h
    have hu := hr.units
    have hu1 : (A.deeper (envOfC "_law_drawn_codes" (defScope s_law_drawn_codes) s.heap.objs.size (He.ga K "_law_drawn_codes") cdv)).units + 1 < cLine := by omega
    refine ⟨_, pss_one (ps_ret (pe_cal (cal_lcodes (P := P) (w := w) (base := base) E) (hr.mono (by decide)) (pa_cons (pe_dget hu1 (pv 1) pe_str (fun _ _ => rfl)) (pa_cons (pe_cal (cal_base (P := P) (w := w) (base := base) E) (hr.mono (by decide)) (pa_cons (pv 0) (pa_cons (pv 1) pa_nil))) pa_nil)))), ?_⟩
    refine ⟨_, rfl, gd, _, rfl, gd_at hG (gv_p _ _ _), _, rfl, _, rfl, d, c, gd, g, p, n, rfl, hs, hgd, hG, hp, n100, fun D ys rows H1 hD e1 hs1 hy hd hdr => ?_⟩
    obtain ⟨r1, r2⟩ := hdr.rows hp
    refine ⟨D, ys, p, n, rows, rfl, hp, n100, .inl (.inl hy), hd, r1, r2, fun D2 ys2 H2 hD2 e2 hy2 hd2 => ?_⟩
    exact q D2 ys2 rows H2 (e1.none hs1 hD2) (e1.trans (.of e2)) (hs1.ex e2) hy2 hdr hd2
end
end Cn
namespace Cn
open PySem PySem.Spec PyProof.Rows L2
open Evl (Ex)
theorem op_catAK {X : Cx} (K : PySem.W.Frag) (hK : X.K = K := by rfl) : OpR X (binaryOp .Add) (rCatA K) := by
  subst hK
  exact op_catA
def extL (p : Nat) (s : List Int) : List (List Int) := (List.range p).map fun k => s ++ [((k : Nat) : Int)]
def partL (p m j : Nat) : List (List Int) := ((digitsL p m).take j).flatMap (extL p)
theorem part_succ {p m j : Nat} {s : List Int} (h : (digitsL p m)[j]? = some s) : partL p m (j + 1) = partL p m j ++ extL p s := by
  unfold partL
  rw [List.take_add_one, h, List.flatMap_append]
  simp
theorem part_full (p m : Nat) : partL p m (digitsL p m).length = digitsL p (m + 1) := by
  unfold partL
  rw [List.take_length]
  rfl
theorem part_len (p m j : Nat) : (partL p m j).length ≤ p ^ (m + 1) := by
  have h : ∀ l : List (List Int), (l.flatMap (extL p)).length = l.length * p := fun l => by
    induction l with
    | nil => simp
    | cons a l ih => rw [List.flatMap_cons, List.length_append, ih, extL, List.length_map, List.length_range, List.length_cons, Nat.succ_mul, Nat.add_comm]
  unfold partL
  rw [h, List.length_take, digits_len, Nat.pow_succ]
  exact Nat.mul_le_mul_right _ (Nat.min_le_right _ _)
section
variable {P : Program} {w : World} {K : PySem.W.Frag} {mg : Str → Option Value} {base : Heap}
def spDigits (K : PySem.W.Frag) : Sp := fun vs H Q _ => ∃ p m : Nat, vs = [.int p, .int m] ∧ 1 ≤ p ∧ p ≤ 100 ∧ m ≤ 100 ∧ p ^ m ≤ 10000 ∧ (∀ s ∈ digitsL p m, True) ∧ ∀ D ys H', H D = none → Ex H H' → H' D = some (.lst ys) → DpAll K H' ys ((digitsL p m).map rowD) → Q (.ref D) H'
theorem sc_digits : FnScope ["_law_p", "_law_many", "_law_found", "_law_lap", "_law_later", "_law_some", "_law_k"] ["_law_p", "_law_many"] (defScope s_law_digits) := ⟨rfl, rfl, rfl, by decide +kernel, rfl, by decide +kernel, by decide +kernel⟩
theorem digits_row (p : Nat) : ∀ m, ∀ s ∈ digitsL p m, s.length = m
  | 0, s, h => by
    rw [List.mem_singleton.mp h]
    rfl
  | m + 1, s, h => by
    obtain ⟨a, ha, hs⟩ := List.mem_flatMap.mp h
    obtain ⟨k, _, rfl⟩ := List.mem_map.mp hs
    rw [List.length_append, digits_row p m a ha]
    rfl
theorem cal_digits (E : En K mg) : Cal P w K mg base 1 "_law_digits" ["_law_p", "_law_many"] (spDigits K) := by
  obtain ⟨fd, F, g⟩ := E.c_law_digits
  refine ⟨⟨fd, ?_, F.binds fun _ _ _ _ _ _ us hl => match us, hl with | [_, _], _ => rfl⟩, g, F.kp⟩
  refine F.ok sc_digits (fun vs H Q E h => ?_) (fun cdv A outer s H vs Q E' hr h => ?_)
  · obtain ⟨p, m, rfl, _⟩ := h
    rfl
  · obtain ⟨p, m, rfl, p1, p100, m100, hpm, _, q⟩ := h
    have big : 20000 < sizeLine := by decide
    refine ⟨_, pss_cons (ps_set (i := 2) sc_digits.nd rfl (.inl rfl) (pe_lst (pa_cons (pe_tup pa_nil) pa_nil)))
      (pss_cons (ps_for PassesOwn.never rfl (pi_range1 (by rfl) E.n_range (pa_cons (pv 1) pa_nil)) (pg_name (i := 3) sc_digits.nd rfl (.inl rfl))
        (pss_cons (ps_set (i := 4) sc_digits.nd rfl (.inl rfl) (pe_lst pa_nil))
        (pss_cons (ps_for PassesOwn.never rfl (pi_seq K (pv 2)) (pg_name (i := 5) sc_digits.nd rfl (.inr rfl))
          (pss_one (ps_set (i := 4) sc_digits.nd rfl (.inl rfl) (pe_op op_cat (pv 4) (pe_lc (own := [("_law_k", 6)]) (g := gName 6) (tt := tYes) rfl sc_digits.nd (pi_range1 (by rfl) E.n_range (pa_cons (pv 0) pa_nil)) (blkOk_by (by kernel_rfl)) (fun _ _ _ _ _ => pg_name (i := 6) sc_digits.nd rfl (.inl rfl)) (fun _ _ _ _ _ => pts_nil)
            (fun _ _ _ _ _ => pe_op (op_catAK K) (pv 5) (pe_tup (pa_cons (pv 6) pa_nil)))))))
        )
        (pss_one (ps_set (i := 2) sc_digits.nd rfl (.inl rfl) (pv 4))))))
      (pss_one (ps_ret (pv 2)))), ?_⟩
    refine ⟨by show 0 ≤ sizeLine; decide, fun T hT => ⟨by show 1 ≤ sizeLine; decide, fun L hL => ?_⟩⟩
    have e0 : Ex H (upd (upd H T (.tup [])) L (.lst [.ref T])) := (Ex.new hT).trans (Ex.new hL)
    have hL0 : H L = none := ex_none (Ex.new hT) hL
    refine ⟨_, rfl, m, rfl, by omega, by omega, ?_⟩
    rw [Int.toNat_natCast]
    refine for_range (n := m) (fun i σ H' => ∃ D xs x3 x4 x5 x6, σ = [some (.int (p : Nat)), some (.int (m : Nat)), some (.ref D), x3, x4, x5, x6] ∧ Ex H H' ∧ H D = none ∧ H' D = some (.lst xs) ∧ DpAll K H' xs ((digitsL p i).map rowD)) ⟨L, [.ref T], none, none, none, none, rfl, e0, hL0, upd_same, .cons (.tup (.inl (.inl ((Ex.new hL) _ _ upd_same))) .nil) .nil⟩ ?_ ?_
    · rintro i σ H1 hi ⟨D, xs, x3, x4, x5, x6, rfl, e1, hD0, hD, hd⟩
      have hpi : p ^ (i + 1) ≤ 10000 := Nat.le_trans (Nat.pow_le_pow_right p1 (by omega)) hpm
      refine ⟨by show 0 ≤ sizeLine; decide, fun L2 hL2 => ?_⟩
      have eL : Ex H1 (upd H1 L2 (.lst [])) := Ex.new hL2
      refine ⟨_, rfl, seq_for (f := rowD) (c := digitsL p i) (Pv := fun j σ H' => ∃ D2 ys y5 y6, σ = [some (.int (p : Nat)), some (.int (m : Nat)), some (.ref D), some (.int (0 + (i : Nat))), some (.ref D2), y5, y6] ∧ Ex (upd H1 L2 (.lst [])) H' ∧ H D2 = none ∧ H' D2 = some (.lst ys) ∧ DpAll K H' ys ((partL p i j).map rowD)) ⟨D, xs, rfl, .inl (.inl (.inl (eL _ _ hD))), dps_mono eL _ _ hd⟩ ⟨L2, [], _, _, rfl, Ex.refl _, ex_none e1 hL2, upd_same, .nil⟩ ?_ ?_ ?_⟩
      · rintro j σ H' ⟨_, _, _, _, _, e, _⟩
        exact e
      · rintro j s y σ H2 hj hy ⟨D2, ys, y5, y6, rfl, e2, hD20, hD2, hd2⟩
        obtain ⟨y, rfl, ty⟩ := dp_row hy
        have ls := digits_row p i s (List.mem_of_getElem? hj)
        refine ⟨_, rfl, _, rfl, p, rfl, by omega, by omega, ?_⟩
        refine rng_lc (K := K) (lo := 0) (n := ((p : Nat) : Int).toNat) (sz100 (by omega)) (fun _ => true) (fun k => rowD (s ++ [((k : Nat) : Int)])) (fun _ => flat_row _) (gm_name 6) ?_ ?_
        · intro k H3 hk e3
          rw [show (0 + (k : Int)) = ((k : Nat) : Int) by omega]
          refine ⟨rfl, Ex.refl _, et_yes, fun _ => ?_⟩
          intro H4 e4 Q' kk
          refine ⟨_, rfl, _, rfl, by show 1 ≤ sizeLine; decide, fun U hU => ?_⟩
          have eU : Ex H4 (upd H4 U (.tup [.int (k : Nat)])) := Ex.new hU
          refine ⟨y, U, _, _, rfl, rfl, Evl.ex_t ((e3.trans e4).trans eU) ty, .inl (.inl upd_same), by rw [List.length_map, ls]; show i + 1 ≤ sizeLine; omega, fun hz => ?_, fun _ hz => absurd hz (by simp), fun _ _ Z hZ => ?_⟩
          · have hs0 : s = [] := List.map_eq_nil_iff.mp hz
            refine kk _ _ eU ?_
            rw [hs0]
            exact row_dp (.inl (.inl upd_same))
          · refine kk _ _ (eU.trans (Ex.new hZ)) (row_dp (.inl (.inl ?_)))
            rw [upd_same, List.map_append]
            rfl
        · intro D3 zs H3 hD3 e3 hz3 hd3
          rw [filter_all, Int.toNat_natCast] at hd3
          have h1 : ys.length ≤ 10000 := by rw [dps_mapl hd2]; exact Nat.le_trans (part_len p i j) hpi
          have h2 : zs.length ≤ 100 := by
            have := dps_len hd3
            rw [List.length_map, List.length_range] at this
            omega
          refine ⟨D2, D3, ys, zs, rfl, rfl, e3 _ _ hD2, hz3, by omega, fun M hM => ⟨M, ys ++ zs, _, _, rfl, (e2.trans e3).trans (Ex.new hM), ex_none ((e1.trans eL).trans (e2.trans e3)) hM, upd_same, ?_⟩⟩
          rw [part_succ hj, List.map_append]
          refine dps_app (dps_mono (e3.trans (Ex.new hM)) _ _ hd2) (dps_mono (Ex.new hM) _ _ ?_)
          unfold extL
          rw [List.map_map]
          exact hd3
      · rintro σ H2 ⟨D2, ys, y5, y6, rfl, e2, hD20, hD2, hd2⟩
        rw [part_full] at hd2
        exact ⟨_, rfl, D2, ys, _, _, _, _, rfl, (e1.trans eL).trans e2, hD20, hD2, hd2⟩
    · rintro σ H1 ⟨D, xs, x3, x4, x5, x6, rfl, e1, hD0, hD, hd⟩
      exact ⟨_, rfl, q D xs H1 hD0 e1 hD hd⟩
end
end Cn
namespace Cn
open PySem PySem.Spec PyProof.Rows L2
open Evl (Ex)
/-- what is drawn gives nests (plain; proved apart) -/
def DrawnNest : Prop := ∀ (p : Int) (n : Nat) (rows : List (List Int)), GoodP p → Drawn p n rows → NestOk p n (codesL p rows)
section
variable {P : Program} {w : World} {K : PySem.W.Frag} {mg : Str → Option Value} {base : Heap}
/-- what _law_small gives -/
structure SmallAt (K : PySem.W.Frag) (H : Hp) (L gd : Addr) (nv : V) (wl : Addr) (p : Int) (n : Nat) (rows : List (List Int)) : Prop where
  gp : GoodP p
  n4 : n ≤ 4
  n3 : 4 ≤ p → n ≤ 3
  dr : Drawn p n rows
  at_ : H L = some (.lst [.ref gd, nv, .ref wl])
  gr : ∃ g, H gd = some (.dK (grdD p n g))
  ne : NeAt K H nv p n (codesL p rows)
  wh : ∃ ws, H wl = some (.lst ws) ∧ DpAll K H ws ((wholeL n (codesL p rows)).map codeD)
def spSmall (K : PySem.W.Frag) : Sp := fun vs H Q _ => ∃ d c, vs = [.ref d] ∧ Src d c H ∧ ∀ L gd nv wl p n rows H', H L = none → H gd = none → H wl = none → ExS d c H H' → Src d c H' → SmallAt K H' L gd nv wl p n rows → Q (.ref L) H'
theorem sc_small : FnScope ["_law_source_here", "_law_ground", "_law_codes_here"] ["_law_source_here"] (defScope s_law_small) := ⟨rfl, rfl, rfl, by decide +kernel, rfl, by decide +kernel, by decide +kernel⟩
theorem codesL_len (p : Int) (rows : List (List Int)) : (codesL p rows).length = rows.length - 1 := by
  unfold codesL
  rw [List.length_map, List.length_range]
theorem cal_small (E : En K mg) (hN : DrawnNest) : Cal P w K mg base 10 "_law_small" ["_law_source_here"] (spSmall K) := by
  obtain ⟨fd, F, g⟩ := E.c_law_small
  refine ⟨⟨fd, ?_, F.binds fun _ _ _ _ _ _ us hl => match us, hl with | [_], _ => rfl⟩, g, F.kp⟩
  refine F.ok sc_small (fun vs H Q E h => ?_) (fun cdv A outer s H vs Q E' hr h => ?_)
  · obtain ⟨d, c, rfl, _⟩ := h
    rfl
  · obtain ⟨d, c, rfl, hs, q⟩ := h
    have hu := hr.units
    have hu1 : (A.deeper (envOfC "_law_small" (defScope s_law_small) s.heap.objs.size (He.ga K "_law_small") cdv)).units + 1 < cLine := by omega
    refine ⟨_, pss_cons (ps_set (i := 1) sc_small.nd rfl (.inl rfl) (pe_cal (cal_anyg (P := P) (w := w) (base := base) E) (hr.mono (by decide)) (pa_cons (pv 0) (pa_cons pe_int pa_nil))))
      (pss_cons (ps_set (i := 2) sc_small.nd rfl (.inl rfl) (pe_cal (cal_drawn (P := P) (w := w) (base := base) E) (hr.mono (by decide)) (pa_cons (pv 0) (pa_cons (pv 1) pa_nil))))
      (pss_one (ps_ret (pe_lst (pa_cons (pv 1) (pa_cons (pe_new (cal_Nest (P := P) (w := w) (base := base) E) (hr.mono (by decide)) (pa_cons (pe_dget hu1 (pv 1) pe_str (fun _ _ => rfl)) (pa_cons (pv 2) pa_nil)))
        (pa_cons (pe_cal (cal_lwhole (P := P) (w := w) (base := base) E) (hr.mono (by decide)) (pa_cons (pv 2) (pa_cons (pe_dget hu1 (pv 1) pe_str (fun _ _ => rfl)) pa_nil))) pa_nil))))))), ?_⟩
    refine ⟨_, rfl, d, c, rfl, hs, fun gd g p n H1 hp h4 h3 hgd e1 hs1 hG hg => ?_⟩
    obtain ⟨l1, m1, t1, y1, hd1, hc1⟩ := hs1.at
    have gnd : gd ≠ d := fun z => by rw [z, hd1] at hG; cases hG
    have gnc : gd ≠ c := fun z => by rw [z, hc1] at hG; cases hG
    refine ⟨_, rfl, _, rfl, d, c, gd, g, p, n, rfl, hs1, gnd, hG, hp, by omega, fun D ys rows H2 hD e2 hs2 hy hdr hdp => ?_⟩
    have hG2 := e2 gd _ gnd gnc hG
    have hg2 := hg.exS e2 hs1
    have hrl := (hdr.rows hp).1
    refine ⟨_, rfl, _, rfl, gd, _, rfl, gd_at hG2 (gv_made _ _ _), _, rfl, fun x dx hx hdx hne => ?_⟩
    refine ⟨x, dx, H2, g, .ref D, p, n, codesL p rows, rfl, hx, hdx, hne, rfl, hg2, hp, by omega, .lst (.inl (.inl hy)) hdp, hN p n rows hp hdr, fun H3 e3 hne3 => ⟨rfl, ?_⟩⟩
    have hG3 := e3 _ _ hG2
    refine ⟨_, rfl, _, rfl, gd, _, rfl, gd_at hG3 (gv_n _ _ _), D, ys, n, codesL p rows, rfl, by omega, .inl (.inl (e3 _ _ hy)), dps_mono e3 _ _ hdp, by rw [codesL_len]; omega, fun W ws H4 hW e4 hw hdw => ⟨by show 3 ≤ sizeLine; decide, fun L hL => ?_⟩⟩
    have e5 : Ex H4 (upd H4 L (.lst [.ref gd, .ref x, .ref W])) := Ex.new hL
    have e24 : Ex H2 H4 := e3.trans e4
    have e02 : ExS d c H H2 := e1.trans e2
    refine q L gd (.ref x) W p n rows _ ?_ hgd ?_ ((e02.trans (.of e24)).trans (.of e5)) ((hs2.ex e24).ex e5) ⟨hp, h4, h3, hdr, upd_same, ⟨g, e5 _ _ (e4 _ _ hG3)⟩, (hne3.mono e4).mono e5, ws, e5 _ _ hw, dps_mono e5 _ _ hdw⟩
    · exact e02.none hs2 (ex_none e24 hL)
    · exact e02.none hs2 (ex_none e3 hW)
end
end Cn
/-! deeds_at where the level is none: NoLevel. -/
namespace Cn
open PySem PySem.Spec PyProof.Rows L2
open Evl (Ex)
section
variable {P : Program} {w : World} {K : PySem.W.Frag} {mg : Str → Option Value} {base : Heap}
def BadLevel (K : PySem.W.Frag) (H : Hp) (n : Nat) (x : V) : Prop := (∃ i : Int, x = .int i ∧ ¬ (0 < i ∧ i < n)) ∨ (NumV K H x false ∧ ∀ i, x ≠ .int i)
def spNoLevel (K : PySem.W.Frag) (C : Addr) : Sp := fun vs H _ E => ∃ v x p, ∃ n : Nat, ∃ cs, vs = [v, x] ∧ NeAt K H v p n cs ∧ BadLevel K H n x ∧ ∀ d, H d = none → E (.ref C) (some d) (upd H d (.xd [(("level" : Str), x)]))
theorem okx_deeds_at (E : En K mg) {C NM fI cda cc : Addr} (T : NL.NlTxt P K mg C NM fI cda cc) : ∃ fd, FnOk P w K mg base (L2.CX P w) 4 (He.ga K "deeds_at") fd ["nest", "level"] (spNoLevel K C) ∧ Binds K fd ["nest", "level"] [] := by
  obtain ⟨fd, F, g⟩ := E.c_deeds_at
  refine ⟨fd, ?_, F.binds fun _ _ _ _ _ _ us hl => match us, hl with | [_, _], _ => rfl⟩
  refine F.okX sc_deeds_at (fun vs H Q E h => ?_) (fun cdv A outer s H vs Q E' hr h => ?_)
  · obtain ⟨v, x, p, n, cs, rfl, _⟩ := h
    rfl
  · obtain ⟨v, x, p, n, cs, rfl, hv, hb, q⟩ := h
    refine ⟨_, pss_cons (ps_if (pt_not (pt_val (pe_cal (cal_is_level (P := P) (w := w) (base := base) E) (hr.mono (by decide)) (pa_cons (pv 0) (pa_cons (pv 1) pa_nil))))) (pss_one (ps_raiseNl rfl T hr (takes_of rfl rfl rfl rfl) (by exact (pa_cons (pv 1) pa_nil)))) pss_nil)
      (pss_cons ps_never (pss_one ps_never)), ?_⟩
    refine ⟨_, rfl, _, rfl, v, x, p, n, cs, rfl, hv, ?_⟩
    rcases hb with ⟨i, rfl, hi⟩ | ⟨hx, hne⟩
    · refine .inl ⟨i, rfl, _, rfl, ?_⟩
      rw [decide_eq_false hi]
      exact iteT ⟨_, rfl, _, rfl, q⟩
    · exact .inr ⟨hx, hne, _, rfl, iteT ⟨_, rfl, _, rfl, q⟩⟩
end
end Cn
/-! _law_no_level of a lambda that raises NoLevel. -/
namespace Cn
open PySem PySem.Spec PyProof.Rows L2 LamX
open Evl (Ex)
theorem takes_len {X : Cx} {W : WX} (t : Takes X W) : Takes X (fun cls d σ H => σ.length = X.N.length → W cls d σ H) := fun u s' ⟨a, B, sI, pins, σ, H, cls, d, e, I, nb, up, sky, na, os, ag, w⟩ =>
  t u s' ⟨a, B, sI, pins, σ, H, cls, d, e, I, nb, up, sky, na, os, ag, w I.len⟩
/-- told: the field of the error that the call raises, in a list -/
def TTnl (C : Addr) : (XK → Hp → VK → Prop) → Hp → VK → Prop := fun tl H Q =>
  tl (fun cls d H' => cls = .ref C ∧ ∃ dd v, d = some dd ∧ H' dd = some (.xd [(("level" : Str), v)]) ∧ ∀ L, H' L = none → Q (.ref L) (upd H' L (.lst [v]))) H (fun _ H' => ([] : List V).length ≤ sizeLine ∧ ∀ L, H' L = none → Q (.ref L) (upd H' L (.lst [])))
theorem sc_nolevel : FnScope ["_law_call", "error"] ["_law_call"] (defScope s_law_no_level) := ⟨rfl, rfl, rfl, by decide +kernel, rfl, by decide +kernel, by decide +kernel⟩
theorem look_level (v : V) : List.lookup ("level" : Str) [(("level" : Str), v)] = some v := by simp [List.lookup]
theorem nl_gives {X : Cx} {q : Str} {g C NM fI cda cc : Addr} {cdg : Value} (T : NL.NlTxt X.prog X.K X.mg C NM fI cda cc) : GivesTo X ["_law_call", "error"] "_law_no_level" (defScope s_law_no_level) g cdg (defBody s_law_no_level) "_law_call" q (TTnl C) := by
  intro f c' s H Q tl act hc h
  have XF : XfC X.K C := ⟨T.ga, T.gg, T.exC, T.hdC⟩
  refine ⟨_, pss_cons (ps_try_as (X := (cxOf C8.CX0 X.prog X.w X.K X.mg X.base ["_law_call", "error"] "_law_no_level" (defScope s_law_no_level) g cdg X.A X.stack s H C8.E0).nox) (c := .ref C) (i := 1)
      (tb := fun W D σ H => ∃ Ech : XK, (∀ cls d σ' H', Ech cls d H' → σ'.length = 2 → W cls d σ' H') ∧ σ[0]? = some (some (.ref f)) ∧ H c' = some (CodeO c' q) ∧ tl Ech H (fun _ H' => D.nx σ H'))
      (ts := fun a cls d => tRet (tLst (tCons (tXf a cls d C "level" (tVar 1)) tNil))) (Wout := fun _ _ _ _ => False)
      rfl rfl sc_nolevel.nd rfl rfl ⟨rfl, by decide, .inl T.gC⟩ L2.takes0 (fun W pn xe tk _ => ?_) (fun a oe cls d pn hz hf => pss_one (ps_ret (pe_lst (pa_cons (pe_xf XF T.noN hz hf (pv 1)) pa_nil))))) (pss_one (ps_ret (pe_lst pa_nil))), ?_⟩
  · refine ⟨fun pins s' σ H' D I h' => ?_⟩
    obtain ⟨Ech, hW, h1, h2, h3⟩ := h'
    exact (pss_one (ps_expr (act (fun cls d σ H => σ.length = 2 → W cls d σ H) pn xe Ech _ _ (takes_len tk) hW))).run pins s' σ H' D I ⟨h1, h2, h3⟩
  · refine ⟨_, fun cls d σ' H' hE hl => ?_, rfl, hc, h⟩
    obtain ⟨rfl, dd, v, rfl, hx, hk⟩ := hE
    refine ⟨true, T.te, fun _ a ha => ?_, fun z => by cases z⟩
    match σ', hl with
    | [x0, x1], _ => exact ⟨_, rfl, rfl, rfl, dd, _, v, rfl, hx, look_level v, by show 1 ≤ sizeLine; decide, fun L hL => hk L hL⟩
end Cn
/-! list(d.values()). -/
namespace Cn
open PySem PySem.Spec PyProof.Rows L2
def tListVals (te : TE) : TE := fun σ H Q => te σ H fun x H1 => ∃ d, ∃ kvs : List (Key × V), x = .ref d ∧ H1 d = some (.dK kvs) ∧ ∀ L, H1 L = none → Q (.ref L) (upd H1 L (.lst (kvs.map (·.2))))
theorem kv_vals : ∀ {kvs : List (Key × V)} {vs : List (Key × Value)}, KV kvs vs → Vals (kvs.map (·.2)) (vs.map (·.2))
  | _, _, .nil => .nil
  | _, _, .cons h t => .cons h.2 (kv_vals t)
theorem pe_listVals {X : Cx} {e : PySem.Expr} {te : TE} {p apos cpos pos : Pos} (hc : X.calm = true) (he : PE X e te) (hg : Gl X "list") (hm : X.mg "list" = none) (hv : bootBuiltins "list" = some (.type "list")) (hbase : attributeBase e "values" X.env (eval e X.env) = eval e X.env := by rfl) (hline : (apos.endLine == cpos.line) = true := by rfl)
    (hs : starEach [.Call (.Attribute e "values" apos) [] [] cpos] X.env = (false, eval (.Call (.Attribute e "values" apos) [] [] cpos) X.env) :: starEach [] X.env := by rfl) :
    PE X (.Call (.Name "list" p) [.Call (.Attribute e "values" apos) [] [] cpos] [] pos) (tListVals te) := by
  refine ⟨fun pins s σ H Q I hq => ?_⟩
  refine wpAny_Call_Name_kw (ld_blt I hg hm hv ?_)
  refine PyProof.Rows.callWith_type1 ?_ hs rfl
  rw [hs]
  show wpAny _ _ (spliced ((false, eval (.Call (.Attribute e "values" apos) [] [] cpos) X.env) :: backTo pos (starEach [] X.env))) _ _ s
  refine Calls.spliced_cons ?_
  refine wpAny_Call_method (T := "dict") (id := "dict.values") hbase rfl hline F.plainAttrs_dict F.slot_dict_values F.type_dict_values (thn (he.run pins s σ H _ I hq) fun u s1 ⟨x, H1, I1, rx, d, kvs, ex, hd, q⟩ => ?_)
  subst ex
  obtain rfl : u = Value.ref d := rx
  obtain ⟨hz, hs0, vs, kv, hdo⟩ := I1.hok d _ hd
  obtain ⟨ep, hat⟩ := hdo.dictAt
  have lk : kvs.length = vs.length := Paired.length kv
  have I2 : Inv X pins σ H1 { s1 with heap := s1.heap.push { cls := .type "dict_values", data := .fields #[.ref d] } } := I1.kept (t' := s1.toks) fun b ob q => Heap.get?_push_of_some _ q
  refine ⟨hdo.typeIs, hdo.mapOf.noDict, ?_⟩
  show wpAny _ _ (callWith cpos (.builtin "dict.values") [.ref d] [] []) _ X.xe s1
  refine method_meetsIn F.slot_dict_values F.entry_dict_values rfl (PySem.evalArgs_none ⟨rfl, hdo.typeIs, F.args_dict_values_1 _, _, meets_dict_values (mixKind X.prog X.w) d hs0, ⟨vs, hdo⟩, ?_⟩)
  refine Calls.spliced_nil ?_
  refine PySem.W.kdl_call (PySem.W.kdl_values (knd := mixKind X.prog X.w) (kvs := vs) (ep := ep)) (I1.ok.hd hc) ⟨⟨_, Heap.get?_push_size _ rfl, rfl, rfl⟩, hat.push _⟩ (by omega) fun h' tk acc c hk hS hacc => ?_
  have hv2 : acc.toList = vs.map (·.2) := PySem.W.kdl_vals_eq acc.toList (by rw [Array.length_toList]; exact hacc.1) fun j v hj => hacc.2 j v (by rw [← Array.getElem?_toList]; exact hj)
  refine ⟨.ref _, upd H1 _ (.lst (kvs.map (·.2))), I2.laid (t' := tk) hk (Nat.le_refl _) ⟨by rw [List.length_map]; exact hz, acc.toList, c, by rw [hv2]; exact kv_vals kv, ?_⟩, rfl, q _ (I2.hok.fresh (Nat.le_refl _))⟩
  rw [Array.toArray_toList]
  exact hS
end Cn
/-! xs.count(text). -/
namespace Cn
open PySem PySem.Spec PyProof.Rows L2
def isS (z : Str) : Value → Bool
  | .str x _ => x == z
  | _ => false
def rCntS (K : PySem.W.Frag) : V → List V → Hp → VK → Prop := fun x vs H Q => ∃ p, ∃ zs : List Str, ∃ z, x = .ref p ∧ vs = [.str z] ∧ SqL K H p (zs.map V.str) ∧ Q (.int ((zs.countP fun y => y == z : Nat) : Int)) H
theorem cnt_s (z : Str) : ∀ {zs : List Str} {us : List Value}, Vals (zs.map V.str) us → us.countP (isS z) = zs.countP (fun y => y == z) ∧ ∀ u ∈ us, ∃ y t, u = .str y t
  | [], _, h => by cases h; exact ⟨rfl, fun u hu => by simp at hu⟩
  | y :: zs, _, h => by
    cases h with
    | cons r t =>
      obtain ⟨tk, rfl⟩ := r
      obtain ⟨h1, h2⟩ := cnt_s z t
      refine ⟨?_, fun u hu => (List.mem_cons.mp hu).elim (fun e => ⟨y, tk, e⟩) (h2 u)⟩
      rw [List.countP_cons, List.countP_cons, h1]
      rfl
theorem mt_scount {X : Cx} (K : PySem.W.Frag) (hK : X.K = K := by rfl) : MtR X "list.count" (rCntS K) := by
  subst hK
  intro pins s σ H x xs v us Q I rx rxs h
  obtain ⟨p, zs, z, rfl, rfl, hs, q⟩ := h
  cases rx
  obtain ⟨u, rfl, ru⟩ := rxs.one
  obtain ⟨t, rfl⟩ := ru
  obtain ⟨its, rv, ⟨⟨cls, dd, data, sl⟩, n, ho, hc, hdn, hd⟩, hlen⟩ := I.list hs
  simp only at hc hd
  subst hc hd
  obtain ⟨hc1, hc2⟩ := cnt_s z rv
  refine call_meets PySem.F.slot_list_count ⟨_, ho, rfl⟩ PySem.F.entry_list_count (PySem.F.args_list_count_2 _ _)
    (SeqAt.list_countAt p its.toArray n dd sl (.str z t) (isS z)) ⟨ho, fun y hy => ?_, ?_⟩
  · obtain ⟨yy, tk, rfl⟩ := hc2 y (by simpa using hy)
    exact SeqAt.EqAt.str_str yy tk z t
  · refine ⟨.int ((zs.countP fun y => y == z : Nat) : Int), H, I.tok _, ⟨s.toks, ?_⟩, q⟩
    show Value.int ((its.toArray.toList.countP (isS z) : Nat) : Int) s.toks = _
    rw [List.toList_toArray, hc1]
end Cn
/-! Spans of rows. -/
namespace Cn
theorem mod_lin (a t b p : Int) : (a + t * (b % p)) % p = (a + t * b) % p := by
  rw [Int.add_emod, Int.mul_emod, Int.emod_emod, ← Int.mul_emod, ← Int.add_emod]
theorem mod_addl (a b p : Int) : (a % p + b) % p = (a + b) % p := by rw [Int.add_emod, Int.emod_emod, ← Int.add_emod]
theorem mod_mul (t b p : Int) : (t * (b % p)) % p = (t * b) % p := by rw [Int.mul_emod, Int.emod_emod, ← Int.mul_emod]
section
variable {p : Int} {n : Nat}
theorem plus_get {r s : List Int} {t : Int} (h : r.length = s.length) (i : Nat) : (plusR p r t s).getD i 0 = (r.getD i 0 + t * s.getD i 0) % p := by
  unfold plusR
  rw [mk_get]
  by_cases hi : i < r.length
  · rw [if_pos hi]
  · rw [if_neg hi, get_out (by omega), get_out (by omega)]
    simp
theorem plus_len {r s : List Int} {t : Int} : (plusR p r t s).length = r.length := mk_len _ _
/-- combinations of rows -/
inductive Span (p : Int) (n : Nat) (rows : List (List Int)) : List Int → Prop
  | zero : Span p n rows (zeroR n)
  | plus {v r : List Int} (t : Int) : Span p n rows v → r ∈ rows → Span p n rows (plusR p v t r)
theorem Span.row {rows : List (List Int)} (hp : 0 < p) {v : List Int} (h : Span p n rows v) : IsRow p n v := by
  induction h with
  | zero => exact isrow_zero hp n
  | plus t _ _ ih => exact isrow_plus hp ih.len
/-- v + t * w, w in the span -/
theorem Span.comb {rows : List (List Int)} (hp : 0 < p) (hr : ∀ r ∈ rows, IsRow p n r) {v w : List Int} (hv : Span p n rows v) (hw : Span p n rows w) (t : Int) : Span p n rows (plusR p v t w) := by
  induction hw with
  | zero =>
    have hrow := hv.row hp
    have e : plusR p v t (zeroR n) = v := by
      refine list_ext plus_len fun i => ?_
      rw [plus_get (by rw [hrow.len, zero_len]), zero_get, Int.mul_zero, Int.add_zero, same_mod (hrow.lo i) (hrow.hi i)]
    rw [e]
    exact hv
  | @plus u r s hu hm ih =>
    have hrow := hv.row hp
    have urow := hu.row hp
    have rrow := hr r hm
    have e : plusR p v t (plusR p u s r) = plusR p (plusR p v t u) (t * s) r := by
      refine list_ext (by rw [plus_len, plus_len, plus_len]) fun i => ?_
      rw [plus_get (by rw [plus_len, hrow.len, urow.len]), plus_get (by rw [urow.len, rrow.len]), plus_get (by rw [plus_len, hrow.len, rrow.len]), plus_get (by rw [hrow.len, urow.len]), mod_lin, mod_addl, Int.mul_add, ← Int.add_assoc, ← Int.mul_assoc]
    rw [e]
    exact .plus _ ih hm
theorem Span.mem {rows : List (List Int)} (hp : 0 < p) (hr : ∀ r ∈ rows, IsRow p n r) {r : List Int} (hm : r ∈ rows) : Span p n rows r := by
  have h : Span p n rows (plusR p (zeroR n) 1 r) := .plus 1 .zero hm
  have rrow := hr r hm
  have e : plusR p (zeroR n) 1 r = r := by
    refine list_ext (by rw [plus_len, zero_len, rrow.len]) fun i => ?_
    rw [plus_get (by rw [zero_len, rrow.len]), zero_get, Int.one_mul, Int.zero_add, same_mod (rrow.lo i) (rrow.hi i)]
  rw [e] at h
  exact h
/-- a span within a span -/
theorem Span.trans {rows rows' : List (List Int)} (hp : 0 < p) (hr' : ∀ r ∈ rows', IsRow p n r) (hin : ∀ r ∈ rows, Span p n rows' r) {v : List Int} (h : Span p n rows v) : Span p n rows' v := by
  induction h with
  | zero => exact .zero
  | plus t _ hm ih => exact ih.comb hp hr' (hin _ hm) t
end
end Cn
/-! Steps are linear; rows in a reduced base's span have the rest 0. -/
namespace Cn
theorem emod_to {x y p : Int} (k : Int) (h : x = y + p * k) : x % p = y % p := by rw [h, Int.add_mul_emod_self_left]
theorem lin_mod (a b c d e t p : Int) : ((a + t * b) % p - ((c + t * d) % p * e) % p) % p = ((a - (c * e) % p) % p + t * ((b - (d * e) % p) % p)) % p := by
  rw [mod_sub, mod_lin, mod_addl]
  rw [Int.emod_def (a + t * b) p, Int.emod_def (c + t * d) p, Int.emod_def (c * e) p, Int.emod_def (d * e) p]
  generalize (a + t * b) / p = q1
  generalize (c + t * d) / p = q2
  generalize c * e / p = q3
  generalize d * e / p = q4
  exact emod_to (0 - q1 + q2 * e - q3 - t * q4) (by grind)
section
variable {p : Int} {n : Nat}
theorem step_len {v s : List Int} : (stepW p v s).length = v.length := sub_len
theorem step_lin {v w s : List Int} {t : Int} (hv : v.length = n) (hw : w.length = n) (hs : s.length = n) : stepW p (plusR p v t w) s = plusR p (stepW p v s) t (stepW p w s) := by
  refine list_ext (by rw [plus_len, step_len, step_len, plus_len]) fun i => ?_
  rw [stepW_get (r := plusR p v t w) (by rw [plus_len, hv, hs]), plus_get (r := stepW p v s) (by rw [step_len, step_len, hv, hw]), plus_get (r := v) (by rw [hv, hw]), plus_get (r := v) (by rw [hv, hw]), stepW_get (r := v) (by rw [hv, hs]), stepW_get (r := w) (by rw [hw, hs])]
  exact lin_mod _ _ _ _ _ _ _
theorem with_lin (hp : 0 < p) : ∀ (base : List (List Int)) {v w : List Int} {t : Int}, (∀ s ∈ base, s.length = n) → v.length = n → w.length = n → withR p (plusR p v t w) base = plusR p (withR p v base) t (withR p w base)
  | [], _, _, _, _, _, _ => rfl
  | s :: base, v, w, t, hb, hv, hw => by
    show withR p (stepW p (plusR p v t w) s) base = plusR p (withR p (stepW p v s) base) t (withR p (stepW p w s) base)
    rw [step_lin hv hw (hb s List.mem_cons_self)]
    exact with_lin hp base (fun r m => hb r (List.mem_cons_of_mem _ m)) (by rw [step_len, hv]) (by rw [step_len, hw])
end
end Cn
namespace Cn
section
variable {p : Int} {n : Nat}
theorem zero_piv (base : List (List Int)) (hp : 0 < p) (hb : ∀ s ∈ base, s.length = n) : withR p (zeroR n) base = zeroR n := by
  have h : ∀ (base : List (List Int)) (v : List Int), (∀ s ∈ base, s.length = n) → v = zeroR n → withR p v base = zeroR n := by
    intro base
    induction base with
    | nil => exact fun v _ e => e
    | cons s base ih =>
      intro v hb e
      refine ih (stepW p v s) (fun r m => hb r (List.mem_cons_of_mem _ m)) ?_
      subst e
      refine list_ext (by rw [step_len]) fun i => ?_
      rw [stepW_get (by rw [zero_len, hb s List.mem_cons_self]), zero_get, zero_get, Int.zero_mul, Int.zero_emod, Int.sub_zero, Int.zero_emod]
  exact h base _ hb rfl
/-- a member of a reduced base has the rest 0 -/
theorem with_mem (hp : GoodP p) : ∀ {base : List (List Int)} {r : List Int}, Red p n base → r ∈ base → withR p r base = zeroR n
  | [], _, _, m => by simp at m
  | s :: base, r, h, m => by
    show withR p (stepW p r s) base = zeroR n
    rcases List.mem_cons.mp m with rfl | m
    · have e : stepW p r r = zeroR n := by
        have hr := h.row r List.mem_cons_self
        refine list_ext (by rw [step_len, hr.len, zero_len]) fun i => ?_
        rw [stepW_get rfl, (h.one r List.mem_cons_self).2, Int.one_mul, same_mod (hr.lo i) (hr.hi i), Int.sub_self, Int.zero_emod, zero_get]
      rw [e]
      exact zero_piv base hp.pos fun s m => (h.row s (List.mem_cons_of_mem _ m)).len
    · have hr := h.row r (List.mem_cons_of_mem _ m)
      have e : stepW p r s = r := by
        refine list_ext step_len fun i => ?_
        rw [stepW_get (by rw [hr.len, (h.row s List.mem_cons_self).len]), (h.head r m).2, Int.zero_mul, Int.zero_emod, Int.sub_zero, same_mod (hr.lo i) (hr.hi i)]
      rw [e]
      exact with_mem hp h.tail m
theorem with_span (hp : GoodP p) {base : List (List Int)} (h : Red p n base) {v : List Int} (hv : Span p n base v) : withR p v base = zeroR n := by
  have hb : ∀ s ∈ base, s.length = n := fun s m => (h.row s m).len
  induction hv with
  | zero => exact zero_piv base hp.pos hb
  | @plus u r t hu hm ih =>
    rw [with_lin hp.pos base hb (hu.row hp.pos).len (hb r hm), ih, with_mem hp h hm]
    refine list_ext (by rw [plus_len]) fun i => ?_
    rw [plus_get rfl, zero_get, Int.mul_zero, Int.add_zero, Int.zero_emod]
end
end Cn
namespace Cn
section
variable {p : Int} {n : Nat}
theorem step_back {v s : List Int} (hv : IsRow p n v) (hs : s.length = n) : plusR p (stepW p v s) (v.getD (piv s) 0) s = v := by
  refine list_ext (by rw [plus_len, step_len]) fun i => ?_
  rw [plus_get (by rw [step_len, hv.len, hs]), stepW_get (by rw [hv.len, hs]), mod_sub, mod_addl]
  rw [show v.getD i 0 - v.getD (piv s) 0 * s.getD i 0 + v.getD (piv s) 0 * s.getD i 0 = v.getD i 0 by omega]
  exact same_mod (hv.lo i) (hv.hi i)
theorem with_in (hp : 0 < p) {rows : List (List Int)} : ∀ (base : List (List Int)) {v : List Int}, (∀ s ∈ base, s ∈ rows ∧ s.length = n) → IsRow p n v → (Span p n rows (withR p v base) ↔ Span p n rows v)
  | [], _, _, _ => Iff.rfl
  | s :: base, v, hb, hv => by
    obtain ⟨h1, h2⟩ := hb s List.mem_cons_self
    have ih := with_in hp base (v := stepW p v s) (fun r m => hb r (List.mem_cons_of_mem _ m)) (stepW_row hp hv.len)
    show Span p n rows (withR p (stepW p v s) base) ↔ _
    rw [ih]
    constructor
    · intro h
      rw [← step_back hv h2]
      exact .plus _ h h1
    · intro h
      rw [← plus_step (by rw [hv.len, h2])]
      exact .plus _ h h1
/-- in the span of a reduced base: the rest is 0 -/
theorem span_iff (hp : GoodP p) {base : List (List Int)} (h : Red p n base) {v : List Int} (hv : IsRow p n v) : withR p v base = zeroR n ↔ Span p n base v := by
  constructor
  · intro e
    refine (with_in hp.pos base (rows := base) (fun s m => ⟨m, (h.row s m).len⟩) hv).mp ?_
    rw [e]
    exact .zero
  · exact with_span hp h
end
end Cn
/-! The reduced rows have the rows' span. -/
namespace Cn
section
variable {p : Int} {n : Nat}
theorem sca_plus {k : Int} {v : List Int} (hv : v.length = n) : scaR p k v = plusR p (zeroR n) k v := (plus_sca hv).symm
theorem eq_zero {v : List Int} (hv : IsRow p n v) (h : pivO v = none) : v = zeroR n := list_ext (by rw [hv.len, zero_len]) fun i => by rw [pivO_no.mp h i, zero_get]
theorem sca_inv (hp : GoodP p) {left : List Int} {c : Nat} (hl : IsRow p n left) (h : pivO left = some c) : scaR p (left.getD c 0) (newR p left c) = left := by
  obtain ⟨h1, h2⟩ := pivO_iff.mp h
  have a0 : 0 < left.getD c 0 := by have := hl.lo c; omega
  have iv := (hp.inv a0 (hl.hi c)).one
  refine list_ext (by rw [sca_len]; exact sca_len) fun i => ?_
  unfold newR
  rw [sca_get, sca_get, mod_mul, ← Int.mul_assoc, Int.mul_emod, iv, Int.one_mul, Int.emod_emod]
  exact same_mod (hl.lo i) (hl.hi i)
theorem step_span (hp : GoodP p) {found : List (List Int)} {row : List Int} (h : Red p n found) (hr : IsRow p n row) {v : List Int} : Span p n (stepR p found row) v ↔ Span p n (found ++ [row]) v := by
  have p0 := hp.pos
  have frow : ∀ r ∈ found ++ [row], IsRow p n r := fun r m => (List.mem_append.mp m).elim (h.row r) fun m => by rw [List.mem_singleton.mp m]; exact hr
  have srow := (h.step hp hr).row
  have hl : IsRow p n (withR p row found) := withR_row p0 found hr
  cases e : pivO (withR p row found) with
  | none =>
    rw [stepR_none e] at srow ⊢
    constructor
    · exact Span.trans p0 frow fun r m => Span.mem p0 frow (List.mem_append_left _ m)
    · refine Span.trans p0 srow fun r m => ?_
      rcases List.mem_append.mp m with m | m
      · exact Span.mem p0 srow m
      · rw [List.mem_singleton.mp m]
        exact (span_iff hp h hr).mp (eq_zero hl e)
  | some c =>
    obtain ⟨n1, n2, n3, n4⟩ := newR_facts hp hl e
    have hs := stepR_some e
    rw [hs] at srow ⊢
    constructor
    · refine Span.trans p0 frow fun r m => ?_
      have hleft : Span p n (found ++ [row]) (withR p row found) := (with_in p0 found (rows := found ++ [row]) (fun s m => ⟨List.mem_append_left _ m, (h.row s m).len⟩) hr).mpr (Span.mem p0 frow (by simp))
      have hnew : Span p n (found ++ [row]) (newR p (withR p row found) c) := by
        unfold newR
        rw [sca_plus hl.len]
        exact Span.zero.comb p0 frow hleft _
      rcases List.mem_append.mp m with m | m
      · obtain ⟨own, mo, rfl⟩ := List.mem_map.mp m
        rw [← plus_sub]
        exact (Span.mem p0 frow (List.mem_append_left _ mo)).comb p0 frow hnew _
      · rw [List.mem_singleton.mp m]
        exact hnew
    · refine Span.trans p0 srow fun r m => ?_
      have hnew := Span.mem p0 srow (r := newR p (withR p row found) c) (by simp)
      have hown : ∀ own ∈ found, Span p n (found.map (fun own => subR p own (scaR p (own.getD c 0) (newR p (withR p row found) c))) ++ [newR p (withR p row found) c]) own := fun own mo => by
        have h1 := Span.mem p0 srow (r := subR p own (scaR p (own.getD c 0) (newR p (withR p row found) c))) (List.mem_append_left _ (List.mem_map.mpr ⟨own, mo, rfl⟩))
        have h2 := h1.comb p0 srow hnew (own.getD c 0)
        have orow := h.row own mo
        have e2 : plusR p (subR p own (scaR p (own.getD c 0) (newR p (withR p row found) c))) (own.getD c 0) (newR p (withR p row found) c) = own := by
          refine list_ext (by rw [plus_len, sub_len]) fun i => ?_
          rw [plus_get (by rw [sub_len, orow.len, n1.len]), sub_get (by rw [sca_len, orow.len, n1.len]), sca_get, mod_sub, mod_addl]
          rw [show own.getD i 0 - own.getD c 0 * (newR p (withR p row found) c).getD i 0 + own.getD c 0 * (newR p (withR p row found) c).getD i 0 = own.getD i 0 by omega]
          exact same_mod (orow.lo i) (orow.hi i)
        rw [e2] at h2
        exact h2
      rcases List.mem_append.mp m with m | m
      · exact hown r m
      · rw [List.mem_singleton.mp m]
        have hleft := Span.zero.comb p0 srow hnew ((withR p row found).getD c 0)
        rw [← sca_plus n1.len, sca_inv hp hl e] at hleft
        have frow2 : ∀ r ∈ found ++ [withR p row found], IsRow p n r := fun r m => (List.mem_append.mp m).elim (h.row r) fun m => by rw [List.mem_singleton.mp m]; exact hl
        have h3 : Span p n (found ++ [withR p row found]) row := (with_in p0 found (rows := found ++ [withR p row found]) (fun s m => ⟨List.mem_append_left _ m, (h.row s m).len⟩) hr).mp (Span.mem p0 frow2 (by simp))
        refine Span.trans p0 srow (fun r m => ?_) h3
        rcases List.mem_append.mp m with m | m
        · exact hown r m
        · rw [List.mem_singleton.mp m]
          exact hleft
end
end Cn
/-! The reduced rows' span; one reduced base for a span. -/
namespace Cn
section
variable {p : Int} {n : Nat}
/-- two lists of rows with one span -/
def SameSp (p : Int) (n : Nat) (A B : List (List Int)) : Prop := ∀ v, Span p n A v ↔ Span p n B v
theorem same_of (p0 : 0 < p) {A B : List (List Int)} (hA : ∀ r ∈ A, IsRow p n r) (hB : ∀ r ∈ B, IsRow p n r) (h1 : ∀ r ∈ A, Span p n B r) (h2 : ∀ r ∈ B, Span p n A r) : SameSp p n A B :=
  fun _ => ⟨Span.trans p0 hB h1, Span.trans p0 hA h2⟩
theorem same_perm (p0 : 0 < p) {A B : List (List Int)} (hA : ∀ r ∈ A, IsRow p n r) (h : A.Perm B) : SameSp p n A B := by
  have hB : ∀ r ∈ B, IsRow p n r := fun r m => hA r (h.mem_iff.mpr m)
  exact same_of p0 hA hB (fun r m => Span.mem p0 hB (h.mem_iff.mp m)) fun r m => Span.mem p0 hA (h.mem_iff.mpr m)
theorem Span.more (p0 : 0 < p) {A B : List (List Int)} (hB : ∀ r ∈ B, IsRow p n r) (hs : ∀ r ∈ A, r ∈ B) {v : List Int} (h : Span p n A v) : Span p n B v := h.trans p0 hB fun r m => Span.mem p0 hB (hs r m)
theorem same_app (p0 : 0 < p) {A B C : List (List Int)} (hA : ∀ r ∈ A, IsRow p n r) (hB : ∀ r ∈ B, IsRow p n r) (hC : ∀ r ∈ C, IsRow p n r) (h : SameSp p n A B) : SameSp p n (A ++ C) (B ++ C) := by
  have hAC : ∀ r ∈ A ++ C, IsRow p n r := fun r m => (List.mem_append.mp m).elim (hA r) (hC r)
  have hBC : ∀ r ∈ B ++ C, IsRow p n r := fun r m => (List.mem_append.mp m).elim (hB r) (hC r)
  refine same_of p0 hAC hBC (fun r m => ?_) fun r m => ?_
  · rcases List.mem_append.mp m with m | m
    · exact ((h r).mp (Span.mem p0 hA m)).more p0 hBC fun s k => List.mem_append_left _ k
    · exact Span.mem p0 hBC (List.mem_append_right _ m)
  · rcases List.mem_append.mp m with m | m
    · exact ((h r).mpr (Span.mem p0 hB m)).more p0 hAC fun s k => List.mem_append_left _ k
    · exact Span.mem p0 hAC (List.mem_append_right _ m)
theorem fold_span (hp : GoodP p) : ∀ (rows : List (List Int)) {found : List (List Int)}, Red p n found → (∀ r ∈ rows, IsRow p n r) → SameSp p n (rows.foldl (stepR p) found) (found ++ rows)
  | [], found, _, _ => by
    rw [List.append_nil]
    exact fun _ => Iff.rfl
  | r :: rows, found, h, hr => by
    have hr0 := hr r List.mem_cons_self
    have hrt : ∀ s ∈ rows, IsRow p n s := fun s m => hr s (List.mem_cons_of_mem _ m)
    have h2 := h.step hp hr0
    have ih := fold_span hp rows h2 hrt
    have fr : ∀ s ∈ found ++ [r], IsRow p n s := fun s m => (List.mem_append.mp m).elim (h.row s) fun m => by rw [List.mem_singleton.mp m]; exact hr0
    have e : found ++ r :: rows = (found ++ [r]) ++ rows := by simp
    rw [e]
    exact fun v => (ih v).trans (same_app hp.pos h2.row fr hrt (fun v => step_span hp h hr0) v)
theorem redF_span (hp : GoodP p) {rows : List (List Int)} (hr : ∀ r ∈ rows, IsRow p n r) : SameSp p n (redF p rows) rows := fold_span hp rows Red.nil hr
theorem oth_symm : ∀ (r s : List Int), (r.getD (piv s) 0 = 0 ∧ s.getD (piv r) 0 = 0) → (s.getD (piv r) 0 = 0 ∧ r.getD (piv s) 0 = 0) := fun _ _ h => ⟨h.2, h.1⟩
theorem Red.perm {A B : List (List Int)} (h : Red p n A) (hp : A.Perm B) : Red p n B :=
  ⟨fun r m => h.row r (hp.mem_iff.mpr m), fun r m => h.one r (hp.mem_iff.mpr m), (hp.pairwise_iff (fun {r s} => oth_symm r s)).mp h.oth⟩
theorem redL_red (hp : GoodP p) {rows : List (List Int)} (hr : ∀ r ∈ rows, IsRow p n r) : Red p n (redL p rows) := (redF_red hp hr).perm (downR_perm _).symm
theorem redL_span (hp : GoodP p) {rows : List (List Int)} (hr : ∀ r ∈ rows, IsRow p n r) : SameSp p n (redL p rows) rows := fun v => (same_perm hp.pos (redL_red hp hr).row (downR_perm _) v).trans (redF_span hp hr v)
/-- a column that no step changes -/
theorem with_col (hp : 0 < p) : ∀ {base : List (List Int)} {v : List Int} {c : Nat}, Red p n base → IsRow p n v → (∀ s ∈ base, v.getD (piv s) 0 = 0 ∨ s.getD c 0 = 0) → (withR p v base).getD c 0 = v.getD c 0
  | [], _, _, _, _, _ => rfl
  | s :: base, v, c, h, hv, hz => by
    have hs := h.row s List.mem_cons_self
    have e : ∀ i, (v.getD (piv s) 0 = 0 ∨ s.getD i 0 = 0) → (stepW p v s).getD i 0 = v.getD i 0 := fun i hi => by
      rw [stepW_get (by rw [hv.len, hs.len])]
      rcases hi with hi | hi <;> rw [hi]
      · rw [Int.zero_mul, Int.zero_emod, Int.sub_zero, same_mod (hv.lo i) (hv.hi i)]
      · rw [Int.mul_zero, Int.zero_emod, Int.sub_zero, same_mod (hv.lo i) (hv.hi i)]
    show (withR p (stepW p v s) base).getD c 0 = _
    rw [with_col hp h.tail (stepW_row hp hv.len) (fun t m => ?_), e c (hz s List.mem_cons_self)]
    rw [e (piv t) (.inr (h.head t m).1)]
    exact hz t (List.mem_cons_of_mem _ m)
theorem red_zero (hp : GoodP p) {base : List (List Int)} (h : Red p n base) {v : List Int} (hv : Span p n base v) (hz : ∀ s ∈ base, v.getD (piv s) 0 = 0) : v = zeroR n := by
  have hr := hv.row hp.pos
  refine list_ext (by rw [hr.len, zero_len]) fun i => ?_
  have h1 := with_col (c := i) hp.pos h hr fun s m => .inl (hz s m)
  rw [with_span hp h hv] at h1
  exact h1.symm
theorem red_ne {A : List (List Int)} (h : Red p n A) : A.Nodup := by
  refine (List.pairwise_iff_forall_sublist.mpr fun {r s} hs => ?_)
  have h1 := List.pairwise_iff_forall_sublist.mp h.oth hs
  intro e
  subst e
  have := (h.one r (hs.subset List.mem_cons_self)).2
  omega
/-- the pivots of two reduced bases of one span -/
theorem red_piv (hp : GoodP p) {A B : List (List Int)} (hA : Red p n A) (hB : Red p n B) (h : SameSp p n A B) {r : List Int} (hr : r ∈ A) : ∃ s ∈ B, piv s = piv r := by
  refine Classical.byContradiction fun hno => ?_
  have rr := hA.row r hr
  have h1 : Span p n B r := (h r).mp (Span.mem hp.pos hA.row hr)
  have hq := pivO_iff.mp (pivO_piv (hA.one r hr).1)
  have h2 := with_col (c := piv r) hp.pos hB rr fun s m => by
    rcases Nat.lt_trichotomy (piv s) (piv r) with z | z | z
    · exact .inl (hq.2 _ z)
    · exact absurd ⟨s, m, z⟩ hno
    · exact .inr ((pivO_iff.mp (pivO_piv (hB.one s m).1)).2 _ z)
  rw [with_span hp hB h1, zero_get, (hA.one r hr).2] at h2
  omega
theorem pair_of {A : List (List Int)} (h : Red p n A) {r s : List Int} (hr : r ∈ A) (hs : s ∈ A) (hne : r ≠ s) : r.getD (piv s) 0 = 0 ∧ s.getD (piv r) 0 = 0 := by
  have := h.oth
  obtain ⟨i, hi, rfl⟩ := List.getElem_of_mem hr
  obtain ⟨j, hj, rfl⟩ := List.getElem_of_mem hs
  rcases Nat.lt_trichotomy i j with z | z | z
  · exact List.pairwise_iff_getElem.mp this i j hi hj z
  · subst z
    exact absurd rfl hne
  · exact oth_symm _ _ (List.pairwise_iff_getElem.mp this j i hj hi z)
theorem red_sub (hp : GoodP p) {A B : List (List Int)} (hA : Red p n A) (hB : Red p n B) (h : SameSp p n A B) {r : List Int} (hr : r ∈ A) : r ∈ B := by
  obtain ⟨s, hs, e⟩ := red_piv hp hA hB h hr
  have h' : SameSp p n B A := fun v => (h v).symm
  have rr := hA.row r hr
  have sr := hB.row s hs
  have h1 : Span p n B (plusR p r (-1) s) := ((h r).mp (Span.mem hp.pos hA.row hr)).comb hp.pos hB.row (Span.mem hp.pos hB.row hs) _
  have g : ∀ i, (plusR p r (-1) s).getD i 0 = (r.getD i 0 - s.getD i 0) % p := fun i => by
    rw [plus_get (by rw [rr.len, sr.len])]
    congr 1
    omega
  have h2 := red_zero hp hB h1 fun t ht => by
    rw [g]
    by_cases hst : t = s
    · subst hst
      rw [(hB.one t ht).2, e, (hA.one r hr).2]
      exact Int.zero_emod _
    · obtain ⟨r2, hr2, e2⟩ := red_piv hp hB hA h' ht
      have hne : r ≠ r2 := fun z => by
        subst z
        have h3 := (pair_of hB ht hs hst).1
        rw [e, e2, (hB.one t ht).2] at h3
        omega
      have h4 := (pair_of hA hr hr2 hne).1
      rw [e2] at h4
      rw [h4, (pair_of hB ht hs hst).2]
      exact Int.zero_emod _
  have e3 : r = s := list_ext (by rw [rr.len, sr.len]) fun i => by
    have h5 := g i
    rw [h2, zero_get] at h5
    have a := rr.lo i
    have b := rr.hi i
    have c := sr.lo i
    have d := sr.hi i
    have h6 : p ∣ r.getD i 0 - s.getD i 0 := Int.dvd_of_emod_eq_zero h5.symm
    obtain ⟨k, hk⟩ := h6
    rcases Int.lt_trichotomy k 0 with z | z | z
    · have : p * k ≤ p * (-1) := Int.mul_le_mul_of_nonneg_left (by omega) (by omega)
      omega
    · subst z
      omega
    · have : p * 1 ≤ p * k := Int.mul_le_mul_of_nonneg_left (by omega) (by omega)
      omega
  rw [e3]
  exact hs
end
end Cn
/-! One reduced base for a span: redL is fixed by the span. -/
namespace Cn
theorem nodup_perm {α : Type} [DecidableEq α] : ∀ {l m : List α}, l.Nodup → m.Nodup → (∀ a, a ∈ l ↔ a ∈ m) → l.Perm m
  | [], m, _, _, h => by
    cases m with
    | nil => exact .nil
    | cons a m => exact absurd ((h a).mpr List.mem_cons_self) (by simp)
  | a :: l, m, hl, hm, h => by
    have ha := (h a).mp List.mem_cons_self
    have p1 := List.perm_cons_erase ha
    have n1 : (a :: m.erase a).Nodup := p1.nodup_iff.mp hm
    have l1 := List.nodup_cons.mp hl
    have m1 := List.nodup_cons.mp n1
    refine .trans (.cons a (nodup_perm l1.2 m1.2 fun b => ?_)) p1.symm
    constructor
    · intro hb
      have := p1.mem_iff.mp ((h b).mp (List.mem_cons_of_mem _ hb))
      rcases List.mem_cons.mp this with rfl | z
      · exact absurd hb l1.1
      · exact z
    · intro hb
      have := (h b).mpr (p1.mem_iff.mpr (List.mem_cons_of_mem _ hb))
      rcases List.mem_cons.mp this with rfl | z
      · exact absurd hb m1.1
      · exact z
/-- the smaller list within the other, of one length -/
theorem nodup_sub {α : Type} [DecidableEq α] : ∀ {l m : List α}, l.Nodup → m.Nodup → (∀ a, a ∈ l → a ∈ m) → m.length ≤ l.length → l.Perm m
  | [], m, _, _, _, hn => by
    cases m with
    | nil => exact .nil
    | cons a m => simp at hn
  | a :: l, m, hl, hm, h, hn => by
    have ha := h a List.mem_cons_self
    have p1 := List.perm_cons_erase ha
    have n1 : (a :: m.erase a).Nodup := p1.nodup_iff.mp hm
    have l1 := List.nodup_cons.mp hl
    have m1 := List.nodup_cons.mp n1
    refine .trans (.cons a (nodup_sub l1.2 m1.2 (fun b hb => ?_) ?_)) p1.symm
    · have := p1.mem_iff.mp (h b (List.mem_cons_of_mem _ hb))
      rcases List.mem_cons.mp this with rfl | z
      · exact absurd hb l1.1
      · exact z
    · have := p1.length_eq
      simp only [List.length_cons] at this hn
      omega
section
variable {p : Int} {n : Nat}
theorem red_perm (hp : GoodP p) {A B : List (List Int)} (hA : Red p n A) (hB : Red p n B) (h : SameSp p n A B) : A.Perm B :=
  nodup_perm (red_ne hA) (red_ne hB) fun a => ⟨red_sub hp hA hB h, red_sub hp hB hA fun v => (h v).symm⟩
/-- the reduced rows are fixed by the span -/
theorem redL_eq (hp : GoodP p) {A B : List (List Int)} (hA : ∀ r ∈ A, IsRow p n r) (hB : ∀ r ∈ B, IsRow p n r) (h : SameSp p n A B) : redL p A = redL p B :=
  downR_eq (red_perm hp (redF_red hp hA) (redF_red hp hB) fun v => ((redF_span hp hA v).trans (h v)).trans (redF_span hp hB v).symm)
theorem redL_same (hp : GoodP p) {A B : List (List Int)} (hA : ∀ r ∈ A, IsRow p n r) (hB : ∀ r ∈ B, IsRow p n r) (h : redL p A = redL p B) : SameSp p n A B := fun v => by
  rw [← redL_span hp hA v, ← redL_span hp hB v, h]
theorem lt_first : ∀ (c : Nat) {r s : List Int}, r.length = s.length → (∀ j, j < c → r.getD j 0 = s.getD j 0) → r.getD c 0 < s.getD c 0 → r < s
  | c, [], s, hl, _, h => by
    have : s = [] := List.length_eq_zero_iff.mp hl.symm
    subst this
    simp at h
  | c, a :: r, [], hl, _, _ => by simp at hl
  | 0, a :: r, b :: s, _, _, h => by
    refine List.cons_lt_cons_iff.mpr (.inl ?_)
    simpa using h
  | c + 1, a :: r, b :: s, hl, hj, h => by
    have h0 := hj 0 (by omega)
    simp only [List.getD_cons_zero] at h0
    refine List.cons_lt_cons_iff.mpr (.inr ⟨h0, lt_first c (by simpa using hl) (fun j z => ?_) (by simpa using h)⟩)
    have := hj (j + 1) (by omega)
    simpa using this
/-- an earlier pivot: a greater row -/
theorem lt_piv {A : List (List Int)} (h : Red p n A) {r s : List Int} (hr : r ∈ A) (hs : s ∈ A) (hlt : piv r < piv s) : s < r := by
  have hq := pivO_iff.mp (pivO_piv (h.one r hr).1)
  have hk := pivO_iff.mp (pivO_piv (h.one s hs).1)
  refine lt_first (piv r) (by rw [(h.row r hr).len, (h.row s hs).len]) (fun j z => ?_) ?_
  · rw [hq.2 j z, hk.2 j (by omega)]
  · rw [hk.2 _ hlt, (h.one r hr).2]
    omega
theorem red_asc {A : List (List Int)} (h : Red p n A) (hs : A.Pairwise fun a b => ¬ a < b) : A.Pairwise fun r s => piv r < piv s := by
  refine List.pairwise_iff_forall_sublist.mpr fun {r s} hsub => ?_
  have h1 := List.pairwise_iff_forall_sublist.mp hs hsub
  have h2 := List.pairwise_iff_forall_sublist.mp h.oth hsub
  have mr := hsub.subset (a := r) (by simp)
  have ms := hsub.subset (a := s) (by simp)
  rcases Nat.lt_trichotomy (piv r) (piv s) with z | z | z
  · exact z
  · have := h2.1
    rw [← z, (h.one r mr).2] at this
    omega
  · exact absurd (lt_piv h ms mr z) h1
theorem asc_down {A : List (List Int)} (h : Red p n A) (ha : A.Pairwise fun r s => piv r < piv s) : A.Pairwise fun a b => ¬ a < b := by
  refine List.pairwise_iff_forall_sublist.mpr fun {r s} hsub => ?_
  have h1 := List.pairwise_iff_forall_sublist.mp ha hsub
  exact row_as _ _ (lt_piv h (hsub.subset (by simp)) (hsub.subset (by simp)) h1)
theorem asc_len : ∀ {ks : List Nat} {lo n : Nat}, ks.Pairwise (· < ·) → (∀ k ∈ ks, lo ≤ k ∧ k < n) → ks.length + lo ≤ n ∨ ks = []
  | [], _, _, _, _ => .inr rfl
  | k :: ks, lo, n, h, hk => by
    obtain ⟨h1, h2⟩ := List.pairwise_cons.mp h
    have hk0 := hk k List.mem_cons_self
    rcases asc_len (lo := k + 1) (n := n) h2 (fun j m => ⟨h1 j m, (hk j (List.mem_cons_of_mem _ m)).2⟩) with z | z
    · refine .inl ?_
      rw [List.length_cons]
      omega
    · subst z
      refine .inl ?_
      simp
      omega
theorem red_code {A : List (List Int)} (h : Red p n A) (ha : A.Pairwise fun r s => piv r < piv s) : CodeOk p n A := by
  refine ⟨h, ha, ?_⟩
  have h1 : (A.map piv).Pairwise (· < ·) := List.pairwise_map.mpr ha
  rcases asc_len (lo := 0) (n := n) h1 (fun k m => by
    obtain ⟨r, hr, rfl⟩ := List.mem_map.mp m
    have := piv_lt (h.one r hr).1
    rw [(h.row r hr).len] at this
    omega) with z | z
  · rw [List.length_map] at z
    omega
  · have := List.map_eq_nil_iff.mp z
    subst this
    exact Nat.zero_le _
theorem redL_ok (hp : GoodP p) {rows : List (List Int)} (hr : ∀ r ∈ rows, IsRow p n r) : CodeOk p n (redL p rows) := red_code (redL_red hp hr) (red_asc (redL_red hp hr) (downR_srt _))
/-- a code is the reduced form of its span -/
theorem code_eq (hp : GoodP p) {c rows : List (List Int)} (hc : CodeOk p n c) (hr : ∀ r ∈ rows, IsRow p n r) (h : SameSp p n rows c) : redL p rows = c := by
  refine perm_eq (R := fun a b => ¬ a < b) row_anti ((downR_perm _).trans (red_perm hp (redF_red hp hr) hc.red fun v => (redF_span hp hr v).trans (h v))) (downR_srt _) (asc_down hc.red hc.asc)
theorem inC_iff (hp : GoodP p) {c : List (List Int)} (hc : CodeOk p n c) {r : List Int} (hr : IsRow p n r) : inC p n c r = true ↔ Span p n c r := by
  unfold inC
  rw [decide_eq_true_iff]
  exact span_iff hp hc.red hr
theorem all_in (hp : GoodP p) {c d : List (List Int)} (hc : CodeOk p n c) (hd : ∀ r ∈ d, IsRow p n r) (h : ∀ r ∈ d, Span p n c r) : d.all (inC p n c) = true := List.all_eq_true.mpr fun r m => (inC_iff hp hc (hd r m)).mpr (h r m)
end
end Cn
/-! Drawn rows span all; how many rows a reduced base has. -/
namespace Cn
section
variable {p : Int} {n : Nat}
theorem units_all (hp : GoodP p) {v : List Int} (hv : IsRow p n v) : Span p n (unitsL n) v := by
  refine (span_iff hp (units_red hp.two n) hv).mp ?_
  have hw := withR_row hp.pos (unitsL n) hv
  refine list_ext (by rw [hw.len, zero_len]) fun i => ?_
  rw [zero_get]
  by_cases h : i < n
  · have m : unitR n i ∈ unitsL n := by
      rw [unitsL_eq]
      exact List.mem_map.mpr ⟨i, List.mem_range.mpr h, rfl⟩
    have q := withR_zero hp.pos (units_red hp.two n) hv m
    rwa [piv_of (unit_piv h)] at q
  · exact get_out (by rw [hw.len]; omega)
theorem set_rows {rows : List (List Int)} (hr : ∀ r ∈ rows, IsRow p n r) {k : Nat} {x : List Int} (hx : IsRow p n x) : ∀ r ∈ rows.set k x, IsRow p n r := fun r m =>
  (List.mem_or_eq_of_mem_set m).elim (hr r) fun e => e ▸ hx
theorem set_span (hp : GoodP p) {rows : List (List Int)} (hr : ∀ r ∈ rows, IsRow p n r) {k : Nat} {x : List Int} (hx : IsRow p n x) (h : Span p n (rows.set k x) (rows.getD k [])) : ∀ r ∈ rows, Span p n (rows.set k x) r := by
  intro r m
  obtain ⟨j, hj, rfl⟩ := List.getElem_of_mem m
  by_cases e : j = k
  · subst e
    rwa [List.getD_eq_getElem?_getD, List.getElem?_eq_getElem hj] at h
  · refine Span.mem hp.pos (set_rows hr hx) ?_
    have e2 : (rows.set k x)[j]? = some rows[j] := by
      rw [List.getElem?_set_ne (Ne.symm e)]
      exact List.getElem?_eq_getElem hj
    exact List.mem_of_getElem? e2
theorem get_mem {rows : List (List Int)} {k : Nat} (h : k < rows.length) : rows.getD k [] ∈ rows := by
  rw [List.getD_eq_getElem?_getD, List.getElem?_eq_getElem h]
  exact List.getElem_mem h
theorem set_at {rows : List (List Int)} {k j : Nat} {x : List Int} (h : j < rows.length) (e : k ≠ j) : rows.getD j [] ∈ rows.set k x := by
  have e2 : (rows.set k x)[j]? = some rows[j] := by
    rw [List.getElem?_set_ne e]
    exact List.getElem?_eq_getElem h
  rw [List.getD_eq_getElem?_getD, List.getElem?_eq_getElem h]
  exact List.mem_of_getElem? e2
theorem set_new {rows : List (List Int)} {k : Nat} {x : List Int} (h : k < rows.length) : x ∈ rows.set k x := List.mem_set h x
/-- a row is a multiple of its multiples -/
theorem sca_undo (hp : GoodP p) {r : List Int} (hr : IsRow p n r) {t : Int} (t0 : 0 < t) (t1 : t < p) : scaR p (invN p t) (scaR p t r) = r := by
  have iv := (hp.inv t0 t1).one
  refine list_ext (by rw [sca_len, sca_len]) fun i => ?_
  rw [sca_get, sca_get, mod_mul, ← Int.mul_assoc, Int.mul_comm _ t, Int.mul_emod, iv, Int.one_mul, Int.emod_emod]
  exact same_mod (hr.lo i) (hr.hi i)
theorem Span.sca {rows : List (List Int)} (p0 : 0 < p) (hr : ∀ r ∈ rows, IsRow p n r) {v : List Int} (h : Span p n rows v) (t : Int) : Span p n rows (scaR p t v) := by
  rw [sca_plus (h.row p0).len]
  exact Span.zero.comb p0 hr h t
theorem Drawn.all (hp : GoodP p) {rows : List (List Int)} (h : Drawn p n rows) : ∀ v, IsRow p n v → Span p n rows v := by
  have p0 := hp.pos
  induction h with
  | units => exact fun v hv => units_all hp hv
  | @sca rows k t hd t1 t2 ih =>
    obtain ⟨h1, h2⟩ := hd.rows hp
    by_cases hk : k < rows.length
    · have hrow := h2 _ (get_mem hk)
      have hx := isrow_sca p0 t hrow.len
      refine fun v hv => (ih v hv).trans p0 (set_rows h2 hx) (set_span hp h2 hx ?_)
      have q := (Span.mem p0 (set_rows h2 hx) (set_new hk)).sca p0 (set_rows h2 hx) (invN p t)
      rwa [sca_undo hp hrow (by omega) t2] at q
    · rw [List.set_eq_of_length_le (by omega)]
      exact ih
  | @plus rows k j t hd hkj hk hj t0 t1 ih =>
    obtain ⟨h1, h2⟩ := hd.rows hp
    have hrow := h2 _ (get_mem (by omega : k < rows.length))
    have jrow := h2 _ (get_mem (by omega : j < rows.length))
    have hx := isrow_plus (t := t) (s := rows.getD j []) p0 hrow.len
    have hs := set_rows (k := k) h2 hx
    refine fun v hv => (ih v hv).trans p0 hs (set_span hp h2 hx ?_)
    have q := (Span.mem p0 hs (set_new (by omega))).comb p0 hs (Span.mem p0 hs (set_at (by omega : j < rows.length) hkj)) (-t)
    have e : plusR p (plusR p (rows.getD k []) t (rows.getD j [])) (-t) (rows.getD j []) = rows.getD k [] := by
      refine list_ext (by rw [plus_len, plus_len]) fun i => ?_
      rw [plus_get (by rw [plus_len, hrow.len, jrow.len]), plus_get (by rw [hrow.len, jrow.len]), mod_addl]
      rw [show (rows.getD k []).getD i 0 + t * (rows.getD j []).getD i 0 + -t * (rows.getD j []).getD i 0 = (rows.getD k []).getD i 0 by rw [Int.neg_mul]; omega]
      exact same_mod (hrow.lo i) (hrow.hi i)
    rwa [e] at q
  | @perm rows rows' hd hpm ih =>
    obtain ⟨h1, h2⟩ := hd.rows hp
    exact fun v hv => (same_perm p0 h2 hpm.symm v).mp (ih v hv)
/-! ### how many -/
theorem redL_length (p : Int) (c : List (List Int)) : (redL p c).length = (redF p c).length := (downR_perm _).length_eq
theorem dim_app (p : Int) (A B : List (List Int)) : (redL p (A ++ B)).length ≤ (redL p A).length + B.length := by
  rw [redL_length, redL_length]
  unfold redF
  rw [List.foldl_append]
  exact redF_len p B _
theorem dim_same (hp : GoodP p) {A B : List (List Int)} (hA : ∀ r ∈ A, IsRow p n r) (hB : ∀ r ∈ B, IsRow p n r) (h : SameSp p n A B) : (redL p A).length = (redL p B).length := by rw [redL_eq hp hA hB h]
theorem drawn_units (hp : GoodP p) {rows : List (List Int)} (h : Drawn p n rows) : redL p rows = unitsL n :=
  code_eq hp (units_ok hp.two n) (h.rows hp).2 fun v => ⟨fun q => units_all hp (q.row hp.pos), fun q => h.all hp v (q.row hp.pos)⟩
theorem take_dim (hp : GoodP p) {rows : List (List Int)} (h : Drawn p n rows) {k : Nat} (hk : k ≤ n) : (redL p (rows.take k)).length = k := by
  have h1 := redL_len p (rows.take k)
  have h2 := dim_app p (rows.take k) (rows.drop k)
  rw [List.take_append_drop, drawn_units hp h, units_len, List.length_drop, (h.rows hp).1] at h2
  rw [List.length_take, (h.rows hp).1] at h1
  omega
end
end Cn
/-! The codes between two codes. -/
namespace Cn
section
variable {p : Int} {n : Nat}
theorem with_in2 (p0 : 0 < p) {rows : List (List Int)} (hr : ∀ r ∈ rows, IsRow p n r) : ∀ (base : List (List Int)) {v : List Int}, (∀ s ∈ base, Span p n rows s) → IsRow p n v → (Span p n rows (withR p v base) ↔ Span p n rows v)
  | [], _, _, _ => Iff.rfl
  | s :: base, v, hb, hv => by
    have h1 := hb s List.mem_cons_self
    have h2 := (h1.row p0).len
    have ih := with_in2 p0 hr base (v := stepW p v s) (fun r m => hb r (List.mem_cons_of_mem _ m)) (stepW_row p0 hv.len)
    show Span p n rows (withR p (stepW p v s) base) ↔ _
    rw [ih]
    constructor
    · intro h
      rw [← step_back hv h2]
      exact h.comb p0 hr h1 _
    · intro h
      rw [← plus_step (by rw [hv.len, h2])]
      exact h.comb p0 hr h1 _
/-- the rests of a span -/
theorem map_span (hp : GoodP p) {low B : List (List Int)} (hl : Red p n low) (hB : ∀ r ∈ B, IsRow p n r) {v : List Int} : Span p n (B.map fun r => withR p r low) v ↔ ∃ u, Span p n B u ∧ v = withR p u low := by
  have p0 := hp.pos
  have ll : ∀ s ∈ low, s.length = n := fun s m => (hl.row s m).len
  constructor
  · intro h
    induction h with
    | zero => exact ⟨zeroR n, .zero, (zero_piv low p0 ll).symm⟩
    | @plus v r t hv hm ih =>
      obtain ⟨u, hu, rfl⟩ := ih
      obtain ⟨b, hb, rfl⟩ := List.mem_map.mp hm
      exact ⟨plusR p u t b, .plus t hu hb, (with_lin p0 low ll (hu.row p0).len (hB b hb).len).symm⟩
  · rintro ⟨u, hu, rfl⟩
    induction hu with
    | zero =>
      rw [zero_piv low p0 ll]
      exact .zero
    | @plus v r t hv hm ih =>
      rw [with_lin p0 low ll (hv.row p0).len (hB r hm).len]
      exact .plus t ih (List.mem_map.mpr ⟨r, hm, rfl⟩)
theorem map_rows (p0 : 0 < p) {low B : List (List Int)} (hB : ∀ r ∈ B, IsRow p n r) : ∀ r ∈ B.map (fun r => withR p r low), IsRow p n r := fun r m => by
  obtain ⟨s, hs, rfl⟩ := List.mem_map.mp m
  exact withR_row p0 _ (hB s hs)
theorem app_rows {A B : List (List Int)} (hA : ∀ r ∈ A, IsRow p n r) (hB : ∀ r ∈ B, IsRow p n r) : ∀ r ∈ A ++ B, IsRow p n r := fun r m => (List.mem_append.mp m).elim (hA r) (hB r)
theorem one_row {x : List Int} (h : IsRow p n x) : ∀ r ∈ [x], IsRow p n r := fun r m => by
  rw [List.mem_singleton.mp m]
  exact h
/-- rows A and two more, none needless -/
structure Tri (p : Int) (n : Nat) (A : List (List Int)) (x y : List Int) : Prop where
  rA : ∀ r ∈ A, IsRow p n r
  rx : IsRow p n x
  ry : IsRow p n y
  len : (redL p (A ++ [x, y])).length = A.length + 2
section
variable {A : List (List Int)} {x y : List Int}
theorem Tri.two (t : Tri p n A x y) : ∀ r ∈ [x, y], IsRow p n r := fun r m => by
  simp only [List.mem_cons, List.not_mem_nil, or_false] at m
  rcases m with rfl | rfl
  · exact t.rx
  · exact t.ry
theorem Tri.all (t : Tri p n A x y) : ∀ r ∈ A ++ [x, y], IsRow p n r := app_rows t.rA t.two
theorem Tri.lowLen (t : Tri p n A x y) : (redL p A).length = A.length := by
  have h1 := redL_len p A
  have h2 := dim_app p A [x, y]
  rw [t.len] at h2
  simp only [List.length_cons, List.length_nil] at h2
  omega
theorem Tri.low (hp : GoodP p) (t : Tri p n A x y) : CodeOk p n (redL p A) := redL_ok hp t.rA
theorem Tri.high (hp : GoodP p) (t : Tri p n A x y) : CodeOk p n (redL p (A ++ [x, y])) := redL_ok hp t.all
theorem Tri.le (hp : GoodP p) (t : Tri p n A x y) {v : List Int} (h : Span p n (redL p A) v) : Span p n (redL p (A ++ [x, y])) v := by
  rw [redL_span hp t.rA] at h
  rw [redL_span hp t.all]
  exact h.more hp.pos t.all fun r m => List.mem_append_left _ m
/-- the span of the rests -/
theorem Tri.base (hp : GoodP p) (t : Tri p n A x y) {v : List Int} : Span p n (baseL p (redL p A) (redL p (A ++ [x, y]))) v ↔ ∃ u, Span p n (redL p (A ++ [x, y])) u ∧ v = withR p u (redL p A) := by
  unfold baseL
  rw [redL_span hp (map_rows hp.pos (t.high hp).red.row), map_span hp (t.low hp).red (t.high hp).red.row]
theorem Tri.brow (hp : GoodP p) (t : Tri p n A x y) : CodeOk p n (baseL p (redL p A) (redL p (A ++ [x, y]))) := redL_ok hp (map_rows hp.pos (t.high hp).red.row)
theorem Tri.span (hp : GoodP p) (t : Tri p n A x y) : SameSp p n (redL p A ++ baseL p (redL p A) (redL p (A ++ [x, y]))) (redL p (A ++ [x, y])) := by
  have p0 := hp.pos
  have hl := (t.low hp).red.row
  have hh := (t.high hp).red.row
  have hb := (t.brow hp).red.row
  refine same_of p0 (app_rows hl hb) hh (fun r m => ?_) fun r m => ?_
  · rcases List.mem_append.mp m with m | m
    · exact t.le hp (Span.mem p0 hl m)
    · obtain ⟨u, hu, rfl⟩ := (t.base hp).mp (Span.mem p0 hb m)
      exact (with_in2 p0 hh _ (fun s ms => t.le hp (Span.mem p0 hl ms)) (hu.row p0)).mpr hu
  · refine (with_in2 p0 (app_rows hl hb) (redL p A) (fun s ms => Span.mem p0 (app_rows hl hb) (List.mem_append_left _ ms)) (hh r m)).mp ?_
    exact ((t.base hp).mpr ⟨r, Span.mem p0 hh m, rfl⟩).more p0 (app_rows hl hb) fun s ms => List.mem_append_right _ ms
theorem redL_self (hp : GoodP p) {c : List (List Int)} (hc : CodeOk p n c) : redL p c = c := code_eq hp hc hc.red.row fun _ => Iff.rfl
theorem Tri.blen (hp : GoodP p) (t : Tri p n A x y) : (baseL p (redL p A) (redL p (A ++ [x, y]))).length = 2 := by
  have p0 := hp.pos
  have hl := (t.low hp).red.row
  have hh := (t.high hp).red.row
  have hb := (t.brow hp).red.row
  have h1 := dim_same hp (app_rows hl hb) hh (t.span hp)
  have h2 := dim_app p (redL p A) (baseL p (redL p A) (redL p (A ++ [x, y])))
  have h3 := redL_len p (redL p A)
  rw [t.lowLen] at h3
  rw [redL_self hp (t.high hp), t.len] at h1
  -- at most two
  have h4 : SameSp p n ((redL p (A ++ [x, y])).map fun r => withR p r (redL p A)) [withR p x (redL p A), withR p y (redL p A)] := by
    have r2 : ∀ r ∈ [withR p x (redL p A), withR p y (redL p A)], IsRow p n r := map_rows (B := [x, y]) p0 t.two
    intro v
    rw [map_span hp (t.low hp).red hh]
    constructor
    · rintro ⟨u, hu, rfl⟩
      have hu2 := (map_span hp (t.low hp).red t.all).mpr ⟨u, (redL_span hp t.all u).mp hu, rfl⟩
      refine hu2.trans p0 r2 fun r m => ?_
      rw [List.map_append] at m
      rcases List.mem_append.mp m with m | m
      · obtain ⟨a, ha, rfl⟩ := List.mem_map.mp m
        rw [with_span hp (t.low hp).red ((redL_span hp t.rA a).mpr (Span.mem p0 t.rA ha))]
        exact .zero
      · exact Span.mem p0 r2 m
    · intro h
      have h5 : Span p n (([x, y] : List (List Int)).map fun r => withR p r (redL p A)) v := h
      obtain ⟨u, hu, rfl⟩ := (map_span hp (t.low hp).red t.two).mp h5
      exact ⟨u, (redL_span hp t.all u).mpr (hu.more p0 t.all fun r m => List.mem_append_right _ m), rfl⟩
  have h5 : (baseL p (redL p A) (redL p (A ++ [x, y]))).length ≤ 2 := by
    unfold baseL
    rw [redL_eq hp (map_rows p0 hh) (map_rows (B := [x, y]) p0 t.two) h4]
    exact redL_len p _
  omega
end
end
end Cn
/-! The codes between two codes, by the rows of the greater one. -/
namespace Cn
section
variable {p : Int} {n : Nat}
theorem two_get {b0 b1 : List Int} {a b : Int} (h0 : b0.length = n) (h1 : b1.length = n) (i : Nat) : (combR p n [a, b] [b0, b1]).getD i 0 = (a * b0.getD i 0 + b * b1.getD i 0) % p := by
  show (addR p (addR p (zeroR n) (scaR p a b0)) (scaR p b b1)).getD i 0 = _
  rw [add_get (by rw [add_len, zero_len, sca_len, h1]), add_get (by rw [zero_len, sca_len, h0]), sca_get, sca_get, zero_get, Int.zero_add, Int.emod_emod, ← Int.add_emod]
theorem two_len {b0 b1 : List Int} {a b : Int} : (combR p n [a, b] [b0, b1]).length = n := by
  show (addR p (addR p (zeroR n) (scaR p a b0)) (scaR p b b1)).length = _
  rw [add_len, add_len, zero_len]
theorem two_rowp (p0 : 0 < p) {b0 b1 : List Int} {a b : Int} : IsRow p n (combR p n [a, b] [b0, b1]) := by
  show IsRow p n (addR p (addR p (zeroR n) (scaR p a b0)) (scaR p b b1))
  exact isrow_add p0 (by rw [add_len, zero_len])
theorem two_span (p0 : 0 < p) {b0 b1 : List Int} {a b : Int} (h0 : b0.length = n) (h1 : b1.length = n) : Span p n [b0, b1] (combR p n [a, b] [b0, b1]) := by
  have h : Span p n [b0, b1] (plusR p (plusR p (zeroR n) a b0) b b1) := .plus b (.plus a .zero (by simp)) (by simp)
  have e : combR p n [a, b] [b0, b1] = plusR p (plusR p (zeroR n) a b0) b b1 := by
    refine list_ext (by rw [two_len, plus_len, plus_len, zero_len]) fun i => ?_
    rw [two_get h0 h1, plus_get (by rw [plus_len, zero_len, h1]), plus_get (by rw [zero_len, h0]), zero_get, Int.zero_add, mod_addl]
  rw [e]
  exact h
/-- the rows of a code of two rows, by their entries at the pivots -/
theorem two_of (hp : GoodP p) {b0 b1 : List Int} (h : CodeOk p n [b0, b1]) {u : List Int} (hu : Span p n [b0, b1] u) : u = combR p n [u.getD (piv b0) 0, u.getD (piv b1) 0] [b0, b1] := by
  have p0 := hp.pos
  have r0 := h.red.row b0 (by simp)
  have r1 := h.red.row b1 (by simp)
  have ho := h.red.head b1 (by simp)
  have hr := hu.row p0
  have h1 : stepW p (stepW p u b0) b1 = zeroR n := with_span hp h.red hu
  have hr1 : IsRow p n (stepW p u b0) := stepW_row p0 hr.len
  have e1 := step_back hr1 r1.len
  rw [h1, stepW_same hr r0.len ho.1] at e1
  have e2 := step_back hr r0.len
  rw [← e1] at e2
  refine list_ext (by rw [two_len, hr.len]) fun i => ?_
  rw [two_get r0.len r1.len]
  conv => lhs; rw [← e2]
  rw [plus_get (by rw [plus_len, zero_len, r0.len]), plus_get (by rw [zero_len, r1.len]), zero_get, Int.zero_add, mod_addl, Int.add_comm]
theorem span_one (p0 : 0 < p) {r v : List Int} (hr : r.length = n) (h : Span p n [r] v) : ∃ k, v = scaR p k r := by
  induction h with
  | zero =>
    refine ⟨0, list_ext (by rw [zero_len, sca_len, hr]) fun i => ?_⟩
    rw [zero_get, sca_get, Int.zero_mul, Int.zero_emod]
  | @plus v s t hv hm ih =>
    obtain ⟨k, rfl⟩ := ih
    rw [List.mem_singleton.mp hm]
    refine ⟨k + t, list_ext (by rw [plus_len, sca_len, sca_len]) fun i => ?_⟩
    rw [plus_get (by rw [sca_len]), sca_get, sca_get, mod_addl, Int.add_mul]
/-- a row and its multiples -/
theorem same_sca (hp : GoodP p) {low : List (List Int)} (hl : ∀ r ∈ low, IsRow p n r) {u : List Int} (hu : IsRow p n u) {k : Int} (k0 : 0 < k) (k1 : k < p) : SameSp p n (low ++ [scaR p k u]) (low ++ [u]) := by
  have p0 := hp.pos
  have hs := isrow_sca p0 k hu.len
  have h1 := app_rows hl (one_row hu)
  have h2 := app_rows hl (one_row hs)
  refine same_of p0 h2 h1 (fun r m => ?_) fun r m => ?_
  · rcases List.mem_append.mp m with m | m
    · exact Span.mem p0 h1 (List.mem_append_left _ m)
    · rw [List.mem_singleton.mp m]
      exact (Span.mem p0 h1 (by simp)).sca p0 h1 k
  · rcases List.mem_append.mp m with m | m
    · exact Span.mem p0 h2 (List.mem_append_left _ m)
    · rw [List.mem_singleton.mp m]
      have q := (Span.mem p0 h2 (r := scaR p k u) (by simp)).sca p0 h2 (invN p k)
      rwa [sca_undo hp hu k0 k1] at q
/-- a row and its rest -/
theorem same_rest (hp : GoodP p) {low : List (List Int)} (hl : Red p n low) {v : List Int} (hv : IsRow p n v) : SameSp p n (low ++ [withR p v low]) (low ++ [v]) := by
  have p0 := hp.pos
  have h1 := app_rows hl.row (one_row hv)
  have h2 := app_rows hl.row (one_row (withR_row p0 low hv))
  refine same_of p0 h2 h1 (fun r m => ?_) fun r m => ?_
  · rcases List.mem_append.mp m with m | m
    · exact Span.mem p0 h1 (List.mem_append_left _ m)
    · rw [List.mem_singleton.mp m]
      exact (with_in2 p0 h1 low (fun s ms => Span.mem p0 h1 (List.mem_append_left _ ms)) hv).mpr (Span.mem p0 h1 (by simp))
  · rcases List.mem_append.mp m with m | m
    · exact Span.mem p0 h2 (List.mem_append_left _ m)
    · rw [List.mem_singleton.mp m]
      exact (with_in2 p0 h2 low (fun s ms => Span.mem p0 h2 (List.mem_append_left _ ms)) hv).mp (Span.mem p0 h2 (by simp))
theorem dim_new (hp : GoodP p) {A : List (List Int)} (hA : ∀ r ∈ A, IsRow p n r) {row : List Int} (hr : IsRow p n row) (h : ¬ Span p n A row) : (redL p (A ++ [row])).length = (redL p A).length + 1 := by
  rw [redL_length, redL_length]
  have e : redF p (A ++ [row]) = stepR p (redF p A) row := by
    unfold redF
    rw [List.foldl_append]
    rfl
  rw [e]
  have hd := redF_red hp hA
  cases hz : pivO (withR p row (redF p A)) with
  | none =>
    refine absurd ((redF_span hp hA row).mp ((span_iff hp hd hr).mp (eq_zero (withR_row hp.pos _ hr) hz))) h
  | some c =>
    rw [stepR_some hz, List.length_append, List.length_map, List.length_singleton]
/-- a rest's rest -/
theorem rest_rest (hp : GoodP p) {low : List (List Int)} (hl : Red p n low) {v : List Int} (hv : IsRow p n v) : withR p (withR p v low) low = withR p v low := by
  have hw := withR_row hp.pos low hv
  refine list_ext (by rw [(withR_row hp.pos low hw).len, hw.len]) fun i => ?_
  exact with_col hp.pos hl hw fun s m => .inl (withR_zero hp.pos hl hv m)
section
variable {A : List (List Int)} {x y : List Int}
def lowT (p : Int) (A : List (List Int)) : List (List Int) := redL p A
def highT (p : Int) (A : List (List Int)) (x y : List Int) : List (List Int) := redL p (A ++ [x, y])
/-- the t-th row of the rests -/
def lnT (p : Int) (n : Nat) (A : List (List Int)) (x y : List Int) (t : Nat) : List Int := combR p n (lineR p (t : Nat)) (baseL p (redL p A) (redL p (A ++ [x, y])))
theorem mid_eq (t : Nat) : midC p n (redL p A) (redL p (A ++ [x, y])) t = redL p (redL p A ++ [lnT p n A x y t]) := rfl
theorem line_eq (p t : Int) : lineR p t = [if t < p then 1 else 0, if t < p then t else 1] := by
  unfold lineR
  split <;> rfl
theorem Tri.pair (hp : GoodP p) (t : Tri p n A x y) : ∃ b0 b1, baseL p (redL p A) (redL p (A ++ [x, y])) = [b0, b1] := by
  have h := t.blen hp
  match baseL p (redL p A) (redL p (A ++ [x, y])), h with
  | [b0, b1], _ => exact ⟨b0, b1, rfl⟩
/-- what is known of the rows of the rests -/
theorem Tri.ln (hp : GoodP p) (t : Tri p n A x y) {s : Nat} : IsRow p n (lnT p n A x y s) ∧ Span p n (redL p (A ++ [x, y])) (lnT p n A x y s) ∧ withR p (lnT p n A x y s) (redL p A) = lnT p n A x y s := by
  have p0 := hp.pos
  obtain ⟨b0, b1, e⟩ := t.pair hp
  have hb := t.brow hp
  have r0 := hb.red.row b0 (by rw [e]; simp)
  have r1 := hb.red.row b1 (by rw [e]; simp)
  have h1 : Span p n (baseL p (redL p A) (redL p (A ++ [x, y]))) (lnT p n A x y s) := by
    unfold lnT
    rw [e, line_eq]
    exact two_span p0 r0.len r1.len
  obtain ⟨u, hu, e2⟩ := (t.base hp).mp h1
  refine ⟨h1.row p0, ?_, ?_⟩
  · exact ((t.span hp) _).mp (h1.more p0 (app_rows (t.low hp).red.row hb.red.row) fun r m => List.mem_append_right _ m)
  · rw [e2]
    exact rest_rest hp (t.low hp).red (hu.row p0)
theorem Tri.coord (hp : GoodP p) (t : Tri p n A x y) : ∃ c0 c1 : Nat, ∀ s : Nat, (s : Int) ≤ p → (lnT p n A x y s).getD c0 0 = (if (s : Int) < p then 1 else 0) ∧ (lnT p n A x y s).getD c1 0 = (if (s : Int) < p then (s : Int) else 1) := by
  have p2 := hp.two
  obtain ⟨b0, b1, e⟩ := t.pair hp
  have hb := t.brow hp
  rw [e] at hb
  have r0 := hb.red.row b0 (by simp)
  have r1 := hb.red.row b1 (by simp)
  have ho := hb.red.head b1 (by simp)
  have o0 := (hb.red.one b0 (by simp)).2
  have o1 := (hb.red.one b1 (by simp)).2
  refine ⟨piv b0, piv b1, fun s hs => ?_⟩
  unfold lnT
  rw [e, line_eq, two_get r0.len r1.len, two_get r0.len r1.len, o0, o1, ho.1, ho.2, Int.mul_one, Int.mul_zero, Int.mul_one, Int.mul_zero, Int.add_zero, Int.zero_add]
  refine ⟨same_mod ?_ ?_, same_mod ?_ ?_⟩ <;> split <;> omega
theorem Tri.ln_out (hp : GoodP p) (t : Tri p n A x y) {s : Nat} (hs : (s : Int) ≤ p) : ¬ Span p n (redL p A) (lnT p n A x y s) := by
  intro h
  have h1 := with_span hp (t.low hp).red h
  rw [(t.ln hp).2.2] at h1
  obtain ⟨c0, c1, hc⟩ := t.coord hp
  obtain ⟨q0, q1⟩ := hc s hs
  rw [h1, zero_get] at q0 q1
  by_cases hlt : (s : Int) < p
  · rw [if_pos hlt] at q0
    omega
  · rw [if_neg hlt] at q1
    omega
theorem Tri.mid_inj (hp : GoodP p) (t : Tri p n A x y) {s r : Nat} (hs : (s : Int) ≤ p) (hr : (r : Int) ≤ p) (h : midC p n (redL p A) (redL p (A ++ [x, y])) s = midC p n (redL p A) (redL p (A ++ [x, y])) r) : s = r := by
  have p0 := hp.pos
  have p2 := hp.two
  have hl := (t.low hp).red
  rw [mid_eq, mid_eq] at h
  have l1 := t.ln hp (s := s)
  have l2 := t.ln hp (s := r)
  have rs := app_rows hl.row (one_row l1.1)
  have rr := app_rows hl.row (one_row l2.1)
  have h1 := (redL_same hp rs rr h _).mp (Span.mem p0 rs (r := lnT p n A x y s) (by simp))
  have h2 := (map_span hp hl rr).mpr ⟨_, h1, l1.2.2.symm⟩
  have h3 : Span p n [lnT p n A x y r] (lnT p n A x y s) := by
    refine h2.trans p0 (one_row l2.1) fun v m => ?_
    rw [List.map_append] at m
    rcases List.mem_append.mp m with m | m
    · obtain ⟨a, ha, rfl⟩ := List.mem_map.mp m
      rw [with_span hp hl (Span.mem p0 hl.row ha)]
      exact .zero
    · simp only [List.map_cons, List.map_nil, List.mem_singleton] at m
      rw [m, l2.2.2]
      exact Span.mem p0 (one_row l2.1) (by simp)
  obtain ⟨k, hk⟩ := span_one p0 l2.1.len h3
  obtain ⟨c0, c1, hc⟩ := t.coord hp
  obtain ⟨q0, q1⟩ := hc s hs
  obtain ⟨w0, w1⟩ := hc r hr
  rw [hk, sca_get, w0] at q0
  rw [hk, sca_get, w1] at q1
  by_cases h1 : (s : Int) < p
  · rw [if_pos h1] at q0 q1
    by_cases h2 : (r : Int) < p
    · rw [if_pos h2] at q0 q1
      rw [Int.mul_one] at q0
      rw [Int.mul_emod, q0, Int.one_mul, Int.emod_emod, same_mod (by omega) h2] at q1
      omega
    · rw [if_neg h2, Int.mul_zero, Int.zero_emod] at q0
      omega
  · rw [if_neg h1] at q0 q1
    by_cases h2 : (r : Int) < p
    · rw [if_pos h2] at q0 q1
      rw [Int.mul_one] at q0
      rw [Int.mul_emod, q0, Int.zero_mul, Int.zero_emod] at q1
      omega
    · omega
/-- each code between is one of those -/
theorem Tri.mid_of (hp : GoodP p) (t : Tri p n A x y) {row : List Int} (h1 : Span p n (redL p (A ++ [x, y])) row) (h2 : ¬ Span p n (redL p A) row) : ∃ s : Nat, (s : Int) ≤ p ∧ redL p (redL p A ++ [row]) = midC p n (redL p A) (redL p (A ++ [x, y])) s := by
  have p0 := hp.pos
  have p2 := hp.two
  have hl := (t.low hp).red
  have hrow := h1.row p0
  have urow := withR_row p0 (redL p A) hrow
  have hu := (t.base hp).mpr ⟨row, h1, rfl⟩
  obtain ⟨b0, b1, e⟩ := t.pair hp
  have hb := t.brow hp
  rw [e] at hu hb
  have r0 := hb.red.row b0 (by simp)
  have r1 := hb.red.row b1 (by simp)
  have hu2 := two_of hp hb hu
  have key : ∀ (k : Int) (s : Nat), 0 < k → k < p → scaR p k (withR p row (redL p A)) = lnT p n A x y s → redL p (redL p A ++ [row]) = midC p n (redL p A) (redL p (A ++ [x, y])) s := fun k s k0 k1 hk => by
    rw [mid_eq, ← hk]
    have hs := isrow_sca p0 k urow.len
    refine redL_eq hp (app_rows hl.row (one_row hrow)) (app_rows hl.row (one_row hs)) fun v => ?_
    rw [same_sca hp hl.row urow k0 k1 v, same_rest hp hl hrow v]
  have x0 := urow.lo (piv b0)
  have x1 := urow.hi (piv b0)
  have y0 := urow.lo (piv b1)
  have y1 := urow.hi (piv b1)
  generalize hx : (withR p row (redL p A)).getD (piv b0) 0 = X at *
  generalize hy : (withR p row (redL p A)).getD (piv b1) 0 = Y at *
  have ug : ∀ i, (withR p row (redL p A)).getD i 0 = (X * b0.getD i 0 + Y * b1.getD i 0) % p := fun i => by
    rw [hu2, two_get r0.len r1.len]
  by_cases hX : X = 0
  · by_cases hY : Y = 0
    · refine absurd ((span_iff hp hl hrow).mp (list_ext (by rw [urow.len, zero_len]) fun i => ?_)) h2
      rw [ug, hX, hY, Int.zero_mul, Int.zero_mul, zero_get]
      rfl
    · have iv := (hp.inv (by omega : 0 < Y) y1).one
      obtain ⟨i0, i1⟩ := inv_bd hp (by omega : 0 < Y) y1
      refine ⟨p.toNat, by omega, key _ _ i0 i1 (list_ext ?_ fun i => ?_)⟩
      · rw [sca_len, urow.len, (t.ln hp).1.len]
      · unfold lnT
        rw [e, line_eq, two_get r0.len r1.len, sca_get, ug, hX, mod_mul, if_neg (by omega), if_neg (by omega), Int.zero_mul, Int.zero_add, Int.zero_add, Int.one_mul, ← Int.mul_assoc, Int.mul_comm _ Y, Int.mul_emod, iv, Int.one_mul, Int.emod_emod]
  · have iv := (hp.inv (by omega : 0 < X) x1).one
    obtain ⟨i0, i1⟩ := inv_bd hp (by omega : 0 < X) x1
    have s0 := Int.emod_nonneg ((invN p X : Nat) * Y) (show p ≠ 0 by omega)
    have s1 := Int.emod_lt_of_pos ((invN p X : Nat) * Y) p0
    refine ⟨(((invN p X : Nat) * Y) % p).toNat, by omega, key _ _ i0 i1 (list_ext ?_ fun i => ?_)⟩
    · rw [sca_len, urow.len, (t.ln hp).1.len]
    · unfold lnT
      rw [e, line_eq, two_get r0.len r1.len, sca_get, ug, mod_mul, Int.toNat_of_nonneg s0, if_pos s1, if_pos s1, Int.one_mul]
      have q1 := Int.emod_def (X * (invN p X : Nat)) p
      rw [iv] at q1
      have q2 := Int.emod_def ((invN p X : Nat) * Y) p
      rw [q2]
      generalize ((invN p X : Nat) : Int) = I at *
      generalize X * I / p = Z1 at *
      generalize I * Y / p = Z2 at *
      refine emod_to (Z1 * b0.getD i 0 + Z2 * b1.getD i 0) ?_
      have q3 : X * I = 1 + p * Z1 := by omega
      have q4 : I * (X * b0.getD i 0 + Y * b1.getD i 0) = (X * I) * b0.getD i 0 + I * Y * b1.getD i 0 := by grind
      rw [q4, q3]
      grind
/-- the codes between -/
def midL (p : Int) (n : Nat) (low high : List (List Int)) : List (List (List Int)) := (List.range (p.toNat + 1)).map (midC p n low high)
theorem Tri.nodup (hp : GoodP p) (t : Tri p n A x y) : (midL p n (redL p A) (redL p (A ++ [x, y]))).Nodup := by
  have p0 := hp.pos
  unfold midL
  refine List.pairwise_map.mpr (List.Pairwise.imp_of_mem ?_ (List.pairwise_lt_range (n := p.toNat + 1)))
  intro a b ma mb hab h
  have ha := List.mem_range.mp ma
  have hb := List.mem_range.mp mb
  have := t.mid_inj hp (by omega) (by omega) h
  omega
theorem Tri.mem (hp : GoodP p) (t : Tri p n A x y) {c : List (List Int)} : c ∈ midL p n (redL p A) (redL p (A ++ [x, y])) ↔ ∃ row, Span p n (redL p (A ++ [x, y])) row ∧ ¬ Span p n (redL p A) row ∧ c = redL p (redL p A ++ [row]) := by
  have p0 := hp.pos
  unfold midL
  constructor
  · intro h
    obtain ⟨s, hs, rfl⟩ := List.mem_map.mp h
    have hs := List.mem_range.mp hs
    exact ⟨_, (t.ln hp).2.1, t.ln_out hp (by omega), mid_eq s⟩
  · rintro ⟨row, h1, h2, rfl⟩
    obtain ⟨s, hs, e⟩ := t.mid_of hp h1 h2
    exact List.mem_map.mpr ⟨s, List.mem_range.mpr (by omega), e.symm⟩
theorem Tri.btw (hp : GoodP p) (t : Tri p n A x y) : BtwOk p n (redL p A) (redL p (A ++ [x, y])) := by
  have p0 := hp.pos
  refine ⟨t.low hp, t.high hp, ?_, t.blen hp, fun s hs h => ?_⟩
  · have h1 := (t.high hp).len
    rw [t.len] at h1
    rw [t.lowLen]
    omega
  · rw [mid_eq] at h
    have rs := app_rows (t.low hp).red.row (one_row (t.ln hp (s := s)).1)
    have h1 := (redL_span hp rs (lnT p n A x y s)).mpr (Span.mem p0 rs (by simp))
    rw [h] at h1
    exact t.ln_out hp hs (h1.more p0 (t.low hp).red.row fun r m => by simp at m)
/-- what is known of a code between -/
theorem Tri.of_mem (hp : GoodP p) (t : Tri p n A x y) {c : List (List Int)} (h : c ∈ midL p n (redL p A) (redL p (A ++ [x, y]))) : CodeOk p n c ∧ c.length = A.length + 1 ∧ (∀ v, Span p n (redL p A) v → Span p n c v) ∧ ∀ v, Span p n c v → Span p n (redL p (A ++ [x, y])) v := by
  have p0 := hp.pos
  obtain ⟨row, h1, h2, rfl⟩ := (t.mem hp).mp h
  have hl := (t.low hp).red
  have hr := app_rows hl.row (one_row (h1.row p0))
  refine ⟨redL_ok hp hr, ?_, fun v hv => ?_, fun v hv => ?_⟩
  · rw [dim_new hp hl.row (h1.row p0) h2, redL_self hp (t.low hp), t.lowLen]
  · rw [redL_span hp hr]
    exact hv.more p0 hr fun r m => List.mem_append_left _ m
  · rw [redL_span hp hr] at hv
    refine hv.trans p0 (t.high hp).red.row fun r m => ?_
    rcases List.mem_append.mp m with m | m
    · exact t.le hp (Span.mem p0 hl.row m)
    · rw [List.mem_singleton.mp m]
      exact h1
end
end
end Cn
/-! Drawn nests. -/
namespace Cn
section
variable {p : Int} {n : Nat} {rows : List (List Int)}
theorem take_rows (hr : ∀ r ∈ rows, IsRow p n r) (k : Nat) : ∀ r ∈ rows.take k, IsRow p n r := fun r m => hr r (List.mem_of_mem_take m)
theorem take_two {k : Nat} (h : k + 1 < rows.length) : rows.take (k + 2) = rows.take k ++ [rows.getD k [], rows.getD (k + 1) []] := by
  have e1 : rows[k]? = some (rows.getD k []) := by
    rw [List.getD_eq_getElem?_getD, List.getElem?_eq_getElem (by omega)]
    rfl
  have e2 : rows[k + 1]? = some (rows.getD (k + 1) []) := by
    rw [List.getD_eq_getElem?_getD, List.getElem?_eq_getElem h]
    rfl
  rw [show k + 2 = k + 1 + 1 from rfl, List.take_add_one, List.take_add_one, e1, e2, List.append_assoc]
  rfl
theorem take_one {k : Nat} (h : k < rows.length) : rows.take (k + 1) = rows.take k ++ [rows.getD k []] := by
  have e1 : rows[k]? = some (rows.getD k []) := by
    rw [List.getD_eq_getElem?_getD, List.getElem?_eq_getElem (by omega)]
    rfl
  rw [List.take_add_one, e1]
  rfl
theorem code_drawn (hp : GoodP p) (h : Drawn p n rows) {i : Nat} (hi : i ≤ n) : codeAt n (codesL p rows) i = redL p (rows.take i) := by
  obtain ⟨h1, h2⟩ := h.rows hp
  unfold codeAt
  by_cases h0 : i = 0
  · rw [if_pos h0, h0, List.take_zero]
    exact (List.length_eq_zero_iff.mp (Nat.le_zero.mp (redL_len p []))).symm
  · rw [if_neg h0]
    by_cases hn : i = n
    · rw [if_pos hn, hn, List.take_of_length_le (by omega), drawn_units hp h]
    · rw [if_neg hn]
      unfold codesL
      rw [List.getD_eq_getElem?_getD, List.getElem?_map, List.getElem?_range (by omega)]
      show redL p (rows.take (i - 1 + 1)) = _
      rw [show i - 1 + 1 = i by omega]
theorem codes_get {k : Nat} {c : List (List Int)} (h : (codesL p rows)[k]? = some c) : k < rows.length - 1 ∧ c = redL p (rows.take (k + 1)) := by
  unfold codesL at h
  rw [List.getElem?_map] at h
  by_cases hk : k < rows.length - 1
  · rw [List.getElem?_range hk] at h
    exact ⟨hk, (Option.some.inj h).symm⟩
  · rw [List.getElem?_eq_none (by rw [List.length_range]; omega)] at h
    cases h
theorem take_le (hp : GoodP p) (hr : ∀ r ∈ rows, IsRow p n r) {i j : Nat} (h : i ≤ j) {v : List Int} (hv : Span p n (redL p (rows.take i)) v) : Span p n (redL p (rows.take j)) v := by
  rw [redL_span hp (take_rows hr i)] at hv
  rw [redL_span hp (take_rows hr j)]
  refine hv.more hp.pos (take_rows hr j) fun r m => ?_
  have e : rows.take i = (rows.take j).take i := by rw [List.take_take, Nat.min_eq_left h]
  rw [e] at m
  exact List.mem_of_mem_take m
theorem drawn_nest (hp : GoodP p) (h : Drawn p n rows) : NestOk p n (codesL p rows) := by
  obtain ⟨h1, h2⟩ := h.rows hp
  refine ⟨by unfold codesL; rw [List.length_map, List.length_range, h1], fun k c hk => ?_, fun k c d hk hd => ?_⟩
  · obtain ⟨q, rfl⟩ := codes_get hk
    exact ⟨redL_ok hp (take_rows h2 _), take_dim hp h (by omega)⟩
  · obtain ⟨q, rfl⟩ := codes_get hk
    obtain ⟨q2, rfl⟩ := codes_get hd
    have hc := redL_ok hp (take_rows h2 (k + 1))
    exact all_in hp (redL_ok hp (take_rows h2 _)) hc.red.row fun r m => take_le hp h2 (by omega) (Span.mem hp.pos hc.red.row m)
/-- three codes one within the other -/
theorem drawn_tri (hp : GoodP p) (h : Drawn p n rows) {k : Nat} (hk : k + 1 < n) : Tri p n (rows.take k) (rows.getD k []) (rows.getD (k + 1) []) := by
  obtain ⟨h1, h2⟩ := h.rows hp
  refine ⟨take_rows h2 k, h2 _ (get_mem (by omega)), h2 _ (get_mem (by omega)), ?_⟩
  rw [← take_two (by omega), take_dim hp h (by omega), List.length_take]
  omega
theorem drawn_out (hp : GoodP p) (h : Drawn p n rows) {k : Nat} (hk : k < n) : ¬ Span p n (rows.take k) (rows.getD k []) := by
  obtain ⟨h1, h2⟩ := h.rows hp
  intro q
  have hx := h2 _ (get_mem (rows := rows) (k := k) (by omega))
  have e : SameSp p n (rows.take (k + 1)) (rows.take k) := by
    rw [take_one (by omega)]
    refine same_of hp.pos (app_rows (take_rows h2 k) (one_row hx)) (take_rows h2 k) (fun r m => ?_) fun r m => Span.mem hp.pos (app_rows (take_rows h2 k) (one_row hx)) (List.mem_append_left _ m)
    rcases List.mem_append.mp m with m | m
    · exact Span.mem hp.pos (take_rows h2 k) m
    · rw [List.mem_singleton.mp m]
      exact q
  have e2 := dim_same hp (take_rows h2 _) (take_rows h2 _) e
  rw [take_dim hp h (by omega), take_dim hp h (by omega)] at e2
  omega
/-- reduced rows and one more -/
theorem same_red (hp : GoodP p) {A : List (List Int)} {x : List Int} (hA : ∀ r ∈ A, IsRow p n r) (hx : IsRow p n x) : redL p (redL p A ++ [x]) = redL p (A ++ [x]) :=
  redL_eq hp (app_rows (redL_red hp hA).row (one_row hx)) (app_rows hA (one_row hx)) (same_app hp.pos (redL_red hp hA).row hA (one_row hx) (redL_span hp hA))
abbrev lowD (p : Int) (rows : List (List Int)) (k : Nat) : List (List Int) := redL p (rows.take k)
theorem high_eq (h : Drawn p n rows) (hp : GoodP p) {k : Nat} (hk : k + 1 < n) : redL p (rows.take k ++ [rows.getD k [], rows.getD (k + 1) []]) = redL p (rows.take (k + 2)) := by
  rw [take_two (by rw [(h.rows hp).1]; exact hk)]
/-- the nest's own code is between -/
theorem own_mem (hp : GoodP p) (h : Drawn p n rows) {k : Nat} (hk : k + 1 < n) : redL p (rows.take (k + 1)) ∈ midL p n (redL p (rows.take k)) (redL p (rows.take (k + 2))) := by
  obtain ⟨h1, h2⟩ := h.rows hp
  have t := drawn_tri hp h hk
  rw [← high_eq h hp hk]
  refine (t.mem hp).mpr ⟨rows.getD k [], ?_, ?_, ?_⟩
  · rw [redL_span hp t.all]
    exact Span.mem hp.pos t.all (by simp)
  · rw [redL_span hp t.rA]
    exact drawn_out hp h (by omega)
  · rw [same_red hp t.rA t.rx, take_one (by omega)]
theorem codesL_len2 : (codesL p rows).length = rows.length - 1 := by
  unfold codesL
  rw [List.length_map, List.length_range]
theorem level_ok (hp : GoodP p) (h : Drawn p n rows) {i : Nat} (i1 : 1 ≤ i) (i2 : i < n) : LvlOk p n (codesL p rows) i := by
  obtain ⟨k, rfl⟩ : ∃ k, i = k + 1 := ⟨i - 1, by omega⟩
  refine ⟨i1, i2, ?_⟩
  have t := drawn_tri hp h i2
  rw [code_drawn hp h (by omega), code_drawn hp h (by omega), show k + 1 - 1 = k by omega, show k + 1 + 1 = k + 2 by omega, ← high_eq h hp i2]
  exact t.btw hp
/-- the deeds at a level -/
theorem deeds_eq (hp : GoodP p) (h : Drawn p n rows) {k : Nat} (hk : k + 1 < n) : deedsC p n (codesL p rows) (k + 1) = upC ((midL p n (redL p (rows.take k)) (redL p (rows.take (k + 2)))).filter fun c => decide (c ≠ redL p (rows.take (k + 1)))) := by
  unfold deedsC betweenL
  rw [upC_filter, code_drawn hp h (by omega), code_drawn hp h (by omega), code_drawn hp h (by omega)]
  rfl
theorem deeds_mem (hp : GoodP p) (h : Drawn p n rows) {k : Nat} (hk : k + 1 < n) {c : List (List Int)} : c ∈ deedsC p n (codesL p rows) (k + 1) ↔ c ∈ midL p n (redL p (rows.take k)) (redL p (rows.take (k + 2))) ∧ c ≠ redL p (rows.take (k + 1)) := by
  rw [deeds_eq hp h hk, (upC_prm _).mem_iff, List.mem_filter, decide_eq_true_iff]
theorem deeds_nodup (hp : GoodP p) (h : Drawn p n rows) {k : Nat} (hk : k + 1 < n) : (deedsC p n (codesL p rows) (k + 1)).Nodup := by
  rw [deeds_eq hp h hk, (upC_prm _).nodup_iff, ← high_eq h hp hk]
  exact ((drawn_tri hp h hk).nodup hp).filter _
theorem filter_one {α : Type} [DecidableEq α] {a : α} : ∀ {l : List α}, l.Nodup → a ∈ l → (l.filter fun b => decide (b ≠ a)).length + 1 = l.length
  | [], _, m => by simp at m
  | b :: l, hn, m => by
    obtain ⟨n1, n2⟩ := List.nodup_cons.mp hn
    by_cases e : b = a
    · subst e
      have e2 : l.filter (fun c => decide (c ≠ b)) = l := List.filter_eq_self.mpr fun c hc => decide_eq_true (p := c ≠ b) fun z => n1 (z ▸ hc)
      rw [List.filter_cons_of_neg (by simp), e2]
      rfl
    · rw [List.filter_cons_of_pos (by simpa using e), List.length_cons, List.length_cons, filter_one n2 ((List.mem_cons.mp m).resolve_left fun z => e z.symm)]
theorem deeds_count (hp : GoodP p) (h : Drawn p n rows) {k : Nat} (hk : k + 1 < n) : (deedsC p n (codesL p rows) (k + 1)).length = p.toNat := by
  have h1 := filter_one (a := redL p (rows.take (k + 1))) (l := midL p n (redL p (rows.take k)) (redL p (rows.take (k + 2)))) (by rw [← high_eq h hp hk]; exact (drawn_tri hp h hk).nodup hp) (own_mem hp h hk)
  rw [deeds_eq hp h hk, (upC_prm _).length_eq]
  unfold midL at h1
  rw [List.length_map, List.length_range] at h1
  unfold midL
  omega
end
end Cn
/-! Deeds of drawn nests; the law's own lists. -/
namespace Cn
section
variable {p : Int} {n : Nat} {rows : List (List Int)}
theorem deed_facts (hp : GoodP p) (h : Drawn p n rows) {k : Nat} (hk : k + 1 < n) {c : List (List Int)} (hc : c ∈ deedsC p n (codesL p rows) (k + 1)) : CodeOk p n c ∧ c.length = k + 1 ∧ c ≠ redL p (rows.take (k + 1)) ∧ (redL p (rows.take k)).all (inC p n c) = true ∧ c.all (inC p n (redL p (rows.take (k + 2)))) = true := by
  obtain ⟨h1, h2⟩ := h.rows hp
  obtain ⟨m, ne⟩ := (deeds_mem hp h hk).mp hc
  have t := drawn_tri hp h hk
  rw [← high_eq h hp hk] at m ⊢
  obtain ⟨q1, q2, q3, q4⟩ := t.of_mem hp m
  refine ⟨q1, by rw [q2, List.length_take]; omega, ne, ?_, ?_⟩
  · exact all_in hp q1 (t.low hp).red.row fun r mr => q3 r (Span.mem hp.pos (t.low hp).red.row mr)
  · exact all_in hp (t.high hp) q1.red.row fun r mr => q4 r (Span.mem hp.pos q1.red.row mr)
theorem deed_nest (hp : GoodP p) (h : Drawn p n rows) {k : Nat} (hk : k + 1 < n) {c : List (List Int)} (hc : c ∈ deedsC p n (codesL p rows) (k + 1)) : NestOk p n ((codesL p rows).set k c) := by
  obtain ⟨h1, h2⟩ := h.rows hp
  obtain ⟨q1, q2, q3, q4, q5⟩ := deed_facts hp h hk hc
  have hn := drawn_nest hp h
  have hl : (codesL p rows).length = n - 1 := hn.len
  refine ⟨by rw [List.length_set]; exact hl, fun j d hj => ?_, fun j d e hj he => ?_⟩
  · by_cases ej : k = j
    · subst ej
      rw [List.getElem?_set_self (by omega)] at hj
      obtain rfl := Option.some.inj hj
      exact ⟨q1, q2⟩
    · rw [List.getElem?_set_ne ej] at hj
      exact hn.at_ j d hj
  · by_cases e1 : k = j
    · subst e1
      rw [List.getElem?_set_self (by omega)] at hj
      obtain rfl := Option.some.inj hj
      rw [List.getElem?_set_ne (by omega)] at he
      obtain ⟨_, rfl⟩ := codes_get he
      exact q5
    · rw [List.getElem?_set_ne e1] at hj
      by_cases e2 : k = j + 1
      · subst e2
        rw [List.getElem?_set_self (by omega)] at he
        obtain rfl := Option.some.inj he
        obtain ⟨_, rfl⟩ := codes_get hj
        exact q4
      · rw [List.getElem?_set_ne e2] at he
        exact hn.up j d e hj he
/-! ### the rows of a code by numbers -/
def lrow (p : Int) (n : Nat) (ns : List Int) (high : List (List Int)) : List Int := (ns.zip high).foldl (fun r x => plusR p r x.1 x.2) (zeroR n)
theorem lfold_span {high : List (List Int)} : ∀ (l : List (Int × List Int)) {v : List Int}, (∀ x ∈ l, x.2 ∈ high) → Span p n high v → Span p n high (l.foldl (fun r x => plusR p r x.1 x.2) v)
  | [], _, _, h => h
  | x :: l, v, hm, h => lfold_span l (fun y my => hm y (List.mem_cons_of_mem _ my)) (.plus x.1 h (hm x List.mem_cons_self))
theorem lrow_span (ns : List Int) (high : List (List Int)) : Span p n high (lrow p n ns high) := lfold_span _ (fun x m => (List.of_mem_zip m).2) .zero
theorem lfold_len : ∀ (l : List (Int × List Int)) {v : List Int}, (l.foldl (fun r x => plusR p r x.1 x.2) v).length = v.length
  | [], _ => rfl
  | x :: l, v => by
    show (l.foldl _ (plusR p v x.1 x.2)).length = _
    rw [lfold_len l, plus_len]
theorem lfold_get (hp : GoodP p) : ∀ (base : List (List Int)) {v a : List Int} (i : Nat), Red p n base → IsRow p n v → IsRow p n a →
    (((base.map fun s => v.getD (piv s) 0).zip base).foldl (fun r x => plusR p r x.1 x.2) a).getD i 0 = (a.getD i 0 + v.getD i 0 - (withR p v base).getD i 0) % p
  | [], v, a, i, _, hv, ha => by
    show a.getD i 0 = (a.getD i 0 + v.getD i 0 - v.getD i 0) % p
    rw [show a.getD i 0 + v.getD i 0 - v.getD i 0 = a.getD i 0 by omega]
    exact (same_mod (ha.lo i) (ha.hi i)).symm
  | s :: base, v, a, i, h, hv, ha => by
    have hs := h.row s List.mem_cons_self
    have e1 : (base.map fun u => v.getD (piv u) 0) = base.map fun u => (stepW p v s).getD (piv u) 0 := by
      refine List.map_congr_left fun u mu => ?_
      rw [stepW_same hv hs.len (h.head u mu).1]
    have ih := lfold_get hp base (v := stepW p v s) (a := plusR p a (v.getD (piv s) 0) s) i h.tail (stepW_row hp.pos hv.len) (isrow_plus hp.pos ha.len)
    show ((((base.map fun u => v.getD (piv u) 0)).zip base).foldl (fun r x => plusR p r x.1 x.2) (plusR p a (v.getD (piv s) 0) s)).getD i 0 = (a.getD i 0 + v.getD i 0 - (withR p (stepW p v s) base).getD i 0) % p
    rw [e1, ih, plus_get (by rw [ha.len, hs.len]), stepW_get (by rw [hv.len, hs.len])]
    generalize (withR p (stepW p v s) base).getD i 0 = Z
    generalize a.getD i 0 = X
    generalize v.getD i 0 = Y
    generalize v.getD (piv s) 0 = T
    generalize s.getD i 0 = S
    rw [Int.emod_def (X + T * S) p, Int.emod_def (T * S) p, Int.emod_def (Y - (T * S - p * (T * S / p))) p]
    generalize (X + T * S) / p = q1
    generalize T * S / p = q2
    generalize (Y - (T * S - p * q2)) / p = q3
    refine emod_to (q2 - q1 - q3) ?_
    generalize T * S = W
    grind
theorem lrow_of (hp : GoodP p) {high : List (List Int)} (h : Red p n high) {v : List Int} (hv : Span p n high v) : lrow p n (high.map fun s => v.getD (piv s) 0) high = v := by
  have hr := hv.row hp.pos
  refine list_ext ?_ fun i => ?_
  · unfold lrow
    rw [lfold_len, zero_len, hr.len]
  · unfold lrow
    rw [lfold_get hp high i h hr (isrow_zero hp.pos n), with_span hp h hv, zero_get, Int.zero_add, Int.sub_zero, same_mod (hr.lo i) (hr.hi i)]
theorem digits_mem (p : Nat) : ∀ {m : Nat} {s : List Int}, s ∈ digitsL p m ↔ s.length = m ∧ ∀ x ∈ s, 0 ≤ x ∧ x < p
  | 0, s => by
    show s ∈ [[]] ↔ _
    rw [List.mem_singleton]
    constructor
    · rintro rfl
      exact ⟨rfl, fun x m => by simp at m⟩
    · exact fun h => List.length_eq_zero_iff.mp h.1
  | m + 1, s => by
    show s ∈ (digitsL p m).flatMap _ ↔ _
    rw [List.mem_flatMap]
    constructor
    · rintro ⟨a, ha, hs⟩
      obtain ⟨k, hk, rfl⟩ := List.mem_map.mp hs
      obtain ⟨h1, h2⟩ := (digits_mem p).mp ha
      have hk := List.mem_range.mp hk
      refine ⟨by rw [List.length_append, h1]; rfl, fun x mx => ?_⟩
      rcases List.mem_append.mp mx with mx | mx
      · exact h2 x mx
      · rw [List.mem_singleton.mp mx]
        omega
    · rintro ⟨h1, h2⟩
      obtain ⟨a, x, rfl⟩ : ∃ a x, s = a ++ [x] := by
        rcases List.eq_nil_or_concat s with e | ⟨a, x, e⟩
        · rw [e] at h1
          simp at h1
        · exact ⟨a, x, by rw [e]; simp⟩
      have hx := h2 x (by simp)
      refine ⟨a, (digits_mem p).mpr ⟨by simpa using h1, fun y my => h2 y (List.mem_append_left _ my)⟩, List.mem_map.mpr ⟨x.toNat, List.mem_range.mpr (by omega), ?_⟩⟩
      rw [Int.toNat_of_nonneg hx.1]
/-- the law's own list of the codes between -/
structure BtwList (p : Int) (n : Nat) (low high : List (List Int)) (ds : List (List (List Int))) : Prop where
  nd : ds.Nodup
  mem : ∀ c, c ∈ ds ↔ ∃ ns ∈ digitsL p.toNat high.length, pivO (withR p (lrow p n ns high) low) ≠ none ∧ c = redL p (low ++ [lrow p n ns high])
theorem out_iff (hp : GoodP p) {low : List (List Int)} (hl : Red p n low) {v : List Int} (hv : IsRow p n v) : pivO (withR p v low) ≠ none ↔ ¬ Span p n low v := by
  rw [← span_iff hp hl hv]
  constructor
  · intro h e
    refine h ?_
    rw [e]
    exact pivO_no.mpr fun j => zero_get n j
  · intro h e
    exact h (eq_zero (withR_row hp.pos low hv) e)
theorem btw_list (hp : GoodP p) {A : List (List Int)} {x y : List Int} (t : Tri p n A x y) {ds : List (List (List Int))} (h : BtwList p n (redL p A) (redL p (A ++ [x, y])) ds) : upC ds = betweenL p n (redL p A) (redL p (A ++ [x, y])) := by
  refine upC_eq (nodup_perm h.nd (t.nodup hp) fun c => (h.mem c).trans (Iff.trans ?_ (t.mem hp).symm))
  have p2 := hp.two
  constructor
  · rintro ⟨ns, _, h1, rfl⟩
    have hs := lrow_span (p := p) (n := n) ns (redL p (A ++ [x, y]))
    exact ⟨_, hs, (out_iff hp (t.low hp).red (hs.row hp.pos)).mp h1, rfl⟩
  · rintro ⟨row, h1, h2, rfl⟩
    have hr := h1.row hp.pos
    have e := lrow_of hp (t.high hp).red h1
    refine ⟨(redL p (A ++ [x, y])).map fun s => row.getD (piv s) 0, (digits_mem p.toNat).mpr ⟨List.length_map _, fun x mx => ?_⟩, ?_, ?_⟩
    · obtain ⟨s, _, rfl⟩ := List.mem_map.mp mx
      have a := hr.lo (piv s)
      have b := hr.hi (piv s)
      omega
    · rw [e]
      exact (out_iff hp (t.low hp).red hr).mpr h2
    · rw [e]
/-! ### two rows a level -/
def greatC (p : Int) (A : List (List Int)) (x y : List Int) (k : Nat) : List (List Int) := redL p (A ++ [plusR p y (k : Nat) x])
section
variable {A : List (List Int)} {x y : List Int}
theorem Tri.y_out (hp : GoodP p) (t : Tri p n A x y) {B : List (List Int)} (hB : ∀ r ∈ B, IsRow p n r) (hl : B.length ≤ A.length + 1) (h1 : ∀ r ∈ A, Span p n B r) (h2 : Span p n B x) : ¬ Span p n B y := by
  intro h3
  have h4 : SameSp p n (B ++ (A ++ [x, y])) B := by
    refine same_of hp.pos (app_rows hB t.all) hB (fun r m => ?_) fun r m => Span.mem hp.pos (app_rows hB t.all) (List.mem_append_left _ m)
    rcases List.mem_append.mp m with m | m
    · exact Span.mem hp.pos hB m
    · rcases List.mem_append.mp m with m | m
      · exact h1 r m
      · simp only [List.mem_cons, List.not_mem_nil, or_false] at m
        rcases m with rfl | rfl
        · exact h2
        · exact h3
  have e1 := dim_same hp (app_rows hB t.all) hB h4
  have e2 := redL_len p B
  have e3 : (redL p (A ++ [x, y])).length ≤ (redL p (B ++ (A ++ [x, y]))).length := by
    have q := dim_same hp (A := (A ++ [x, y]) ++ B) (B := B ++ (A ++ [x, y])) (app_rows t.all hB) (app_rows hB t.all) (same_perm hp.pos (app_rows t.all hB) List.perm_append_comm)
    rw [← q, redL_length, redL_length]
    have ef : redF p ((A ++ [x, y]) ++ B) = B.foldl (stepR p) (redF p (A ++ [x, y])) := List.foldl_append
    rw [ef]
    have mono : ∀ (l f : List (List Int)), f.length ≤ (l.foldl (stepR p) f).length := by
      intro l
      induction l with
      | nil => exact fun f => Nat.le_refl _
      | cons r l ih =>
        intro f
        refine Nat.le_trans ?_ (ih (stepR p f r))
        unfold stepR
        split
        · exact Nat.le_refl _
        · simp
    exact mono B _
  rw [t.len] at e3
  omega
theorem plus_back (hp : GoodP p) {y x : List Int} (hy : IsRow p n y) (hx : IsRow p n x) (k : Int) : plusR p (plusR p y k x) (-k) x = y := by
  refine list_ext (by rw [plus_len, plus_len]) fun i => ?_
  rw [plus_get (by rw [plus_len, hy.len, hx.len]), plus_get (by rw [hy.len, hx.len]), mod_addl]
  rw [show y.getD i 0 + k * x.getD i 0 + -k * x.getD i 0 = y.getD i 0 by rw [Int.neg_mul]; omega]
  exact same_mod (hy.lo i) (hy.hi i)
theorem Tri.yk (hp : GoodP p) (t : Tri p n A x y) (k : Int) : ¬ Span p n (A ++ [x]) (plusR p y k x) := by
  intro h
  have hB := app_rows t.rA (one_row t.rx)
  have hx := Span.mem hp.pos hB (r := x) (by simp)
  refine t.y_out hp hB (by simp) (fun r m => Span.mem hp.pos hB (List.mem_append_left _ m)) hx ?_
  have q := h.comb hp.pos hB hx (-k)
  rwa [plus_back hp t.ry t.rx] at q
theorem Tri.great_mem (hp : GoodP p) (t : Tri p n A x y) (k : Nat) : greatC p A x y k ∈ midL p n (redL p A) (redL p (A ++ [x, y])) ∧ greatC p A x y k ≠ redL p (A ++ [x]) := by
  have p0 := hp.pos
  have hz := isrow_plus (t := (k : Int)) (s := x) p0 t.ry.len
  have hB := app_rows t.rA (one_row t.rx)
  refine ⟨(t.mem hp).mpr ⟨plusR p y (k : Nat) x, ?_, ?_, ?_⟩, fun e => ?_⟩
  · rw [redL_span hp t.all]
    exact .plus _ (Span.mem p0 t.all (by simp)) (by simp)
  · rw [redL_span hp t.rA]
    exact fun h => t.yk hp k (h.more p0 hB fun r m => List.mem_append_left _ m)
  · rw [same_red hp t.rA hz]
    rfl
  · have hA := app_rows t.rA (one_row hz)
    exact t.yk hp k ((redL_same hp hA hB e _).mp (Span.mem p0 hA (by simp)))
theorem Tri.great_lt (hp : GoodP p) (t : Tri p n A x y) {k l : Nat} (hkl : k < l) (hl : (l : Int) < p) : greatC p A x y k ≠ greatC p A x y l := by
  intro e
  have p0 := hp.pos
  have hk := isrow_plus (t := (k : Int)) (s := x) p0 t.ry.len
  have hl' := isrow_plus (t := (l : Int)) (s := x) p0 t.ry.len
  have hA := app_rows t.rA (one_row hk)
  have hB := app_rows t.rA (one_row hl')
  have h1 := Span.mem p0 hA (r := plusR p y (k : Nat) x) (by simp)
  have h2 := (redL_same hp hB hA e.symm _).mp (Span.mem p0 hB (r := plusR p y (l : Nat) x) (by simp))
  have h3 := h2.comb p0 hA h1 (-1)
  have e3 : plusR p (plusR p y (l : Nat) x) (-1) (plusR p y (k : Nat) x) = scaR p ((l : Int) - k) x := by
    refine list_ext (by rw [plus_len, plus_len, sca_len, t.ry.len, t.rx.len]) fun i => ?_
    rw [plus_get (by rw [plus_len, plus_len]), plus_get (by rw [t.ry.len, t.rx.len]), plus_get (by rw [t.ry.len, t.rx.len]), sca_get, mod_lin, mod_addl]
    congr 1
    grind
  rw [e3] at h3
  have h4 := h3.sca p0 hA (invN p ((l : Int) - k))
  rw [sca_undo hp t.rx (by omega) (by omega)] at h4
  refine t.y_out hp hA (by simp) (fun r m => Span.mem p0 hA (List.mem_append_left _ m)) h4 ?_
  have q := h1.comb p0 hA h4 (-(k : Int))
  rwa [plus_back hp t.ry t.rx] at q
end
theorem great_eq (hp : GoodP p) (h : Drawn p n rows) {k : Nat} (hk : k + 1 < n) : upC ((List.range p.toNat).map (greatC p (rows.take k) (rows.getD k []) (rows.getD (k + 1) []))) = deedsC p n (codesL p rows) (k + 1) := by
  have t := drawn_tri hp h hk
  have p2 := hp.two
  have nd : ((List.range p.toNat).map (greatC p (rows.take k) (rows.getD k []) (rows.getD (k + 1) []))).Nodup := by
    refine List.pairwise_map.mpr (List.Pairwise.imp_of_mem ?_ (List.pairwise_lt_range (n := p.toNat)))
    intro a b ma mb hab
    have hb := List.mem_range.mp mb
    exact t.great_lt hp hab (by omega)
  have q : ((List.range p.toNat).map (greatC p (rows.take k) (rows.getD k []) (rows.getD (k + 1) []))).Perm (deedsC p n (codesL p rows) (k + 1)) := by
    refine nodup_sub nd (deeds_nodup hp h hk) (fun c m => ?_) (by rw [deeds_count hp h hk, List.length_map, List.length_range]; exact Nat.le_refl _)
    obtain ⟨j, hj, rfl⟩ := List.mem_map.mp m
    obtain ⟨h1, h2⟩ := t.great_mem hp j
    rw [deeds_mem hp h hk, ← high_eq h hp hk, take_one (by rw [(h.rows hp).1]; omega)]
    exact ⟨h1, h2⟩
  rw [deeds_eq hp h hk] at q ⊢
  exact upC_eq (q.trans (upC_prm _))
end
end Cn
/-! All deeds lead to different nests. -/
namespace Cn
section
variable {p : Int} {n : Nat} {rows : List (List Int)}
def nestsD (p : Int) (n : Nat) (cs : List (List (List Int))) (m : Nat) : List (List (List (List Int))) := (List.range m).flatMap fun j => (deedsC p n cs (j + 1)).map fun c => cs.set j c
theorem nests_nodup (hp : GoodP p) (h : Drawn p n rows) : (codesL p rows :: nestsD p n (codesL p rows) (n - 1)).Nodup := by
  have hl : (codesL p rows).length = n - 1 := (drawn_nest hp h).len
  have own : ∀ j, j < n - 1 → (codesL p rows)[j]? = some (redL p (rows.take (j + 1))) := fun j hj => by
    have e : (codesL p rows)[j]? = some ((codesL p rows)[j]'(by omega)) := List.getElem?_eq_getElem (by omega)
    rw [e, ← (codes_get e).2]
  have ne : ∀ j c, j < n - 1 → c ∈ deedsC p n (codesL p rows) (j + 1) → c ≠ redL p (rows.take (j + 1)) := fun j c hj hc => ((deeds_mem hp h (by omega)).mp hc).2
  refine List.nodup_cons.mpr ⟨fun m => ?_, ?_⟩
  · obtain ⟨j, hj, m⟩ := List.mem_flatMap.mp m
    obtain ⟨c, hc, e⟩ := List.mem_map.mp m
    have hj := List.mem_range.mp hj
    have e2 : ((codesL p rows).set j c)[j]? = (codesL p rows)[j]? := by rw [e]
    rw [List.getElem?_set_self (by omega), own j hj] at e2
    exact ne j c hj hc (Option.some.inj e2)
  · unfold nestsD
    refine List.pairwise_flatMap.mpr ⟨fun j hj => ?_, ?_⟩
    · have hj := List.mem_range.mp hj
      refine List.pairwise_map.mpr ((deeds_nodup hp h (by omega)).imp fun {a b} hab e => hab ?_)
      have e2 : ((codesL p rows).set j a)[j]? = ((codesL p rows).set j b)[j]? := by rw [e]
      rw [List.getElem?_set_self (by omega), List.getElem?_set_self (by omega)] at e2
      exact Option.some.inj e2
    · refine List.Pairwise.imp_of_mem ?_ (List.pairwise_lt_range (n := n - 1))
      intro i j mi mj hij x hx y hy e
      have hi := List.mem_range.mp mi
      have hj := List.mem_range.mp mj
      obtain ⟨c, hc, rfl⟩ := List.mem_map.mp hx
      obtain ⟨d, hd, rfl⟩ := List.mem_map.mp hy
      have e2 : ((codesL p rows).set i c)[i]? = ((codesL p rows).set j d)[i]? := by rw [e]
      rw [List.getElem?_set_self (by omega), List.getElem?_set_ne (by omega), own i hi] at e2
      exact ne i c hi hc (Option.some.inj e2)
theorem count_one {α : Type} [BEq α] [LawfulBEq α] {l : List α} (h : l.Nodup) (a : α) : l.countP (fun y => y == a) ≤ 1 := by
  induction l with
  | nil => exact Nat.zero_le _
  | cons b l ih =>
    obtain ⟨h1, h2⟩ := List.nodup_cons.mp h
    rw [List.countP_cons]
    split
    · rename_i e
      have e := beq_iff_eq.mp e
      have z : l.countP (fun y => y == a) = 0 := List.countP_eq_zero.mpr fun y hy e2 => h1 (by rw [e, ← beq_iff_eq.mp e2]; exact hy)
      omega
    · have := ih h2
      omega
end
end Cn
/-! Different codes have different texts. -/
namespace Cn
open PySem
abbrev cpl (s : Str) : List Nat := s.cps.toList
theorem cpl_app (a b : Str) : cpl (a ++ b) = cpl a ++ cpl b := by
  show (a.cps ++ b.cps).toList = _
  rw [Array.toList_append]
theorem cpl_inj {a b : Str} (h : cpl a = cpl b) : a = b := by
  cases a
  cases b
  exact congrArg _ (Array.toList_inj.mp h)
/-- a sign that ends a part -/
def Stop (u : List Nat) : Prop := ∃ c r, u = c :: r ∧ (c = 44 ∨ c = 41 ∨ c = 93)
/-- parts told apart by what stands behind them -/
structure Apart {α : Type} (G : α → Prop) (f : α → List Nat) : Prop where
  inj : ∀ a b u v, G a → G b → f a ++ u = f b ++ v → Stop u → Stop v → a = b ∧ u = v
  go : ∀ a u, G a → ¬ Stop (f a ++ u)
/-- numbers below 13 -/
def encI (i : Int) : List Nat := if i < 10 then [48 + i.toNat] else [49, 38 + i.toNat]
theorem apart_int : Apart (fun i : Int => 0 ≤ i ∧ i < 13) encI := by
  refine ⟨fun a b u v ha hb h hu hv => ?_, fun a u ha => ?_⟩
  · obtain ⟨c, r, rfl, hc⟩ := hu
    obtain ⟨d, s, rfl, hd⟩ := hv
    unfold encI at h
    by_cases h1 : a < 10
    · by_cases h2 : b < 10
      · rw [if_pos h1, if_pos h2] at h
        simp only [List.cons_append, List.nil_append, List.cons.injEq] at h
        obtain ⟨e1, e2, e3⟩ := h
        exact ⟨by omega, by rw [e2, e3]⟩
      · rw [if_pos h1, if_neg h2] at h
        simp only [List.cons_append, List.nil_append, List.cons.injEq] at h
        obtain ⟨e1, e2, e3⟩ := h
        omega
    · by_cases h2 : b < 10
      · rw [if_neg h1, if_pos h2] at h
        simp only [List.cons_append, List.nil_append, List.cons.injEq] at h
        obtain ⟨e1, e2, e3⟩ := h
        omega
      · rw [if_neg h1, if_neg h2] at h
        simp only [List.cons_append, List.nil_append, List.cons.injEq] at h
        obtain ⟨e1, e2, e3, e4⟩ := h
        exact ⟨by omega, by rw [e3, e4]⟩
  · rintro ⟨c, r, e, hc⟩
    unfold encI at e
    by_cases h1 : a < 10
    · rw [if_pos h1] at e
      simp only [List.cons_append, List.nil_append, List.cons.injEq] at e
      omega
    · rw [if_neg h1] at e
      simp only [List.cons_append, List.nil_append, List.cons.injEq] at e
      omega
/-- what stands behind the first part; z closes -/
def encJ {α : Type} (f : α → List Nat) (z : Nat) : List α → List Nat
  | [] => [z]
  | a :: l => 44 :: 32 :: (f a ++ encJ f z l)
def encT {α : Type} (f : α → List Nat) : List α → List Nat
  | [] => [40, 41]
  | [a] => 40 :: (f a ++ [44, 41])
  | a :: b :: l => 40 :: (f a ++ encJ f 41 (b :: l))
def encL {α : Type} (f : α → List Nat) : List α → List Nat
  | [] => [91, 93]
  | a :: l => 91 :: (f a ++ encJ f 93 l)
section
variable {α : Type} {G : α → Prop} {f : α → List Nat}
theorem stop_j {z : Nat} (hz : z = 41 ∨ z = 93) : ∀ (l : List α) (u : List Nat), Stop (encJ f z l ++ u)
  | [], u => ⟨z, u, rfl, by omega⟩
  | a :: l, u => ⟨44, _, rfl, .inl rfl⟩
theorem apart_j (h : Apart G f) {z : Nat} (hz : z = 41 ∨ z = 93) : ∀ {l m : List α} {u v : List Nat}, (∀ a ∈ l, G a) → (∀ a ∈ m, G a) → encJ f z l ++ u = encJ f z m ++ v → l = m ∧ u = v
  | [], [], u, v, _, _, e => by
    have e : z :: u = z :: v := e
    exact ⟨rfl, (List.cons.inj e).2⟩
  | [], b :: m, u, v, _, _, e => by
    have e : z :: u = 44 :: _ := e
    have := (List.cons.inj e).1
    omega
  | a :: l, [], u, v, _, _, e => by
    have e : 44 :: _ = z :: v := e
    have := (List.cons.inj e).1
    omega
  | a :: l, b :: m, u, v, hl, hm, e => by
    have e : 44 :: 32 :: ((f a ++ encJ f z l) ++ u) = 44 :: 32 :: ((f b ++ encJ f z m) ++ v) := e
    have e := (List.cons.inj (List.cons.inj e).2).2
    rw [List.append_assoc, List.append_assoc] at e
    obtain ⟨rfl, e2⟩ := h.inj a b _ _ (hl a List.mem_cons_self) (hm b List.mem_cons_self) e (stop_j hz l u) (stop_j hz m v)
    obtain ⟨rfl, e3⟩ := apart_j h hz (fun c q => hl c (List.mem_cons_of_mem _ q)) (fun c q => hm c (List.mem_cons_of_mem _ q)) e2
    exact ⟨rfl, e3⟩
theorem stop_c (u : List Nat) : Stop ([44, 41] ++ u) := ⟨44, _, rfl, .inl rfl⟩
theorem apart_t (h : Apart G f) : Apart (fun l : List α => ∀ a ∈ l, G a) (encT f) := by
  refine ⟨fun a b u v ha hb e hu hv => ?_, fun a u ha => ?_⟩
  · match a, b, ha, hb, e with
    | [], [], _, _, e =>
      simp only [encT, List.cons_append, List.nil_append, List.cons.injEq, true_and] at e
      exact ⟨rfl, e⟩
    | [], [y], _, hb, e =>
      have e : 40 :: 41 :: u = 40 :: ((f y ++ [44, 41]) ++ v) := e
      have e := (List.cons.inj e).2
      rw [List.append_assoc] at e
      exact absurd (by rw [← e]; exact ⟨41, u, rfl, by omega⟩) (h.go y ([44, 41] ++ v) (hb y (by simp)))
    | [], y :: y2 :: m, _, hb, e =>
      have e : 40 :: 41 :: u = 40 :: ((f y ++ encJ f 41 (y2 :: m)) ++ v) := e
      have e := (List.cons.inj e).2
      rw [List.append_assoc] at e
      exact absurd (by rw [← e]; exact ⟨41, u, rfl, by omega⟩) (h.go y (encJ f 41 (y2 :: m) ++ v) (hb y (by simp)))
    | [x], [], ha, _, e =>
      have e : 40 :: ((f x ++ [44, 41]) ++ u) = 40 :: 41 :: v := e
      have e := (List.cons.inj e).2
      rw [List.append_assoc] at e
      exact absurd (by rw [e]; exact ⟨41, v, rfl, by omega⟩) (h.go x ([44, 41] ++ u) (ha x (by simp)))
    | x :: x2 :: l, [], ha, _, e =>
      have e : 40 :: ((f x ++ encJ f 41 (x2 :: l)) ++ u) = 40 :: 41 :: v := e
      have e := (List.cons.inj e).2
      rw [List.append_assoc] at e
      exact absurd (by rw [e]; exact ⟨41, v, rfl, by omega⟩) (h.go x (encJ f 41 (x2 :: l) ++ u) (ha x (by simp)))
    | [x], [y], ha, hb, e =>
      have e : 40 :: ((f x ++ [44, 41]) ++ u) = 40 :: ((f y ++ [44, 41]) ++ v) := e
      have e := (List.cons.inj e).2
      rw [List.append_assoc, List.append_assoc] at e
      obtain ⟨rfl, e2⟩ := h.inj x y _ _ (ha x (by simp)) (hb y (by simp)) e (stop_c u) (stop_c v)
      exact ⟨rfl, by simpa using e2⟩
    | [x], y :: y2 :: m, ha, hb, e =>
      have e : 40 :: ((f x ++ [44, 41]) ++ u) = 40 :: ((f y ++ encJ f 41 (y2 :: m)) ++ v) := e
      have e := (List.cons.inj e).2
      rw [List.append_assoc, List.append_assoc] at e
      obtain ⟨rfl, e2⟩ := h.inj x y _ _ (ha x (by simp)) (hb y (by simp)) e (stop_c u) (stop_j (.inl rfl) _ v)
      have e2 : 44 :: 41 :: u = 44 :: 32 :: _ := e2
      have := (List.cons.inj (List.cons.inj e2).2).1
      omega
    | x :: x2 :: l, [y], ha, hb, e =>
      have e : 40 :: ((f x ++ encJ f 41 (x2 :: l)) ++ u) = 40 :: ((f y ++ [44, 41]) ++ v) := e
      have e := (List.cons.inj e).2
      rw [List.append_assoc, List.append_assoc] at e
      obtain ⟨rfl, e2⟩ := h.inj x y _ _ (ha x (by simp)) (hb y (by simp)) e (stop_j (.inl rfl) _ u) (stop_c v)
      have e2 : 44 :: 32 :: _ = 44 :: 41 :: v := e2
      have := (List.cons.inj (List.cons.inj e2).2).1
      omega
    | x :: x2 :: l, y :: y2 :: m, ha, hb, e =>
      have e : 40 :: ((f x ++ encJ f 41 (x2 :: l)) ++ u) = 40 :: ((f y ++ encJ f 41 (y2 :: m)) ++ v) := e
      have e := (List.cons.inj e).2
      rw [List.append_assoc, List.append_assoc] at e
      obtain ⟨rfl, e2⟩ := h.inj x y _ _ (ha x (by simp)) (hb y (by simp)) e (stop_j (.inl rfl) _ u) (stop_j (.inl rfl) _ v)
      obtain ⟨e3, e4⟩ := apart_j h (.inl rfl) (fun c q => ha c (List.mem_cons_of_mem _ q)) (fun c q => hb c (List.mem_cons_of_mem _ q)) e2
      exact ⟨by rw [e3], e4⟩
  · rintro ⟨c, r, e, hc⟩
    match a, e with
    | [], e =>
      have := (List.cons.inj (e : 40 :: _ = c :: r)).1
      omega
    | [x], e =>
      have := (List.cons.inj (e : 40 :: _ = c :: r)).1
      omega
    | x :: y :: l, e =>
      have := (List.cons.inj (e : 40 :: _ = c :: r)).1
      omega
theorem inj_l (h : Apart G f) : ∀ {l m : List α}, (∀ a ∈ l, G a) → (∀ a ∈ m, G a) → encL f l = encL f m → l = m
  | [], [], _, _, _ => rfl
  | [], y :: m, _, hm, e => by
    have e := (List.cons.inj (e : 91 :: [93] = 91 :: _)).2
    exact absurd (by rw [← e]; exact ⟨93, [], rfl, by omega⟩) (h.go y (encJ f 93 m) (hm y (by simp)))
  | x :: l, [], hl, _, e => by
    have e := (List.cons.inj (e : 91 :: _ = 91 :: [93])).2
    exact absurd (by rw [e]; exact ⟨93, [], rfl, by omega⟩) (h.go x (encJ f 93 l) (hl x (by simp)))
  | x :: l, y :: m, hl, hm, e => by
    have e := (List.cons.inj (e : 91 :: _ = 91 :: _)).2
    have s1 := stop_j (f := f) (z := 93) (.inr rfl) l []
    have s2 := stop_j (f := f) (z := 93) (.inr rfl) m []
    rw [List.append_nil] at s1 s2
    obtain ⟨rfl, e2⟩ := h.inj x y _ _ (hl x (by simp)) (hm y (by simp)) e s1 s2
    have e3 : encJ f 93 l ++ [] = encJ f 93 m ++ [] := by rw [e2]
    rw [(apart_j h (.inr rfl) (fun c q => hl c (List.mem_cons_of_mem _ q)) (fun c q => hm c (List.mem_cons_of_mem _ q)) e3).1]
end
/-! ### texts -/
theorem shown_int {i : Int} (h0 : 0 ≤ i) (h1 : i < 13) : cpl (PyData.shown (.int i)) = encI i := by
  obtain ⟨k, rfl⟩ := Int.eq_ofNat_of_zero_le h0
  have hk : k ∈ List.range 13 := List.mem_range.mpr (by omega)
  have all : ∀ k ∈ List.range 13, cpl (PyData.shown (.int ((k : Nat) : Int))) = encI ((k : Nat) : Int) := by decide +kernel
  exact all k hk
theorem shownAll_map : ∀ ds : List PyData, PyData.shownAll ds = ds.map PyData.shown
  | [] => by simp [PyData.shownAll]
  | d :: ds => by rw [PyData.shownAll, shownAll_map ds, List.map_cons]
theorem join_enc {α : Type} (f : α → Str) (z : Str) (w : Nat) (hz : cpl z = [w]) : ∀ (a : α) (l : List α), cpl (Str.join ", " ((a :: l).map f) ++ z) = cpl (f a) ++ encJ (fun x => cpl (f x)) w l
  | a, [] => by
    show cpl (f a ++ z) = _
    rw [cpl_app, hz]
    rfl
  | a, b :: l => by
    show cpl ((f a ++ (", " : Str) ++ Str.join ", " ((b :: l).map f)) ++ z) = _
    have e := join_enc f z w hz b l
    rw [cpl_app] at e
    rw [cpl_app, cpl_app, cpl_app, List.append_assoc, e, List.append_assoc]
    rfl
theorem tuple_enc {α : Type} (f : α → Str) : ∀ l : List α, cpl (tupleText (l.map f)) = encT (fun x => cpl (f x)) l
  | [] => by
    show cpl (tupleText []) = [40, 41]
    decide +kernel
  | [a] => by
    show cpl (("(" : Str) ++ f a ++ (",)" : Str)) = 40 :: (cpl (f a) ++ [44, 41])
    rw [cpl_app, cpl_app]
    rfl
  | a :: b :: l => by
    have e := join_enc f (")" : Str) 41 rfl a (b :: l)
    show cpl ((("(" : Str) ++ Str.join ", " ((a :: b :: l).map f)) ++ (")" : Str)) = _
    rw [cpl_app] at e
    rw [cpl_app, cpl_app, List.append_assoc, e]
    rfl
theorem from_enc {α : Type} (f : α → Str) : ∀ (l : List α) (k : Nat) (acc : Str), cpl (textFrom (k + 1) acc (l.map f) ++ ("]" : Str)) = cpl acc ++ encJ (fun x => cpl (f x)) 93 l
  | [], k, acc => by
    show cpl (acc ++ ("]" : Str)) = _
    rw [cpl_app]
    rfl
  | a :: l, k, acc => by
    have e := from_enc f l (k + 1) (acc ++ (", " : Str) ++ f a)
    show cpl (textFrom (k + 1 + 1) (acc ++ (", " : Str) ++ f a) (l.map f) ++ ("]" : Str)) = _
    rw [e, cpl_app, cpl_app, List.append_assoc, List.append_assoc]
    rfl
theorem list_enc {α : Type} (f : α → Str) : ∀ l : List α, cpl (listText (l.map f)) = encL (fun x => cpl (f x)) l
  | [] => by
    show cpl (listText []) = [91, 93]
    decide +kernel
  | a :: l => by
    have e := from_enc f l 0 (("[" : Str) ++ ("" : Str) ++ f a)
    show cpl (textFrom 1 (("[" : Str) ++ ("" : Str) ++ f a) (l.map f) ++ ("]" : Str)) = _
    rw [e, cpl_app, cpl_app]
    rfl
def SmallR (r : List Int) : Prop := ∀ i ∈ r, 0 ≤ i ∧ i < 13
def SmallC (c : List (List Int)) : Prop := ∀ r ∈ c, SmallR r
theorem encJ_congr {α : Type} {f g : α → List Nat} {z : Nat} : ∀ {l : List α}, (∀ a ∈ l, f a = g a) → encJ f z l = encJ g z l
  | [], _ => rfl
  | a :: l, h => by
    show 44 :: 32 :: (f a ++ encJ f z l) = 44 :: 32 :: (g a ++ encJ g z l)
    rw [h a List.mem_cons_self, encJ_congr fun b m => h b (List.mem_cons_of_mem _ m)]
theorem encT_congr {α : Type} {f g : α → List Nat} : ∀ {l : List α}, (∀ a ∈ l, f a = g a) → encT f l = encT g l
  | [], _ => rfl
  | [a], h => by
    show 40 :: (f a ++ _) = 40 :: (g a ++ _)
    rw [h a List.mem_cons_self]
  | a :: b :: l, h => by
    show 40 :: (f a ++ encJ f 41 (b :: l)) = 40 :: (g a ++ encJ g 41 (b :: l))
    rw [h a List.mem_cons_self, encJ_congr fun c m => h c (List.mem_cons_of_mem _ m)]
theorem encL_congr {α : Type} {f g : α → List Nat} : ∀ {l : List α}, (∀ a ∈ l, f a = g a) → encL f l = encL g l
  | [], _ => rfl
  | a :: l, h => by
    show 91 :: (f a ++ encJ f 93 l) = 91 :: (g a ++ encJ g 93 l)
    rw [h a List.mem_cons_self, encJ_congr fun c m => h c (List.mem_cons_of_mem _ m)]
theorem shown_row {r : List Int} (h : SmallR r) : cpl (PyData.shown (.tuple (r.map .int))) = encT encI r := by
  rw [PyData.shown, shownAll_map, List.map_map, tuple_enc]
  exact encT_congr fun i m => shown_int (h i m).1 (h i m).2
theorem shown_code {c : List (List Int)} (h : SmallC c) : cpl (PyData.shown (.tuple (c.map fun r => .tuple (r.map .int)))) = encT (encT encI) c := by
  rw [PyData.shown, shownAll_map, List.map_map, tuple_enc]
  exact encT_congr fun r m => shown_row (h r m)
theorem shown_codes {cs : List (List (List Int))} (h : ∀ c ∈ cs, SmallC c) : cpl (PyData.shown (.list (cs.map fun c => .tuple (c.map fun r => .tuple (r.map .int))))) = encL (encT (encT encI)) cs := by
  rw [PyData.shown, shownAll_map, List.map_map, list_enc]
  exact encL_congr fun c m => shown_code (h c m)
theorem code_inj {c d : List (List Int)} (hc : SmallC c) (hd : SmallC d) (h : PyData.shown (.tuple (c.map fun r => .tuple (r.map .int))) = PyData.shown (.tuple (d.map fun r => .tuple (r.map .int)))) : c = d := by
  have e : encT (encT encI) c = encT (encT encI) d := by rw [← shown_code hc, ← shown_code hd, h]
  have s : Stop [41] := ⟨41, [], rfl, by omega⟩
  exact ((apart_t (apart_t apart_int)).inj c d [41] [41] hc hd (by rw [e]) s s).1
theorem codes_inj {c d : List (List (List Int))} (hc : ∀ x ∈ c, SmallC x) (hd : ∀ x ∈ d, SmallC x) (h : PyData.shown (.list (c.map fun c => .tuple (c.map fun r => .tuple (r.map .int)))) = PyData.shown (.list (d.map fun c => .tuple (c.map fun r => .tuple (r.map .int))))) : c = d := by
  have e : encL (encT (encT encI)) c = encL (encT (encT encI)) d := by rw [← shown_codes hc, ← shown_codes hd, h]
  exact inj_l (apart_t (apart_t apart_int)) hc hd e
end Cn
/-! Texts of rows, codes and deeds: small. -/
namespace Cn
open PySem PySem.Spec PyProof.Rows L2
theorem sum_le (f : PyData → Nat) (B : Nat) : ∀ ds : List PyData, (∀ d ∈ ds, f d ≤ B) → (ds.map f).sum ≤ ds.length * B
  | [], _ => by simp
  | d :: ds, h => by
    have h1 := h d List.mem_cons_self
    have h2 := sum_le f B ds fun e m => h e (List.mem_cons_of_mem _ m)
    rw [List.map_cons, List.sum_cons, List.length_cons, Nat.succ_mul]
    omega
theorem len_of {ds : List PyData} {B m : Nat} (h : ∀ d ∈ ds, d.shown.length ≤ B) (hl : ds.length ≤ m) : ((PyData.shownAll ds).map (·.length)).sum + 2 * (PyData.shownAll ds).length + 3 ≤ m * (B + 2) + 3 := by
  rw [shownAll_map, List.map_map, List.length_map]
  have h1 := sum_le (fun d => d.shown.length) B ds h
  have h2 : ds.length * (B + 2) ≤ m * (B + 2) := Nat.mul_le_mul_right _ hl
  rw [Nat.mul_add] at h2
  have h3 : (ds.map ((fun x : Str => x.length) ∘ PyData.shown)).sum = (ds.map fun d => d.shown.length).sum := rfl
  rw [h3]
  omega
theorem tup_len {ds : List PyData} {B m : Nat} (h : ∀ d ∈ ds, d.shown.length ≤ B) (hl : ds.length ≤ m) : (PyData.shown (.tuple ds)).length ≤ m * (B + 2) + 3 := by
  rw [PyData.shown]
  exact Nat.le_trans (tupleText_len_le _) (len_of h hl)
theorem lst_len {ds : List PyData} {B m : Nat} (h : ∀ d ∈ ds, d.shown.length ≤ B) (hl : ds.length ≤ m) : (PyData.shown (.list ds)).length ≤ m * (B + 2) + 3 := by
  rw [PyData.shown]
  exact Nat.le_trans (listText_len_le _) (len_of h hl)
theorem int_len {i : Int} (h0 : 0 ≤ i) (h1 : i < 13) : (PyData.shown (.int i)).length ≤ 2 := by
  show (cpl (PyData.shown (.int i))).length ≤ 2
  rw [shown_int h0 h1]
  unfold encI
  split <;> simp
theorem smallR_of {p : Int} {n : Nat} (hp : GoodP p) {r : List Int} (h : IsRow p n r) : SmallR r := fun i m => by
  obtain ⟨j, hj, rfl⟩ := List.getElem_of_mem m
  have a := h.lo j
  have b := h.hi j
  have c := hp.most
  rw [List.getD_eq_getElem?_getD, List.getElem?_eq_getElem hj] at a b
  have a : 0 ≤ r[j] := a
  have b : r[j] < p := b
  exact ⟨a, by omega⟩
theorem smallC_of {p : Int} {n : Nat} (hp : GoodP p) {c : List (List Int)} (h : ∀ r ∈ c, IsRow p n r) : SmallC c := fun r m => smallR_of hp (h r m)
theorem row_len {p : Int} {n : Nat} (hp : GoodP p) {r : List Int} (h : IsRow p n r) (hn : n ≤ 6) : (PyData.shown (rowD r)).length ≤ 27 := by
  refine tup_len (B := 2) (m := 6) (fun d m => ?_) (by rw [List.length_map, h.len]; exact hn)
  obtain ⟨i, hi, rfl⟩ := List.mem_map.mp m
  have q := smallR_of hp h i hi
  exact int_len q.1 q.2
theorem code_len {p : Int} {n : Nat} (hp : GoodP p) {c : List (List Int)} (h : ∀ r ∈ c, IsRow p n r) (hn : n ≤ 6) (hl : c.length ≤ 6) : (PyData.shown (codeD c)).length ≤ 177 := by
  refine tup_len (B := 27) (m := 6) (fun d m => ?_) (by rw [List.length_map]; exact hl)
  obtain ⟨r, hr, rfl⟩ := List.mem_map.mp m
  exact row_len hp (h r hr) hn
theorem small_ints : ∀ {r : List Int}, SmallR r → smallTs (r.map .int) = true
  | [], _ => by simp [smallTs]
  | i :: r, h => by
    have hi := h i List.mem_cons_self
    have e : smallT (.int i) = true := by
      simp only [smallT]
      exact decide_eq_true (by have : (13 : Nat) < 2 ^ 200 := by decide
                               omega)
    rw [List.map_cons, smallTs, e, small_ints fun j m => h j (List.mem_cons_of_mem _ m)]
    rfl
theorem small_map {α : Type} {f : α → PyData} : ∀ {l : List α}, (∀ a ∈ l, smallT (f a) = true) → smallTs (l.map f) = true
  | [], _ => by simp [smallTs]
  | a :: l, h => by
    rw [List.map_cons, smallTs, h a List.mem_cons_self, small_map fun b m => h b (List.mem_cons_of_mem _ m)]
    rfl
theorem small_row {r : List Int} (h : SmallR r) : smallT (rowD r) = true := by
  rw [smallT]
  exact small_ints h
theorem small_code {c : List (List Int)} (h : SmallC c) : smallT (codeD c) = true := by
  rw [smallT]
  exact small_map fun r m => small_row (h r m)
theorem depth_all {B : Nat} : ∀ {ds : List PyData}, (∀ d ∈ ds, d.depth ≤ B) → PyData.depthAll ds ≤ B
  | [], _ => by simp [PyData.depthAll]
  | d :: ds, h => by
    have h1 := h d List.mem_cons_self
    have h2 := depth_all fun e m => h e (List.mem_cons_of_mem _ m)
    rw [PyData.depthAll]
    exact Nat.max_le.mpr ⟨h1, h2⟩
theorem depth_tup {B : Nat} {ds : List PyData} (h : ∀ d ∈ ds, d.depth ≤ B) : (PyData.tuple ds).depth ≤ B + 1 := by
  rw [PyData.depth]
  have := depth_all h
  omega
theorem depth_lst {B : Nat} {ds : List PyData} (h : ∀ d ∈ ds, d.depth ≤ B) : (PyData.list ds).depth ≤ B + 1 := by
  rw [PyData.depth]
  have := depth_all h
  omega
end Cn
/-! _law_between. -/
namespace Cn
open PySem PySem.Spec PyProof.Rows L2
open Evl (Ex)
/-- the key of a code -/
def ck (c : List (List Int)) : Key := .inr (PyData.shown (codeD c))
theorem ck_inj {c d : List (List Int)} (hc : SmallC c) (hd : SmallC d) (h : ck c = ck d) : c = d := code_inj hc hd (Sum.inr.inj h)
theorem zip_any {κ : Type} [DecidableEq κ] {ks : List κ} {vs : List V} {k : κ} (hl : ks.length = vs.length) : ((ks.zip vs).any fun kv => decide (kv.1 = k)) = decide (k ∈ ks) := by
  induction ks generalizing vs with
  | nil => rfl
  | cons a ks ih =>
    cases vs with
    | nil => simp at hl
    | cons v vs =>
      rw [List.zip_cons_cons, List.any_cons, ih (by simpa using hl)]
      by_cases h : a = k
      · subst h
        simp
      · have h2 : ¬ k = a := fun z => h z.symm
        simp [h, h2]
theorem zip_put {κ : Type} [DecidableEq κ] {ks : List κ} {vs : List V} {k : κ} {v : V} (hl : ks.length = vs.length) : putK (ks.zip vs) k v = if k ∈ ks then ks.zip ((ks.zip vs).map fun kv => if kv.1 = k then v else kv.2) else (ks ++ [k]).zip (vs ++ [v]) := by
  unfold putK
  rw [zip_any hl]
  by_cases h : k ∈ ks
  · rw [if_pos (decide_eq_true h), if_pos h]
    clear h
    induction ks generalizing vs with
    | nil => rfl
    | cons a ks ih =>
      cases vs with
      | nil => simp at hl
      | cons w vs =>
        rw [List.zip_cons_cons, List.map_cons, List.map_cons, List.zip_cons_cons, ih (by simpa using hl)]
        by_cases h : a = k <;> simp [h]
  · rw [if_neg (by simpa using h), if_neg h, List.zip_append hl]
    rfl
section
variable {P : Program} {w : World} {K : PySem.W.Frag} {mg : Str → Option Value} {base : Heap}
/-- the values under the codes' keys, one of them written anew -/
theorem dps_put {H : Hp} {v : V} {c : List (List Int)} : ∀ {ds : List (List (List Int))} {vs : List V}, DpAll K H vs (ds.map codeD) → (∀ d ∈ ds, SmallC d) → SmallC c → Dp K H v (codeD c) →
    DpAll K H (((ds.map ck).zip vs).map fun kv => if kv.1 = ck c then v else kv.2) (ds.map codeD)
  | [], _, h, _, _, _ => by
    cases h
    exact .nil
  | d :: ds, _, h, hs, hc, hv => by
    have h' : DpAll K H _ (codeD d :: ds.map codeD) := h
    cases h' with
    | @cons u us _ _ h1 h2 =>
      refine .cons ?_ (dps_put h2 (fun e m => hs e (List.mem_cons_of_mem _ m)) hc hv)
      show Dp K H (if ck d = ck c then v else u) (codeD d)
      by_cases e : ck d = ck c
      · rw [if_pos e, ck_inj (hs d List.mem_cons_self) hc e]
        exact hv
      · rw [if_neg e]
        exact h1
/-- the codes found after some of the rows -/
structure BtwAt (p : Int) (n : Nat) (low high : List (List Int)) (j : Nat) (ds : List (List (List Int))) : Prop where
  nd : ds.Nodup
  le : ds.length ≤ j
  mem : ∀ c, c ∈ ds ↔ ∃ ns ∈ (digitsL p.toNat high.length).take j, pivO (withR p (lrow p n ns high) low) ≠ none ∧ c = redL p (low ++ [lrow p n ns high])
theorem BtwAt.zero (p : Int) (n : Nat) (low high : List (List Int)) : BtwAt p n low high 0 [] := ⟨List.nodup_nil, Nat.le_refl _, fun c => by simp⟩
theorem take_mem {α : Type} {l : List α} {j : Nat} {a b : α} (h : l[j]? = some a) : b ∈ l.take (j + 1) ↔ b ∈ l.take j ∨ b = a := by
  rw [List.take_add_one, h]
  simp
theorem BtwAt.skip {p : Int} {n : Nat} {low high : List (List Int)} {j : Nat} {ds : List (List (List Int))} {ns : List Int} (h : BtwAt p n low high j ds) (hj : (digitsL p.toNat high.length)[j]? = some ns) (hn : pivO (withR p (lrow p n ns high) low) = none) : BtwAt p n low high (j + 1) ds := by
  refine ⟨h.nd, Nat.le_succ_of_le h.le, fun c => (h.mem c).trans ?_⟩
  constructor
  · rintro ⟨s, hs, q⟩
    exact ⟨s, (take_mem hj).mpr (.inl hs), q⟩
  · rintro ⟨s, hs, q1, q2⟩
    rcases (take_mem hj).mp hs with hs | rfl
    · exact ⟨s, hs, q1, q2⟩
    · exact absurd hn q1
theorem BtwAt.old {p : Int} {n : Nat} {low high : List (List Int)} {j : Nat} {ds : List (List (List Int))} {ns : List Int} (h : BtwAt p n low high j ds) (hj : (digitsL p.toNat high.length)[j]? = some ns) (hm : redL p (low ++ [lrow p n ns high]) ∈ ds) : BtwAt p n low high (j + 1) ds := by
  refine ⟨h.nd, Nat.le_succ_of_le h.le, fun c => ?_⟩
  constructor
  · intro m
    obtain ⟨s, hs, q⟩ := (h.mem c).mp m
    exact ⟨s, (take_mem hj).mpr (.inl hs), q⟩
  · rintro ⟨s, hs, q1, rfl⟩
    rcases (take_mem hj).mp hs with hs | rfl
    · exact (h.mem _).mpr ⟨s, hs, q1, rfl⟩
    · exact hm
theorem BtwAt.new {p : Int} {n : Nat} {low high : List (List Int)} {j : Nat} {ds : List (List (List Int))} {ns : List Int} (h : BtwAt p n low high j ds) (hj : (digitsL p.toNat high.length)[j]? = some ns) (hn : pivO (withR p (lrow p n ns high) low) ≠ none) (hm : redL p (low ++ [lrow p n ns high]) ∉ ds) : BtwAt p n low high (j + 1) (ds ++ [redL p (low ++ [lrow p n ns high])]) := by
  refine ⟨?_, by rw [List.length_append]; exact Nat.succ_le_succ h.le, fun c => ?_⟩
  · refine List.nodup_append.mpr ⟨h.nd, by simp, fun a ha b hb => ?_⟩
    rw [List.mem_singleton.mp hb]
    exact fun z => hm (z ▸ ha)
  · rw [List.mem_append, List.mem_singleton, h.mem c]
    constructor
    · rintro (⟨s, hs, q⟩ | rfl)
      · exact ⟨s, (take_mem hj).mpr (.inl hs), q⟩
      · exact ⟨ns, (take_mem hj).mpr (.inr rfl), hn, rfl⟩
    · rintro ⟨s, hs, q1, rfl⟩
      rcases (take_mem hj).mp hs with hs | rfl
      · exact .inl ⟨s, hs, q1, rfl⟩
      · exact .inr rfl
def lrowAt (p : Int) (n : Nat) (ns : List Int) (c : List (List Int)) (i : Nat) : List Int := ((ns.zip c).take i).foldl (fun r x => plusR p r x.1 x.2) (zeroR n)
theorem lrowAt_row {p : Int} {n : Nat} (hp : 0 < p) (ns : List Int) (c : List (List Int)) : ∀ i, IsRow p n (lrowAt p n ns c i)
  | 0 => isrow_zero hp n
  | i + 1 => by
    have h := lrowAt_row (n := n) hp ns c i
    unfold lrowAt at h ⊢
    rw [List.take_add_one, List.foldl_append]
    cases e : (ns.zip c)[i]? with
    | none => exact h
    | some x => exact isrow_plus hp h.len
theorem lrowAt_succ {p : Int} {n i : Nat} {ns : List Int} {c : List (List Int)} {x : Int} {r : List Int} (h1 : ns[i]? = some x) (h2 : c[i]? = some r) : lrowAt p n ns c (i + 1) = plusR p (lrowAt p n ns c i) x r := by
  unfold lrowAt
  have e : (ns.zip c)[i]? = some (x, r) := by
    rw [List.getElem?_zip_eq_some]
    exact ⟨h1, h2⟩
  rw [List.take_add_one, List.foldl_append, e]
  rfl
theorem lrowAt_full {p : Int} {n : Nat} {ns : List Int} {c : List (List Int)} (h : ns.length = c.length) : lrowAt p n ns c c.length = lrow p n ns c := by
  unfold lrowAt lrow
  rw [List.take_of_length_le (by rw [List.length_zip]; omega)]
def spLbtw (K : PySem.W.Frag) : Sp := fun vs H Q _ => ∃ p, ∃ n : Nat, ∃ low high a b, vs = [.int p, .int n, a, b] ∧ GoodP p ∧ 2 ≤ n ∧ n ≤ 6 ∧ Dp K H a (codeD low) ∧ Dp K H b (codeD high) ∧ CodeOk p n low ∧ CodeOk p n high ∧ low.length < 6 ∧ p.toNat ^ high.length ≤ 10000 ∧
  ∀ D ys ds H', H D = none → Ex H H' → H' D = some (.lst ys) → DpAll K H' ys ((upC ds).map codeD) → BtwList p n low high ds → Q (.ref D) H'
theorem sc_lbtw : FnScope ["_law_p", "_law_n", "_law_low", "_law_high", "_law_found", "_law_numbers", "_law_row", "_law_number", "_law_one", "_law_code"] ["_law_p", "_law_n", "_law_low", "_law_high"] (defScope s_law_between) := ⟨rfl, rfl, rfl, by decide +kernel, rfl, by decide +kernel, by decide +kernel⟩
end
end Cn
namespace Cn
open PySem PySem.Spec PyProof.Rows L2
open Evl (Ex)
/-- a dict is written: tuples stay -/
theorem ExT.mutD {K : PySem.W.Frag} {H : Hp} {D : Addr} {kvs : List (Key × V)} {o : HO} (h : H D = some (.dK kvs)) : ExT K H (upd H D o) := by
  intro b xs hb
  have ne : ∀ u, H b = some u → (∀ z, u ≠ .dK z) → b ≠ D := fun u e hu z => by
    rw [z, h] at e
    exact hu kvs (Option.some.inj e).symm
  rcases hb with (hb | ⟨ob, hb⟩) | hb
  · exact .inl (.inl (by rw [upd_ne (ne _ hb (fun z q => by cases q))]; exact hb))
  · exact .inl (.inr ⟨ob, by rw [upd_ne (ne _ hb (fun z q => by cases q))]; exact hb⟩)
  · exact .inr hb
section
variable {P : Program} {w : World} {K : PySem.W.Frag} {mg : Str → Option Value} {base : Heap}
theorem cal_lbtw (E : En K mg) : CalG P w K mg base 3 "_law_between" ["_law_p", "_law_n", "_law_low", "_law_high"] (spLbtw K) := by
  obtain ⟨fd, F, g⟩ := E.c_law_between
  refine ⟨⟨fd, ?_, F.binds fun _ _ _ _ _ _ us hl => match us, hl with | [_, _, _, _], _ => rfl⟩, g, F.kp⟩
  refine okG F sc_lbtw (fun vs H Q E h => ?_) (fun cdv A outer s H vs Q E' hG hr h => ?_)
  · obtain ⟨p, n, low, high, a, b, rfl, _⟩ := h
    rfl
  · obtain ⟨p, n, low, high, a, b, rfl, hp, n2, n6, ha, hb, hlo, hhi, hll, hpw, q⟩ := h
    have hu := hr.units
    have hu1 : (A.deeper (envOfC "_law_between" (defScope s_law_between) s.heap.objs.size (He.ga K "_law_between") cdv)).units + 1 < cLine := by omega
    have p0 := hp.pos
    have p2 := hp.two
    have p13 := hp.most
    obtain ⟨a, las, rfl, ta, hla⟩ := dp_tup ha
    obtain ⟨b, hbs, rfl, tb, hhb⟩ := dp_tup hb
    have lb : hbs.length = high.length := dps_mapl hhb
    have lla : las.length = low.length := dps_mapl hla
    have lh : high.length ≤ n := hhi.len
    refine ⟨_, pss_cons (ps_set (i := 4) sc_lbtw.nd rfl (.inl rfl) pe_dnewK)
      (pss_cons (ps_for PassesOwn.never rfl (pi_list (pe_cal (cal_digits (P := P) (w := w) (base := base) E) (hr.mono (by decide)) (pa_cons (pv 0) (pa_cons (pe_callB (cb_len K) (by rfl) E.n_len (by decide +kernel) (pa_cons (pv 3) pa_nil)) pa_nil)))) (pg_name (i := 5) sc_lbtw.nd rfl (.inl rfl))
        (pss_cons (ps_set (i := 6) sc_lbtw.nd rfl (.inl rfl) (pe_op (op_rep0 K) (pe_tup (pa_cons pe_int pa_nil)) (pv 1)))
        (pss_cons (ps_for PassesOwn.never rfl (RZ.pi_zipA (by rfl) E.n_zip (pa_cons (pv 5) (pa_cons (pv 3) pa_nil)))
          (pg_tup rfl (pgs_cons (pg_name (i := 7) sc_lbtw.nd rfl (.inl rfl)) (pgs_cons (pg_name (i := 8) sc_lbtw.nd rfl (.inl rfl)) pgs_nil)))
          (pss_one (ps_set (i := 6) sc_lbtw.nd rfl (.inl rfl) (pe_cal (cal_plus (P := P) (w := w) (base := base) E) (hr.mono (by decide)) (pa_cons (pv 0) (pa_cons (pv 6) (pa_cons (pv 7) (pa_cons (pv 8) pa_nil))))))))
        (pss_one (ps_if (pt_not (pt_val (pe_cal (cal_lin (P := P) (w := w) (base := base) E) (hr.mono (by decide)) (pa_cons (pv 0) (pa_cons (pv 2) (pa_cons (pv 6) pa_nil))))))
          (pss_cons (ps_set (i := 9) sc_lbtw.nd rfl (.inl rfl) (pe_cal (cal_lred (P := P) (w := w) (base := base) E) (hr.mono (by decide)) (pa_cons (pv 0) (pa_cons (pe_op op_cat (pe_callTy (ct_list K) (by rfl) E.n_list (by decide +kernel) (pa_cons (pv 2) pa_nil)) (pe_lst (pa_cons (pv 6) pa_nil))) pa_nil))))
          (pss_one (ps_dput hu1 (pv 4) (pe_callB (cr_repr K hG hu) (by rfl) E.n_repr (by decide +kernel) (pa_cons (pv 9) pa_nil)) (pv 9) rfl))) pss_nil)))))
      (pss_one (ps_ret (pe_callB (cr_upC K hu) (by rfl) E.n_sorted (by decide +kernel) (pa_cons (pe_listVals rfl (pv 4) (by rfl) E.n_list (by decide +kernel)) pa_nil))))), ?_⟩
    refine fun F hF => ?_
    have eF : Ex H (upd H F (.dK [])) := Ex.new hF
    refine ⟨_, rfl, _, rfl, b, hbs, rfl, .inr (Evl.ex_t eF tb), p.toNat, high.length, ?_, by omega, by omega, by omega, hpw, fun _ _ => trivial, fun D ys H2 hD e2 hy hd => ⟨D, rfl, ⟨ys, .inl (.inl hy)⟩, ?_⟩⟩
    · rw [lb, Int.toNat_of_nonneg (by omega)]
      rfl
    have e02 : Ex H H2 := eF.trans e2
    have hDF : D ≠ F := fun z => by rw [z, upd_same] at hD; cases hD
    have hD0 : H D = none := ex_none eF hD
    have ly : ys.length = (digitsL p.toNat high.length).length := dps_mapl hd
    refine for_list (fun j σ H' => ∃ ds vs x5 x6 x7 x8 x9, σ = [some (.int p), some (.int n), some (.ref a), some (.ref b), some (.ref F), x5, x6, x7, x8, x9] ∧ Ex H H' ∧ H' F = some (.dK ((ds.map ck).zip vs)) ∧ H' D = some (.lst ys) ∧ ExT K H2 H' ∧ DpAll K H' vs (ds.map codeD) ∧ BtwAt p n low high j ds)
      ⟨[], [], none, none, none, none, none, rfl, e02, e2 _ _ upd_same, hy, ExT.refl K _, .nil, BtwAt.zero _ _ _ _⟩ (fun j σ H' _ z => by obtain ⟨_, _, _, _, _, _, _, _, _, _, h, _⟩ := z; exact .inl (.inl h)) ?_ ?_
    · rintro j x σ H3 hj ⟨ds, vs, x5, x6, x7, x8, x9, rfl, e3, hF3, hD3, t3, hv3, bt⟩
      obtain ⟨ns, hns, hdx⟩ := ls_at (f := rowD) (dps_monoT t3 _ _ (flat_map flat_row) hd) hj
      obtain ⟨ln, bn⟩ := (digits_mem p.toNat).mp (List.mem_of_getElem? hns)
      obtain ⟨x, rfl, tx⟩ := dp_row hdx
      refine ⟨by show 1 ≤ sizeLine; decide, fun T hT => ⟨_, rfl, T, n, [.int 0], rfl, rfl, .inl (.inl upd_same), by simp, by omega, by omega, by decide, fun h1 => absurd h1 (by omega), fun Z hZ => ?_⟩⟩
      have eZ : Ex H3 (upd (upd H3 T (.tup [.int 0])) Z (.tup (List.replicate (n : Int).toNat [V.int 0]).flatten)) := (Ex.new hT).trans (Ex.new hZ)
      have hZr : Dp K (upd (upd H3 T (.tup [.int 0])) Z (.tup (List.replicate (n : Int).toNat [V.int 0]).flatten)) (.ref Z) (rowD (zeroR n)) := by
        refine row_dp (.inl (.inl ?_))
        rw [upd_same, Int.toNat_natCast, zero_rep]
      refine ⟨_, rfl, _, rfl, x, b, _, _, rfl, .inr ⟨Evl.ex_t eZ tx, Evl.ex_t (e3.trans eZ) tb, ?_⟩⟩
      refine for_it (walk_zipT (xs := ns.map V.int) (ys := hbs) (n := high.length) (by simp [ln]) lb) (fun i σ H' => ∃ v y7 y8, σ = [some (.int p), some (.int n), some (.ref a), some (.ref b), some (.ref F), some (.ref x), some v, y7, y8, x9] ∧ Ex H3 H' ∧ Dp K H' v (rowD (lrowAt p n ns high i))) ⟨.ref Z, x7, x8, rfl, eZ, hZr⟩ (fun i σ H' _ z => by obtain ⟨_, _, _, _, e, _⟩ := z; exact ⟨Evl.ex_t e tx, Evl.ex_t (e3.trans e) tb⟩) ?_ ?_
      · rintro i y σ H4 H5 hi ⟨v, y7, y8, rfl, e4, hv⟩ ⟨U, u1, u2, rfl, hU, rfl, h1, h2⟩
        have e45 : Ex H4 (upd H4 U (.tup [u1, u2])) := Ex.new hU
        have hi1 : i < ns.length := by omega
        have en : ns[i]? = some (ns.getD i 0) := by
          rw [List.getD_eq_getElem?_getD, List.getElem?_eq_getElem hi1]
          rfl
        have e1 := getD_of h1
        obtain ⟨r, er, hdr⟩ := ls_at (f := rowD) (dps_mono ((e3.trans e4).trans e45) _ _ hhb) h2
        subst e1
        have hrr := hhi.red.row r (List.mem_of_getElem? er)
        have hc' := lrowAt_row (n := n) p0 ns high i
        have bb := bn _ (List.mem_of_getElem? en)
        refine ⟨U, _, rfl, .inl (.inl upd_same), rfl, _, _, rfl, _, _, rfl, rfl, _, rfl, _, rfl, _, rfl, _, rfl, ?_⟩
        refine ⟨v, u2, p, _, _, r, rfl, p0, by omega, by omega, dp_rowmono e45 hv, hdr, by rw [hc'.len, hrr.len], by rw [hc'.len]; omega, fun u6 H6 e6 h6 => ?_⟩
        refine ⟨u6, _, _, rfl, (e4.trans e45).trans e6, ?_⟩
        rw [lrowAt_succ en er]
        exact h6
      · rintro σ H4 ⟨v, y7, y8, rfl, e4, hv⟩
        rw [lrowAt_full ln] at hv
        have hrow : IsRow p n (lrow p n ns high) := (lrow_span ns high).row p0
        have e04 := e3.trans e4
        refine ⟨_, rfl, _, rfl, _, rfl, v, .ref a, p, n, _, low, rfl, hp, by omega, hv, hrow, ⟨a, las, rfl, .inr (Evl.ex_t e04 ta), dps_mono e04 _ _ hla⟩, hlo.red.piv, fun H5 e5 => ⟨_, rfl, ?_⟩⟩
        have e05 := e04.trans e5
        have e35 := e4.trans e5
        by_cases hz : pivO (withR p (lrow p n ns high) low) = none
        · rw [decide_eq_true hz]
          refine iteF ?_
          exact ⟨ds, vs, _, _, _, _, _, rfl, e05, e35 _ _ hF3, e35 _ _ hD3, t3.trans (ExT.of e35), dps_mono e35 _ _ hv3, bt.skip hns hz⟩
        · rw [decide_eq_false hz]
          refine iteT ⟨_, rfl, _, rfl, a, las, rfl, .inr (Evl.ex_t e05 ta), fun L1 hL1 => ⟨_, rfl, by show 1 ≤ sizeLine; decide, fun L2 hL2 => ?_⟩⟩
          have e6 : Ex H5 (upd (upd H5 L1 (.lst las)) L2 (.lst [v])) := (Ex.new hL1).trans (Ex.new hL2)
          have sz7 : las.length + ([v] : List V).length ≤ sizeLine := by
            have : 7 ≤ sizeLine := by decide
            simp only [List.length_cons, List.length_nil]
            omega
          refine ⟨L1, L2, las, [v], rfl, rfl, (Ex.new hL2) _ _ upd_same, upd_same, sz7, fun M hM => ?_⟩
          have e7 := e6.trans (Ex.new (o := .lst (las ++ [v])) hM)
          refine ⟨.ref M, p, n, low ++ [lrow p n ns high], rfl, hp, n2, by omega, ⟨M, _, rfl, .inl (.inl (.inl upd_same)), ?_⟩, app_rows hlo.red.row (one_row hrow), by simp; omega, fun c H8 e8 hc => ?_⟩
          · rw [List.map_append]
            exact dps_snoc (dps_mono (e05.trans e7) _ _ hla) (dp_rowmono (e5.trans e7) hv)
          have e38 := (e35.trans e7).trans e8
          have hcc : ∀ r ∈ redL p (low ++ [lrow p n ns high]), IsRow p n r := (redL_red hp (app_rows hlo.red.row (one_row hrow))).row
          have lcc : (redL p (low ++ [lrow p n ns high])).length ≤ 6 := by
            have := redL_len p (low ++ [lrow p n ns high])
            rw [List.length_append] at this
            simp only [List.length_cons, List.length_nil] at this
            omega
          have hsc := smallC_of hp hcc
          obtain ⟨c, cvs, rfl, tc, hcv⟩ := dp_tup hc
          have sds : ∀ d ∈ ds, SmallC d := fun d hd => by
            obtain ⟨s, _, _, rfl⟩ := (bt.mem d).mp hd
            exact smallC_of hp (redL_red hp (app_rows hlo.red.row (one_row ((lrow_span s high).row p0)))).row
          have hF8 := e38 _ _ hF3
          have lvs : (ds.map ck).length = vs.length := by rw [List.length_map, dps_mapl hv3]
          have hFH : H F = none := hF
          have dcc : (codeD (redL p (low ++ [lrow p n ns high]))).depth ≤ 20 := by
            have := depth_code (redL p (low ++ [lrow p n ns high]))
            omega
          have zcc : (PyData.shown (codeD (redL p (low ++ [lrow p n ns high])))).length ≤ sizeLine := by
            have := code_len hp hcc n6 lcc
            have : 177 ≤ sizeLine := by decide
            omega
          refine ⟨_, rfl, _, rfl, _, rfl, c, _, rfl, hc, small_code hsc, dcc, zcc, F, _, rfl, DPut.k (k := ck (redL p (low ++ [lrow p n ns high]))) hF8 ?_, ?_⟩
          · have h1 := bt.le
            have h2 : j < ys.length := (List.getElem?_eq_some_iff.mp hj).1
            rw [ly, digits_len] at h2
            have : 10000 < sizeLine := by decide
            rw [List.length_zip, ← lvs, List.length_map]
            omega
          · have e08 := e3.trans e38
            have t8 : ExT K H8 (upd H8 F (.dK (putK ((ds.map ck).zip vs) (ck (redL p (low ++ [lrow p n ns high]))) (.ref c)))) := ExT.mutD hF8
            have emut := Evl.Ex.mut (o := .dK (putK ((ds.map ck).zip vs) (ck (redL p (low ++ [lrow p n ns high]))) (.ref c))) e08 hF
            have hD8 : (upd H8 F (.dK (putK ((ds.map ck).zip vs) (ck (redL p (low ++ [lrow p n ns high]))) (.ref c)))) D = some (.lst ys) := by
              rw [upd_ne hDF]
              exact e38 _ _ hD3
            have hv8 := dps_mono e38 _ _ hv3
            rw [zip_put lvs] at emut t8 hD8 ⊢
            by_cases hm : ck (redL p (low ++ [lrow p n ns high])) ∈ ds.map ck
            · rw [if_pos hm] at emut t8 hD8 ⊢
              have hm2 : redL p (low ++ [lrow p n ns high]) ∈ ds := by
                obtain ⟨d, hd, e⟩ := List.mem_map.mp hm
                rw [← ck_inj (sds d hd) hsc e]
                exact hd
              exact ⟨ds, _, _, _, _, _, _, rfl, emut, upd_same, hD8, (t3.trans (ExT.of e38)).trans t8, dps_monoT t8 _ _ (flat_map fun _ => flat_code _) (dps_put hv8 sds hsc hc), bt.old hns hm2⟩
            · rw [if_neg hm] at emut t8 hD8 ⊢
              have hm2 : redL p (low ++ [lrow p n ns high]) ∉ ds := fun z => hm (List.mem_map.mpr ⟨_, z, rfl⟩)
              refine ⟨ds ++ [redL p (low ++ [lrow p n ns high])], vs ++ [.ref c], _, _, _, _, _, rfl, emut, ?_, hD8, (t3.trans (ExT.of e38)).trans t8, ?_, bt.new hns hz hm2⟩
              · rw [upd_same, List.map_append]
                rfl
              · rw [List.map_append]
                exact dps_monoT t8 _ _ (flat_app (flat_map fun _ => flat_code _) (flat_map (f := codeD) (l := [redL p (low ++ [lrow p n ns high])]) fun _ => flat_code _)) (dps_snoc hv8 hc)
    · rintro σ H3 ⟨ds, vs, x5, x6, x7, x8, x9, rfl, e3, hF3, hD3, t3, hv3, bt⟩
      rw [ly] at bt
      have lvs : (ds.map ck).length = vs.length := by rw [List.length_map, dps_mapl hv3]
      refine ⟨_, rfl, F, _, rfl, hF3, fun L hL => ?_⟩
      have eL : Ex H3 (upd H3 L (.lst (((ds.map ck).zip vs).map (·.2)))) := Ex.new hL
      have ez : ((ds.map ck).zip vs).map (·.2) = vs := List.map_snd_zip (by omega)
      rw [ez] at eL ⊢
      have bl : BtwList p n low high ds := ⟨bt.nd, fun c => by
        have h := bt.mem c
        rw [List.take_length] at h
        exact h⟩
      refine ⟨L, vs, ds, rfl, .inl (.inl upd_same), dps_mono eL _ _ hv3, fun d hd => ?_, fun zs M hz hM => ?_⟩
      · obtain ⟨s, _, h1, rfl⟩ := (bl.mem d).mp hd
        have hs := (lrow_span (p := p) (n := n) s high).row p0
        have h2 := dim_new hp hlo.red.row hs ((out_iff hp hlo.red hs).mp h1)
        cases e : redL p (low ++ [lrow p n s high]) with
        | nil => rw [e] at h2; simp at h2
        | cons r rs => exact ⟨_, _, rfl⟩
      · refine q M zs ds _ (ex_none (e3.trans eL) hM) ((e3.trans eL).trans (Ex.new hM)) upd_same (dps_mono (Ex.new hM) _ _ hz) bl
end
end Cn
namespace Cn
open PySem PySem.Spec PyProof.Rows L2
open Evl (Ex)
theorem whole_at {p : Int} {n i : Nat} {rows : List (List Int)} (h1 : rows.length = n) (hn : 1 ≤ n) (hi : i ≤ n) : (wholeL n (codesL p rows))[i]? = some (codeAt n (codesL p rows) i) := by
  have hl : (codesL p rows).length = n - 1 := by rw [codesL_len2, h1]
  unfold wholeL codeAt
  rw [if_neg (by omega : ¬ n = 0)]
  by_cases h0 : i = 0
  · subst h0
    rw [if_pos rfl]
    rfl
  · rw [if_neg h0]
    obtain ⟨k, rfl⟩ : ∃ k, i = k + 1 := ⟨i - 1, by omega⟩
    by_cases he : k + 1 = n
    · rw [if_pos he, List.getElem?_append_right (by rw [List.length_cons, hl]; omega), List.length_cons, hl]
      rw [show k + 1 - (n - 1 + 1) = 0 by omega]
      rfl
    · rw [if_neg he, List.getElem?_append_left (by rw [List.length_cons, hl]; omega), List.getElem?_cons_succ, Nat.add_sub_cancel, List.getD_eq_getElem?_getD, List.getElem?_eq_getElem (by omega)]
      rfl
section
variable {P : Program} {w : World} {K : PySem.W.Frag} {mg : Str → Option Value} {base : Heap}
def spLdeeds (K : PySem.W.Frag) : Sp := fun vs H Q _ => ∃ gd g wl ws p, ∃ n i : Nat, ∃ rows, vs = [.ref gd, .ref wl, .int i] ∧ GoodP p ∧ n ≤ 6 ∧ p.toNat ^ n ≤ 10000 ∧ Drawn p n rows ∧ 1 ≤ i ∧ i < n ∧ H gd = some (.dK (grdD p n g)) ∧ H wl = some (.lst ws) ∧ DpAll K H ws ((wholeL n (codesL p rows)).map codeD) ∧
  ∀ D ys H', H D = none → Ex H H' → H' D = some (.lst ys) → DpAll K H' ys ((deedsC p n (codesL p rows) i).map (deedD i)) → Q (.ref D) H'
theorem sc_ldeeds : FnScope ["_law_ground", "_law_whole_here", "_law_level", "_law_found", "_law_code"] ["_law_ground", "_law_whole_here", "_law_level"] (defScope s_law_deeds_at) := ⟨rfl, rfl, rfl, by decide +kernel, rfl, by decide +kernel, by decide +kernel⟩
theorem cal_ldeeds (E : En K mg) : CalG P w K mg base 4 "_law_deeds_at" ["_law_ground", "_law_whole_here", "_law_level"] (spLdeeds K) := by
  obtain ⟨fd, F, g⟩ := E.c_law_deeds_at
  refine ⟨⟨fd, ?_, F.binds fun _ _ _ _ _ _ us hl => match us, hl with | [_, _, _], _ => rfl⟩, g, F.kp⟩
  refine okG F sc_ldeeds (fun vs H Q E h => ?_) (fun cdv A outer s H vs Q E' hG hr h => ?_)
  · obtain ⟨gd, g, wl, ws, p, n, i, rows, rfl, _⟩ := h
    rfl
  · obtain ⟨gd, g, wl, ws, p, n, i, rows, rfl, hp, n6, hpw, hdr, i1, i2, hgd, hwl, hws, q⟩ := h
    have hu := hr.units
    have hu1 : (A.deeper (envOfC "_law_deeds_at" (defScope s_law_deeds_at) s.heap.objs.size (He.ga K "_law_deeds_at") cdv)).units + 1 < cLine := by omega
    have p0 := hp.pos
    have p2 := hp.two
    have p13 := hp.most
    obtain ⟨r1, r2⟩ := hdr.rows hp
    obtain ⟨k, rfl⟩ : ∃ k, i = k + 1 := ⟨i - 1, by omega⟩
    have hn := drawn_nest hp hdr
    have wat : ∀ j, j ≤ n → ∃ v, ws[j]? = some v ∧ Dp K H v (codeD (codeAt n (codesL p rows) j)) := fun j hj => dps_at hws (by rw [List.getElem?_map, whole_at r1 (by omega) hj]; rfl)
    refine ⟨_, pss_cons (ps_set (i := 3) sc_ldeeds.nd rfl (.inl rfl) (pe_calG (cal_lbtw (P := P) (w := w) (base := base) E) hG (hr.mono (by decide)) (pa_cons (pe_dget hu1 (pv 0) pe_str (fun _ _ => rfl)) (pa_cons (pe_dget hu1 (pv 0) pe_str (fun _ _ => rfl))
        (pa_cons (pe_ix (ixl K) (pv 1) (pe_op op_sub (pv 2) pe_int) (fun _ _ => rfl)) (pa_cons (pe_ix (ixl K) (pv 1) (pe_op op_add (pv 2) pe_int) (fun _ _ => rfl)) pa_nil))))))
      (pss_one (ps_ret (pe_lc (own := [("_law_code", 4)]) (g := gName 4) rfl sc_ldeeds.nd (pi_seq K (pv 3)) (blkOk_by (by kernel_rfl)) (fun _ _ _ _ _ => pg_name (i := 4) sc_ldeeds.nd rfl (.inl rfl))
        (fun _ _ _ _ _ => pts_one (pt_cmpR (op_neK K hu) (pv 4) (pe_ix (ixl K) (pv 1) (pv 2) (fun _ _ => rfl)) (nomark _))) (fun _ _ _ _ _ => pe_tup (pa_cons (pv 2) (pa_cons (pv 4) pa_nil)))))), ?_⟩
    obtain ⟨v0, hv0, d0⟩ := wat k (by omega)
    obtain ⟨v1, hv1, d1⟩ := wat (k + 1) (by omega)
    obtain ⟨v2, hv2, d2⟩ := wat (k + 2) (by omega)
    refine ⟨_, rfl, gd, _, rfl, gd_at hgd (gv_p _ _ _), _, rfl, gd, _, rfl, gd_at hgd (gv_n _ _ _), _, rfl, _, rfl, _, _, rfl, rfl, wl, ws, (k : Int), v0, rfl, ?_, .inl (.inl hwl), atI_nat hv0, _, rfl, _, rfl, _, _, rfl, rfl, wl, ws, ((k + 2 : Nat) : Int), v2, rfl, ?_, .inl (.inl hwl), atI_nat hv2, ?_⟩
    · show V.int (((k + 1 : Nat) : Int) - 1) = _
      rw [show ((k + 1 : Nat) : Int) - 1 = (k : Int) by omega]
    · show V.int (((k + 1 : Nat) : Int) + 1) = _
      rw [show ((k + 1 : Nat) : Int) + 1 = ((k + 2 : Nat) : Int) by omega]
    have c0 := codeAt_ok p2 hn (show k ≤ n by omega)
    have c2 := codeAt_ok p2 hn (show k + 2 ≤ n by omega)
    refine ⟨p, n, codeAt n (codesL p rows) k, codeAt n (codesL p rows) (k + 2), v0, v2, rfl, hp, by omega, n6, d0, d2, c0.1, c2.1, by rw [c0.2]; omega, ?_, fun D ys ds H2 hD e2 hy hd bl => ?_⟩
    · rw [c2.2]
      exact Nat.le_trans (Nat.pow_le_pow_right (by omega) (by omega)) hpw
    have eb : upC ds = betweenL p n (codeAt n (codesL p rows) k) (codeAt n (codesL p rows) (k + 2)) := by
      rw [code_drawn hp hdr (by omega), code_drawn hp hdr (by omega), ← high_eq hdr hp i2] at bl ⊢
      exact btw_list hp (drawn_tri hp hdr i2) bl
    rw [eb] at hd
    refine ⟨_, rfl, seq_lc (f := codeD) (c := betweenL p n (codeAt n (codesL p rows) k) (codeAt n (codesL p rows) (k + 2))) ⟨D, ys, rfl, .inl (.inl (.inl hy)), hd⟩ (sz100 (by rw [betw_len]; omega)) (fun c => decide (c ≠ codeAt n (codesL p rows) (k + 1))) (fun c => deedD (k + 1) c) (fun c => flat_deed (k + 1) c) (gm_name 4) ?_ ?_⟩
    · intro c x H4 hm e4 hx
      refine ⟨rfl, Ex.refl _, ?_, fun _ => ?_⟩
      · intro H5 e5 Q' kk
        have e05 := (e2.trans e4).trans e5
        refine ⟨_, rfl, _, rfl, _, rfl, wl, ws, _, v1, rfl, rfl, .inl (.inl (e05 _ _ hwl)), atI_nat hv1, _, _, dp_codemono e5 hx, dp_codemono e05 d1, shaped_code _, shaped_code _, _, rfl, ?_⟩
        rw [eqv_code]
        have ed : (!decide (c = codeAt n (codesL p rows) (k + 1))) = decide (c ≠ codeAt n (codesL p rows) (k + 1)) := by simp
        rw [ed]
        exact kk _ (Ex.refl _)
      · intro H5 e5 Q' kk
        exact ⟨_, rfl, _, rfl, by show 2 ≤ sizeLine; decide, fun T hT => kk _ _ (Ex.new hT) (.tup (.inl (.inl upd_same)) (.cons (.int _) (.cons (dp_codemono (e5.trans (Ex.new hT)) hx) .nil)))⟩
    · intro D2 zs H4 hD2 e4 hz hd2
      refine q D2 zs H4 (ex_none e2 hD2) (e2.trans e4) hz ?_
      unfold deedsC
      exact hd2
end
end Cn
/-! Lists of deeds, of codes: their texts are short. -/
namespace Cn
open PySem PySem.Spec PyProof.Rows L2
open Evl (Ex)
/-- what can be shown -/
structure Show (B D : Nat) (d : PyData) : Prop where
  sm : smallT d = true
  dep : d.depth ≤ D
  len : d.shown.length ≤ B
theorem show_code {p : Int} {n : Nat} (hp : GoodP p) {c : List (List Int)} (h : ∀ r ∈ c, IsRow p n r) (hn : n ≤ 6) (hl : c.length ≤ 6) : Show 177 2 (codeD c) := ⟨small_code (smallC_of hp h), depth_code c, code_len hp h hn hl⟩
theorem all_small : ∀ {ds : List PyData}, (∀ d ∈ ds, smallT d = true) → smallTs ds = true
  | [], _ => by simp [smallTs]
  | d :: ds, h => by
    rw [smallTs, h d List.mem_cons_self, all_small fun e m => h e (List.mem_cons_of_mem _ m)]
    rfl
theorem depth_allB {B : Nat} : ∀ {ds : List PyData}, (∀ d ∈ ds, d.depth ≤ B) → PyData.depthAll ds ≤ B
  | [], _ => by simp [PyData.depthAll]
  | d :: ds, h => by
    have h1 := h d List.mem_cons_self
    have h2 := depth_allB fun e m => h e (List.mem_cons_of_mem _ m)
    rw [PyData.depthAll]
    exact Nat.max_le.mpr ⟨h1, h2⟩
theorem show_tup {B D m : Nat} {ds : List PyData} (h : ∀ d ∈ ds, Show B D d) (hl : ds.length ≤ m) : Show (m * (B + 2) + 3) (D + 1) (.tuple ds) := by
  refine ⟨by rw [smallT]; exact all_small fun d m => (h d m).sm, ?_, tup_len (fun d m => (h d m).len) hl⟩
  have := depth_allB fun d m => (h d m).dep
  simp only [PyData.depth]
  omega
theorem show_lst {B D m : Nat} {ds : List PyData} (h : ∀ d ∈ ds, Show B D d) (hl : ds.length ≤ m) : Show (m * (B + 2) + 3) (D + 1) (.list ds) := by
  refine ⟨by rw [smallT]; exact all_small fun d m => (h d m).sm, ?_, lst_len (fun d m => (h d m).len) hl⟩
  have := depth_allB fun d m => (h d m).dep
  simp only [PyData.depth]
  omega
theorem show_int {i : Int} (h0 : 0 ≤ i) (h1 : i < 13) : Show 177 2 (.int i) := by
  refine ⟨?_, by simp [PyData.depth], Nat.le_trans (int_len h0 h1) (by decide)⟩
  simp only [smallT]
  have : (13 : Nat) < 2 ^ 200 := by decide
  exact decide_eq_true (by omega)
theorem show_deed {p : Int} {n i : Nat} (hp : GoodP p) {c : List (List Int)} (h : ∀ r ∈ c, IsRow p n r) (hn : n ≤ 6) (hl : c.length ≤ 6) (hi : i ≤ 6) : Show 361 3 (deedD i c) := by
  refine show_tup (B := 177) (D := 2) (m := 2) (fun d m => ?_) (Nat.le_refl 2)
  simp only [List.mem_cons, List.not_mem_nil, or_false] at m
  rcases m with rfl | rfl
  · exact show_int (by omega) (by omega)
  · exact show_code hp h hn hl
theorem show_deeds {p : Int} {n : Nat} {rows : List (List Int)} (hp : GoodP p) (h : Drawn p n rows) (hn : n ≤ 6) {k : Nat} (hk : k + 1 < n) : ∀ d ∈ (deedsC p n (codesL p rows) (k + 1)).map (deedD (k + 1)), Show 361 3 d := fun d m => by
  obtain ⟨c, hc, rfl⟩ := List.mem_map.mp m
  obtain ⟨q1, q2, _⟩ := deed_facts hp h hk hc
  exact show_deed hp q1.red.row hn (by omega) (by omega)
theorem show_level {p : Int} {n : Nat} {rows : List (List Int)} (hp : GoodP p) (h : Drawn p n rows) (hn : n ≤ 6) {k : Nat} (hk : k + 1 < n) : Show 40000 4 (.list ((deedsC p n (codesL p rows) (k + 1)).map (deedD (k + 1)))) := by
  have q := show_lst (m := 14) (show_deeds hp h hn hk) (by rw [List.length_map]; exact deeds_len hp _ _ _)
  exact ⟨q.sm, q.dep, Nat.le_trans q.len (by decide)⟩
theorem show_allD {p : Int} {n : Nat} {rows : List (List Int)} (hp : GoodP p) (h : Drawn p n rows) (hn : n ≤ 6) {m : Nat} (hm : m ≤ n - 1) : Show 40000 4 (.list (allD p n (codesL p rows) m)) := by
  have q := show_lst (m := 14 * 6) (B := 361) (D := 3) (ds := allD p n (codesL p rows) m) (fun d md => ?_) (Nat.le_trans (allD_len hp _ _ m) (by omega))
  · exact ⟨q.sm, q.dep, Nat.le_trans q.len (by decide)⟩
  · obtain ⟨j, hj, md⟩ := List.mem_flatMap.mp md
    have hj := List.mem_range.mp hj
    exact show_deeds hp h hn (by omega) d md
theorem show_nest {p : Int} {n : Nat} {cs : List (List (List Int))} (hp : GoodP p) (h : NestOk p n cs) (hn : n ≤ 6) : Show 40000 4 (.list (cs.map codeD)) := by
  have q := show_lst (m := 6) (B := 177) (D := 2) (ds := cs.map codeD) (fun d m => ?_) (by rw [List.length_map, h.len]; omega)
  · exact ⟨q.sm, by have := q.dep; omega, Nat.le_trans q.len (by decide)⟩
  · obtain ⟨c, hc, rfl⟩ := List.mem_map.mp m
    obtain ⟨j, hj⟩ := List.getElem?_of_mem hc
    obtain ⟨q1, q2⟩ := h.at_ j c hj
    exact show_code hp q1.red.row hn (by have := (List.getElem?_eq_some_iff.mp hj).1; have := h.len; omega)
theorem small_nest {p : Int} {n : Nat} {cs : List (List (List Int))} (hp : GoodP p) (h : NestOk p n cs) : ∀ c ∈ cs, SmallC c := fun c hc => by
  obtain ⟨j, hj⟩ := List.getElem?_of_mem hc
  exact smallC_of hp (h.at_ j c hj).1.red.row
theorem Show.fit {B D : Nat} {d : PyData} (h : Show B D d) (hB : B ≤ 40000) (hD : D ≤ 4) : smallT d = true ∧ d.depth ≤ 20 ∧ d.shown.length ≤ sizeLine := by
  have := h.dep
  have := h.len
  have : 40000 ≤ sizeLine := by decide
  exact ⟨h.sm, by omega, by omega⟩
end Cn
/-! _law_great_right. -/
namespace Cn
open PySem PySem.Spec PyProof.Rows L2
open Evl (Ex)
section
variable {P : Program} {w : World} {K : PySem.W.Frag} {mg : Str → Option Value} {base : Heap}
def spGreat (K : PySem.W.Frag) : Sp := fun vs H Q _ => ∃ d c, vs = [.ref d] ∧ Src d c H ∧ ∀ H', ExS d c H H' → Src d c H' → Q (.bl true) H'
theorem sc_great : FnScope ["_law_source_here", "_law_ground", "_law_base_here", "_law_p", "_law_nest", "_law_due", "_law_level", "_law_low", "_law_one", "_law_other", "_law_codes_here", "_law_own", "_law_k", "_law_code"] ["_law_source_here"] (defScope s_law_great_right) := ⟨rfl, rfl, rfl, by decide +kernel, rfl, by decide +kernel, by decide +kernel⟩
theorem cal_great (E : En K mg) : CalG P w K mg base 11 "_law_great_right" ["_law_source_here"] (spGreat K) := by
  obtain ⟨fd, F, g⟩ := E.c_law_great_right
  refine ⟨⟨fd, ?_, F.binds fun _ _ _ _ _ _ us hl => match us, hl with | [_], _ => rfl⟩, g, F.kp⟩
  refine okG F sc_great (fun vs H Q E h => ?_) (fun cdv A outer s H vs Q E' hG hr h => ?_)
  · obtain ⟨d, c, rfl, _⟩ := h
    rfl
  · obtain ⟨d, c, rfl, hs, q⟩ := h
    have hu := hr.units
    have hu1 : (A.deeper (envOfC "_law_great_right" (defScope s_law_great_right) s.heap.objs.size (He.ga K "_law_great_right") cdv)).units + 1 < cLine := by omega
    refine ⟨_, pss_cons (ps_set (i := 1) sc_great.nd rfl (.inl rfl) (pe_cal (cal_greatg (P := P) (w := w) (base := base) E) (hr.mono (by decide)) (pa_cons (pv 0) pa_nil)))
      (pss_cons (ps_asg (pe_tup (pa_cons (pe_cal (cal_base (P := P) (w := w) (base := base) E) (hr.mono (by decide)) (pa_cons (pv 0) (pa_cons (pv 1) pa_nil))) (pa_cons (pe_dget hu1 (pv 1) pe_str (fun _ _ => rfl)) pa_nil))) (pg_tup rfl (pgs_cons (pg_name (i := 2) sc_great.nd rfl (.inl rfl)) (pgs_cons (pg_name (i := 3) sc_great.nd rfl (.inr rfl)) pgs_nil))))
      (pss_cons (ps_par (i := 4) (j := 5) rfl sc_great.nd rfl rfl (by decide) rfl rfl (pa_cons (pe_new (cal_Nest (P := P) (w := w) (base := base) E) (hr.mono (by decide)) (pa_cons (pe_dget hu1 (pv 1) pe_str (fun _ _ => rfl)) (pa_cons (pe_cal (cal_lcodes (P := P) (w := w) (base := base) E) (hr.mono (by decide)) (pa_cons (pv 3) (pa_cons (pv 2) pa_nil))) pa_nil))) (pa_cons (pe_lst pa_nil) pa_nil)) rfl)
      (pss_cons (ps_for PassesOwn.never rfl (pi_range2 (by rfl) E.n_range (pa_cons pe_int (pa_cons pe_int pa_nil))) (pg_name (i := 6) sc_great.nd rfl (.inr rfl))
        (pss_cons (ps_asg (pe_tup (pa_cons (pe_slice (slL K) (pv 2) po_none (po_some (pe_op op_sub (pv 6) pe_int))) (pa_cons (pe_ix (ixl K) (pv 2) (pe_op op_sub (pv 6) pe_int) (fun _ _ => rfl)) (pa_cons (pe_ix (ixl K) (pv 2) (pv 6) (fun _ _ => rfl)) pa_nil)))) (pg_tup rfl (pgs_cons (pg_name (i := 7) sc_great.nd rfl (.inr rfl)) (pgs_cons (pg_name (i := 8) sc_great.nd rfl (.inr rfl)) (pgs_cons (pg_name (i := 9) sc_great.nd rfl (.inr rfl)) pgs_nil)))))
        (pss_cons (ps_setLc (i := 10) (own := [("_law_k", 12)]) (g := gName 12) (tt := tYes) rfl sc_great.nd rfl rfl rfl (pi_range1 (by rfl) E.n_range (pa_cons (pv 3) pa_nil)) (blkOk_by (by kernel_rfl)) (fun _ _ _ _ _ => pg_name (i := 12) sc_great.nd rfl (.inl rfl)) (fun _ _ _ _ _ => pts_nil)
            (fun _ _ _ _ _ => pe_cal (cal_lred (P := P) (w := w) (base := base) E) (hr.mono (by decide)) (pa_cons (pv 3) (pa_cons (pe_op op_cat (pv 7) (pe_lst (pa_cons (pe_cal (cal_plus (P := P) (w := w) (base := base) E) (hr.mono (by decide)) (pa_cons (pv 3) (pa_cons (pv 9) (pa_cons (pv 12) (pa_cons (pv 8) pa_nil))))) pa_nil))) pa_nil))))
        (pss_cons (ps_setLc (i := 11) (own := [("_law_code", 13)]) (g := gName 13) (tt := tYes) rfl sc_great.nd rfl rfl rfl (pi_seq K (pe_callB (cr_upC K hu) (by rfl) E.n_sorted (by decide +kernel) (pa_cons (pv 10) pa_nil))) (blkOk_by (by kernel_rfl)) (fun _ _ _ _ _ => pg_name (i := 13) sc_great.nd rfl (.inl rfl)) (fun _ _ _ _ _ => pts_nil)
            (fun _ _ _ _ _ => pe_tup (pa_cons (pv 6) (pa_cons (pv 13) pa_nil))))
        (pss_cons (ps_if (pt_cmpR op_ne (pe_callB (cr_repr K hG hu) (by rfl) E.n_repr (by decide +kernel) (pa_cons (pe_cal (cal_deeds_at (P := P) (w := w) (base := base) E) (hr.mono (by decide)) (pa_cons (pv 4) (pa_cons (pv 6) pa_nil))) pa_nil)) (pe_callB (cr_repr K hG hu) (by rfl) E.n_repr (by decide +kernel) (pa_cons (pv 11) pa_nil)) (nomark _)) (pss_one (ps_ret pe_bl)) pss_nil)
        (pss_one (ps_set (i := 5) sc_great.nd rfl (.inl rfl) (pe_op op_cat (pv 5) (pv 11)))))))))
      (pss_one (ps_ret (pe_cmpR op_eq (pe_callB (cr_repr K hG hu) (by rfl) E.n_repr (by decide +kernel) (pa_cons (pe_cal (cal_all_deeds (P := P) (w := w) (base := base) E) (hr.mono (by decide)) (pa_cons (pv 4) pa_nil)) pa_nil)) (pe_callB (cr_repr K hG hu) (by rfl) E.n_repr (by decide +kernel) (pa_cons (pv 5) pa_nil)) (nomark _))))))), ?_⟩
    refine ⟨_, rfl, d, c, rfl, hs, fun gd g p H1 hp hgd e1 hs1 hgd1 hg1 => ?_⟩
    have p0 := hp.pos
    have p2 := hp.two
    have p13 := hp.most
    obtain ⟨l1, m1, t1, y1, hd1, hc1⟩ := hs1.at
    have gnd : gd ≠ d := fun z => by rw [z, hd1] at hgd1; cases hgd1
    have gnc : gd ≠ c := fun z => by rw [z, hc1] at hgd1; cases hgd1
    refine ⟨_, rfl, _, rfl, d, c, gd, g, p, 6, rfl, hs1, gnd, hgd1, hp, by decide, fun B ys rows H2 hB e2 hs2 hy hd hdr => ?_⟩
    have hgd2 := e2 gd _ gnd gnc hgd1
    have hg2 := hg1.exS e2 hs1
    have e02 : ExS d c H H2 := e1.trans e2
    obtain ⟨r1, r2⟩ := hdr.rows hp
    have hn := drawn_nest hp hdr
    refine ⟨_, rfl, gd, _, rfl, gd_at hgd2 (gv_p _ _ _), by show 2 ≤ sizeLine; decide, fun T hT => ⟨T, _, rfl, .inl (.inl upd_same), rfl, _, _, rfl, _, _, rfl, rfl, ?_⟩⟩
    have e23 : Ex H2 (upd H2 T (.tup [.ref B, .int p])) := Ex.new hT
    refine ⟨_, rfl, gd, _, rfl, gd_at (e23 _ _ hgd2) (gv_made _ _ _), _, rfl, _, rfl, B, ys, p, 6, rows, rfl, hp, by decide, .inl (.inl (e23 _ _ hy)), dps_mono e23 _ _ hd, r1, r2, fun D2 ys2 H3 hD2 e3 hy2 hd2 => fun x dx hx hdx hne => ?_⟩
    refine ⟨x, dx, H3, g, .ref D2, p, 6, codesL p rows, rfl, hx, hdx, hne, rfl, hg2.mono (e23.trans e3), hp, by decide, .lst (.inl (.inl hy2)) hd2, hn, fun H4 e4 hne4 => ⟨rfl, by show 0 ≤ sizeLine; decide, fun L0 hL0 => ⟨_, _, rfl, ?_⟩⟩⟩
    have e45 : Ex H4 (upd H4 L0 (.lst [])) := Ex.new hL0
    have e25 := ((e23.trans e3).trans e4).trans e45
    refine ⟨1, 6, rfl, ⟨by decide, by decide, by decide, by decide⟩, ?_⟩
    refine for_range (lo := 1) (n := 5) (fun j σ H' => ∃ L xs x6 x7 x8 x9 x10 x11 x12 x13, σ = [some (.ref d), some (.ref gd), some (.ref B), some (.int p), some (.ref x), some (.ref L), x6, x7, x8, x9, x10, x11, x12, x13] ∧ Ex H2 H' ∧ NeAt K H' (.ref x) p 6 (codesL p rows) ∧ H' L = some (.lst xs) ∧ DpAll K H' xs (allD p 6 (codesL p rows) j))
      ⟨L0, [], none, none, none, none, none, none, none, none, rfl, e25, hne4.mono e45, upd_same, .nil⟩ ?_ ?_
    · rintro j σ H6 hj ⟨L, xs, x6, x7, x8, x9, x10, x11, x12, x13, rfl, e26, hne6, hL, hx6⟩
      have ej : (1 + (j : Int)) - 1 = ((j : Nat) : Int) := by omega
      have ej1 : (1 + (j : Int)) = ((j + 1 : Nat) : Int) := by omega
      have lat : ∀ k, k < 6 → ∃ v, ys[k]? = some v ∧ Dp K H2 v (rowD (rows.getD k [])) := fun k hk => dps_at hd (by
        rw [List.getElem?_map, List.getD_eq_getElem?_getD, List.getElem?_eq_getElem (by omega)]
        rfl)
      obtain ⟨v0, hv0, d0⟩ := lat j (by omega)
      obtain ⟨v1, hv1, d1⟩ := lat (j + 1) (by omega)
      refine ⟨_, rfl, _, rfl, _, _, rfl, rfl, _, rfl, B, ys, rfl, .inl (.inl (e26 _ _ hy)), fun S hS => ?_⟩
      rw [ej, cut_take]
      have e67 : Ex H6 (upd H6 S (.lst (ys.take j))) := Ex.new hS
      refine ⟨_, rfl, _, rfl, _, _, rfl, rfl, B, ys, (j : Int), v0, rfl, congrArg V.int ej, .inl (.inl (e67 _ _ (e26 _ _ hy))), atI_nat hv0, _, rfl, _, rfl, B, ys, ((j + 1 : Nat) : Int), v1, rfl, congrArg V.int ej1, .inl (.inl (e67 _ _ (e26 _ _ hy))), atI_nat hv1, by show 3 ≤ sizeLine; decide, fun T2 hT2 => ?_⟩
      have e78 : Ex (upd H6 S (.lst (ys.take j))) (upd (upd H6 S (.lst (ys.take j))) T2 (.tup [.ref S, v0, v1])) := Ex.new hT2
      refine ⟨T2, _, rfl, .inl (.inl upd_same), rfl, _, _, rfl, _, _, rfl, _, _, rfl, rfl, ?_⟩
      have e68 := e67.trans e78
      have e28 := e26.trans e68
      have hS8 := e78 _ _ (upd_same (H := H6) (a := S) (o := .lst (ys.take j)))
      have dS8 : DpAll K (upd (upd H6 S (.lst (ys.take j))) T2 (.tup [.ref S, v0, v1])) (ys.take j) ((rows.take j).map rowD) := by
        rw [List.map_take]
        exact dps_take _ (dps_mono e28 _ _ hd)
      have d08 := dp_rowmono e28 d0
      have d18 := dp_rowmono e28 d1
      have row0 := r2 _ (get_mem (rows := rows) (k := j) (by omega))
      have row1 := r2 _ (get_mem (rows := rows) (k := j + 1) (by omega))
      have t := drawn_tri hp hdr (show j + 1 < 6 by omega)
      refine ⟨_, rfl, p, rfl, by omega, by omega, ?_⟩
      refine rng_lc (K := K) (lo := 0) (n := p.toNat) (sz100 (by omega)) (fun _ => true) (fun k => codeD (greatC p (rows.take j) (rows.getD j []) (rows.getD (j + 1) []) k)) (fun _ => flat_code _) (gm_name 12) ?_ ?_
      · intro k H9 hk e9
        refine ⟨rfl, Ex.refl _, et_yes, fun _ => ?_⟩
        intro H10 e10 Q' kk
        have e810 := e9.trans e10
        rw [show (0 + (k : Int)) = ((k : Nat) : Int) by omega]
        refine ⟨_, rfl, _, rfl, _, rfl, _, rfl, _, rfl, _, rfl, v1, v0, p, k, _, _, rfl, p0, by omega, by omega, dp_rowmono e810 d18, dp_rowmono e810 d08, by rw [row1.len, row0.len], by rw [row1.len]; decide, fun u H11 e11 hu => ?_⟩
        refine ⟨by show 1 ≤ sizeLine; decide, fun L2 hL2 => ?_⟩
        have e12 : Ex H11 (upd H11 L2 (.lst [u])) := Ex.new hL2
        have szS : (ys.take j).length + ([u] : List V).length ≤ sizeLine := by
          have : 7 ≤ sizeLine := by decide
          rw [List.length_take]
          simp only [List.length_cons, List.length_nil]
          omega
        refine ⟨S, L2, _, [u], rfl, rfl, e12 _ _ (e11 _ _ (e810 _ _ hS8)), upd_same, szS, fun M hM => ?_⟩
        have e13 := e12.trans (Ex.new (o := .lst (ys.take j ++ [u])) hM)
        have hrw : ∀ r ∈ rows.take j ++ [plusR p (rows.getD (j + 1) []) (k : Nat) (rows.getD j [])], IsRow p 6 r := app_rows (take_rows r2 j) (one_row (isrow_plus p0 row1.len))
        refine ⟨.ref M, p, 6, rows.take j ++ [plusR p (rows.getD (j + 1) []) (k : Nat) (rows.getD j [])], rfl, hp, by decide, by decide, ⟨M, _, rfl, .inl (.inl (.inl upd_same)), ?_⟩, hrw, by rw [List.length_append, List.length_take]; simp; omega, fun v H14 e14 hv => kk _ _ ((e11.trans e13).trans e14) hv⟩
        rw [List.map_append]
        exact dps_snoc (dps_mono ((e810.trans e11).trans e13) _ _ dS8) (dp_rowmono e13 hu)
      · intro D10 vs10 H9 hD10 e9 hv10 hd10
        rw [filter_all] at hd10
        have hd10' : DpAll K H9 vs10 (((List.range p.toNat).map (greatC p (rows.take j) (rows.getD j []) (rows.getD (j + 1) []))).map codeD) := by
          rw [List.map_map]
          exact hd10
        refine ⟨_, rfl, D10, vs10, _, rfl, .inl (.inl hv10), hd10', fun c hc => ?_, fun zs M hz hM => ?_⟩
        · obtain ⟨k, hk, rfl⟩ := List.mem_map.mp hc
          have h1 := (t.of_mem hp (t.great_mem hp k).1).2.1
          cases e : greatC p (rows.take j) (rows.getD j []) (rows.getD (j + 1) []) k with
          | nil => rw [e] at h1; simp at h1
          | cons r rs => exact ⟨_, _, rfl⟩
        rw [great_eq hp hdr (show j + 1 < 6 by omega)] at hz
        have e910 : Ex H9 (upd H9 M (.lst zs)) := Ex.new hM
        refine seq_lc (f := codeD) (c := deedsC p 6 (codesL p rows) (j + 1)) ⟨M, zs, rfl, .inl (.inl (.inl upd_same)), dps_mono e910 _ _ hz⟩ (sz100 (by have := deeds_len hp 6 (codesL p rows) (j + 1); omega)) (fun _ => true) (fun c => deedD (j + 1) c) (fun c => flat_deed (j + 1) c) (gm_name 13) ?_ ?_
        · intro c y H11 hm e11 hy11
          refine ⟨rfl, Ex.refl _, et_yes, fun _ => ?_⟩
          intro H12 e12 Q' kk
          rw [ej1]
          exact ⟨_, rfl, _, rfl, by show 2 ≤ sizeLine; decide, fun T hT => kk _ _ (Ex.new hT) (.tup (.inl (.inl upd_same)) (.cons (.int _) (.cons (dp_codemono (e12.trans (Ex.new hT)) hy11) .nil)))⟩
        · intro D11 vs11 H11 hD11 e11 hv11 hd11
          rw [filter_all] at hd11
          have e811 := (e9.trans e910).trans e11
          have e611 := e68.trans e811
          have sh := show_level hp hdr (by decide) (show j + 1 < 6 by omega)
          obtain ⟨s1, s2, s3⟩ := sh.fit (Nat.le_refl _) (Nat.le_refl _)
          rw [ej1]
          refine ⟨_, rfl, _, rfl, .ref x, p, 6, j + 1, codesL p rows, rfl, hne6.mono e611, hp, by decide, hn, level_ok hp hdr (by omega) (by omega), fun D12 ys12 H12 hD12 e12 hy12 hd12 => ?_⟩
          refine ⟨D12, _, rfl, .lst (.inl (.inl hy12)) hd12, s1, s2, s3, _, rfl, D11, _, rfl, .lst (.inl (.inl (e12 _ _ hv11))) (dps_mono e12 _ _ hd11), s1, s2, s3, rfl, ?_⟩
          rw [decide_eq_true rfl]
          have szL : xs.length + vs11.length ≤ sizeLine := by
            have h1 := dps_len hx6
            have h2 := allD_len hp 6 (codesL p rows) j
            have h3 : vs11.length = (deedsC p 6 (codesL p rows) (j + 1)).length := dps_mapl hd11
            have h4 := deeds_len hp 6 (codesL p rows) (j + 1)
            have : 14 * 6 + 14 ≤ sizeLine := by decide
            omega
          have e612 := e611.trans e12
          refine ⟨false, rfl, iteF ?_⟩
          refine ⟨_, rfl, _, rfl, L, D11, xs, vs11, rfl, rfl, e612 _ _ hL, e12 _ _ hv11, szL, fun L2 hL2 => ?_⟩
          have e13 : Ex H12 (upd H12 L2 (.lst (xs ++ vs11))) := Ex.new hL2
          refine ⟨L2, _, _, _, _, _, _, _, _, _, rfl, (e26.trans e612).trans e13, hne6.mono (e612.trans e13), upd_same, ?_⟩
          rw [allD_succ]
          exact dps_app (dps_mono (e612.trans e13) _ _ hx6) (dps_mono (e12.trans e13) _ _ hd11)
    · rintro σ H6 ⟨L, xs, x6, x7, x8, x9, x10, x11, x12, x13, rfl, e26, hne6, hL, hx6⟩
      have sh := show_allD hp hdr (by decide) (show 5 ≤ 6 - 1 by decide)
      obtain ⟨s1, s2, s3⟩ := sh.fit (Nat.le_refl _) (Nat.le_refl _)
      refine ⟨_, rfl, .ref x, p, 6, codesL p rows, rfl, hne6, hp, by decide, hn, fun i i1 i2 => level_ok hp hdr i1 i2, fun D12 ys12 H12 hD12 e12 hy12 hd12 => ?_⟩
      refine ⟨D12, _, rfl, .lst (.inl (.inl hy12)) hd12, s1, s2, s3, _, rfl, L, _, rfl, .lst (.inl (.inl (e12 _ _ hL))) (dps_mono e12 _ _ hx6), s1, s2, s3, rfl, ?_⟩
      rw [decide_eq_true rfl]
      exact q _ ((e02.trans (.of e26)).trans (.of e12)) ((hs2.ex e26).ex e12)
end
end Cn
/-! repr of [x], x any odd value; what stays while a lambda is made. -/
namespace Cn
open PySem PySem.Spec PyProof.Rows L2
open Evl (Ex)
/-! ### repr([{}]) -/
def emptyText : Str := listText [dictText []]
def rReprE (K : PySem.W.Frag) : List V → Hp → VK → Prop := fun vs H Q => ∃ a e, vs = [V.ref a] ∧ SqL K H a [.ref e] ∧ H e = some (.dK []) ∧ Q (.str emptyText) H
theorem et_len : emptyText.length ≤ sizeLine := by decide +kernel
theorem cr_reprE {X : Cx} (K : PySem.W.Frag) (hG : X.A.guards = some []) (hu : X.A.units + 64 < cLine) (hK : X.K = K := by rfl) : CallR X (.builtin "repr") (rReprE K) := by
  subst hK
  intro pins s σ H vs us Q I r h
  obtain ⟨a, e, rfl, hl, he, q⟩ := h
  obtain rfl := Vals.ref1 r
  obtain ⟨its, rv, ⟨⟨cls, dd, data, sl⟩, n, ho, hc, hdn, hd⟩, hlen⟩ := I.list hl
  simp only at hc hd
  subst hc hd
  obtain ⟨u, rfl, ru⟩ := rv.one
  obtain rfl : u = Value.ref e := ru
  obtain ⟨_, hsys, vs, kv, od, es, ep, g1, g2, g3, g4, g5, g6⟩ := dk_of I.hok he
  cases kv
  have e0 : es.toList = [] := by
    have h5 := g5
    generalize es.toList = l at h5
    cases h5
    rfl
  have ne : a ≠ e := fun z => by
    rw [z, g1] at ho
    have h1 := Option.some.inj ho
    rw [h1] at g3
    cases g3
  have hE : ReprEntriesK X.prog X.w [] s.heap 0 es.toList [] := by
    rw [e0]
    exact .nil
  have rd : ReprK X.prog X.w [e] s.heap 1 (.ref e) (dictText []) := ReprK.dict g1 g2.1 g3 hsys (by simp) hE
  refine call_repr_slot (T := "list") (idr := "list.__repr__") (by omega) ⟨_, ho, rfl⟩ F.slot_list_repr.toG ?_
  refine call_list_reprK (as := [e]) (h₀ := s.heap) (d := 1) (g := []) (ts := [dictText []]) ho rfl rfl (by simpa using ne) (by simp) (fun i y hy => ?_) hG (fun b _ => Clear.nil b) (by show X.A.units + 1 + (1 + 1) < cLine; omega) (fun _ _ e => e) (fun h' u tk hk => ⟨_, _, rfl, .str emptyText, H, I.kept (t' := tk) hk, ⟨u, rfl⟩, q⟩) et_len
  match i, hy with
  | 0, hy =>
    simp at hy
    subst hy
    exact ⟨_, rfl, rd⟩
  | i + 1, hy => simp at hy
/-! ### the odd values -/
/-- what [x] is told as -/
def OddT (K : PySem.W.Frag) (H : Hp) (x : V) (t : Str) : Prop := (∃ d, Dp K H x d ∧ smallT d = true ∧ d.depth ≤ 5 ∧ (PyData.list [d]).shown.length ≤ sizeLine ∧ t = (PyData.list [d]).shown) ∨ ∃ e, x = .ref e ∧ H e = some (.dK []) ∧ t = emptyText
def rReprO (K : PySem.W.Frag) : List V → Hp → VK → Prop := fun vs H Q => ∃ a x t, vs = [V.ref a] ∧ H a = some (.lst [x]) ∧ OddT K H x t ∧ Q (.str t) H
theorem cr_reprO {X : Cx} (K : PySem.W.Frag) (hG : X.A.guards = some []) (hu : X.A.units + 64 < cLine) (hK : X.K = K := by rfl) : CallR X (.builtin "repr") (rReprO K) := by
  intro pins s σ H vs us Q I r h
  obtain ⟨a, x, t, rfl, ha, ho, q⟩ := h
  rcases ho with ⟨d, hd, hs, hdep, hz, rfl⟩ | ⟨e, rfl, he, rfl⟩
  · refine cr_repr K hG hu hK pins s σ H _ us Q I r ⟨a, .list [d], rfl, .lst (.inl (.inl ha)) (.cons hd .nil), ?_, ?_, hz, q⟩
    · simp [smallT, smallTs, hs]
    · simp only [PyData.depth, PyData.depthAll]
      omega
  · exact cr_reprE K hG hu hK pins s σ H _ us Q I r ⟨a, e, rfl, .inl (.inl ha), he, q⟩
end Cn
/-! What stays while lambdas are made; the odd values. -/
namespace Cn
open PySem PySem.Spec PyProof.Rows L2 LamX
open Evl (Ex)
theorem exN {H H' : Hp} (e : Ex H H') : ExtN H H' := fun b o h _ => e b o h
section
variable {K : PySem.W.Frag} {H H' : Hp}
theorem sqT_N (e : ExtN H H') {a : Addr} {xs : List V} (h : SqT K H a xs) : SqT K H' a xs := by
  rcases h with (h | ⟨o, h⟩) | h
  · exact .inl (.inl (e _ _ h (fun ps z => by cases z)))
  · exact .inl (.inr ⟨o, e _ _ h (fun ps z => by cases z)⟩)
  · exact .inr h
theorem sqL_N (e : ExtN H H') {a : Addr} {xs : List V} (h : SqL K H a xs) : SqL K H' a xs := by
  rcases h with (h | ⟨o, h⟩) | h
  · exact .inl (.inl (e _ _ h (fun ps z => by cases z)))
  · exact .inl (.inr ⟨o, e _ _ h (fun ps z => by cases z)⟩)
  · exact .inr h
theorem extT (e : ExtN H H') : ExT K H H' := fun _ _ h => sqT_N e h
theorem NeAt.extN {v : V} {p n : Int} {cs : List (List (List Int))} (h : NeAt K H v p n cs) (e : ExtN H H') : NeAt K H' v p n cs := by
  obtain ⟨a, dx, g, c, rfl, h2, ⟨b, dy, rfl, h3⟩, h4⟩ := h
  exact ⟨a, dx, _, c, rfl, e _ _ h2 (fun ps z => by cases z), ⟨b, dy, rfl, e _ _ h3 (fun ps z => by cases z)⟩, dp_monoT (extT e) _ _ (by rw [flatT]; exact flat_map flat_code) h4⟩
theorem Src.extN {d c : Addr} (h : Src d c H) (e : ExtN H H') : Src d c H' := by
  obtain ⟨n, cells, left, mixed, turn, h1, h2, h3⟩ := h
  exact ⟨n, cells, left, mixed, turn, e _ _ h1 (fun ps z => by cases z), e _ _ h2 (fun ps z => by cases z), h3⟩
theorem tabS_exS {d c P : Addr} {q : Str} (t : TabS H P q) (e : ExS d c H H') (hs : Src d c H) : TabS H' P q := by
  obtain ⟨l, m, k, ys, hd, hc⟩ := hs.at
  have keep : ∀ b o, H b = some o → (∀ kv, o ≠ .dK kv) → (∀ xs, o ≠ .lst xs) → H' b = some o := fun b o h n1 n2 => e b o (fun z => n1 _ (by rw [z, hd] at h; exact (Option.some.inj h).symm)) (fun z => n2 _ (by rw [z, hc] at h; exact (Option.some.inj h).symm)) h
  obtain ⟨ps, h1, h2, h3⟩ := t
  refine ⟨ps, keep _ _ h1 (fun _ z => by cases z) (fun _ z => by cases z), h2, fun pos cv hcv => ?_⟩
  obtain ⟨b, e1, e2⟩ := h3 pos cv hcv
  exact ⟨b, e1, keep _ _ e2 (fun _ z => by unfold CodeO at z; cases z) (fun _ z => by unfold CodeO at z; cases z)⟩
theorem tabs_exS {d c : Addr} {T : List (Addr × Str)} (t : Tabs T H) (e : ExS d c H H') (hs : Src d c H) : Tabs T H' := fun p hp => tabS_exS (t p hp) e hs
/-- the odd values, as they stand -/
inductive OddV (K : PySem.W.Frag) (H : Hp) (n : Nat) : V → Prop
  | int (i : Int) (h : ¬ (0 < i ∧ i < n)) (hs : i.natAbs < 2 ^ 200) (hl : (PyData.list [.int i]).shown.length ≤ sizeLine) : OddV K H n (.int i)
  | non : OddV K H n .non
  | bl (b : Bool) : OddV K H n (.bl b)
  | str (x : Str) (hl : (PyData.list [.str x]).shown.length ≤ sizeLine) : OddV K H n (.str x)
  | tup0 {a : Addr} (h : H a = some (.tup [])) : OddV K H n (.ref a)
  | tup1 {a : Addr} (h : H a = some (.tup [.int 1])) : OddV K H n (.ref a)
  | lst1 {a : Addr} (h : H a = some (.lst [.int 1])) : OddV K H n (.ref a)
  | dct {a : Addr} (h : H a = some (.dK [])) : OddV K H n (.ref a)
theorem OddV.extN {n : Nat} {x : V} (h : OddV K H n x) (e : ExtN H H') : OddV K H' n x := by
  cases h with
  | int i h hs hl => exact .int i h hs hl
  | non => exact .non
  | bl b => exact .bl b
  | str x hl => exact .str x hl
  | tup0 h => exact .tup0 (e _ _ h (fun ps z => by cases z))
  | tup1 h => exact .tup1 (e _ _ h (fun ps z => by cases z))
  | lst1 h => exact .lst1 (e _ _ h (fun ps z => by cases z))
  | dct h => exact .dct (e _ _ h (fun ps z => by cases z))
theorem OddV.bad {n : Nat} {x : V} (h : OddV K H n x) : BadLevel K H n x := by
  cases h with
  | int i h hs hl => exact .inl ⟨i, rfl, h⟩
  | non => exact .inr ⟨.inr ⟨rfl, .inr ⟨"NoneType", .base .non, kit_ty (by decide +kernel)⟩⟩, fun i z => by cases z⟩
  | bl b => exact .inr ⟨.inr ⟨rfl, .inl ⟨b, rfl⟩⟩, fun i z => by cases z⟩
  | str x hl => exact .inr ⟨.inr ⟨rfl, .inr ⟨"str", .base (.str x), kit_ty (by decide +kernel)⟩⟩, fun i z => by cases z⟩
  | tup0 h => exact .inr ⟨.inr ⟨rfl, .inr ⟨"tuple", .base (.tup h), kit_ty (by decide +kernel)⟩⟩, fun i z => by cases z⟩
  | tup1 h => exact .inr ⟨.inr ⟨rfl, .inr ⟨"tuple", .base (.tup h), kit_ty (by decide +kernel)⟩⟩, fun i z => by cases z⟩
  | lst1 h => exact .inr ⟨.inr ⟨rfl, .inr ⟨"list", .base (.lst h), kit_ty (by decide +kernel)⟩⟩, fun i z => by cases z⟩
  | dct h => exact .inr ⟨.inr ⟨rfl, .inr ⟨"dict", .base (.dK h), kit_ty (by decide +kernel)⟩⟩, fun i z => by cases z⟩
theorem t1_small : smallT (.tuple [.int 1]) = true ∧ smallT (.list [.int 1]) = true ∧ smallT (.tuple []) = true := by
  have h : smallT (.int 1) = true := by
    simp only [smallT]
    exact decide_eq_true (by decide)
  simp [smallT, smallTs]
theorem OddV.told {n : Nat} {x : V} (h : OddV K H n x) : ∃ t, ∀ H', ExtN H H' → OddT K H' x t := by
  cases h with
  | int i h hs hl => exact ⟨_, fun H' e => .inl ⟨.int i, .int i, by simp only [smallT]; exact decide_eq_true hs, by simp [PyData.depth], hl, rfl⟩⟩
  | non => exact ⟨_, fun H' e => .inl ⟨.none, .non, rfl, by simp [PyData.depth], by decide +kernel, rfl⟩⟩
  | bl b => exact ⟨_, fun H' e => .inl ⟨.bool b, .bl b, rfl, by simp [PyData.depth], by cases b <;> decide +kernel, rfl⟩⟩
  | str x hl => exact ⟨_, fun H' e => .inl ⟨.str x, .str x, rfl, by simp [PyData.depth], hl, rfl⟩⟩
  | tup0 h => exact ⟨_, fun H' e => .inl ⟨.tuple [], .tup (sqT_N e (.inl (.inl h))) .nil, t1_small.2.2, by simp [PyData.depth, PyData.depthAll], by decide +kernel, rfl⟩⟩
  | tup1 h => exact ⟨_, fun H' e => .inl ⟨.tuple [.int 1], .tup (sqT_N e (.inl (.inl h))) (.cons (.int 1) .nil), t1_small.1, by simp [PyData.depth, PyData.depthAll], by decide +kernel, rfl⟩⟩
  | lst1 h => exact ⟨_, fun H' e => .inl ⟨.list [.int 1], .lst (sqL_N e (.inl (.inl h))) (.cons (.int 1) .nil), t1_small.2.1, by simp [PyData.depth, PyData.depthAll], by decide +kernel, rfl⟩⟩
  | @dct a h => exact ⟨_, fun H' e => .inr ⟨a, rfl, e _ _ h (fun ps z => by cases z), rfl⟩⟩
end
end Cn
/-! The deeds of all levels with their nests, their texts. -/
namespace Cn
open PySem PySem.Spec PyProof.Rows L2
open Evl (Ex)
theorem all_drawn : DrawnNest := fun _ _ _ hp h => drawn_nest hp h
def allP (p : Int) (n : Nat) (cs : List (List (List Int))) (m : Nat) : List (Nat × List (List Int)) := (List.range m).flatMap fun j => (deedsC p n cs (j + 1)).map fun c => (j + 1, c)
abbrev dd (x : Nat × List (List Int)) : PyData := deedD x.1 x.2
theorem allP_D (p : Int) (n : Nat) (cs : List (List (List Int))) (m : Nat) : (allP p n cs m).map dd = allD p n cs m := by
  unfold allP allD
  rw [List.map_flatMap]
  simp only [List.map_map]
  rfl
theorem allP_N (p : Int) (n : Nat) (cs : List (List (List Int))) (m : Nat) : (allP p n cs m).map (fun x => cs.set (x.1 - 1) x.2) = nestsD p n cs m := by
  unfold allP nestsD
  rw [List.map_flatMap]
  simp only [List.map_map]
  rfl
theorem allP_mem {p : Int} {n m : Nat} {cs : List (List (List Int))} {x : Nat × List (List Int)} (h : x ∈ allP p n cs m) : ∃ k, k < m ∧ x.1 = k + 1 ∧ x.2 ∈ deedsC p n cs (k + 1) := by
  obtain ⟨k, hk, hx⟩ := List.mem_flatMap.mp h
  obtain ⟨c, hc, rfl⟩ := List.mem_map.mp hx
  exact ⟨k, List.mem_range.mp hk, rfl, hc⟩
theorem deed_ok {p : Int} {n k : Nat} {rows : List (List Int)} (hp : GoodP p) (h : Drawn p n rows) (hk : k + 1 < n) {c : List (List Int)} (hc : c ∈ deedsC p n (codesL p rows) (k + 1)) : DeedOk p n (codesL p rows) (k + 1) c := by
  obtain ⟨q1, q2, q3, q4, q5⟩ := deed_facts hp h hk hc
  refine ⟨by omega, hk, q1, q2, ?_, ?_, ?_⟩
  · rw [code_drawn hp h (by omega)]
    exact q3
  · rw [code_drawn hp h (by omega)]
    exact q4
  · rw [code_drawn hp h (by omega)]
    exact q5
/-- a nest's text -/
def nestT (cs : List (List (List Int))) : Str := (PyData.list (cs.map codeD)).shown
theorem nests_ok {p : Int} {n : Nat} {rows : List (List Int)} (hp : GoodP p) (h : Drawn p n rows) : ∀ cs ∈ codesL p rows :: nestsD p n (codesL p rows) (n - 1), NestOk p n cs := fun cs hm => by
  rcases List.mem_cons.mp hm with rfl | hm
  · exact drawn_nest hp h
  · rw [← allP_N] at hm
    obtain ⟨x, hx, rfl⟩ := List.mem_map.mp hm
    obtain ⟨k, hk, e1, e2⟩ := allP_mem hx
    rw [e1]
    exact deed_nest hp h (by omega) e2
/-- the texts of the nests to which the deeds lead -/
def seenL (p : Int) (n : Nat) (cs : List (List (List Int))) : List Str := (cs :: nestsD p n cs (n - 1)).map nestT
theorem seen_nodup {p : Int} {n : Nat} {rows : List (List Int)} (hp : GoodP p) (h : Drawn p n rows) : (seenL p n (codesL p rows)).Nodup := by
  unfold seenL
  refine List.pairwise_map.mpr (List.Pairwise.imp_of_mem ?_ (nests_nodup hp h))
  intro a b ma mb hab e
  exact hab (codes_inj (small_nest hp (nests_ok hp h a ma)) (small_nest hp (nests_ok hp h b mb)) e)
theorem seen_one {p : Int} {n : Nat} {rows : List (List Int)} (hp : GoodP p) (h : Drawn p n rows) (z : Str) : (seenL p n (codesL p rows)).countP (fun y => y == z) ≤ 1 := by
  have hn := seen_nodup hp h
  generalize seenL p n (codesL p rows) = l at hn
  induction l with
  | nil => exact Nat.zero_le _
  | cons b l ih =>
    obtain ⟨h1, h2⟩ := List.nodup_cons.mp hn
    have ih := ih h2
    rw [List.countP_cons]
    by_cases e : b = z
    · subst e
      have z0 : l.countP (fun y => y == b) = 0 := List.countP_eq_zero.mpr fun y hy e2 => h1 (by rw [← beq_iff_eq.mp e2]; exact hy)
      rw [z0]
      split <;> omega
    · rw [if_neg (by simpa using e)]
      exact ih
theorem seen_len (p : Int) (n : Nat) (hp : GoodP p) (cs : List (List (List Int))) (hn : n ≤ 6) : (seenL p n cs).length ≤ 100 := by
  unfold seenL
  have h := allD_len hp n cs (n - 1)
  rw [← allP_D, List.length_map] at h
  rw [List.length_map, List.length_cons, ← allP_N, List.length_map]
  omega
theorem seen_eq (p : Int) (n : Nat) (cs : List (List (List Int))) : seenL p n cs = nestT cs :: (allP p n cs (n - 1)).map fun x => nestT (cs.set (x.1 - 1) x.2) := by
  unfold seenL
  rw [List.map_cons, ← allP_N, List.map_map]
  rfl
theorem dps_strs {K : PySem.W.Frag} {H : Hp} : ∀ {zs : List Str} {vs : List V}, DpAll K H vs (zs.map .str) → vs = zs.map V.str
  | [], _, h => by cases h; rfl
  | z :: zs, _, h => by
    cases h with
    | cons h1 h2 =>
      cases h1
      rw [dps_strs h2]
      rfl
end Cn
/-! law. -/
namespace Cn
open PySem PySem.Spec PyProof.Rows L2 LamX
open Evl (Ex)
section
variable {P : Program} {w : World} {K : PySem.W.Frag} {mg : Str → Option Value} {base : Heap}
abbrev lawDef : He.Defn := ("law", none)
theorem okGL {fd : FuncData} {N ps : List Str} {k : Nat} {sp : Sp} (F : Fun K "law" "law" s_law (He.ga K "law") fd) (S : FnScope N ps (defScope s_law)) (len : ∀ vs H Q E, sp vs H Q E → vs.length = ps.length)
    (hb : ∀ (A : Around) (outer : List Env) (s : Shared) (H : Hp) (vs : List V) (Q : VK) (E : XK), A.guards = some [] → Room k (A.deeper (envOfC "law" (defScope s_law) s.heap.objs.size (He.ga K "law") (.ref (He.cT K lawDef).1))) → sp vs H Q E →
      ∃ t, PSs (cxOf CX0 P w K mg base N "law" (defScope s_law) (He.ga K "law") (.ref (He.cT K lawDef).1) A outer s H E).nox (defBody s_law) t ∧ t { nx := fun _ H' => Q .non H', rt := Q } (L2.start N vs) H) : FnG P w K mg base (k + 1) (He.ga K "law") fd ps sp := by
  obtain ⟨oc, od, kV, doc, pm, an, cdv, ct, osl, rfl, lk, hcd⟩ := F.ex
  obtain ⟨c, rfl⟩ := He.codeIn_ref hcd
  have ec : (He.cT K lawDef).1 = c := He.codeOf_eq (p := lawDef) lk rfl
  refine ⟨len, fun A outer s H args us vs Q E hG hr e0 hbd r hsp => LamX.run_ofS lk hcd S hr e0 hbd r (len _ _ _ _ hsp) fun hr' => ?_⟩
  rw [← ec] at hr' ⊢
  obtain ⟨t, h, q⟩ := hb A outer s H vs Q E hG hr' hsp
  exact ⟨t, h.nox, q⟩
def spLaw (K : PySem.W.Frag) (Pt : Addr) : Sp := fun vs H Q _ => ∃ a, ∃ ns : List Int, vs = [.ref a] ∧ SqL K H a (ns.map V.int) ∧ ns.length < sizeLine ∧ H Pt = some (.tbl #[]) ∧ ∀ H', Q (.bl true) H'
theorem sc_law : FnScope ["_law_script", "_law_source_here", "_law_turn", "_law_ground", "_law_nest", "_law_whole_here", "_law_due", "_law_level", "_law_own", "_law_lap", "_law_told", "_law_seen", "_law_odd", "_law_deed", "_law_one"] ["_law_script"] (defScope s_law) := ⟨rfl, rfl, rfl, by decide +kernel, rfl, by decide +kernel, by decide +kernel⟩
def lamQ : Str := (envOfC "law" (defScope s_law) 0 0 .none).qual ++ "<lambda>"
abbrev lamT (Pt : Addr) : List (Addr × Str) := [(Pt, lamQ)]
theorem law_ok (E : En K mg) (hN : DrawnNest) {C NM fI cda cc : Addr} (T : NL.NlTxt P K mg C NM fI cda cc) (TB : TabB base mg (He.cT K lawDef).1 (He.cT K lawDef).2) {fd : FuncData} (F : Fun K "law" "law" s_law (He.ga K "law") fd) :
    FnG P w K mg base 13 (He.ga K "law") fd ["_law_script"] (spLaw K (He.cT K lawDef).2) := by
  obtain ⟨fdn, FN, gN⟩ := E.c_law_no_level
  have bN : Binds K fdn ["_law_call"] [] := FN.binds fun _ _ _ _ _ _ us hl => match us, hl with | [_], _ => rfl
  have kN := FN.kp
  obtain ⟨oc, od, kV, doc, pm, an, cdn, ct, osl, rfl, lkn, hcn⟩ := FN.ex
  obtain ⟨fdx, FX, bX⟩ := okx_deeds_at (P := P) (w := w) (base := base) E T
  obtain ⟨_, FD, gD⟩ := E.c_deeds_at
  refine okGL F sc_law (fun vs H Q E h => ?_) (fun A outer s H vs Q E' hG hr h => ?_)
  · obtain ⟨a, ns, rfl, _⟩ := h
    rfl
  · obtain ⟨a, ns, rfl, ha, hlen, hT, q⟩ := h
    have hu := hr.units
    have hu1 : (A.deeper (envOfC "law" (defScope s_law) s.heap.objs.size (He.ga K "law") (.ref (He.cT K lawDef).1))).units + 1 < cLine := by omega
    refine ⟨_, pss_cons (ps_set (i := 1) sc_law.nd rfl (.inl rfl) (pe_cal (cal_source (P := P) (w := w) (base := base) E) (hr.mono (by decide)) (pa_cons (pv 0) pa_nil)))
      (C8.pss_cut (ps_if (pw_and (pt_cmpR op_eq (pe_cal (cal_pick (P := P) (w := w) (base := base) E) (hr.mono (by decide)) (pa_cons (pv 1) (pa_cons pe_int pa_nil))) pe_int (nomark _)) (pw_and1 (pt_not (pt_val (pe_calG (cal_great (P := P) (w := w) (base := base) E) hG (hr.mono (by decide)) (pa_cons (pv 1) pa_nil)))))).pt (pss_one (ps_ret pe_bl)) pss_nil)
      (pss_cons (ps_for PassesOwn.never rfl (pi_range1 (by rfl) E.n_range (pa_cons pe_int pa_nil)) (pg_name (i := 2) sc_law.nd rfl (.inl rfl))
        (pss_cons (ps_asg (pe_cal (cal_small (P := P) (w := w) (base := base) E hN) (hr.mono (by decide)) (pa_cons (pv 1) pa_nil)) (pg_unl rfl (pgs_cons (pg_name (i := 3) sc_law.nd rfl (.inl rfl)) (pgs_cons (pg_name (i := 4) sc_law.nd rfl (.inr rfl)) (pgs_cons (pg_name (i := 5) sc_law.nd rfl (.inl rfl)) pgs_nil)))))
        (pss_cons (ps_set (i := 6) sc_law.nd rfl (.inl rfl) (pe_lst pa_nil))
        (pss_cons (ps_for PassesOwn.never rfl (pi_range2 (by rfl) E.n_range (pa_cons pe_int (pa_cons (pe_dget hu1 (pv 3) pe_str (fun _ _ => rfl)) pa_nil))) (pg_name (i := 7) sc_law.nd rfl (.inl rfl))
          (pss_cons (ps_set (i := 8) sc_law.nd rfl (.inl rfl) (pe_calG (cal_ldeeds (P := P) (w := w) (base := base) E) hG (hr.mono (by decide)) (pa_cons (pv 3) (pa_cons (pv 5) (pa_cons (pv 7) pa_nil)))))
          (pss_cons (ps_for PassesOwn.never rfl (pi_range1 (by rfl) E.n_range (pa_cons pe_int pa_nil)) (pg_name (i := 9) sc_law.nd rfl (.inl rfl))
            (pss_cons (ps_set (i := 10) sc_law.nd rfl (.inl rfl) (pe_cal (cal_deeds_at (P := P) (w := w) (base := base) E) (hr.mono (by decide)) (pa_cons (pv 4) (pa_cons (pv 7) pa_nil))))
            (pss_cons (ps_if (pw_or (pt_cmpR op_ne (pe_callB (cr_repr K hG hu) (by rfl) E.n_repr (by decide +kernel) (pa_cons (pv 10) pa_nil)) (pe_callB (cr_repr K hG hu) (by rfl) E.n_repr (by decide +kernel) (pa_cons (pv 8) pa_nil)) (nomark _))
                (pw_or1 (pt_cmpR op_ne (pe_callB (cb_len K) (by rfl) E.n_len (by decide +kernel) (pa_cons (pv 10) pa_nil)) (pe_dget hu1 (pv 3) pe_str (fun _ _ => rfl)) (nomark _)))).pt (pss_one (ps_ret pe_bl)) pss_nil)
            (pss_one (ps_expr (pe_bm PySem.F.plainAttrs_list PySem.F.slot_list_append PySem.F.type_list_append mt_append (pv 10) (pa_cons pe_non pa_nil)))))))
          (pss_one (ps_set (i := 6) sc_law.nd rfl (.inl rfl) (pe_op op_cat (pv 6) (pv 8)))))))
        (pss_cons (ps_for PassesOwn.never rfl (pi_range1 (by rfl) E.n_range (pa_cons pe_int pa_nil)) (pg_name (i := 9) sc_law.nd rfl (.inl rfl))
          (pss_cons (ps_set (i := 10) sc_law.nd rfl (.inl rfl) (pe_cal (cal_all_deeds (P := P) (w := w) (base := base) E) (hr.mono (by decide)) (pa_cons (pv 4) pa_nil)))
          (pss_cons (ps_if (pt_cmpR op_ne (pe_callB (cr_repr K hG hu) (by rfl) E.n_repr (by decide +kernel) (pa_cons (pv 10) pa_nil)) (pe_callB (cr_repr K hG hu) (by rfl) E.n_repr (by decide +kernel) (pa_cons (pv 6) pa_nil)) (nomark _)) (pss_one (ps_ret pe_bl)) pss_nil)
          (pss_one (ps_expr (pe_bm PySem.F.plainAttrs_list PySem.F.slot_list_append PySem.F.type_list_append mt_append (pv 10) (pa_cons pe_non pa_nil)))))))
        (pss_cons (ps_set (i := 11) sc_law.nd rfl (.inr rfl) (pe_op op_cat (pe_lst (pa_cons (pe_callB (cr_repr K hG hu) (by rfl) E.n_repr (by decide +kernel) (pa_cons (pe_calM0 E.clN (cal_Ncodes (P := P) (w := w) (base := base) E) (hr.mono (by decide)) (pv 4)) pa_nil)) pa_nil))
          (pe_lc (own := [("_law_deed", 13)]) (g := gName 13) (tt := tYes) rfl sc_law.nd (pi_seq K (pv 6)) (blkOk_by (by kernel_rfl)) (fun _ _ _ _ _ => pg_name (i := 13) sc_law.nd rfl (.inl rfl)) (fun _ _ _ _ _ => pts_nil)
            (fun _ _ _ _ _ => pe_callB (cr_repr K hG hu) (by rfl) E.n_repr (by decide +kernel) (pa_cons (pe_calM0 E.clN (cal_Ncodes (P := P) (w := w) (base := base) E) (hr.mono (by decide)) (pe_cal (cal_done (P := P) (w := w) (base := base) E) (hr.mono (by decide)) (pa_cons (pv 4) (pa_cons (pv 13) pa_nil)))) pa_nil)))))
        (pss_cons (ps_if (pt_cmpR (op_neK K hu) (pe_lc (own := [("_law_one", 14)]) (g := gName 14) rfl sc_law.nd (pi_seq K (pv 11)) (blkOk_by (by kernel_rfl)) (fun _ _ _ _ _ => pg_name (i := 14) sc_law.nd rfl (.inl rfl))
            (fun _ _ _ _ _ => pts_one (pt_cmpR op_gt (pe_bmK K PySem.F.plainAttrs_list PySem.F.slot_list_count PySem.F.type_list_count (mt_scount K) (pv 11) (pa_cons (pv 14) pa_nil)) pe_int (nomark _))) (fun _ _ _ _ _ => pv 14)) (pe_lst pa_nil) (nomark _)) (pss_one (ps_ret pe_bl)) pss_nil)
        (pss_one (ps_for PassesOwn.never rfl (pi_list (pe_lst (pa_cons pe_int (pa_cons (pe_un un_neg pe_int) (pa_cons (pe_dget hu1 (pv 3) pe_str (fun _ _ => rfl)) (pa_cons (pe_op op_pow pe_int pe_int) (pa_cons pe_non (pa_cons pe_bl (pa_cons pe_bl (pa_cons pe_str (pa_cons (pe_tup pa_nil) (pa_cons (pe_lst (pa_cons pe_int pa_nil)) (pa_cons pe_dnewK (pa_cons (pe_tup (pa_cons pe_int pa_nil)) pa_nil)))))))))))))) (pg_name (i := 12) sc_law.nd rfl (.inr rfl))
          (pss_one (ps_if (pt_cmpR op_ne (pe_callB (cr_reprO K hG hu) (by rfl) E.n_repr (by decide +kernel) (pa_cons
              (pe_lamcall (T := lamT (He.cT K lawDef).2) (c := (He.cT K lawDef).1) (P := (He.cT K lawDef).2) (k := 4) (t := fun E => tCall (spNoLevel K C) [] E (tCons (tVar 4) (tCons (tVar 12) tNil))) (by rfl) gN kN lkn hcn bN sc_nolevel rfl (.inl rfl) (nl_gives T) TB rfl (List.mem_singleton.mpr rfl) (fun p hp _ => by rw [List.mem_singleton.mp hp]; rfl) (hr.mono (by decide)) (lamS_by (by kernel_rfl)) rfl (fun _ _ _ _ _ => rfl)
                (fun A' outer' s' H' Ech f c' hr2 => pe_call FX hr2 (by rfl) gD FD.kp bX .nil (passes_call (takes_of rfl rfl rfl rfl) fun _ _ _ _ h => h) (pa_cons (pv 4) (pa_cons (pv 12) pa_nil)))) pa_nil))
            (pe_callB (cr_reprO K hG hu) (by rfl) E.n_repr (by decide +kernel) (pa_cons (pe_lst (pa_cons (pv 12) pa_nil)) pa_nil)) (nomark _)) (pss_one (ps_ret pe_bl)) pss_nil)))))))))))
      (pss_one (ps_ret pe_bl)))), ?_⟩
    refine ⟨_, rfl, a, ns, rfl, ha, hlen, fun d c H1 hd hc e1 hs1 => ?_⟩
    have T1 : Tabs (lamT (He.cT K lawDef).2) H1 := fun p hp => by
      rw [List.mem_singleton.mp hp]
      exact (TabS.nil hT).ext e1
    refine ⟨fun σ H' => σ = [some (.ref a), some (.ref d), none, none, none, none, none, none, none, none, none, none, none, none, none] ∧ Src d c H' ∧ Tabs (lamT (He.cT K lawDef).2) H', ?_, ?_⟩
    · refine ⟨_, rfl, d, c, 6, rfl, hs1, by decide, fun k H2 hk e2 hs2 => ⟨rfl, _, rfl, ?_⟩⟩
      have T2 := tabs_exS T1 e2 hs1
      by_cases hz : V.int (k : Nat) = V.int 0
      · rw [decide_eq_true hz]
        refine iteT ⟨_, rfl, d, c, rfl, hs2, fun H3 e3 hs3 => ⟨_, rfl, iteF ?_⟩⟩
        exact ⟨rfl, hs3, tabs_exS T2 e3 hs2⟩
      · rw [decide_eq_false hz]
        exact iteF ⟨rfl, hs2, T2⟩
    rintro σ H0 ⟨rfl, hs0, T0⟩
    refine ⟨3, rfl, by decide, by decide, ?_⟩
    refine for_range (n := 3) (fun i σ H' => ∃ x2 x3 x4 x5 x6 x7 x8 x9 x10 x11 x12 x13 x14, σ = [some (.ref a), some (.ref d), x2, x3, x4, x5, x6, x7, x8, x9, x10, x11, x12, x13, x14] ∧ Src d c H' ∧ Tabs (lamT (He.cT K lawDef).2) H') ⟨_, _, _, _, _, _, _, _, _, _, _, _, _, rfl, hs0, T0⟩ ?_ ?_
    · rintro turn σ Ha hturn ⟨x2, x3, x4, x5, x6, x7, x8, x9, x10, x11, x12, x13, x14, rfl, hsa, Ta⟩
      refine ⟨_, rfl, d, c, rfl, hsa, fun L gd nv wl p n rows H2 hL hgd hwl e2 hs2 S => ?_⟩
      have T2 := tabs_exS Ta e2 hsa
      have hp := S.gp
      have p2 := hp.two
      have p13 := hp.most
      have hdr := S.dr
      have n4 := S.n4
      have hn := drawn_nest hp hdr
      have hpw : p.toNat ^ n ≤ 10000 := by
        by_cases h4 : 4 ≤ p
        · have h1 : p.toNat ^ n ≤ 13 ^ n := Nat.pow_le_pow_left (by omega) n
          have h2 : 13 ^ n ≤ 13 ^ 3 := Nat.pow_le_pow_right (by decide) (S.n3 h4)
          exact Nat.le_trans h1 (Nat.le_trans h2 (by decide))
        · have h1 : p.toNat ^ n ≤ 3 ^ n := Nat.pow_le_pow_left (by omega) n
          have h2 : 3 ^ n ≤ 3 ^ 4 := Nat.pow_le_pow_right (by decide) n4
          exact Nat.le_trans h1 (Nat.le_trans h2 (by decide))
      obtain ⟨g, hgd2⟩ := S.gr
      obtain ⟨ws, hwl2, hws2⟩ := S.wh
      have hne2 := S.ne
      refine ⟨L, _, rfl, .inl (.inl S.at_), rfl, _, _, rfl, _, _, rfl, _, _, rfl, rfl, ?_⟩
      refine ⟨by show 0 ≤ sizeLine; decide, fun L0 hL0 => ?_⟩
      have e23 : Ex H2 (upd H2 L0 (.lst [])) := Ex.new hL0
      refine ⟨_, rfl, gd, _, rfl, gd_at (e23 _ _ hgd2) (gv_n _ _ _), 1, n, rfl, ⟨by decide, by decide, by omega, by omega⟩, ?_⟩
      refine for_range (lo := 1) (n := ((n : Int) - 1).toNat) (fun j σ H' => ∃ Ld xs x7 x8 x9 x10, σ = [some (.ref a), some (.ref d), some (.int (0 + (turn : Nat))), some (.ref gd), some nv, some (.ref wl), some (.ref Ld), x7, x8, x9, x10, x11, x12, x13, x14] ∧ Ex H2 H' ∧ H' Ld = some (.lst xs) ∧ DpAll K H' xs (allD p n (codesL p rows) j))
        ⟨L0, [], x7, x8, x9, x10, rfl, e23, upd_same, .nil⟩ ?_ ?_
      · rintro j σ H4 hj ⟨Ld, xs, x7, x8, x9, x10, rfl, e24, hLd, hxs⟩
        have ej1 : (1 + (j : Int)) = ((j + 1 : Nat) : Int) := by omega
        have hj2 : j + 1 < n := by omega
        rw [ej1]
        refine ⟨_, rfl, _, rfl, _, rfl, gd, g, wl, ws, p, n, j + 1, rows, rfl, hp, by omega, hpw, hdr, by omega, hj2, e24 _ _ hgd2, e24 _ _ hwl2, dps_mono e24 _ _ hws2, fun O os H5 hO e5 hos hdo => ?_⟩
        have e25 := e24.trans e5
        have sh := show_level hp hdr (by omega : n ≤ 6) hj2
        obtain ⟨s1, s2, s3⟩ := sh.fit (Nat.le_refl _) (Nat.le_refl _)
        refine ⟨2, rfl, by decide, by decide, ?_⟩
        refine for_range (n := 2) (fun i σ H' => ∃ x9 x10, σ = [some (.ref a), some (.ref d), some (.int (0 + (turn : Nat))), some (.ref gd), some nv, some (.ref wl), some (.ref Ld), some (.int ((j + 1 : Nat) : Int)), some (.ref O), x9, x10, x11, x12, x13, x14] ∧ Ex H5 H') ⟨_, _, rfl, Ex.refl _⟩ ?_ ?_
        · rintro i σ H6 hi ⟨x9, x10, rfl, e6⟩
          refine ⟨_, rfl, _, rfl, nv, p, n, j + 1, codesL p rows, rfl, hne2.mono (e25.trans e6), hp, by omega, hn, level_ok hp hdr (by omega) hj2, fun D ys H7 hD e7 hy hdy => ?_⟩
          have e57 := e6.trans e7
          have ly : (ys.length : Int) = p := by
            have h1 : ys.length = (deedsC p n (codesL p rows) (j + 1)).length := dps_mapl hdy
            rw [h1, deeds_count hp hdr hj2]
            omega
          refine ⟨_, rfl, D, _, rfl, .lst (.inl (.inl hy)) hdy, s1, s2, s3, _, rfl, O, _, rfl, .lst (.inl (.inl (e57 _ _ hos))) (dps_mono e57 _ _ hdo), s1, s2, s3, rfl, _, rfl, ?_⟩
          rw [decide_eq_true rfl]
          refine iteF ⟨_, rfl, D, ys, rfl, .inl (.inl (.inl hy)), _, rfl, gd, _, rfl, gd_at (e57 _ _ (e25 _ _ hgd2)) (gv_p _ _ _), rfl, _, rfl, ?_⟩
          rw [ly, decide_eq_true rfl]
          have sz : ys.length < sizeLine := by
            have : 14 < sizeLine := by decide
            omega
          exact iteF ⟨_, rfl, .inl ⟨rfl, ys, .inl (.inl hy)⟩, D, ys, .non, rfl, rfl, hy, sz, _, _, rfl, Evl.Ex.mut e57 (ex_none e6 hD)⟩
        · rintro σ H6 ⟨x9, x10, rfl, e6⟩
          have szL : xs.length + os.length ≤ sizeLine := by
            have h1 := dps_len hxs
            have h2 := allD_len hp n (codesL p rows) j
            have h3 : os.length = (deedsC p n (codesL p rows) (j + 1)).length := dps_mapl hdo
            have h4 := deeds_len hp n (codesL p rows) (j + 1)
            have : 14 * 4 + 14 ≤ sizeLine := by decide
            omega
          have e46 := e5.trans e6
          refine ⟨_, rfl, _, rfl, Ld, O, xs, os, rfl, rfl, e46 _ _ hLd, e6 _ _ hos, szL, fun M hM => ?_⟩
          have e7 : Ex H6 (upd H6 M (.lst (xs ++ os))) := Ex.new hM
          refine ⟨M, _, _, _, _, _, rfl, (e25.trans e6).trans e7, upd_same, ?_⟩
          rw [allD_succ]
          exact dps_app (dps_mono (e46.trans e7) _ _ hxs) (dps_mono (e6.trans e7) _ _ hdo)
      · rintro σ H4 ⟨Ld, xs, x7, x8, x9, x10, rfl, e24, hLd, hxs⟩
        rw [show ((n : Int) - 1).toNat = n - 1 by omega] at hxs
        have sh := show_allD hp hdr (by omega : n ≤ 6) (Nat.le_refl (n - 1))
        obtain ⟨s1, s2, s3⟩ := sh.fit (Nat.le_refl _) (Nat.le_refl _)
        refine ⟨2, rfl, by decide, by decide, ?_⟩
        refine for_range (n := 2) (fun i σ H' => ∃ x9 x10, σ = [some (.ref a), some (.ref d), some (.int (0 + (turn : Nat))), some (.ref gd), some nv, some (.ref wl), some (.ref Ld), x7, x8, x9, x10, x11, x12, x13, x14] ∧ Ex H4 H') ⟨_, _, rfl, Ex.refl _⟩ ?_ ?_
        · rintro i σ H6 hi ⟨x9, x10, rfl, e6⟩
          refine ⟨_, rfl, nv, p, n, codesL p rows, rfl, hne2.mono (e24.trans e6), hp, by omega, hn, fun i i1 i2 => level_ok hp hdr i1 i2, fun D ys H7 hD e7 hy hdy => ?_⟩
          have e47 := e6.trans e7
          refine ⟨_, rfl, D, _, rfl, .lst (.inl (.inl hy)) hdy, s1, s2, s3, _, rfl, Ld, _, rfl, .lst (.inl (.inl (e47 _ _ hLd))) (dps_mono e47 _ _ hxs), s1, s2, s3, rfl, _, rfl, ?_⟩
          rw [decide_eq_true rfl]
          have sz : ys.length < sizeLine := by
            have h1 := dps_len hdy
            have h2 := allD_len hp n (codesL p rows) (n - 1)
            have : 14 * 4 < sizeLine := by decide
            omega
          exact iteF ⟨_, rfl, .inl ⟨rfl, ys, .inl (.inl hy)⟩, D, ys, .non, rfl, rfl, hy, sz, _, _, rfl, Evl.Ex.mut e47 (ex_none e6 hD)⟩
        · rintro σ H5 ⟨x9, x10, rfl, e45⟩
          have e25 := e24.trans e45
          have hne5 := hne2.mono e25
          have hLd5 := e45 _ _ hLd
          have hxs5 := dps_mono e45 _ _ hxs
          have big : 1000 ≤ sizeLine := by decide
          have fitN : ∀ cs, NestOk p n cs → smallT (.list (cs.map codeD)) = true ∧ (PyData.list (cs.map codeD)).depth ≤ 20 ∧ (PyData.list (cs.map codeD)).shown.length ≤ sizeLine := fun cs h => (show_nest hp h (by omega)).fit (Nat.le_refl _) (Nat.le_refl _)
          refine in_ncodes rfl hne5 fun l ls hl hls => ?_
          obtain ⟨m1, m2, m3⟩ := fitN _ hn
          have e56 : Ex H5 (upd H5 l (.lst ls)) := Ex.new hl
          refine ⟨l, .list ((codesL p rows).map codeD), rfl, .lst (.inl (.inl upd_same)) (dps_mono e56 _ _ hls), m1, m2, m3, by show 1 ≤ sizeLine; decide, fun L1 hL1 => ?_⟩
          have e57 := e56.trans (Ex.new (o := .lst [.str (PyData.list ((codesL p rows).map codeD)).shown]) hL1)
          have hdd := dps_mono e57 _ _ hxs5
          rw [← allP_D] at hdd
          have lenP : (allP p n (codesL p rows) (n - 1)).length ≤ 100 := by
            have h1 := allD_len hp n (codesL p rows) (n - 1)
            rw [← allP_D, List.length_map] at h1
            omega
          refine ⟨_, rfl, seq_lc (f := dd) (c := allP p n (codesL p rows) (n - 1)) ⟨Ld, xs, rfl, .inl (.inl (.inl (e57 _ _ hLd5))), hdd⟩ (sz100 lenP) (fun _ => true) (fun x => .str (nestT ((codesL p rows).set (x.1 - 1) x.2))) (fun _ => rfl) (gm_name 13) ?_ ?_⟩
          · intro x y H7 hm e7 hy
            refine ⟨rfl, Ex.refl _, et_yes, fun _ => ?_⟩
            intro H8 e8 Q' kk
            obtain ⟨k, hk, k1, k2⟩ := allP_mem hm
            have hk2 : k + 1 < n := by omega
            have dok := deed_ok hp hdr hk2 k2
            have dnest := deed_nest hp hdr hk2 k2
            have e58 := e57.trans (e7.trans e8)
            obtain ⟨xi, xc⟩ := x
            obtain rfl : xi = k + 1 := k1
            refine ⟨_, rfl, _, rfl, nv, y, p, n, k + 1, codesL p rows, xc, rfl, hne5.mono e58, hp, by omega, hn, dp_monoT (ExT.of e8) _ _ (flat_deed _ _) hy, dok, dnest, fun v H9 e9 hv => ?_⟩
            obtain ⟨va, vdx, vg, vc, rfl, hva, hrest⟩ := id hv
            refine ⟨va, vdx, _, rfl, hva, ne_no (by decide +kernel) (by decide +kernel) _ _, _, p, n, _, rfl, hv, fun l2 ls2 hl2 hls2 => ?_⟩
            obtain ⟨m1, m2, m3⟩ := fitN _ dnest
            have e10 : Ex H9 (upd H9 l2 (.lst ls2)) := Ex.new hl2
            exact ⟨l2, _, rfl, .lst (.inl (.inl upd_same)) (dps_mono e10 _ _ hls2), m1, m2, m3, kk _ _ (e9.trans e10) (.str _)⟩
          · intro D vs H7 hD e7 hv hdv
            rw [filter_all] at hdv
            have ev := dps_strs (zs := (allP p n (codesL p rows) (n - 1)).map fun x => nestT ((codesL p rows).set (x.1 - 1) x.2)) (by rw [List.map_map]; exact hdv)
            have szS : ([.str (PyData.list ((codesL p rows).map codeD)).shown] : List V).length + vs.length ≤ sizeLine := by
              rw [ev, List.length_map, List.length_map]
              simp only [List.length_cons, List.length_nil]
              omega
            refine ⟨L1, D, _, vs, rfl, rfl, e7 _ _ upd_same, hv, szS, fun M hM => ?_⟩
            have es : [V.str (PyData.list ((codesL p rows).map codeD)).shown] ++ vs = (seenL p n (codesL p rows)).map V.str := by
              rw [ev, seen_eq, List.map_cons]
              rfl
            rw [es]
            have e78 : Ex H7 (upd H7 M (.lst ((seenL p n (codesL p rows)).map V.str))) := Ex.new hM
            have e58 := (e57.trans e7).trans e78
            have lenS := seen_len p n hp (codesL p rows) (by omega)
            have allS : ∀ (H : Hp) (zs : List Str), DpAll K H (zs.map V.str) (zs.map PyData.str) := fun H zs => by
              induction zs with
              | nil => exact .nil
              | cons z zs ih => exact .cons (.str z) ih
            refine ⟨_, rfl, seq_lc (f := PyData.str) (c := seenL p n (codesL p rows)) ⟨M, _, rfl, .inl (.inl (.inl upd_same)), allS _ _⟩ (sz100 lenS) (fun _ => false) (fun z => .str z) (fun _ => rfl) (gm_name 14) ?_ ?_⟩
            · intro z y H9 hm e9 hy
              refine ⟨rfl, Ex.refl _, ?_, fun h => by cases h⟩
              intro H10 e10 Q' kk
              obtain rfl : y = V.str z := by
                cases hy
                rfl
              refine ⟨_, rfl, .inl ⟨rfl, _, .inl (.inl ((e9.trans e10) _ _ upd_same))⟩, _, rfl, M, seenL p n (codesL p rows), z, rfl, rfl, .inl (.inl ((e9.trans e10) _ _ upd_same)), _, _, rfl, rfl, _, rfl, ?_⟩
              have h1 := seen_one hp hdr z
              rw [decide_eq_false (by omega)]
              exact kk _ (Ex.refl _)
            · intro D2 vs2 H9 hD2 e9 hv2 hd2
              have ef : (seenL p n (codesL p rows)).filter (fun _ => false) = [] := by simp
              rw [ef] at hd2
              cases hd2
              refine ⟨by show 0 ≤ sizeLine; decide, fun L3 hL3 => ?_⟩
              have e910 : Ex H9 (upd H9 L3 (.lst [])) := Ex.new hL3
              refine ⟨.list [], .list [], .lst (.inl (.inl (e910 _ _ hv2))) .nil, .lst (.inl (.inl upd_same)) .nil, by decide +kernel, by decide +kernel, _, rfl, ?_⟩
              have ee : PyData.eqv (.list []) (.list []) = true := by decide +kernel
              rw [ee]
              refine iteF ?_
              have e510 := (e58.trans e9).trans e910
              have hgd10 := e510 _ _ (e25 _ _ hgd2)
              have hne10 := hne5.mono e510
              have e2x := e25.trans e510
              have hs10 := hs2.ex e2x
              have T10 : Tabs (lamT (He.cT K lawDef).2) (upd H9 L3 (.lst [])) := T2.ext e2x
              refine ⟨1, rfl, _, rfl, gd, _, rfl, gd_at hgd10 (gv_n _ _ _), 10, 30, rfl, rfl, ⟨by decide, by decide, by decide⟩, by show 0 ≤ sizeLine; decide, fun t0 ht0 => ⟨by show 1 ≤ sizeLine; decide, fun l1 hl1 => fun d0 hd0 => ⟨by show 1 ≤ sizeLine; decide, fun t1 ht1 => ⟨by show 12 ≤ sizeLine; decide, fun LO hLO => ?_⟩⟩⟩⟩
              have w1 : Ex (upd H9 L3 (.lst [])) (upd (upd H9 L3 (.lst [])) t0 (.tup [])) := Ex.new ht0
              have w2 := Ex.new (o := .lst [.int 1]) hl1
              have w3 := Ex.new (o := .dK []) hd0
              have w4 := Ex.new (o := .tup [.int 1]) ht1
              have w5 := Ex.new (o := .lst [.int 0, .int (-1), .int (n : Nat), .int (10 ^ (30 : Int).toNat), .non, .bl true, .bl false, .str "1", .ref t0, .ref l1, .ref d0, .ref t1]) hLO
              have wA := (((w1.trans w2).trans w3).trans w4).trans w5
              have nlen : (PyData.list [.int ((n : Nat) : Int)]).shown.length ≤ sizeLine := by
                have h1 := lst_len (ds := [.int ((n : Nat) : Int)]) (B := 2) (m := 1) (fun d hd => by
                  rw [List.mem_singleton.mp hd]
                  exact int_len (by omega) (by omega)) (Nat.le_refl 1)
                have : 7 ≤ sizeLine := by decide
                omega
              refine ⟨LO, rfl, ⟨_, .inl (.inl upd_same)⟩, ?_⟩
              refine for_list (xs := [.int 0, .int (-1), .int (n : Nat), .int (10 ^ (30 : Int).toNat), .non, .bl true, .bl false, .str "1", .ref t0, .ref l1, .ref d0, .ref t1]) (fun i σ H' => ∃ x12, σ = [some (.ref a), some (.ref d), some (.int (0 + (turn : Nat))), some (.ref gd), some nv, some (.ref wl), some (.ref Ld), x7, x8, x9, x10, some (.ref M), x12, x13, x14] ∧
                  ExtN (upd H9 L3 (.lst [])) H' ∧ H' t0 = some (.tup []) ∧ H' l1 = some (.lst [.int 1]) ∧ H' d0 = some (.dK []) ∧ H' t1 = some (.tup [.int 1]) ∧ H' LO = some (.lst [.int 0, .int (-1), .int (n : Nat), .int (10 ^ (30 : Int).toNat), .non, .bl true, .bl false, .str "1", .ref t0, .ref l1, .ref d0, .ref t1]) ∧ Tabs (lamT (He.cT K lawDef).2) H')
                ⟨x12, rfl, exN wA, (((w2.trans w3).trans w4).trans w5) _ _ upd_same, ((w3.trans w4).trans w5) _ _ upd_same, (w4.trans w5) _ _ upd_same, w5 _ _ upd_same, upd_same, T10.ext wA⟩ (fun i σ H' _ z => by obtain ⟨_, _, _, _, _, _, _, h, _⟩ := z; exact .inl (.inl h)) ?_ ?_
              · rintro i x σ Hb hx ⟨x12, rfl, eb, b0, b1, b2, b3, b4, Tb⟩
                have hm := List.mem_of_getElem? hx
                have ov : OddV K Hb n x := by
                  simp only [List.mem_cons, List.not_mem_nil, or_false] at hm
                  rcases hm with rfl | rfl | rfl | rfl | rfl | rfl | rfl | rfl | rfl | rfl | rfl | rfl
                  · exact .int 0 (by omega) (by decide) (by decide +kernel)
                  · exact .int (-1) (by omega) (by decide) (by decide +kernel)
                  · exact .int (n : Nat) (by omega) (by have : (4 : Nat) < 2 ^ 200 := by decide
                                                        omega) nlen
                  · exact .int (10 ^ (30 : Int).toNat) (fun z => by
                      have h1 : ((10 : Int) ^ (30 : Int).toNat) < (n : Nat) := z.2
                      have h2 : (4 : Int) < (10 : Int) ^ (30 : Int).toNat := by decide
                      omega) (by decide) (by decide +kernel)
                  · exact .non
                  · exact .bl true
                  · exact .bl false
                  · exact .str "1" (by decide +kernel)
                  · exact .tup0 b0
                  · exact .lst1 b1
                  · exact .dct b2
                  · exact .tup1 b3
                obtain ⟨tx, htx⟩ := ov.told
                refine ⟨Tb, fun Hc ec Tc => ?_⟩
                have nec := (hne10.extN eb).extN ec
                refine ⟨_, rfl, _, rfl, nv, x, p, n, codesL p rows, rfl, nec, (ov.extN ec).bad, fun d1 hd1 => ⟨rfl, d1, x, rfl, upd_same, fun L4 hL4 => ?_⟩⟩
                have y1 : Ex Hc (upd Hc d1 (.xd [(("level" : Str), x)])) := Ex.new hd1
                have y2 := y1.trans (Ex.new (o := .lst [x]) hL4)
                refine ⟨L4, x, tx, rfl, upd_same, htx _ (ec.trans (exN y2)), _, rfl, by show 1 ≤ sizeLine; decide, fun L5 hL5 => ?_⟩
                have y3 := y2.trans (Ex.new (o := .lst [x]) hL5)
                have ecd := ec.trans (exN y3)
                refine ⟨L5, x, tx, rfl, upd_same, htx _ ecd, rfl, _, rfl, ?_⟩
                rw [decide_eq_true rfl]
                exact iteF ⟨_, rfl, eb.trans ecd, ecd _ _ b0 (fun _ z => by cases z), ecd _ _ b1 (fun _ z => by cases z), ecd _ _ b2 (fun _ z => by cases z), ecd _ _ b3 (fun _ z => by cases z), ecd _ _ b4 (fun _ z => by cases z), Tc.ext y3⟩
              · rintro σ Hb ⟨x12, rfl, eb, b0, b1, b2, b3, b4, Tb⟩
                exact ⟨_, _, _, _, _, _, _, _, _, _, _, _, _, rfl, hs10.extN eb, Tb⟩
    · rintro σ H' ⟨x2, x3, x4, x5, x6, x7, x8, x9, x10, x11, x12, x13, x14, rfl, _, _⟩
      exact q H'
end
end Cn
/-! The end: a law whose promise is for where no guard is up, with one table. -/
namespace Cn
open PySem PySem.Spec PyProof.Rows L2
abbrev scrO (us : List Value) : Obj := { cls := .type "list", data := .seq us.toArray }
abbrev tabO : Obj := { cls := .none, data := .fields #[] }
/-- what is followed from the start: the table; the script, where the written part has it not -/
def startH (K : PySem.W.Frag) (a T : Addr) (us : List Value) (ns : List Int) : Hp := fun b =>
  if b = T then some (.tbl #[]) else if b = a ∧ K.lookup a = none then some (.frz (scrO us) (.lst (ns.map V.int))) else none
section
variable {P : Program} {w : World} {K : PySem.W.Frag} {mg mb : Str → Option Value} {k : Nat} {fa a c T : Addr} {fd : FuncData} {x : Str} {sp : Sp} {s : Shared} {us : List Value} {ns : List Int}
theorem start_T : startH K a T us ns T = some (.tbl #[]) := if_pos rfl
theorem start_a (h : a ≠ T) (hk : K.lookup a = none) : startH K a T us ns a = some (.frz (scrO us) (.lst (ns.map V.int))) := by
  unfold startH
  rw [if_neg h, if_pos ⟨rfl, hk⟩]
theorem start_of {b : Addr} {u : HO} (h : startH K a T us ns b = some u) : (b = T ∧ u = .tbl #[]) ∨ (b = a ∧ K.lookup a = none ∧ u = .frz (scrO us) (.lst (ns.map V.int))) := by
  unfold startH at h
  by_cases h1 : b = T
  · rw [if_pos h1] at h
    exact .inl ⟨h1, (Option.some.inj h).symm⟩
  · rw [if_neg h1] at h
    by_cases h2 : b = a ∧ K.lookup a = none
    · rw [if_pos h2] at h
      exact .inr ⟨h2.1, h2.2, (Option.some.inj h).symm⟩
    · rw [if_neg h2] at h
      cases h
/-- a thing of another kind is not followed -/
theorem start_no (gT : s.heap.get? T = some tabO) (ga : s.heap.get? a = some (scrO us)) {b : Addr} {o : Obj} (h : s.heap.get? b = some o) (n1 : o ≠ tabO) (n2 : o ≠ scrO us) : startH K a T us ns b = none := by
  cases e : startH K a T us ns b with
  | none => rfl
  | some u =>
    rcases start_of e with ⟨rfl, _⟩ | ⟨rfl, _, _⟩
    · exact absurd (Option.some.inj (h.symm.trans gT)) n1
    · exact absurd (Option.some.inj (h.symm.trans ga)) n2
theorem ns_base (gT : s.heap.get? T = some tabO) (ga : s.heap.get? a = some (scrO us)) {b : Addr} {m : Str → Option Value} (h : s.heap.Ns b m) : (hidT s.heap (startH K a T us ns)).Ns b m := by
  obtain ⟨o, es, ep, h1, h2, h3⟩ := h
  refine ⟨o, es, ep, hidT_get h1 (start_no gT ga h1 (fun z => ?_) fun z => ?_), h2, h3⟩
  · rw [z] at h2
    cases h2
  · rw [z] at h2
    cases h2
theorem in_base (KX : K.In s.heap) (nT : K.lookup T = none) : K.In (hidT s.heap (startH K a T us ns)) := fun b o e => by
  refine hidT_get (KX b o e) ?_
  cases q : startH K a T us ns b with
  | none => rfl
  | some u =>
    rcases start_of q with ⟨rfl, _⟩ | ⟨rfl, z, _⟩
    · rw [nT] at e
      cases e
    · rw [z] at e
      cases e
theorem ok_start (gT : s.heap.get? T = some tabO) (ga : s.heap.get? a = some (scrO us)) (rv : Vals (ns.map V.int) us) (hl : ns.length ≤ sizeLine) : HOk P w (startH K a T us ns) s.heap := fun b u e => by
  rcases start_of e with ⟨rfl, rfl⟩ | ⟨rfl, _, rfl⟩
  · exact gT
  · exact ⟨ga, by rw [List.length_map]; exact hl, us, _, rv, ga⟩
theorem sq_start (KX : K.In s.heap) (gT : s.heap.get? T = some tabO) (ga : s.heap.get? a = some (scrO us)) (rv : Vals (ns.map V.int) us) (hl : ns.length ≤ sizeLine) : SqL K (startH K a T us ns) a (ns.map V.int) := by
  have hne : a ≠ T := fun z => by
    rw [z, gT] at ga
    cases ga
  cases hk : K.lookup a with
  | none => exact .inl (.inr ⟨scrO us, start_a hne hk⟩)
  | some o =>
    have e := (KX a o hk).symm.trans ga
    obtain rfl := Option.some.inj e
    refine .inr ⟨scrO us, us.toArray, 0, hk, rfl, rfl, rfl, ?_, by simpa using rv⟩
    have h1 := rv.length
    rw [List.length_map] at h1
    rw [List.size_toArray]
    omega
/-- the law, called as its row calls it -/
theorem law_endG (KX : K.In s.heap) (hns : s.heap.Ns mainGlobals mg) (hb : s.heap.Ns builtinsNs mb) (hbb : ∀ y : Str, y ≠ "__name__" → mb y = bootBuiltins y) (hlim : s.heap.NoLimit) (hgen : s.gens = #[])
    (gT : s.heap.get? T = some tabO) (nT : K.lookup T = none) (hcd : PySem.W.codeHdIn K c T = true) (hbm : ∃ (bm : Addr) (ob : Obj), mg "__builtins__" = some (.ref bm) ∧ bm ≠ builtinsNs ∧ s.heap.get? bm = some ob ∧ ob.cls = .type "module" ∧ ob.dict = some builtinsNs ∧ ob.data = .plain)
    (ga : s.heap.get? a = some (scrO us)) (hi : IntsAre us ns) (hl : ns.length ≤ sizeLine) (hr : Room k callerA)
    (F : ∀ base : Heap, K.In base → base.Ns mainGlobals mg → LamX.TabB base mg c T → FnG P w K mg base k fa fd [x] sp) (hbind : ∀ (s : Shared) (u : Value), BindsTo s fd ⟨[u], []⟩ [(x, u)])
    (hsp : ∀ H : Hp, H T = some (.tbl #[]) → SqL K H a (ns.map V.int) → sp [.ref a] H (fun v _ => v = .bl true) fun _ _ _ => False) :
    codeAny (model P w) callerA (.call (.ref fa) ⟨[.ref a], []⟩) (fun r s' => r = .ok (.ret (.bool true)) ∧ OldK s.heap s'.heap ∧ s'.os = s.os ∧ AllBare s'.gens) s := by
  have rv := vals_ints hi
  have kb : K.In (hidT s.heap (startH K a T us ns)) := in_base KX nT
  have nb : (hidT s.heap (startH K a T us ns)).Ns mainGlobals mg := ns_base gT ga hns
  have gne : mainGlobals ≠ T := fun z => by
    obtain ⟨o, es, ep, h1, h2, _⟩ := hns
    rw [z, gT] at h1
    cases h1
    cases h2
  have tb : LamX.TabB (hidT s.heap (startH K a T us ns)) mg c T := by
    obtain ⟨bm, ob, b1, b2, b3, b4, b5, b6⟩ := hbm
    have o1 : ob ≠ tabO := fun z => by
      rw [z] at b6
      cases b6
    have o2 : ob ≠ scrO us := fun z => by
      rw [z] at b6
      cases b6
    refine NdefX.tabB_of_K kb hcd ⟨bm, ob, b1, b2, fun z => ?_, fun z => ?_, hidT_get b3 (start_no gT ga b3 o1 o2), b4, b5, b6⟩ gne
    · obtain ⟨o, es, ep, h1, h2, _⟩ := hns
      rw [z, h1] at b3
      rw [← Option.some.inj b3, h2] at b6
      cases b6
    · rw [z, gT] at b3
      exact o1 (Option.some.inj b3).symm
  have md : Mod K mg (hidT s.heap (startH K a T us ns)) := by
    obtain ⟨mc, h1, h2⟩ := hlim
    exact ⟨kb, nb, ⟨mb, ns_base gT ga hb, hbb⟩, mc, ns_base gT ga h1, h2⟩
  have hok : HOk P w (startH K a T us ns) s.heap := ok_start gT ga rv hl
  have en : Env0 P w K mg (hidT s.heap (startH K a T us ns)) callerA [] s (startH K a T us ns) := by
    constructor
    · rfl
    · exact md
    · exact fun b o h => of_hidT h
    · rw [hidT_size]
      exact Nat.le_refl _
    · trivial
    · exact fun b h => nomatch h
    · exact hok
    · exact .of_eq hgen
  refine codeAny_mono ((F _ kb nb tb).run callerA [] s _ ⟨[.ref a], []⟩ [.ref a] [.ref a] (fun v _ => v = .bl true) (fun _ _ _ => False) rfl hr en (hbind s _) (.cons rfl .nil) (hsp _ start_T (sq_start KX gT ga rv hl))) ?_
  intro r s' hq
  cases r with
  | error e => exact hq.elim
  | ok fl =>
    cases fl with
    | next => exact hq.elim
    | brk => exact hq.elim
    | cont => exact hq.elim
    | ret u =>
      obtain ⟨v, H', q1, q2, un, ok', rel, rfl⟩ := hq
      obtain rfl : u = Value.bool true := rel
      have tab' : ∃ more : Array Value, s'.heap.get? T = some { cls := .none, data := .fields more } := by
        obtain ⟨more, h⟩ := un.tbls T #[] start_T
        exact ⟨_, ok' T _ h⟩
      have rest : ∀ b o, b ≠ T → s.heap.get? b = some o → s'.heap.get? b = some o := fun b o hb h => by
        cases z : startH K a T us ns b with
        | none => exact un.keep b o h z (fun m => nomatch m) fun m => nomatch m
        | some u =>
          rcases start_of z with ⟨e, _⟩ | ⟨rfl, _, rfl⟩
          · exact absurd e hb
          · rw [ga] at h
            obtain rfl := Option.some.inj h
            exact (ok' _ _ (un.frzs _ _ _ z)).1
      obtain ⟨more, hm⟩ := tab'
      refine ⟨rfl, ⟨fun b o h => ?_, fun b o h => ?_⟩, q1, q2⟩
      · by_cases hbT : b = T
        · subst hbT
          rw [gT] at h
          obtain rfl := Option.some.inj h
          refine .inr (.inl ⟨((PySem.W.codeHd_of_K KX hcd).tab gT).isCodeTable, rfl, #[], more, rfl, ?_⟩)
          rw [Array.empty_append]
          exact hm
        · exact .inl (rest b o hbT h)
      · by_cases hbT : b = T
        · exact ⟨_, hbT ▸ hm⟩
        · exact ⟨o, rest b o hbT h⟩
end
/-- the row's walk by such a law -/
theorem walkG {l : PySem.W.OpenLaw} {n k : Nat} {q : Program} {loose : List Str} {XP : (Str → Option Value) → Heap → Prop} {YP : World → Heap → Prop} {d : DefRec} {x : Str} (hn : l.most = some n) (hn2 : n ≤ sizeLine) (hdf : d.params.defaults = []) (hr : Room k callerA)
    (F : ∀ (w : World) (mg : Str → Option Value) (fa : Addr) (h : Heap), YP w h → h.Ns mainGlobals mg → mg d.name = some (.ref fa) → ∃ (K : PySem.W.Frag) (c T : Addr) (fd : FuncData) (sp : Sp), K.In h ∧ h.get? T = some tabO ∧ K.lookup T = none ∧ PySem.W.codeHdIn K c T = true ∧
      (∀ (s : Shared) (u : Value), BindsTo s fd ⟨[u], []⟩ [(x, u)]) ∧ (∀ (H : Hp) (a : Addr) (ns : List Int), ns.length ≤ n → H T = some (.tbl #[]) → SqL K H a (ns.map V.int) → sp [.ref a] H (fun v _ => v = .bl true) fun _ _ _ => False) ∧
      ∀ base : Heap, K.In base → base.Ns mainGlobals mg → LamX.TabB base mg c T → FnG l.prog w K mg base k fa fd [x] sp) :
    PySem.W.WalkO q loose XP YP l.row.toRowW d [] (fun f vs => PySem.call f vs) := by
  refine Att.attach_callB hn hdf fun w s₀ s₁ mg mb fa o pm cd doc a us ns G Y ho hd hcd hmg hobj hints hlen hbits hgen => ?_
  obtain ⟨K, c, T, fd, sp, KX, gT, nT, hc, hbind, hsp, hF⟩ := F w mg fa _ Y G.T.g hmg
  exact law_endG KX G.T.g G.T.b G.T.builtins G.T.nolimit hgen gT nT hc G.T.bmain hobj hints (Nat.le_trans hlen hn2) hr hF hbind fun H h1 h2 => hsp H a ns hlen h1 h2
end Cn
set_option maxHeartbeats 0
namespace Cn
open PySem PySem.Spec PyProof.Rows L2
def d_is_number : He.DefD := ⟨("is_number", none), "is_number", "is_number", defArgs s_is_number, defBody s_is_number, defScope s_is_number, [], []⟩
def d_power : He.DefD := ⟨("power", none), "power", "power", defArgs s_power, defBody s_power, defScope s_power, [], []⟩
def d_is_prime : He.DefD := ⟨("is_prime", none), "is_prime", "is_prime", defArgs s_is_prime, defBody s_is_prime, defScope s_is_prime, [], []⟩
def d_Ground_init : He.DefD := ⟨("Ground", some "__init__"), "__init__", "Ground.__init__", defArgs s_Ground_init, defBody s_Ground_init, defScope s_Ground_init, [], []⟩
def d_Ground_p : He.DefD := ⟨("Ground", some "p"), "p", "Ground.p", defArgs s_Ground_p, defBody s_Ground_p, defScope s_Ground_p, [], []⟩
def d_Ground_n : He.DefD := ⟨("Ground", some "n"), "n", "Ground.n", defArgs s_Ground_n, defBody s_Ground_n, defScope s_Ground_n, [], []⟩
def d_Ground_zero : He.DefD := ⟨("Ground", some "zero"), "zero", "Ground.zero", defArgs s_Ground_zero, defBody s_Ground_zero, defScope s_Ground_zero, [], []⟩
def d_Ground_units : He.DefD := ⟨("Ground", some "units"), "units", "Ground.units", defArgs s_Ground_units, defBody s_Ground_units, defScope s_Ground_units, [], []⟩
def d_Ground_inverse_of : He.DefD := ⟨("Ground", some "inverse_of"), "inverse_of", "Ground.inverse_of", defArgs s_Ground_inverse_of, defBody s_Ground_inverse_of, defScope s_Ground_inverse_of, [], []⟩
def d_added : He.DefD := ⟨("added", none), "added", "added", defArgs s_added, defBody s_added, defScope s_added, [], []⟩
def d_scaled : He.DefD := ⟨("scaled", none), "scaled", "scaled", defArgs s_scaled, defBody s_scaled, defScope s_scaled, [], []⟩
def d_subtracted : He.DefD := ⟨("subtracted", none), "subtracted", "subtracted", defArgs s_subtracted, defBody s_subtracted, defScope s_subtracted, [], []⟩
def d_combined : He.DefD := ⟨("combined", none), "combined", "combined", defArgs s_combined, defBody s_combined, defScope s_combined, [], []⟩
def d_pivot : He.DefD := ⟨("pivot", none), "pivot", "pivot", defArgs s_pivot, defBody s_pivot, defScope s_pivot, [], []⟩
def d_without : He.DefD := ⟨("without", none), "without", "without", defArgs s_without, defBody s_without, defScope s_without, [], []⟩
def d_reduced : He.DefD := ⟨("reduced", none), "reduced", "reduced", defArgs s_reduced, defBody s_reduced, defScope s_reduced, [], []⟩
def d_wrong_entry : He.DefD := ⟨("wrong_entry", none), "wrong_entry", "wrong_entry", defArgs s_wrong_entry, defBody s_wrong_entry, defScope s_wrong_entry, [], []⟩
def d_check_code : He.DefD := ⟨("check_code", none), "check_code", "check_code", defArgs s_check_code, defBody s_check_code, defScope s_check_code, [], []⟩
def d_code_of : He.DefD := ⟨("code_of", none), "code_of", "code_of", defArgs s_code_of, defBody s_code_of, defScope s_code_of, [], []⟩
def d_rest : He.DefD := ⟨("rest", none), "rest", "rest", defArgs s_rest, defBody s_rest, defScope s_rest, [], []⟩
def d_is_in : He.DefD := ⟨("is_in", none), "is_in", "is_in", defArgs s_is_in, defBody s_is_in, defScope s_is_in, [], []⟩
def d_is_within : He.DefD := ⟨("is_within", none), "is_within", "is_within", defArgs s_is_within, defBody s_is_within, defScope s_is_within, [], []⟩
def d_gauss : He.DefD := ⟨("gauss", none), "gauss", "gauss", defArgs s_gauss, defBody s_gauss, defScope s_gauss, [], []⟩
def d_count_codes : He.DefD := ⟨("count_codes", none), "count_codes", "count_codes", defArgs s_count_codes, defBody s_count_codes, defScope s_count_codes, [], []⟩
def d_many_behind : He.DefD := ⟨("many_behind", none), "many_behind", "many_behind", defArgs s_many_behind, defBody s_many_behind, defScope s_many_behind, [], []⟩
def d_free_places : He.DefD := ⟨("free_places", none), "free_places", "free_places", defArgs s_free_places, defBody s_free_places, defScope s_free_places, [], []⟩
def d_pivots_at : He.DefD := ⟨("pivots_at", none), "pivots_at", "pivots_at", defArgs s_pivots_at, defBody s_pivots_at, defScope s_pivots_at, [], []⟩
def d_code_at : He.DefD := ⟨("code_at", none), "code_at", "code_at", defArgs s_code_at, defBody s_code_at, defScope s_code_at, [], []⟩
def d_all_codes : He.DefD := ⟨("all_codes", none), "all_codes", "all_codes", defArgs s_all_codes, defBody s_all_codes, defScope s_all_codes, [], []⟩
def d_codes_of_rank : He.DefD := ⟨("codes_of_rank", none), "codes_of_rank", "codes_of_rank", defArgs s_codes_of_rank, defBody s_codes_of_rank, defScope s_codes_of_rank, [], []⟩
def d_between_codes : He.DefD := ⟨("between_codes", none), "between_codes", "between_codes", defArgs s_between_codes, defBody s_between_codes, defScope s_between_codes, [], []⟩
def d_code_fault : He.DefD := ⟨("code_fault", none), "code_fault", "code_fault", defArgs s_code_fault, defBody s_code_fault, defScope s_code_fault, [], []⟩
def d_first_wrong : He.DefD := ⟨("first_wrong", none), "first_wrong", "first_wrong", defArgs s_first_wrong, defBody s_first_wrong, defScope s_first_wrong, [], []⟩
def d_Nest_init : He.DefD := ⟨("Nest", some "__init__"), "__init__", "Nest.__init__", defArgs s_Nest_init, defBody s_Nest_init, defScope s_Nest_init, [], []⟩
def d_Nest_ground : He.DefD := ⟨("Nest", some "ground"), "ground", "Nest.ground", defArgs s_Nest_ground, defBody s_Nest_ground, defScope s_Nest_ground, [], []⟩
def d_Nest_codes : He.DefD := ⟨("Nest", some "codes"), "codes", "Nest.codes", defArgs s_Nest_codes, defBody s_Nest_codes, defScope s_Nest_codes, [], []⟩
def d_Nest_code : He.DefD := ⟨("Nest", some "code"), "code", "Nest.code", defArgs s_Nest_code, defBody s_Nest_code, defScope s_Nest_code, [], []⟩
def d_is_level : He.DefD := ⟨("is_level", none), "is_level", "is_level", defArgs s_is_level, defBody s_is_level, defScope s_is_level, [], []⟩
def d_is_deed : He.DefD := ⟨("is_deed", none), "is_deed", "is_deed", defArgs s_is_deed, defBody s_is_deed, defScope s_is_deed, [], []⟩
def d_done : He.DefD := ⟨("done", none), "done", "done", defArgs s_done, defBody s_done, defScope s_done, [], []⟩
def d_deeds_at : He.DefD := ⟨("deeds_at", none), "deeds_at", "deeds_at", defArgs s_deeds_at, defBody s_deeds_at, defScope s_deeds_at, [], []⟩
def d_all_deeds : He.DefD := ⟨("all_deeds", none), "all_deeds", "all_deeds", defArgs s_all_deeds, defBody s_all_deeds, defScope s_all_deeds, [], []⟩
def d_law_source : He.DefD := ⟨("_law_source", none), "_law_source", "_law_source", defArgs s_law_source, defBody s_law_source, defScope s_law_source, [], []⟩
def d_law_pick : He.DefD := ⟨("_law_pick", none), "_law_pick", "_law_pick", defArgs s_law_pick, defBody s_law_pick, defScope s_law_pick, [], []⟩
def d_law_of : He.DefD := ⟨("_law_of", none), "_law_of", "_law_of", defArgs s_law_of, defBody s_law_of, defScope s_law_of, [], []⟩
def d_law_mixed : He.DefD := ⟨("_law_mixed", none), "_law_mixed", "_law_mixed", defArgs s_law_mixed, defBody s_law_mixed, defScope s_law_mixed, [], []⟩
def d_law_plus : He.DefD := ⟨("_law_plus", none), "_law_plus", "_law_plus", defArgs s_law_plus, defBody s_law_plus, defScope s_law_plus, [], []⟩
def d_law_units : He.DefD := ⟨("_law_units", none), "_law_units", "_law_units", defArgs s_law_units, defBody s_law_units, defScope s_law_units, [], []⟩
def d_law_inverse : He.DefD := ⟨("_law_inverse", none), "_law_inverse", "_law_inverse", defArgs s_law_inverse, defBody s_law_inverse, defScope s_law_inverse, [], []⟩
def d_law_pivot : He.DefD := ⟨("_law_pivot", none), "_law_pivot", "_law_pivot", defArgs s_law_pivot, defBody s_law_pivot, defScope s_law_pivot, [], []⟩
def d_law_reduced : He.DefD := ⟨("_law_reduced", none), "_law_reduced", "_law_reduced", defArgs s_law_reduced, defBody s_law_reduced, defScope s_law_reduced, [], []⟩
def d_law_is_in : He.DefD := ⟨("_law_is_in", none), "_law_is_in", "_law_is_in", defArgs s_law_is_in, defBody s_law_is_in, defScope s_law_is_in, [], []⟩
def d_law_base : He.DefD := ⟨("_law_base", none), "_law_base", "_law_base", defArgs s_law_base, defBody s_law_base, defScope s_law_base, [], []⟩
def d_law_codes : He.DefD := ⟨("_law_codes", none), "_law_codes", "_law_codes", defArgs s_law_codes, defBody s_law_codes, defScope s_law_codes, [], []⟩
def d_law_whole : He.DefD := ⟨("_law_whole", none), "_law_whole", "_law_whole", defArgs s_law_whole, defBody s_law_whole, defScope s_law_whole, [], []⟩
def d_law_between : He.DefD := ⟨("_law_between", none), "_law_between", "_law_between", defArgs s_law_between, defBody s_law_between, defScope s_law_between, [], []⟩
def d_law_digits : He.DefD := ⟨("_law_digits", none), "_law_digits", "_law_digits", defArgs s_law_digits, defBody s_law_digits, defScope s_law_digits, [], []⟩
def d_law_any_ground : He.DefD := ⟨("_law_any_ground", none), "_law_any_ground", "_law_any_ground", defArgs s_law_any_ground, defBody s_law_any_ground, defScope s_law_any_ground, [], []⟩
def d_law_drawn_codes : He.DefD := ⟨("_law_drawn_codes", none), "_law_drawn_codes", "_law_drawn_codes", defArgs s_law_drawn_codes, defBody s_law_drawn_codes, defScope s_law_drawn_codes, [], []⟩
def d_law_small : He.DefD := ⟨("_law_small", none), "_law_small", "_law_small", defArgs s_law_small, defBody s_law_small, defScope s_law_small, [], []⟩
def d_law_deeds_at : He.DefD := ⟨("_law_deeds_at", none), "_law_deeds_at", "_law_deeds_at", defArgs s_law_deeds_at, defBody s_law_deeds_at, defScope s_law_deeds_at, [], []⟩
def d_law_great_ground : He.DefD := ⟨("_law_great_ground", none), "_law_great_ground", "_law_great_ground", defArgs s_law_great_ground, defBody s_law_great_ground, defScope s_law_great_ground, [], []⟩
def d_law_no_level : He.DefD := ⟨("_law_no_level", none), "_law_no_level", "_law_no_level", defArgs s_law_no_level, defBody s_law_no_level, defScope s_law_no_level, [], []⟩
def d_law_great_right : He.DefD := ⟨("_law_great_right", none), "_law_great_right", "_law_great_right", defArgs s_law_great_right, defBody s_law_great_right, defScope s_law_great_right, [], []⟩
def d_law : He.DefD := ⟨("law", none), "law", "law", defArgs s_law, defBody s_law, defScope s_law, [], []⟩
def fn : List He.DefD := [d_is_number, d_power, d_is_prime, d_Ground_init, d_Ground_p, d_Ground_n, d_Ground_zero, d_Ground_units, d_Ground_inverse_of, d_added, d_scaled, d_subtracted, d_combined, d_pivot, d_without, d_reduced, d_wrong_entry, d_check_code, d_code_of, d_rest, d_is_in, d_is_within, d_gauss, d_count_codes, d_many_behind, d_free_places, d_pivots_at, d_code_at, d_all_codes, d_codes_of_rank, d_between_codes, d_code_fault, d_first_wrong, d_Nest_init, d_Nest_ground, d_Nest_codes, d_Nest_code, d_is_level, d_is_deed, d_done, d_deeds_at, d_all_deeds, d_law_source, d_law_pick, d_law_of, d_law_mixed, d_law_plus, d_law_units, d_law_inverse, d_law_pivot, d_law_reduced, d_law_is_in, d_law_base, d_law_codes, d_law_whole, d_law_between, d_law_digits, d_law_any_ground, d_law_drawn_codes, d_law_small, d_law_deeds_at, d_law_great_ground, d_law_no_level, d_law_great_right, d_law]
def fa : List He.Fa := [.glo "is_number", .glo "power", .glo "is_prime", .glo "added", .glo "scaled", .glo "subtracted", .glo "combined", .glo "pivot", .glo "without", .glo "reduced", .glo "wrong_entry", .glo "check_code", .glo "code_of", .glo "rest", .glo "is_in", .glo "is_within", .glo "gauss", .glo "count_codes", .glo "many_behind", .glo "free_places", .glo "pivots_at", .glo "code_at", .glo "all_codes", .glo "codes_of_rank", .glo "between_codes", .glo "code_fault", .glo "first_wrong", .glo "is_level", .glo "is_deed", .glo "done", .glo "deeds_at", .glo "all_deeds", .glo "_law_source", .glo "_law_pick", .glo "_law_of", .glo "_law_mixed", .glo "_law_plus", .glo "_law_units", .glo "_law_inverse", .glo "_law_pivot", .glo "_law_reduced", .glo "_law_is_in", .glo "_law_base", .glo "_law_codes", .glo "_law_whole", .glo "_law_between", .glo "_law_digits", .glo "_law_any_ground", .glo "_law_drawn_codes", .glo "_law_small", .glo "_law_deeds_at", .glo "_law_great_ground", .glo "_law_no_level", .glo "_law_great_right", .glo "law", .glo "Ground", .glo "Nest", .glo "NoLevel", .glo "BadCode", .free "isinstance", .free "int", .free "bool", .free "range", .free "tuple", .free "list", .free "max", .free "min", .free "len", .free "sorted", .free "any", .free "all", .free "zip", .free "enumerate", .free "abs", .free "repr", .free "super", .free "str", .cls "Ground", .mkr "Ground", .cls "Nest", .mkr "Nest", .noat "Ground" "prime", .noat "Ground" "length", .noat "Nest" "own_ground", .noat "Nest" "own_codes", .meth "Ground" "p", .meth "Ground" "n", .meth "Ground" "zero", .meth "Ground" "units", .meth "Ground" "inverse_of", .meth "Nest" "ground", .meth "Nest" "codes", .meth "Nest" "code", .exm "NoLevel" "NoLevel" true, .keep "NoLevel"]
abbrev RR : PySem.W.OpenRow := PySem.W.OpenLaw.row PySem.Challenge.rw_codenests_k25_whole_all_deeds_of_a_nest
/-! ### NoLevel, its __init__ -/
def nlC (K : PySem.W.Frag) : Addr := He.ga K "NoLevel"
def nlM (K : PySem.W.Frag) : Addr := He.ga K "NameMissing"
def nlI (K : PySem.W.Frag) : Addr := He.ma K (nlC K) "__init__"
def nlFn (K : PySem.W.Frag) : Option FuncData := match K.lookup (nlI K) with
  | some ⟨_, _, .func fd, _⟩ => some fd
  | _ => none
abbrev NlV : Type := Option (Str × Str × Arguments × FuncBody × Scope × Addr × List Str × Value × Value × Addr)
def nlObs (K : PySem.W.Frag) : NlV := (nlFn K).map fun fd => (fd.name, fd.qualname, fd.params, fd.body, fd.scope, fd.globals, fd.closure.map (·.1), fd.defaults, fd.kwdefaults, fd.builtins)
def nlVal : NlV := some ("__init__", "NoLevel.__init__", C8.fnArgs (inClass (top 8) 0), .stmts (C8.fnBody (inClass (top 8) 0)), C8.fnScope (inClass (top 8) 0), mainGlobals, ["__class__"], .none, .none, builtinsNs)
def nlCode (K : PySem.W.Frag) : Addr := match nlFn K with
  | some fd => (match fd.code with
    | .ref c => c
    | _ => 0)
  | none => 0
def nlCell (K : PySem.W.Frag) : Addr := match nlFn K with
  | some fd => (match fd.closure with
    | [(_, c)] => c
    | _ => 0)
  | none => 0
def clsB (K : PySem.W.Frag) : Bool := match K.lookup (nlC K) with
  | some ⟨.type t, _, .cls cd, sl⟩ => t == "type" && (decide (cd.mro = .ref (nlC K) :: .ref (nlM K) :: NL.leT) && (cd.hasDict && (!cd.hasDel && (match sl.toList with
    | [_, _, _, _, some (.builtin n), _] => n == "LookupError.__new__"
    | _ => false))))
  | _ => false
def fileB (K : PySem.W.Frag) : Bool := match K.lookup (nlCode K) with
  | some ⟨_, _, .fields vs, _⟩ => (match (vs[2]? : Option Value) with
    | some (.str f _) => (PySem.Challenge.pw_codenests_k25_whole_all_deeds_of_a_nest.main.file : Str) == f
    | _ => false)
  | _ => false
def cellB (K : PySem.W.Frag) : Bool := match K.lookup (nlCell K) with
  | some ⟨_, _, .cell (some (.ref c)), _⟩ => c == nlC K
  | _ => false
def cdB (K : PySem.W.Frag) : Bool := match nlFn K with
  | some fd => PySem.W.codeIn K fd.code "NoLevel.__init__"
  | none => false
def tabB1 (g : Addr → Option Obj) (K : PySem.W.Frag) : Bool := PySem.W.codeHdIn K (He.cT K ("law", none)).1 (He.cT K ("law", none)).2 && (match g (He.cT K ("law", none)).2 with
  | some o => He.emptyTab o
  | none => false)
def exL (g : Addr → Option Obj) (K : PySem.W.Frag) : List Bool := [tabB1 g K, clsB K, fileB K, cellB K, cdB K,
  He.eqO (PySem.W.findIn K (.ref (nlC K)) "__setattr__") (some (some (.builtin "object.__setattr__"))),
  He.eqO (PySem.W.findIn K (.ref (nlC K)) "__getattribute__") (some (some (.builtin "BaseException.__getattribute__"))),
  He.eqO (PySem.W.findIn K (.ref (nlC K)) "__getattr__") (some none),
  He.eqO (PySem.W.findIn K (.ref (nlC K)) "level") (some none),
  He.eqO (PySem.W.findIn K (.ref (nlC K)) "__init__") (some (some (.ref (nlI K)))),
  decide (PySem.W.typeIn K (.ref (nlI K)) = some (.type "function")),
  PySem.W.keepIn K (.ref (nlC K)),
  decide (PySem.W.subIn K (.ref (nlC K)) (.type "BaseException") = some true),
  decide (PySem.W.subIn K (.ref (nlC K)) (.type "LookupError") = some true),
  decide (PySem.W.mroIn K (nlC K) (.type "object") = some true),
  decide (PySem.W.mroIn K (nlC K) (.ref (nlC K)) = some true),
  decide (PySem.W.typeIn K (.ref (nlC K)) = some (.type "type")),
  PySem.W.hasDictIn K (nlC K),
  decide (PySem.W.exmOne K (.ref (nlC K)) (.ref (nlC K)) = some true),
  He.eqO (PySem.W.ks_superIn K (nlC K) (nlC K) "__init__") (some (some (.builtin "LookupError.__init__"))),
  He.eqO (PySem.W.nsIn K cStatics "thirdparty.any") (some none)]
/-! ### the Hook -/
def asC (g : Addr → Option Obj) : List Addr := He.asD g 5 ++ [cStatics]
abbrev KC (g : Addr → Option Obj) : PySem.W.Frag := He.frT g (asC g)
abbrev AlC : Type := He.AlD × List Bool × NlV
def obC (g : Addr → Option Obj) (K : PySem.W.Frag) : AlC := (He.obsD fa fn K, exL g K, nlObs K)
def vlC : AlC := (He.valD fn, List.replicate 21 true, nlVal)
/-- what is told of the written part -/
structure SaysC (h : Heap) (K : PySem.W.Frag) : Prop where
  inn : K.In h
  d : He.SaysD fa fn K
  ex : exL h.get? K = List.replicate 21 true
  nl : nlObs K = nlVal
  out : ∀ P o, h.get? P = some o → He.emptyTab o = true → K.lookup P = none
def hkC : PySem.W.Hook where
  α := AlC
  obs := fun s => obC s.heap.get? (KC s.heap.get?)
  val := fun _ => vlC
  says := fun _ h => ∃ h0 : Heap, (∀ b o, h0.get? b = some o → h.get? b = some o) ∧ SaysC h0 (KC h0.get?)
  of := fun _ s e => ⟨s.heap, fun _ _ z => z, He.frT_in, congrArg (fun z : AlC => z.1) e, congrArg (fun z : AlC => z.2.1) e, congrArg (fun z : AlC => z.2.2) e, fun _ _ h1 h2 => He.frT_none h1 h2⟩
  keeps := fun _ _ _ ⟨h0, k0, c⟩ k => ⟨h0, fun b o z => k b o (k0 b o z), c⟩
def obT (s : PySem.W.SharedT) : AlC := obC (HandSHeadRun.getT s) (KC (HandSHeadRun.getT s))
theorem obT_eq (s : PySem.W.SharedT) : obT s = hkC.obs s.abs := by
  have e : HandSHeadRun.getT s = s.abs.heap.get? := funext (HandSHeadRun.getT_eq s)
  unfold obT
  rw [e]
  rfl
def names0 : List PySem.Str := ["NestError", "NameMissing", "TooGreat", "BadGround", "BadCode", "BadNest", "BadDeed", "NoLevel", "is_number", "power", "is_prime", "Ground", "added", "scaled", "subtracted", "combined", "pivot", "without", "reduced", "wrong_entry", "check_code", "code_of", "rest", "is_in", "is_within", "gauss", "count_codes", "many_behind", "free_places", "pivots_at"]
def names1 : List PySem.Str := ["code_at", "all_codes", "codes_of_rank", "between_codes", "code_fault", "first_wrong", "Nest", "is_level", "is_deed", "done", "deeds_at", "all_deeds", "_law_source", "_law_pick", "_law_of", "_law_mixed", "_law_plus", "_law_units", "_law_inverse", "_law_pivot", "_law_reduced", "_law_is_in", "_law_base", "_law_codes", "_law_whole", "_law_between", "_law_digits", "_law_any_ground", "_law_drawn_codes", "_law_small"]
def names2 : List PySem.Str := ["_law_deeds_at", "_law_great_ground", "_law_no_level", "_law_great_right"]
def names : List PySem.Str := names0 ++ names1 ++ names2
theorem run (w : World) : HandSHeadRun.RunEq RR (PySem.W.view RR.prog [75]) hkC obT 8000 names w := by
  intro os
  kernel_rfl
end Cn
/-! What the head tells: En, NlTxt. -/
namespace Cn
open PySem PySem.Spec PyProof.Rows L2
theorem funD {K : PySem.W.Frag} {x q : Str} {st : Stmt} {f : Addr} {fd : FuncData} (F : FunD K x q (defArgs st) (defBody st) (defScope st) [] [] f fd) : Fun K x q st f fd := by
  obtain ⟨oc, od, dV, kV, doc, pm, an, cdv, ct, osl, e, lk, hc, hd, _⟩ := F.ex
  rcases hd with ⟨_, rfl⟩ | ⟨z, _⟩
  · exact ⟨⟨oc, od, kV, doc, pm, an, cdv, ct, osl, e, lk, hc⟩, F.kp⟩
  · exact absurd rfl z
section
variable {K : PySem.W.Frag} {h h0 : Heap} {mg : Str → Option Value}
theorem en_of (c : SaysC h0 K) (X : K.In h) (G : h.Ns mainGlobals mg) : En K mg where
  c_is_number := by
    obtain ⟨fd, F⟩ := c.d.def_ 0 (d := d_is_number) rfl
    exact ⟨fd, funD F, He.glo_ok X G (c.d.fact 0 (f := .glo "is_number") rfl)⟩
  c_power := by
    obtain ⟨fd, F⟩ := c.d.def_ 1 (d := d_power) rfl
    exact ⟨fd, funD F, He.glo_ok X G (c.d.fact 1 (f := .glo "power") rfl)⟩
  c_is_prime := by
    obtain ⟨fd, F⟩ := c.d.def_ 2 (d := d_is_prime) rfl
    exact ⟨fd, funD F, He.glo_ok X G (c.d.fact 2 (f := .glo "is_prime") rfl)⟩
  c_Ground_init := by
    obtain ⟨fd, F⟩ := c.d.def_ 3 (d := d_Ground_init) rfl
    exact ⟨fd, funD F, He.mkr_ok (c.d.fact 78 (f := .mkr "Ground") rfl), He.glo_ok X G (c.d.fact 55 (f := .glo "Ground") rfl)⟩
  c_Ground_p := by
    obtain ⟨fd, F⟩ := c.d.def_ 4 (d := d_Ground_p) rfl
    exact ⟨fd, funD F, He.meth_ok (c.d.fact 85 (f := .meth "Ground" "p") rfl)⟩
  c_Ground_n := by
    obtain ⟨fd, F⟩ := c.d.def_ 5 (d := d_Ground_n) rfl
    exact ⟨fd, funD F, He.meth_ok (c.d.fact 86 (f := .meth "Ground" "n") rfl)⟩
  c_Ground_zero := by
    obtain ⟨fd, F⟩ := c.d.def_ 6 (d := d_Ground_zero) rfl
    exact ⟨fd, funD F, He.meth_ok (c.d.fact 87 (f := .meth "Ground" "zero") rfl)⟩
  c_Ground_units := by
    obtain ⟨fd, F⟩ := c.d.def_ 7 (d := d_Ground_units) rfl
    exact ⟨fd, funD F, He.meth_ok (c.d.fact 88 (f := .meth "Ground" "units") rfl)⟩
  c_Ground_inverse_of := by
    obtain ⟨fd, F⟩ := c.d.def_ 8 (d := d_Ground_inverse_of) rfl
    exact ⟨fd, funD F, He.meth_ok (c.d.fact 89 (f := .meth "Ground" "inverse_of") rfl)⟩
  c_added := by
    obtain ⟨fd, F⟩ := c.d.def_ 9 (d := d_added) rfl
    exact ⟨fd, funD F, He.glo_ok X G (c.d.fact 3 (f := .glo "added") rfl)⟩
  c_scaled := by
    obtain ⟨fd, F⟩ := c.d.def_ 10 (d := d_scaled) rfl
    exact ⟨fd, funD F, He.glo_ok X G (c.d.fact 4 (f := .glo "scaled") rfl)⟩
  c_subtracted := by
    obtain ⟨fd, F⟩ := c.d.def_ 11 (d := d_subtracted) rfl
    exact ⟨fd, funD F, He.glo_ok X G (c.d.fact 5 (f := .glo "subtracted") rfl)⟩
  c_combined := by
    obtain ⟨fd, F⟩ := c.d.def_ 12 (d := d_combined) rfl
    exact ⟨fd, funD F, He.glo_ok X G (c.d.fact 6 (f := .glo "combined") rfl)⟩
  c_pivot := by
    obtain ⟨fd, F⟩ := c.d.def_ 13 (d := d_pivot) rfl
    exact ⟨fd, funD F, He.glo_ok X G (c.d.fact 7 (f := .glo "pivot") rfl)⟩
  c_without := by
    obtain ⟨fd, F⟩ := c.d.def_ 14 (d := d_without) rfl
    exact ⟨fd, funD F, He.glo_ok X G (c.d.fact 8 (f := .glo "without") rfl)⟩
  c_reduced := by
    obtain ⟨fd, F⟩ := c.d.def_ 15 (d := d_reduced) rfl
    exact ⟨fd, funD F, He.glo_ok X G (c.d.fact 9 (f := .glo "reduced") rfl)⟩
  c_wrong_entry := by
    obtain ⟨fd, F⟩ := c.d.def_ 16 (d := d_wrong_entry) rfl
    exact ⟨fd, funD F, He.glo_ok X G (c.d.fact 10 (f := .glo "wrong_entry") rfl)⟩
  c_check_code := by
    obtain ⟨fd, F⟩ := c.d.def_ 17 (d := d_check_code) rfl
    exact ⟨fd, funD F, He.glo_ok X G (c.d.fact 11 (f := .glo "check_code") rfl)⟩
  c_code_of := by
    obtain ⟨fd, F⟩ := c.d.def_ 18 (d := d_code_of) rfl
    exact ⟨fd, funD F, He.glo_ok X G (c.d.fact 12 (f := .glo "code_of") rfl)⟩
  c_rest := by
    obtain ⟨fd, F⟩ := c.d.def_ 19 (d := d_rest) rfl
    exact ⟨fd, funD F, He.glo_ok X G (c.d.fact 13 (f := .glo "rest") rfl)⟩
  c_is_in := by
    obtain ⟨fd, F⟩ := c.d.def_ 20 (d := d_is_in) rfl
    exact ⟨fd, funD F, He.glo_ok X G (c.d.fact 14 (f := .glo "is_in") rfl)⟩
  c_is_within := by
    obtain ⟨fd, F⟩ := c.d.def_ 21 (d := d_is_within) rfl
    exact ⟨fd, funD F, He.glo_ok X G (c.d.fact 15 (f := .glo "is_within") rfl)⟩
  c_gauss := by
    obtain ⟨fd, F⟩ := c.d.def_ 22 (d := d_gauss) rfl
    exact ⟨fd, funD F, He.glo_ok X G (c.d.fact 16 (f := .glo "gauss") rfl)⟩
  c_count_codes := by
    obtain ⟨fd, F⟩ := c.d.def_ 23 (d := d_count_codes) rfl
    exact ⟨fd, funD F, He.glo_ok X G (c.d.fact 17 (f := .glo "count_codes") rfl)⟩
  c_many_behind := by
    obtain ⟨fd, F⟩ := c.d.def_ 24 (d := d_many_behind) rfl
    exact ⟨fd, funD F, He.glo_ok X G (c.d.fact 18 (f := .glo "many_behind") rfl)⟩
  c_free_places := by
    obtain ⟨fd, F⟩ := c.d.def_ 25 (d := d_free_places) rfl
    exact ⟨fd, funD F, He.glo_ok X G (c.d.fact 19 (f := .glo "free_places") rfl)⟩
  c_pivots_at := by
    obtain ⟨fd, F⟩ := c.d.def_ 26 (d := d_pivots_at) rfl
    exact ⟨fd, funD F, He.glo_ok X G (c.d.fact 20 (f := .glo "pivots_at") rfl)⟩
  c_code_at := by
    obtain ⟨fd, F⟩ := c.d.def_ 27 (d := d_code_at) rfl
    exact ⟨fd, funD F, He.glo_ok X G (c.d.fact 21 (f := .glo "code_at") rfl)⟩
  c_all_codes := by
    obtain ⟨fd, F⟩ := c.d.def_ 28 (d := d_all_codes) rfl
    exact ⟨fd, funD F, He.glo_ok X G (c.d.fact 22 (f := .glo "all_codes") rfl)⟩
  c_codes_of_rank := by
    obtain ⟨fd, F⟩ := c.d.def_ 29 (d := d_codes_of_rank) rfl
    exact ⟨fd, funD F, He.glo_ok X G (c.d.fact 23 (f := .glo "codes_of_rank") rfl)⟩
  c_between_codes := by
    obtain ⟨fd, F⟩ := c.d.def_ 30 (d := d_between_codes) rfl
    exact ⟨fd, funD F, He.glo_ok X G (c.d.fact 24 (f := .glo "between_codes") rfl)⟩
  c_code_fault := by
    obtain ⟨fd, F⟩ := c.d.def_ 31 (d := d_code_fault) rfl
    exact ⟨fd, funD F, He.glo_ok X G (c.d.fact 25 (f := .glo "code_fault") rfl)⟩
  c_first_wrong := by
    obtain ⟨fd, F⟩ := c.d.def_ 32 (d := d_first_wrong) rfl
    exact ⟨fd, funD F, He.glo_ok X G (c.d.fact 26 (f := .glo "first_wrong") rfl)⟩
  c_Nest_init := by
    obtain ⟨fd, F⟩ := c.d.def_ 33 (d := d_Nest_init) rfl
    exact ⟨fd, funD F, He.mkr_ok (c.d.fact 80 (f := .mkr "Nest") rfl), He.glo_ok X G (c.d.fact 56 (f := .glo "Nest") rfl)⟩
  c_Nest_ground := by
    obtain ⟨fd, F⟩ := c.d.def_ 34 (d := d_Nest_ground) rfl
    exact ⟨fd, funD F, He.meth_ok (c.d.fact 90 (f := .meth "Nest" "ground") rfl)⟩
  c_Nest_codes := by
    obtain ⟨fd, F⟩ := c.d.def_ 35 (d := d_Nest_codes) rfl
    exact ⟨fd, funD F, He.meth_ok (c.d.fact 91 (f := .meth "Nest" "codes") rfl)⟩
  c_Nest_code := by
    obtain ⟨fd, F⟩ := c.d.def_ 36 (d := d_Nest_code) rfl
    exact ⟨fd, funD F, He.meth_ok (c.d.fact 92 (f := .meth "Nest" "code") rfl)⟩
  c_is_level := by
    obtain ⟨fd, F⟩ := c.d.def_ 37 (d := d_is_level) rfl
    exact ⟨fd, funD F, He.glo_ok X G (c.d.fact 27 (f := .glo "is_level") rfl)⟩
  c_is_deed := by
    obtain ⟨fd, F⟩ := c.d.def_ 38 (d := d_is_deed) rfl
    exact ⟨fd, funD F, He.glo_ok X G (c.d.fact 28 (f := .glo "is_deed") rfl)⟩
  c_done := by
    obtain ⟨fd, F⟩ := c.d.def_ 39 (d := d_done) rfl
    exact ⟨fd, funD F, He.glo_ok X G (c.d.fact 29 (f := .glo "done") rfl)⟩
  c_deeds_at := by
    obtain ⟨fd, F⟩ := c.d.def_ 40 (d := d_deeds_at) rfl
    exact ⟨fd, funD F, He.glo_ok X G (c.d.fact 30 (f := .glo "deeds_at") rfl)⟩
  c_all_deeds := by
    obtain ⟨fd, F⟩ := c.d.def_ 41 (d := d_all_deeds) rfl
    exact ⟨fd, funD F, He.glo_ok X G (c.d.fact 31 (f := .glo "all_deeds") rfl)⟩
  c_law_source := by
    obtain ⟨fd, F⟩ := c.d.def_ 42 (d := d_law_source) rfl
    exact ⟨fd, funD F, He.glo_ok X G (c.d.fact 32 (f := .glo "_law_source") rfl)⟩
  c_law_pick := by
    obtain ⟨fd, F⟩ := c.d.def_ 43 (d := d_law_pick) rfl
    exact ⟨fd, funD F, He.glo_ok X G (c.d.fact 33 (f := .glo "_law_pick") rfl)⟩
  c_law_of := by
    obtain ⟨fd, F⟩ := c.d.def_ 44 (d := d_law_of) rfl
    exact ⟨fd, funD F, He.glo_ok X G (c.d.fact 34 (f := .glo "_law_of") rfl)⟩
  c_law_mixed := by
    obtain ⟨fd, F⟩ := c.d.def_ 45 (d := d_law_mixed) rfl
    exact ⟨fd, funD F, He.glo_ok X G (c.d.fact 35 (f := .glo "_law_mixed") rfl)⟩
  c_law_plus := by
    obtain ⟨fd, F⟩ := c.d.def_ 46 (d := d_law_plus) rfl
    exact ⟨fd, funD F, He.glo_ok X G (c.d.fact 36 (f := .glo "_law_plus") rfl)⟩
  c_law_units := by
    obtain ⟨fd, F⟩ := c.d.def_ 47 (d := d_law_units) rfl
    exact ⟨fd, funD F, He.glo_ok X G (c.d.fact 37 (f := .glo "_law_units") rfl)⟩
  c_law_inverse := by
    obtain ⟨fd, F⟩ := c.d.def_ 48 (d := d_law_inverse) rfl
    exact ⟨fd, funD F, He.glo_ok X G (c.d.fact 38 (f := .glo "_law_inverse") rfl)⟩
  c_law_pivot := by
    obtain ⟨fd, F⟩ := c.d.def_ 49 (d := d_law_pivot) rfl
    exact ⟨fd, funD F, He.glo_ok X G (c.d.fact 39 (f := .glo "_law_pivot") rfl)⟩
  c_law_reduced := by
    obtain ⟨fd, F⟩ := c.d.def_ 50 (d := d_law_reduced) rfl
    exact ⟨fd, funD F, He.glo_ok X G (c.d.fact 40 (f := .glo "_law_reduced") rfl)⟩
  c_law_is_in := by
    obtain ⟨fd, F⟩ := c.d.def_ 51 (d := d_law_is_in) rfl
    exact ⟨fd, funD F, He.glo_ok X G (c.d.fact 41 (f := .glo "_law_is_in") rfl)⟩
  c_law_base := by
    obtain ⟨fd, F⟩ := c.d.def_ 52 (d := d_law_base) rfl
    exact ⟨fd, funD F, He.glo_ok X G (c.d.fact 42 (f := .glo "_law_base") rfl)⟩
  c_law_codes := by
    obtain ⟨fd, F⟩ := c.d.def_ 53 (d := d_law_codes) rfl
    exact ⟨fd, funD F, He.glo_ok X G (c.d.fact 43 (f := .glo "_law_codes") rfl)⟩
  c_law_whole := by
    obtain ⟨fd, F⟩ := c.d.def_ 54 (d := d_law_whole) rfl
    exact ⟨fd, funD F, He.glo_ok X G (c.d.fact 44 (f := .glo "_law_whole") rfl)⟩
  c_law_between := by
    obtain ⟨fd, F⟩ := c.d.def_ 55 (d := d_law_between) rfl
    exact ⟨fd, funD F, He.glo_ok X G (c.d.fact 45 (f := .glo "_law_between") rfl)⟩
  c_law_digits := by
    obtain ⟨fd, F⟩ := c.d.def_ 56 (d := d_law_digits) rfl
    exact ⟨fd, funD F, He.glo_ok X G (c.d.fact 46 (f := .glo "_law_digits") rfl)⟩
  c_law_any_ground := by
    obtain ⟨fd, F⟩ := c.d.def_ 57 (d := d_law_any_ground) rfl
    exact ⟨fd, funD F, He.glo_ok X G (c.d.fact 47 (f := .glo "_law_any_ground") rfl)⟩
  c_law_drawn_codes := by
    obtain ⟨fd, F⟩ := c.d.def_ 58 (d := d_law_drawn_codes) rfl
    exact ⟨fd, funD F, He.glo_ok X G (c.d.fact 48 (f := .glo "_law_drawn_codes") rfl)⟩
  c_law_small := by
    obtain ⟨fd, F⟩ := c.d.def_ 59 (d := d_law_small) rfl
    exact ⟨fd, funD F, He.glo_ok X G (c.d.fact 49 (f := .glo "_law_small") rfl)⟩
  c_law_deeds_at := by
    obtain ⟨fd, F⟩ := c.d.def_ 60 (d := d_law_deeds_at) rfl
    exact ⟨fd, funD F, He.glo_ok X G (c.d.fact 50 (f := .glo "_law_deeds_at") rfl)⟩
  c_law_great_ground := by
    obtain ⟨fd, F⟩ := c.d.def_ 61 (d := d_law_great_ground) rfl
    exact ⟨fd, funD F, He.glo_ok X G (c.d.fact 51 (f := .glo "_law_great_ground") rfl)⟩
  c_law_no_level := by
    obtain ⟨fd, F⟩ := c.d.def_ 62 (d := d_law_no_level) rfl
    exact ⟨fd, funD F, He.glo_ok X G (c.d.fact 52 (f := .glo "_law_no_level") rfl)⟩
  c_law_great_right := by
    obtain ⟨fd, F⟩ := c.d.def_ 63 (d := d_law_great_right) rfl
    exact ⟨fd, funD F, He.glo_ok X G (c.d.fact 53 (f := .glo "_law_great_right") rfl)⟩
  c_law := by
    obtain ⟨fd, F⟩ := c.d.def_ 64 (d := d_law) rfl
    exact ⟨fd, funD F, He.glo_ok X G (c.d.fact 54 (f := .glo "law") rfl)⟩
  n_isinstance := He.free_ok X G (c.d.fact 59 (f := .free "isinstance") rfl)
  n_int := He.free_ok X G (c.d.fact 60 (f := .free "int") rfl)
  n_bool := He.free_ok X G (c.d.fact 61 (f := .free "bool") rfl)
  n_range := He.free_ok X G (c.d.fact 62 (f := .free "range") rfl)
  n_tuple := He.free_ok X G (c.d.fact 63 (f := .free "tuple") rfl)
  n_list := He.free_ok X G (c.d.fact 64 (f := .free "list") rfl)
  n_max := He.free_ok X G (c.d.fact 65 (f := .free "max") rfl)
  n_min := He.free_ok X G (c.d.fact 66 (f := .free "min") rfl)
  n_len := He.free_ok X G (c.d.fact 67 (f := .free "len") rfl)
  n_sorted := He.free_ok X G (c.d.fact 68 (f := .free "sorted") rfl)
  n_any := He.free_ok X G (c.d.fact 69 (f := .free "any") rfl)
  n_all := He.free_ok X G (c.d.fact 70 (f := .free "all") rfl)
  n_zip := He.free_ok X G (c.d.fact 71 (f := .free "zip") rfl)
  n_enumerate := He.free_ok X G (c.d.fact 72 (f := .free "enumerate") rfl)
  n_abs := He.free_ok X G (c.d.fact 73 (f := .free "abs") rfl)
  n_repr := He.free_ok X G (c.d.fact 74 (f := .free "repr") rfl)
  n_super := He.free_ok X G (c.d.fact 75 (f := .free "super") rfl)
  n_str := He.free_ok X G (c.d.fact 76 (f := .free "str") rfl)
  clG := He.cls_ok (c.d.fact 77 (f := .cls "Ground") rfl)
  clN := He.cls_ok (c.d.fact 79 (f := .cls "Nest") rfl)
  at_prime := He.noat_ok (c.d.fact 81 (f := .noat "Ground" "prime") rfl)
  at_length := He.noat_ok (c.d.fact 82 (f := .noat "Ground" "length") rfl)
  at_own_ground := He.noat_ok (c.d.fact 83 (f := .noat "Nest" "own_ground") rfl)
  at_own_codes := He.noat_ok (c.d.fact 84 (f := .noat "Nest" "own_codes") rfl)
theorem ex_at (c : SaysC h0 K) (i : Nat) {b : Bool} (e : (exL h0.get? K)[i]? = some b := by rfl) (hi : (List.replicate 21 true)[i]? = some true := by rfl) : b = true := by
  rw [c.ex, hi] at e
  exact (Option.some.inj e).symm
theorem nl_cls (h : clsB K = true) : ∃ nm q N bs sn sub ab col dd k0 k1 k2 k3 k5, K.lookup (nlC K) = some (excClassObj nm q (nlC K) N bs (.ref (nlM K) :: NL.leT) true sn sub ab col dd k0 k1 k2 k3 k5 "LookupError.__new__") := by
  unfold clsB at h
  split at h
  · rename_i t dd cd sl hk
    simp only [Bool.and_eq_true, beq_iff_eq, decide_eq_true_eq, Bool.not_eq_true'] at h
    obtain ⟨rfl, hm, hd, hx, hs⟩ := h
    split at hs
    · rename_i k0 k1 k2 k3 n k5 e
      obtain rfl := beq_iff_eq.mp hs
      obtain ⟨nm, bs, mro, ns, qn, hdct, sn, sub, ab, col, del⟩ := cd
      simp only at hm hd hx
      subst hm hd hx
      have es : sl = #[k0, k1, k2, k3, some (.builtin "LookupError.__new__"), k5] := by
        obtain ⟨l⟩ := sl
        simp only at e
        rw [e]
      subst es
      exact ⟨nm, qn, ns, bs, sn, sub, ab, col, dd, k0, k1, k2, k3, k5, hk⟩
    · cases hs
  · cases h
theorem nl_file (h : fileB K = true) : ∃ ccl cdd vs ccs file tf, K.lookup (nlCode K) = some ⟨ccl, cdd, .fields vs, ccs⟩ ∧ vs[2]? = some (.str file tf) ∧ ((PySem.Challenge.pw_codenests_k25_whole_all_deeds_of_a_nest.main.file : Str) == file) = true := by
  unfold fileB at h
  split at h
  · rename_i ccl cdd vs ccs hk
    split at h
    · rename_i f tf e
      exact ⟨ccl, cdd, vs, ccs, f, tf, hk, e, h⟩
    · cases h
  · cases h
theorem nl_cell (h : cellB K = true) : ∃ cl cld csl, K.lookup (nlCell K) = some ⟨cl, cld, .cell (some (.ref (nlC K))), csl⟩ := by
  unfold cellB at h
  split at h
  · rename_i cl cld c csl hk
    obtain rfl := beq_iff_eq.mp h
    exact ⟨cl, cld, csl, hk⟩
  · cases h
theorem nl_fn (hn : nlObs K = nlVal) (hc : cdB K = true) : ∃ (oc : Value) (od : Option Addr) (doc pm : Value) (an : Option Addr) (ct : Value) (osl : Array (Option Value)),
    K.lookup (nlI K) = some ⟨oc, od, .func (PySem.W.ksFn "__init__" "NoLevel.__init__" (C8.fnArgs (inClass (top 8) 0)) (C8.fnBody (inClass (top 8) 0)) (C8.fnScope (inClass (top 8) 0)) .none .none doc pm an (.ref (nlCode K)) ct (nlCell K)), osl⟩ ∧ PySem.W.codeIn K (.ref (nlCode K)) "NoLevel.__init__" = true := by
  cases hk : K.lookup (nlI K) with
  | none =>
    have e : nlFn K = none := by
      unfold nlFn
      rw [hk]
    unfold cdB at hc
    rw [e] at hc
    cases hc
  | some o =>
    obtain ⟨oc, od, dt, osl⟩ := o
    cases dt with
    | func fd =>
      have e : nlFn K = some fd := by
        unfold nlFn
        rw [hk]
      unfold cdB at hc
      rw [e] at hc
      obtain ⟨cd, e2⟩ := He.codeIn_ref hc
      have ec : nlCode K = cd := by
        unfold nlCode
        rw [e]
        show (match fd.code with | .ref c => c | _ => 0) = cd
        rw [e2]
      unfold nlObs at hn
      rw [e] at hn
      have hn2 := Option.some.inj hn
      obtain ⟨n1, n2, n3, n4, n5, n6, n7, n8, n9, n10, n11, n12, n13, n14, n15⟩ := fd
      simp only [Prod.mk.injEq] at hn2
      obtain ⟨h1, h2, h3, h4, h5, h6, h7, h8, h9, h10⟩ := hn2
      have e2 : n13 = .ref cd := e2
      match n7, h7 with
      | [(y, c)], h7 =>
        have hy : y = "__class__" := (List.cons.inj h7).1
        have ecc : nlCell K = c := by
          unfold nlCell
          rw [e]
        subst h1 h2 h3 h4 h5 h6 h8 h9 h10 hy e2
        rw [ec, ecc]
        exact ⟨oc, od, n10, n11, n12, n14, osl, rfl, hc⟩
    | _ =>
      have e : nlFn K = none := by
        unfold nlFn
        rw [hk]
      unfold cdB at hc
      rw [e] at hc
      cases hc
theorem nl_of {P : Program} (hP : P = PySem.Challenge.pw_codenests_k25_whole_all_deeds_of_a_nest) (c : SaysC h0 K) (X : K.In h) (G : h.Ns mainGlobals mg) : NL.NlTxt P K mg (nlC K) (nlM K) (nlI K) (nlCode K) (nlCell K) where
  gC := He.glo_ok X G (c.d.fact 57 (f := .glo "NoLevel") rfl)
  sup := He.free_ok X G (c.d.fact 75 (f := .free "super") rfl)
  cls := nl_cls (ex_at c 1)
  sa := He.eqO_ok (ex_at c 5)
  ga := He.eqO_ok (ex_at c 6)
  gg := He.eqO_ok (ex_at c 7)
  noN := He.eqO_ok (ex_at c 8)
  iC := He.eqO_ok (ex_at c 9)
  tC := of_decide_eq_true (ex_at c 10)
  kC := ex_at c 11
  exC := of_decide_eq_true (ex_at c 12)
  leC := of_decide_eq_true (ex_at c 13)
  obC := of_decide_eq_true (ex_at c 14)
  slf := of_decide_eq_true (ex_at c 15)
  tyC := of_decide_eq_true (ex_at c 16)
  hdC := ex_at c 17
  te := of_decide_eq_true (ex_at c 18)
  up := He.eqO_ok (ex_at c 19)
  opq := He.eqO_ok (ex_at c 20)
  tps := by
    rw [hP]
    kernel_rfl
  code := by
    rw [hP]
    exact nl_file (ex_at c 2)
  cell := nl_cell (ex_at c 3)
  fn := nl_fn c.nl (ex_at c 4)
/-- the law's table -/
theorem tab_of (c : SaysC h0 K) : PySem.W.codeHdIn K (He.cT K lawDef).1 (He.cT K lawDef).2 = true ∧ h0.get? (He.cT K lawDef).2 = some tabO ∧ K.lookup (He.cT K lawDef).2 = none := by
  have e : tabB1 h0.get? K = true := ex_at c 0
  unfold tabB1 at e
  obtain ⟨e1, e2⟩ := Bool.and_eq_true_iff.mp e
  refine ⟨e1, ?_⟩
  cases q : h0.get? (He.cT K lawDef).2 with
  | none =>
    rw [q] at e2
    cases e2
  | some o =>
    rw [q] at e2
    exact ⟨by rw [He.emptyTab_eq e2], c.out _ _ q e2⟩
end
end Cn
namespace Cn
open PySem PySem.Spec PyProof.Rows L2
/-- what the end asks of the written part -/
theorem law_facts {P : Program} (hP : P = PySem.Challenge.pw_codenests_k25_whole_all_deeds_of_a_nest) {w : World} {K : PySem.W.Frag} {h h0 : Heap} {mg : Str → Option Value} {f : Addr} (c : SaysC h0 K) (X : K.In h) (G : h.Ns mainGlobals mg) (hf : mg ("law" : Str) = some (.ref f)) :
    ∃ fd : FuncData, (∀ (s : Shared) (u : Value), BindsTo s fd ⟨[u], []⟩ [("_law_script", u)]) ∧ ∀ base : Heap, K.In base → base.Ns mainGlobals mg → LamX.TabB base mg (He.cT K lawDef).1 (He.cT K lawDef).2 → FnG P w K mg base 13 f fd ["_law_script"] (spLaw K (He.cT K lawDef).2) := by
  obtain ⟨fd, F⟩ := c.d.def_ 64 (d := d_law) rfl
  have e := hf.symm.trans (He.glo_ok X G (c.d.fact 54 (f := .glo "law") rfl))
  cases e
  have b := FunD.bindsA (ps := ["_law_script"]) F fun _ _ _ _ _ _ us hl => match us, hl with | [_], _ => rfl
  exact ⟨fd, fun s u => b s [u] rfl, fun base KX nb TB => law_ok (en_of c KX nb) all_drawn (nl_of hP c KX nb) TB (funD F)⟩
theorem law_told {K : PySem.W.Frag} {T : Addr} (H : Hp) (a : Addr) (ns : List Int) (hl : ns.length ≤ 63) (hT : H T = some (.tbl #[])) (hS : SqL K H a (ns.map V.int)) : spLaw K T [.ref a] H (fun v _ => v = .bl true) fun _ _ _ => False := by
  have big : 63 < sizeLine := by decide
  exact ⟨a, ns, rfl, hS, by omega, hT, fun _ => rfl⟩
end Cn
open PySem PySem.W PySem.Calls PyProof.Rows
theorem PySem.Challenge.cw_codenests_k25_whole_all_deeds_of_a_nest_holds : PySem.Challenge.rw_codenests_k25_whole_all_deeds_of_a_nest.Holds := by
  w_on; o_law
  refine HandSHeadRun.head_any (r := Cn.RR) (q := view Cn.RR.prog [75]) (H := Cn.hkC) (ob := Cn.obT) (M := 8000) (loose := Cn.names) (d := HandSHeadRun.topDef Cn.RR.prog 75) (kwd := []) Cn.obT_eq
    (by kernel_rfl) (fun s => by kernel_rfl) Cn.run (by kernel_rfl) (by kernel_rfl) (by kernel_rfl) (by rfl) (by first | assumption | decide +kernel) (by decide +kernel) ⟨rfl, rfl, rfl, rfl, rfl, by decide +kernel⟩ ?hw ?hc
  case hw => w_witness2
  case hc =>
    refine Cn.walkG (l := PySem.Challenge.rw_codenests_k25_whole_all_deeds_of_a_nest) (n := 63) (k := 13) (x := "_law_script") rfl (by decide) (by kernel_rfl) ⟨rfl, by decide, by decide⟩ ?F
    intro w mg fa h Y G hmg0
    obtain ⟨h0, k0, c⟩ := Y
    have hmg : mg ("law" : PySem.Str) = some (.ref fa) := by
      have e : (HandSHeadRun.topDef Cn.RR.prog 75).name = ("law" : PySem.Str) := by kernel_rfl
      rw [← e]
      exact hmg0
    generalize Cn.KC h0.get? = K at c
    have X : K.In h := PySem.W.Frag.In.keeps c.inn k0
    obtain ⟨t1, t2, t3⟩ := Cn.tab_of c
    obtain ⟨fd, hb, hF⟩ := Cn.law_facts (P := (PySem.Challenge.rw_codenests_k25_whole_all_deeds_of_a_nest).prog) (w := w) rfl c X G hmg
    exact ⟨K, _, _, fd, _, X, k0 _ _ t2, t3, t1, hb, fun H a ns hl hT hS => Cn.law_told H a ns hl hT hS, hF⟩
