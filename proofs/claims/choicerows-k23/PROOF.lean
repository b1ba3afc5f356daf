import PyProof.Rows.All
import Wide.All
import OpenK.AllK
import Wide.FinOn
import KE.KStateDown
import HandS.ForMost
import HandS.Exc
import HandS.TryOnly
import HandS.Lambda
import HandS.EndBits
import HandS.EndTab
import HandS.CallRecv
import HandS.Head0
import HandS.Head1
import HandS.Head2
import HandS.HeadEnd
import HandS.HeadHook1
import HandS.HeadHook2
import HandS.HeadHook3
import HandS.HeadHook4
import HandS.HeadWalk
import KE.KeyNested
import KE.KDictKeyed
import KE.DataCmp
import HandS.TupAny
import KE.SortKeyHeap
import HandS.SortKw
import KE.DataMinMax
import KE.KTupSum
import HandS.Style
import HandS.Deep
import HandS.Iter
import HandS.DictTup
import HandS.TupLen
import HandS.AnyAll
import HandS.GenList
import HandS.Words
import HandS.Walk
import HandS.Flow
import PySem.Challenge.RW_choicerows_k23_whole_least_rows_are_leas
set_option Elab.async false
set_option linter.all false
set_option maxRecDepth 100000
set_option maxHeartbeats 0
namespace CR
open PySem PySem.Spec PyProof.Rows L2
/-! the text by places -/
def topS (i : Nat) : Stmt := PySem.Challenge.pw_choicerows_k23_whole_least_rows_are_leas.main.body.getD i (.Pass ⟨0, 0, 0, 0⟩)
abbrev s_rises : Stmt := topS 4
abbrev s_is_different : Stmt := topS 5
abbrev s_holds_list : Stmt := topS 6
abbrev s_holds : Stmt := topS 7
abbrev s_turn : Stmt := topS 12
abbrev s_parts_of : Stmt := topS 13
abbrev s_in_order : Stmt := topS 15
abbrev s_put_together : Stmt := topS 16
abbrev s_multiplied : Stmt := topS 17
abbrev s_behind : Stmt := topS 18
abbrev s_check_many : Stmt := topS 19
abbrev s_power : Stmt := topS 20
abbrev s_table_of_tuple : Stmt := topS 21
abbrev s_table_of_list : Stmt := topS 22
abbrev s_table_of_repeat : Stmt := topS 23
abbrev s_triples_of : Stmt := topS 24
abbrev s_table_at : Stmt := topS 25
abbrev s_table : Stmt := topS 26
abbrev s_least_row : Stmt := topS 27
abbrev s_count_rows : Stmt := topS 28
abbrev s_listed_rows : Stmt := topS 29
abbrev s_joined_rows : Stmt := topS 30
abbrev s_rows_of_parts : Stmt := topS 31
abbrev s_rows_at : Stmt := topS 32
abbrev s_all_rows : Stmt := topS 33
abbrev s_first_rows : Stmt := topS 34
abbrev s_D_init : Stmt := inClass (topS 37) 0
abbrev s_D_choice : Stmt := inClass (topS 37) 1
abbrev s_D_refuse : Stmt := inClass (topS 37) 2
abbrev s_D_listed : Stmt := inClass (topS 37) 3
abbrev s_D_repeated : Stmt := inClass (topS 37) 4
abbrev s_D_kept : Stmt := inClass (topS 37) 5
abbrev s_D_value : Stmt := inClass (topS 37) 6
abbrev s_draw : Stmt := topS 38
abbrev s_is_exact : Stmt := topS 39
abbrev s_value_of : Stmt := topS 40
abbrev s_is_less : Stmt := topS 42
abbrev s_law_cell : Stmt := topS 44
abbrev s_law_draw : Stmt := topS 45
abbrev s_law_box : Stmt := topS 46
abbrev s_law_take : Stmt := topS 47
abbrev s_law_kind : Stmt := topS 48
abbrev s_law_limit : Stmt := topS 49
abbrev s_law_gen : Stmt := topS 50
abbrev s_law_some : Stmt := topS 51
abbrev s_law : Stmt := topS 52
abbrev FnP (K : PySem.W.Frag) (x q : Str) (st : Stmt) (f : Addr) (fd : FuncData) : Prop := FunD K x q (defArgs st) (defBody st) (defScope st) [] [] f fd
/-! the head's data: each def, the facts -/
def d_rises : He.DefD := ⟨("rises", none), "rises", "rises", defArgs s_rises, defBody s_rises, defScope s_rises, [], []⟩
def d_is_different : He.DefD := ⟨("is_different", none), "is_different", "is_different", defArgs s_is_different, defBody s_is_different, defScope s_is_different, [], []⟩
def d_holds_list : He.DefD := ⟨("holds_list", none), "holds_list", "holds_list", defArgs s_holds_list, defBody s_holds_list, defScope s_holds_list, [], []⟩
def d_holds : He.DefD := ⟨("holds", none), "holds", "holds", defArgs s_holds, defBody s_holds, defScope s_holds, [], []⟩
def d_turn : He.DefD := ⟨("turn", none), "turn", "turn", defArgs s_turn, defBody s_turn, defScope s_turn, [], []⟩
def d_parts_of : He.DefD := ⟨("parts_of", none), "parts_of", "parts_of", defArgs s_parts_of, defBody s_parts_of, defScope s_parts_of, [], []⟩
def d_in_order : He.DefD := ⟨("in_order", none), "in_order", "in_order", defArgs s_in_order, defBody s_in_order, defScope s_in_order, [], []⟩
def d_put_together : He.DefD := ⟨("put_together", none), "put_together", "put_together", defArgs s_put_together, defBody s_put_together, defScope s_put_together, [], []⟩
def d_multiplied : He.DefD := ⟨("multiplied", none), "multiplied", "multiplied", defArgs s_multiplied, defBody s_multiplied, defScope s_multiplied, [], []⟩
def d_behind : He.DefD := ⟨("behind", none), "behind", "behind", defArgs s_behind, defBody s_behind, defScope s_behind, [], []⟩
def d_check_many : He.DefD := ⟨("check_many", none), "check_many", "check_many", defArgs s_check_many, defBody s_check_many, defScope s_check_many, [], []⟩
def d_power : He.DefD := ⟨("power", none), "power", "power", defArgs s_power, defBody s_power, defScope s_power, [], []⟩
def d_table_of_tuple : He.DefD := ⟨("table_of_tuple", none), "table_of_tuple", "table_of_tuple", defArgs s_table_of_tuple, defBody s_table_of_tuple, defScope s_table_of_tuple, [], []⟩
def d_table_of_list : He.DefD := ⟨("table_of_list", none), "table_of_list", "table_of_list", defArgs s_table_of_list, defBody s_table_of_list, defScope s_table_of_list, [], []⟩
def d_table_of_repeat : He.DefD := ⟨("table_of_repeat", none), "table_of_repeat", "table_of_repeat", defArgs s_table_of_repeat, defBody s_table_of_repeat, defScope s_table_of_repeat, [], []⟩
def d_triples_of : He.DefD := ⟨("triples_of", none), "triples_of", "triples_of", defArgs s_triples_of, defBody s_triples_of, defScope s_triples_of, [], []⟩
def d_table_at : He.DefD := ⟨("table_at", none), "table_at", "table_at", defArgs s_table_at, defBody s_table_at, defScope s_table_at, [], []⟩
def d_table : He.DefD := ⟨("table", none), "table", "table", defArgs s_table, defBody s_table, defScope s_table, [], []⟩
def d_least_row : He.DefD := ⟨("least_row", none), "least_row", "least_row", defArgs s_least_row, defBody s_least_row, defScope s_least_row, [], []⟩
def d_count_rows : He.DefD := ⟨("count_rows", none), "count_rows", "count_rows", defArgs s_count_rows, defBody s_count_rows, defScope s_count_rows, [], []⟩
def d_listed_rows : He.DefD := ⟨("listed_rows", none), "listed_rows", "listed_rows", defArgs s_listed_rows, defBody s_listed_rows, defScope s_listed_rows, [], []⟩
def d_joined_rows : He.DefD := ⟨("joined_rows", none), "joined_rows", "joined_rows", defArgs s_joined_rows, defBody s_joined_rows, defScope s_joined_rows, [], []⟩
def d_rows_of_parts : He.DefD := ⟨("rows_of_parts", none), "rows_of_parts", "rows_of_parts", defArgs s_rows_of_parts, defBody s_rows_of_parts, defScope s_rows_of_parts, [], []⟩
def d_rows_at : He.DefD := ⟨("rows_at", none), "rows_at", "rows_at", defArgs s_rows_at, defBody s_rows_at, defScope s_rows_at, [], []⟩
def d_all_rows : He.DefD := ⟨("all_rows", none), "all_rows", "all_rows", defArgs s_all_rows, defBody s_all_rows, defScope s_all_rows, [], []⟩
def d_first_rows : He.DefD := ⟨("first_rows", none), "first_rows", "first_rows", defArgs s_first_rows, defBody s_first_rows, defScope s_first_rows, [], []⟩
def d_D_init : He.DefD := ⟨("Draw", some "__init__"), "__init__", "Draw.__init__", defArgs s_D_init, defBody s_D_init, defScope s_D_init, [], []⟩
def d_D_choice : He.DefD := ⟨("Draw", some "choice"), "choice", "Draw.choice", defArgs s_D_choice, defBody s_D_choice, defScope s_D_choice, [], []⟩
def d_D_refuse : He.DefD := ⟨("Draw", some "refuse"), "refuse", "Draw.refuse", defArgs s_D_refuse, defBody s_D_refuse, defScope s_D_refuse, [], []⟩
def d_D_listed : He.DefD := ⟨("Draw", some "listed"), "listed", "Draw.listed", defArgs s_D_listed, defBody s_D_listed, defScope s_D_listed, [], []⟩
def d_D_repeated : He.DefD := ⟨("Draw", some "repeated"), "repeated", "Draw.repeated", defArgs s_D_repeated, defBody s_D_repeated, defScope s_D_repeated, [], []⟩
def d_D_kept : He.DefD := ⟨("Draw", some "kept"), "kept", "Draw.kept", defArgs s_D_kept, defBody s_D_kept, defScope s_D_kept, [], []⟩
def d_D_value : He.DefD := ⟨("Draw", some "value"), "value", "Draw.value", defArgs s_D_value, defBody s_D_value, defScope s_D_value, [], []⟩
def d_draw : He.DefD := ⟨("draw", none), "draw", "draw", defArgs s_draw, defBody s_draw, defScope s_draw, [], []⟩
def d_is_exact : He.DefD := ⟨("is_exact", none), "is_exact", "is_exact", defArgs s_is_exact, defBody s_is_exact, defScope s_is_exact, [], []⟩
def d_value_of : He.DefD := ⟨("value_of", none), "value_of", "value_of", defArgs s_value_of, defBody s_value_of, defScope s_value_of, [], []⟩
def d_is_less : He.DefD := ⟨("is_less", none), "is_less", "is_less", defArgs s_is_less, defBody s_is_less, defScope s_is_less, [], []⟩
def d_law_cell : He.DefD := ⟨("_law_cell", none), "_law_cell", "_law_cell", defArgs s_law_cell, defBody s_law_cell, defScope s_law_cell, [], []⟩
def d_law_draw : He.DefD := ⟨("_law_draw", none), "_law_draw", "_law_draw", defArgs s_law_draw, defBody s_law_draw, defScope s_law_draw, [], []⟩
def d_law_box : He.DefD := ⟨("_law_box", none), "_law_box", "_law_box", defArgs s_law_box, defBody s_law_box, defScope s_law_box, [], []⟩
def d_law_take : He.DefD := ⟨("_law_take", none), "_law_take", "_law_take", defArgs s_law_take, defBody s_law_take, defScope s_law_take, [], []⟩
def d_law_kind : He.DefD := ⟨("_law_kind", none), "_law_kind", "_law_kind", defArgs s_law_kind, defBody s_law_kind, defScope s_law_kind, [], []⟩
def d_law_limit : He.DefD := ⟨("_law_limit", none), "_law_limit", "_law_limit", defArgs s_law_limit, defBody s_law_limit, defScope s_law_limit, [], []⟩
def d_law_gen : He.DefD := ⟨("_law_gen", none), "_law_gen", "_law_gen", defArgs s_law_gen, defBody s_law_gen, defScope s_law_gen, [], []⟩
def d_law_some : He.DefD := ⟨("_law_some", none), "_law_some", "_law_some", defArgs s_law_some, defBody s_law_some, defScope s_law_some, [], []⟩
def d_law : He.DefD := ⟨("law", none), "law", "law", defArgs s_law, defBody s_law, defScope s_law, [], []⟩
def fn : List He.DefD := [d_rises, d_is_different, d_holds_list, d_holds, d_turn, d_parts_of, d_in_order, d_put_together, d_multiplied, d_behind, d_check_many, d_power, d_table_of_tuple, d_table_of_list, d_table_of_repeat, d_triples_of, d_table_at, d_table, d_least_row, d_count_rows, d_listed_rows, d_joined_rows, d_rows_of_parts, d_rows_at, d_all_rows, d_first_rows, d_D_init, d_D_choice, d_D_refuse, d_D_listed, d_D_repeated, d_D_kept, d_D_value, d_draw, d_is_exact, d_value_of, d_is_less, d_law_cell, d_law_draw, d_law_box, d_law_take, d_law_kind, d_law_limit, d_law_gen, d_law_some, d_law]
def fa : List He.Fa := [.glo "rises", .glo "is_different", .glo "holds_list", .glo "holds", .glo "turn", .glo "parts_of", .glo "in_order", .glo "put_together", .glo "multiplied", .glo "behind", .glo "check_many", .glo "power", .glo "table_of_tuple", .glo "table_of_list", .glo "table_of_repeat", .glo "triples_of", .glo "table_at", .glo "table", .glo "least_row", .glo "count_rows", .glo "listed_rows", .glo "joined_rows", .glo "rows_of_parts", .glo "rows_at", .glo "all_rows", .glo "first_rows", .glo "draw", .glo "is_exact", .glo "value_of", .glo "is_less", .glo "_law_cell", .glo "_law_draw", .glo "_law_box", .glo "_law_take", .glo "_law_kind", .glo "_law_limit", .glo "_law_gen", .glo "_law_some", .glo "law", .glo "Draw", .free "len", .free "range", .free "all", .free "any", .free "sum", .free "sorted", .free "min", .free "max", .free "tuple", .free "list", .int "LONG" 6, .int "VALUES" 2000, .int "EXACT" 5000, .cls "Draw", .noat "Draw" "row", .noat "Draw" "used", .mkr "Draw", .meth "Draw" "choice", .meth "Draw" "refuse", .meth "Draw" "listed", .meth "Draw" "repeated", .meth "Draw" "kept", .meth "Draw" "value"]
def tf : List He.Defn := [("rises", none), ("is_different", none), ("holds_list", none), ("in_order", none), ("table_of_tuple", none), ("joined_rows", none), ("all_rows", none)]
def loose0 : List Str := ["LONG", "VALUES", "EXACT", "rises", "is_different", "holds_list", "holds", "ChoiceError", "GeneratorError", "turn", "parts_of", "in_order", "put_together", "multiplied", "behind", "check_many", "power", "table_of_tuple", "table_of_list", "table_of_repeat", "triples_of", "table_at", "table", "least_row", "count_rows", "listed_rows", "joined_rows", "rows_of_parts", "rows_at", "all_rows"]
def loose1 : List Str := ["first_rows", "Stop", "Draw", "draw", "is_exact", "value_of", "is_less", "_law_cell", "_law_draw", "_law_box", "_law_take", "_law_kind", "_law_limit", "_law_gen", "_law_some"]
def loose : List Str := loose0 ++ loose1
def lawAt : Nat := 52
abbrev R : PySem.W.OpenRow := PySem.W.OpenLaw.row PySem.Challenge.rw_choicerows_k23_whole_least_rows_are_leas
def ex (K : PySem.W.Frag) : Bool := decide (tf.map fun p => (He.cT K p).2).Nodup
abbrev hk : PySem.W.Hook := He.hookX 5 fa fn [] tf ex
def ob (s : PySem.W.SharedT) : He.AlX := He.obsX 5 fa fn [] tf ex (HandSHeadRun.getT s)
theorem ob_eq (s : PySem.W.SharedT) : ob s = hk.obs s.abs := He.obsX_eq (HandSHeadRun.getT_eq s)
theorem run (w : World) : HandSHeadRun.RunEq R (PySem.W.view R.prog [52]) hk ob 4000 loose w := by
  intro os
  kernel_rfl
end CR

set_option Elab.async false
set_option linter.all false
set_option maxRecDepth 100000
set_option maxHeartbeats 4000000
/-! the mathematics: rows, tables, weights. No program in sight. -/
namespace CR
open PySem
abbrev Dt := NestedKey
abbrev Row := List Int

/-! ### the order of rows -/
def lexI : Row → Row → Bool
  | [], [] => false
  | [], _ :: _ => true
  | _ :: _, [] => false
  | x :: xs, y :: ys => if x = y then lexI xs ys else decide (x < y)
theorem lexI_irrefl : ∀ a, lexI a a = false
  | [] => rfl
  | x :: xs => by unfold lexI; rw [if_pos rfl]; exact lexI_irrefl xs
theorem lexI_tot : ∀ a b, lexI a b = false → lexI b a = false → a = b
  | [], [], _, _ => rfl
  | [], _ :: _, h, _ => by simp [lexI] at h
  | _ :: _, [], _, h => by simp [lexI] at h
  | x :: xs, y :: ys, h1, h2 => by
    unfold lexI at h1 h2
    by_cases e : x = y
    · subst e
      rw [if_pos rfl] at h1 h2
      rw [lexI_tot xs ys h1 h2]
    · rw [if_neg e] at h1
      rw [if_neg (fun q => e q.symm)] at h2
      have a := of_decide_eq_false h1
      have b := of_decide_eq_false h2
      omega
theorem lexI_trans : ∀ a b c, lexI a b = true → lexI b c = true → lexI a c = true
  | [], [], _, h, _ => by simp [lexI] at h
  | [], _ :: _, [], _, h => by simp [lexI] at h
  | [], _ :: _, _ :: _, _, _ => rfl
  | _ :: _, [], _, h, _ => by simp [lexI] at h
  | _ :: _, _ :: _, [], _, h => by simp [lexI] at h
  | x :: xs, y :: ys, z :: zs, h1, h2 => by
    unfold lexI at h1 h2 ⊢
    by_cases e : x = y
    · subst e
      rw [if_pos rfl] at h1
      by_cases e2 : x = z
      · subst e2
        rw [if_pos rfl] at h2 ⊢
        exact lexI_trans xs ys zs h1 h2
      · rw [if_neg e2] at h2 ⊢
        exact h2
    · rw [if_neg e] at h1
      have a := of_decide_eq_true h1
      by_cases e2 : y = z
      · subst e2
        rw [if_neg e]
        exact h1
      · rw [if_neg e2] at h2
        have b := of_decide_eq_true h2
        rw [if_neg (by omega)]
        exact decide_eq_true (by omega)
theorem lexI_app : ∀ (a a' b b' : Row), a.length = a'.length → lexI (a ++ b) (a' ++ b') = if a = a' then lexI b b' else lexI a a'
  | [], [], b, b', _ => by simp
  | [], _ :: _, _, _, h => by simp at h
  | _ :: _, [], _, _, h => by simp at h
  | x :: xs, y :: ys, b, b', h => by
    have ih := lexI_app xs ys b b' (by simpa using h)
    show (if x = y then lexI (xs ++ b) (ys ++ b') else decide (x < y)) = _
    by_cases e : x = y
    · subst e
      rw [if_pos rfl, ih]
      by_cases e2 : xs = ys
      · subst e2
        rw [if_pos rfl, if_pos rfl]
      · rw [if_neg e2, if_neg (fun q => e2 (List.cons.inj q).2)]
        show _ = (if x = x then lexI xs ys else decide (x < x))
        rw [if_pos rfl]
    · rw [if_neg e, if_neg (fun q => e (List.cons.inj q).1)]
      show _ = (if x = y then lexI xs ys else decide (x < y))
      rw [if_neg e]
/-- a stands ahead of b -/
def rlt (a b : Row) : Bool := if a.length = b.length then lexI a b else decide (a.length < b.length)
def rle (a b : Row) : Prop := rlt b a = false
theorem rlt_irrefl (a : Row) : rlt a a = false := by unfold rlt; rw [if_pos rfl]; exact lexI_irrefl a
theorem rle_refl (a : Row) : rle a a := rlt_irrefl a
theorem rlt_iff {a b : Row} : rlt a b = true ↔ a.length < b.length ∨ (a.length = b.length ∧ lexI a b = true) := by
  unfold rlt
  split
  · rename_i h
    constructor
    · intro q; exact .inr ⟨h, q⟩
    · intro q
      rcases q with q | q
      · omega
      · exact q.2
  · rename_i h
    constructor
    · intro q; exact .inl (of_decide_eq_true q)
    · intro q
      rcases q with q | q
      · exact decide_eq_true q
      · exact absurd q.1 h
theorem rlt_no {a b : Row} : rlt a b = false ↔ b.length < a.length ∨ (a.length = b.length ∧ lexI a b = false) := by
  unfold rlt
  split
  · rename_i h
    constructor
    · intro q; exact .inr ⟨h, q⟩
    · intro q
      rcases q with q | q
      · omega
      · exact q.2
  · rename_i h
    constructor
    · intro q
      have := of_decide_eq_false q
      exact .inl (by omega)
    · intro q
      rcases q with q | q
      · exact decide_eq_false (by omega)
      · exact absurd q.1 h
theorem rlt_trans {a b c : Row} (h1 : rlt a b = true) (h2 : rlt b c = true) : rlt a c = true := by
  rw [rlt_iff] at *
  rcases h1 with h1 | ⟨h1, h1'⟩ <;> rcases h2 with h2 | ⟨h2, h2'⟩
  · exact .inl (by omega)
  · exact .inl (by omega)
  · exact .inl (by omega)
  · exact .inr ⟨by omega, lexI_trans _ _ _ h1' h2'⟩
theorem rle_anti {a b : Row} (h1 : rle a b) (h2 : rle b a) : a = b := by
  unfold rle at *
  rw [rlt_no] at *
  rcases h1 with h1 | ⟨h1, h1'⟩ <;> rcases h2 with h2 | ⟨h2, h2'⟩
  · omega
  · omega
  · omega
  · exact lexI_tot _ _ h2' h1'
theorem rlt_asymm {a b : Row} (h : rlt a b = true) : rlt b a = false := by
  cases q : rlt b a with
  | false => rfl
  | true =>
    have := rlt_trans h q
    rw [rlt_irrefl] at this
    cases this
theorem rle_of_lt {a b : Row} (h : rlt a b = true) : rle a b := rlt_asymm h
theorem rlt_of_le_ne {a b : Row} (h : rle a b) (n : a ≠ b) : rlt a b = true := by
  cases q : rlt a b with
  | true => rfl
  | false => exact absurd (rle_anti h q) n
theorem rle_trans {a b c : Row} (h1 : rle a b) (h2 : rle b c) : rle a c := by
  by_cases e : a = b
  · subst e; exact h2
  · by_cases e2 : b = c
    · subst e2; exact h1
    · exact rle_of_lt (rlt_trans (rlt_of_le_ne h1 e) (rlt_of_le_ne h2 e2))
theorem rle_total (a b : Row) : rle a b ∨ rle b a := by
  cases q : rlt b a with
  | false => exact .inl q
  | true => exact .inr (rlt_asymm q)
theorem rle_app {a a' b b' : Row} (h1 : rle a a') (h2 : rle b b') : rle (a ++ b) (a' ++ b') := by
  unfold rle at *
  rw [rlt_no] at *
  simp only [List.length_append]
  rcases h1 with h1 | ⟨h1, h1'⟩ <;> rcases h2 with h2 | ⟨h2, h2'⟩
  · exact .inl (by omega)
  · exact .inl (by omega)
  · exact .inl (by omega)
  · refine .inr ⟨by omega, ?_⟩
    rw [lexI_app _ _ _ _ h1]
    split
    · exact h2'
    · exact h1'
theorem rle_app_left (a : Row) {b b' : Row} (h : rle b b') : rle (a ++ b) (a ++ b') := rle_app (rle_refl a) h
theorem rle_app_right {a a' : Row} (h : rle a a') (b : Row) : rle (a ++ b) (a' ++ b) := rle_app h (rle_refl b)

/-! ### sums -/
theorem sum_app (a b : List Int) : (a ++ b).sum = a.sum + b.sum := by simp
theorem sum_flat {α β : Type} (g : α → List β) (h : β → Int) : ∀ l : List α, ((l.flatMap g).map h).sum = (l.map fun a => ((g a).map h).sum).sum
  | [] => rfl
  | a :: l => by
    rw [List.flatMap_cons, List.map_append, sum_app, sum_flat g h l, List.map_cons, List.sum_cons]
theorem sum_mulL {α : Type} (c : Int) (f : α → Int) : ∀ l : List α, (l.map fun a => c * f a).sum = c * (l.map f).sum
  | [] => by simp
  | a :: l => by rw [List.map_cons, List.sum_cons, sum_mulL c f l, List.map_cons, List.sum_cons, Int.mul_add]
theorem sum_congr {α : Type} {f g : α → Int} {l : List α} (h : ∀ a ∈ l, f a = g a) : (l.map f).sum = (l.map g).sum := by
  rw [List.map_congr_left h]
theorem sum_perm {l m : List Int} (h : l.Perm m) : l.sum = m.sum := by
  induction h with
  | nil => rfl
  | cons x _ ih => rw [List.sum_cons, List.sum_cons, ih]
  | swap x y l => rw [List.sum_cons, List.sum_cons, List.sum_cons, List.sum_cons]; omega
  | trans _ _ a b => exact a.trans b

/-! ### weighted lists -/
section
variable {α β : Type}
/-- triples: value, count, row -/
abbrev Tr (α : Type) := α × Int × Row
def WT (T : List (Tr α)) (f : α → Int) : Int := (T.map fun t => t.2.1 * f t.1).sum
def WL (L : List (Row × α)) (f : α → Int) : Int := (L.map fun p => f p.2).sum
/-- the triples T tell the rows L (a value may stand in several triples) -/
structure RawOf (L : List (Row × α)) (T : List (Tr α)) : Prop where
  w : ∀ f, WT T f = WL L f
  mem : ∀ t ∈ T, (t.2.2, t.1) ∈ L
  low : ∀ p ∈ L, ∃ t ∈ T, t.1 = p.2 ∧ rle t.2.2 p.1
  pos : ∀ t ∈ T, 0 < t.2.1
theorem WT_app (A B : List (Tr α)) (f : α → Int) : WT (A ++ B) f = WT A f + WT B f := by unfold WT; rw [List.map_append, sum_app]
theorem WL_app (A B : List (Row × α)) (f : α → Int) : WL (A ++ B) f = WL A f + WL B f := by unfold WL; rw [List.map_append, sum_app]
theorem WT_perm {A B : List (Tr α)} (h : A.Perm B) (f : α → Int) : WT A f = WT B f := sum_perm (h.map _)
theorem WL_perm {A B : List (Row × α)} (h : A.Perm B) (f : α → Int) : WL A f = WL B f := sum_perm (h.map _)
theorem RawOf.perm {L : List (Row × α)} {T T' : List (Tr α)} (h : RawOf L T) (p : T.Perm T') : RawOf L T' :=
  ⟨fun f => (WT_perm p f).symm.trans (h.w f), fun t ht => h.mem t (p.mem_iff.mpr ht), fun q hq => let ⟨t, ht, r⟩ := h.low q hq; ⟨t, p.mem_iff.mp ht, r⟩, fun t ht => h.pos t (p.mem_iff.mpr ht)⟩
theorem RawOf.permL {L L' : List (Row × α)} {T : List (Tr α)} (h : RawOf L T) (p : L.Perm L') : RawOf L' T :=
  ⟨fun f => (h.w f).trans (WL_perm p f), fun t ht => p.mem_iff.mp (h.mem t ht), fun q hq => h.low q (p.mem_iff.mpr hq), h.pos⟩
theorem RawOf.nil : RawOf ([] : List (Row × α)) [] := ⟨fun _ => rfl, fun _ h => (nomatch h), fun _ h => (nomatch h), fun _ h => (nomatch h)⟩
theorem RawOf.one (r : Row) (v : α) : RawOf [(r, v)] [(v, 1, r)] := by
  refine ⟨fun f => by simp [WT, WL], fun t ht => ?_, fun p hp => ?_, fun t ht => ?_⟩
  · rw [List.mem_singleton.mp ht]; exact List.mem_cons_self
  · rw [List.mem_singleton.mp hp]; exact ⟨_, List.mem_cons_self, rfl, rle_refl _⟩
  · rw [List.mem_singleton.mp ht]; exact Int.zero_lt_one
theorem RawOf.app {L M : List (Row × α)} {T U : List (Tr α)} (h : RawOf L T) (k : RawOf M U) : RawOf (L ++ M) (T ++ U) := by
  refine ⟨fun f => by rw [WT_app, WL_app, h.w, k.w], fun t ht => ?_, fun p hp => ?_, fun t ht => ?_⟩
  · rcases List.mem_append.mp ht with q | q
    · exact List.mem_append_left _ (h.mem t q)
    · exact List.mem_append_right _ (k.mem t q)
  · rcases List.mem_append.mp hp with q | q
    · obtain ⟨t, ht, r⟩ := h.low p q; exact ⟨t, List.mem_append_left _ ht, r⟩
    · obtain ⟨t, ht, r⟩ := k.low p q; exact ⟨t, List.mem_append_right _ ht, r⟩
  · rcases List.mem_append.mp ht with q | q
    · exact h.pos t q
    · exact k.pos t q
/-- rows told longer at an end, values turned -/
theorem RawOf.map {L : List (Row × α)} {T : List (Tr α)} (h : RawOf L T) (g : α → β) (ρ : Row → Row) (hρ : ∀ a b, rle a b → rle (ρ a) (ρ b)) : RawOf (L.map fun p => (ρ p.1, g p.2)) (T.map fun t => (g t.1, t.2.1, ρ t.2.2)) := by
  refine ⟨fun f => ?_, fun t ht => ?_, fun p hp => ?_, fun t ht => ?_⟩
  · have := h.w fun a => f (g a)
    unfold WT WL at *
    rw [List.map_map, List.map_map]
    exact this
  · obtain ⟨u, hu, rfl⟩ := List.mem_map.mp ht
    exact List.mem_map.mpr ⟨_, h.mem u hu, rfl⟩
  · obtain ⟨q, hq, rfl⟩ := List.mem_map.mp hp
    obtain ⟨t, ht, e, r⟩ := h.low q hq
    exact ⟨_, List.mem_map.mpr ⟨t, ht, rfl⟩, by show g t.1 = g q.2; rw [e], hρ _ _ r⟩
  · obtain ⟨u, hu, rfl⟩ := List.mem_map.mp ht
    exact h.pos u hu
theorem sum_filter {γ : Type} (p : γ → Bool) (f : γ → Int) : ∀ l : List γ, ((l.filter p).map f).sum = (l.map fun a => if p a then f a else 0).sum
  | [] => rfl
  | a :: l => by
    rw [List.map_cons, List.sum_cons, ← sum_filter p f l]
    cases h : p a with
    | true => rw [List.filter_cons_of_pos h, List.map_cons, List.sum_cons, if_pos rfl]
    | false => rw [List.filter_cons_of_neg (by rw [h]; decide), if_neg (by decide)]; omega
theorem RawOf.filter {L : List (Row × α)} {T : List (Tr α)} (h : RawOf L T) (c : α → Bool) : RawOf (L.filter fun p => c p.2) (T.filter fun t => c t.1) := by
  refine ⟨fun f => ?_, fun t ht => ?_, fun p hp => ?_, fun t ht => ?_⟩
  · have := h.w fun a => if c a then f a else 0
    unfold WT WL at *
    rw [sum_filter, sum_filter, ← this]
    refine sum_congr fun a _ => ?_
    show (if c a.1 = true then a.2.1 * f a.1 else 0) = a.2.1 * (if c a.1 = true then f a.1 else 0)
    split <;> simp
  · obtain ⟨h1, h2⟩ := List.mem_filter.mp ht
    exact List.mem_filter.mpr ⟨h.mem t h1, h2⟩
  · obtain ⟨h1, h2⟩ := List.mem_filter.mp hp
    obtain ⟨t, ht, e, r⟩ := h.low p h1
    exact ⟨t, List.mem_filter.mpr ⟨ht, by rw [e]; exact h2⟩, e, r⟩
  · exact h.pos t (List.mem_filter.mp ht).1
/-- one way after another: the values in a list -/
def stepM (made : List (Row × List α)) (part : List (Row × α)) : List (Row × List α) := made.flatMap fun p => part.map fun q => (p.1 ++ q.1, p.2 ++ [q.2])
def multM (A : List (Tr (List α))) (B : List (Tr α)) : List (Tr (List α)) := A.flatMap fun t => B.map fun u => (t.1 ++ [u.1], t.2.1 * u.2.1, t.2.2 ++ u.2.2)
theorem mem_stepM {made : List (Row × List α)} {part : List (Row × α)} {p : Row × List α} : p ∈ stepM made part ↔ ∃ a ∈ made, ∃ b ∈ part, p = (a.1 ++ b.1, a.2 ++ [b.2]) := by
  unfold stepM
  rw [List.mem_flatMap]
  constructor
  · rintro ⟨a, ha, hb⟩
    obtain ⟨b, hb2, rfl⟩ := List.mem_map.mp hb
    exact ⟨a, ha, b, hb2, rfl⟩
  · rintro ⟨a, ha, b, hb, rfl⟩
    exact ⟨a, ha, List.mem_map.mpr ⟨b, hb, rfl⟩⟩
theorem mem_multM {A : List (Tr (List α))} {B : List (Tr α)} {p : Tr (List α)} : p ∈ multM A B ↔ ∃ a ∈ A, ∃ b ∈ B, p = (a.1 ++ [b.1], a.2.1 * b.2.1, a.2.2 ++ b.2.2) := by
  unfold multM
  rw [List.mem_flatMap]
  constructor
  · rintro ⟨a, ha, hb⟩
    obtain ⟨b, hb2, rfl⟩ := List.mem_map.mp hb
    exact ⟨a, ha, b, hb2, rfl⟩
  · rintro ⟨a, ha, b, hb, rfl⟩
    exact ⟨a, ha, List.mem_map.mpr ⟨b, hb, rfl⟩⟩
theorem RawOf.mult {L : List (Row × List α)} {M : List (Row × α)} {A : List (Tr (List α))} {B : List (Tr α)} (h : RawOf L A) (k : RawOf M B) : RawOf (stepM L M) (multM A B) := by
  refine ⟨fun f => ?_, fun t ht => ?_, fun p hp => ?_, fun t ht => ?_⟩
  · have e1 : WT (multM A B) f = WT A fun vs => WL M fun v => f (vs ++ [v]) := by
      unfold WT multM
      rw [sum_flat]
      refine sum_congr fun t _ => ?_
      have := k.w fun v => f (t.1 ++ [v])
      show _ = t.2.1 * WL M fun v => f (t.1 ++ [v])
      rw [← this]
      unfold WT
      rw [← sum_mulL, List.map_map]
      refine sum_congr fun u _ => ?_
      show t.2.1 * u.2.1 * f (t.1 ++ [u.1]) = t.2.1 * (u.2.1 * f (t.1 ++ [u.1]))
      rw [Int.mul_assoc]
    rw [e1, h.w]
    unfold stepM
    show (L.map fun p => WL M fun v => f (p.2 ++ [v])).sum = ((L.flatMap fun p => M.map fun q => (p.1 ++ q.1, p.2 ++ [q.2])).map fun p => f p.2).sum
    rw [sum_flat]
    refine sum_congr fun p _ => ?_
    rw [List.map_map]
    rfl
  · obtain ⟨a, ha, b, hb, rfl⟩ := mem_multM.mp ht
    exact mem_stepM.mpr ⟨_, h.mem a ha, _, k.mem b hb, rfl⟩
  · obtain ⟨a, ha, b, hb, rfl⟩ := mem_stepM.mp hp
    obtain ⟨t, ht, e1, r1⟩ := h.low a ha
    obtain ⟨u, hu, e2, r2⟩ := k.low b hb
    refine ⟨_, mem_multM.mpr ⟨t, ht, u, hu, rfl⟩, ?_, rle_app r1 r2⟩
    show t.1 ++ [u.1] = a.2 ++ [b.2]
    rw [e1, e2]
  · obtain ⟨a, ha, b, hb, rfl⟩ := mem_multM.mp ht
    exact Int.mul_pos (h.pos a ha) (k.pos b hb)
/-- n of them -/
def powM (part : List (Row × α)) : Nat → List (Row × List α)
  | 0 => [([], [])]
  | n + 1 => stepM (powM part n) part
def tpowM (part : List (Tr α)) (first : List (Tr (List α))) : Nat → List (Tr (List α))
  | 0 => first
  | n + 1 => multM (tpowM part first n) part
theorem raw_pow {M : List (Row × α)} {B : List (Tr α)} (k : RawOf M B) : ∀ n, RawOf (powM M n) (tpowM B [([], 1, [])] n)
  | 0 => .one [] []
  | n + 1 => (raw_pow k n).mult k
/-- rows with choices behind -/
def behR (ch : Row) (L : List (Row × β)) : List (Row × β) := L.map fun p => (p.1 ++ ch, p.2)
def behT (ch : Row) (T : List (Tr β)) : List (Tr β) := T.map fun t => (t.1, t.2.1, t.2.2 ++ ch)
theorem raw_beh {L : List (Row × β)} {T : List (Tr β)} (h : RawOf L T) (ch : Row) : RawOf (behR ch L) (behT ch T) := h.map (fun a => a) (fun r => r ++ ch) fun _ _ q => rle_app_right q ch
/-- from made on, n more turns of a list's loop -/
def loopR (part : List (Row × α)) : Nat → List (Row × List α) → List (Row × List α)
  | 0, made => made
  | n + 1, made => behR [0] made ++ loopR part n (stepM (behR [1] made) part)
def loopT (part : List (Tr α)) : Nat → List (Tr (List α)) → List (Tr (List α))
  | 0, made => made
  | n + 1, made => behT [0] made ++ loopT part n (multM (behT [1] made) part)
theorem raw_loop {M : List (Row × α)} {B : List (Tr α)} (k : RawOf M B) : ∀ (n : Nat) {L : List (Row × List α)} {A : List (Tr (List α))}, RawOf L A → RawOf (loopR M n L) (loopT B n A)
  | 0, _, _, h => h
  | n + 1, _, _, h => (raw_beh h [0]).app (raw_loop k n ((raw_beh h [1]).mult k))
end
end CR

set_option Elab.async false
set_option linter.all false
set_option maxRecDepth 100000
set_option maxHeartbeats 4000000
namespace CR
open PySem
theorem nodup_key {γ κ : Type} (g : γ → κ) : ∀ {T : List γ}, (T.map g).Nodup → ∀ {t u : γ}, t ∈ T → u ∈ T → g t = g u → t = u
  | [], _, _, _, h, _, _ => nomatch h
  | x :: T, nd, t, u, ht, hu, e => by
    rw [List.map_cons, List.nodup_cons] at nd
    rcases List.mem_cons.mp ht with a | a <;> rcases List.mem_cons.mp hu with b | b
    · rw [a, b]
    · exact absurd (List.mem_map.mpr ⟨u, b, by rw [← e, a]⟩) nd.1
    · exact absurd (List.mem_map.mpr ⟨t, a, by rw [e, b]⟩) nd.1
    · exact nodup_key g nd.2 a b e
section
variable {κ β : Type} [DecidableEq κ]
def lookA (d : List (κ × β)) (k : κ) : Option β := (d.find? fun kv => decide (kv.1 = k)).map (·.2)
def putA (d : List (κ × β)) (k : κ) (b : β) : List (κ × β) :=
  if (d.any fun kv => decide (kv.1 = k)) = true then d.map (fun kv => if kv.1 = k then (kv.1, b) else kv) else d ++ [(k, b)]
theorem lookA_mem {d : List (κ × β)} {k : κ} {b : β} (h : lookA d k = some b) : (k, b) ∈ d := by
  unfold lookA at h
  obtain ⟨p, hp, rfl⟩ := Option.map_eq_some_iff.mp h
  have h1 := List.mem_of_find?_eq_some hp
  have h2 := List.find?_some hp
  have h3 : p.1 = k := by simpa using h2
  rw [← h3]
  exact h1
theorem lookA_none {d : List (κ × β)} {k : κ} (h : lookA d k = none) : ∀ p ∈ d, p.1 ≠ k := by
  unfold lookA at h
  have h1 := Option.map_eq_none_iff.mp h
  intro p hp e
  have := List.find?_eq_none.mp h1 p hp
  simp [e] at this
theorem any_look {d : List (κ × β)} {k : κ} : (d.any fun kv => decide (kv.1 = k)) = (lookA d k).isSome := by
  cases h : lookA d k with
  | none =>
    have := lookA_none h
    show _ = false
    rw [List.any_eq_false]
    intro p hp
    simpa using this p hp
  | some b =>
    show _ = true
    rw [List.any_eq_true]
    exact ⟨_, lookA_mem h, by simp⟩
theorem rep_none {d : List (κ × β)} {k : κ} {b : β} (h : ∀ p ∈ d, p.1 ≠ k) : d.map (fun kv => if kv.1 = k then (kv.1, b) else kv) = d := by
  have : d.map (fun kv => if kv.1 = k then (kv.1, b) else kv) = d.map id := List.map_congr_left fun p hp => if_neg (h p hp)
  rw [this, List.map_id]
theorem keys_put (d : List (κ × β)) (k : κ) (b : β) : (putA d k b).map (·.1) = if (lookA d k).isSome then d.map (·.1) else d.map (·.1) ++ [k] := by
  unfold putA
  rw [any_look]
  split
  · rw [List.map_map]
    refine List.map_congr_left fun p _ => ?_
    show (if p.1 = k then (p.1, b) else p).1 = p.1
    split <;> rfl
  · simp
theorem nodup_put {d : List (κ × β)} (k : κ) (b : β) (h : (d.map (·.1)).Nodup) : ((putA d k b).map (·.1)).Nodup := by
  rw [keys_put]
  split
  · exact h
  · rename_i q
    have q' : lookA d k = none := by
      cases e : lookA d k with
      | none => rfl
      | some _ => rw [e] at q; simp at q
    have := lookA_none q'
    rw [List.nodup_append]
    refine ⟨h, by simp, fun a ha c hc e => ?_⟩
    rw [List.mem_singleton.mp hc] at e
    obtain ⟨p, hp, rfl⟩ := List.mem_map.mp ha
    exact this p hp e
theorem sum_put (g : κ × β → Int) : ∀ {d : List (κ × β)} {k : κ} {b0 b : β}, (d.map (·.1)).Nodup → lookA d k = some b0 →
    ((d.map (fun kv => if kv.1 = k then (kv.1, b) else kv)).map g).sum = (d.map g).sum - g (k, b0) + g (k, b)
  | [], k, b0, b, _, h => by simp [lookA] at h
  | p :: d, k, b0, b, hn, h => by
    rw [List.map_cons, List.nodup_cons] at hn
    obtain ⟨hn1, hn2⟩ := hn
    by_cases e : p.1 = k
    · have hb : p = (k, b0) := by
        unfold lookA at h
        rw [List.find?_cons] at h
        simp only [e, decide_true] at h
        have h2 : p.2 = b0 := by simpa using h
        rw [← e, ← h2]
      have hnk : ∀ q ∈ d, q.1 ≠ k := fun q hq z => hn1 (List.mem_map.mpr ⟨q, hq, by rw [z, e]⟩)
      rw [List.map_cons, rep_none hnk, List.map_cons, List.sum_cons, List.map_cons, List.sum_cons, hb]
      rw [if_pos (show (k, b0).1 = k from rfl)]
      show g (k, b) + _ = _
      omega
    · have h' : lookA d k = some b0 := by
        unfold lookA at h ⊢
        rw [List.find?_cons] at h
        simp only [e, decide_false] at h
        exact h
      have ih := sum_put g (b := b) hn2 h'
      rw [List.map_cons, List.map_cons, List.sum_cons, List.map_cons, List.sum_cons, if_neg e, ih]
      omega
theorem mem_put {d : List (κ × β)} {k : κ} {b : β} {p : κ × β} (h : p ∈ putA d k b) : p = (k, b) ∨ (p ∈ d ∧ p.1 ≠ k) := by
  unfold putA at h
  rw [any_look] at h
  split at h
  · obtain ⟨q, hq, e⟩ := List.mem_map.mp h
    by_cases z : q.1 = k
    · rw [if_pos z] at e
      left
      rw [← e, z]
    · rw [if_neg z] at e
      right
      rw [← e]
      exact ⟨hq, z⟩
  · rename_i q
    have q' : lookA d k = none := by
      cases e : lookA d k with
      | none => rfl
      | some _ => rw [e] at q; simp at q
    rcases List.mem_append.mp h with h | h
    · exact .inr ⟨h, lookA_none q' p h⟩
    · exact .inl (List.mem_singleton.mp h)
theorem put_mem (d : List (κ × β)) (k : κ) (b : β) : (k, b) ∈ putA d k b := by
  unfold putA
  rw [any_look]
  split
  · rename_i q
    obtain ⟨b0, hb⟩ := Option.isSome_iff_exists.mp q
    exact List.mem_map.mpr ⟨_, lookA_mem hb, if_pos rfl⟩
  · exact List.mem_append_right _ List.mem_cons_self
theorem put_old {d : List (κ × β)} {k : κ} {b : β} {p : κ × β} (h : p ∈ d) (n : p.1 ≠ k) : p ∈ putA d k b := by
  unfold putA
  split
  · exact List.mem_map.mpr ⟨p, h, if_neg n⟩
  · exact List.mem_append_left _ h
end

/-! ### put_together -/
section
variable {α : Type} [DecidableEq α]
abbrev Di (α : Type) := List (α × (Int × Row))
def rmin (r l : Row) : Row := if rlt l r = true then l else r
def putStep (d : Di α) (t : Tr α) : Di α := putA d t.1 (match lookA d t.1 with
  | none => (t.2.1, t.2.2)
  | some b => (t.2.1 + b.1, rmin t.2.2 b.2))
def mergeD (T : List (Tr α)) : Di α := T.foldl putStep []
def trOf (e : α × (Int × Row)) : Tr α := (e.1, e.2.1, e.2.2)
def mergeM (T : List (Tr α)) : List (Tr α) := (mergeD T).map trOf
theorem mergeD_snoc (T : List (Tr α)) (t : Tr α) : mergeD (T ++ [t]) = putStep (mergeD T) t := by
  unfold mergeD
  rw [List.foldl_append]
  rfl
structure Merged (d : Di α) (T : List (Tr α)) : Prop where
  nd : (d.map (·.1)).Nodup
  w : ∀ f, WT (d.map trOf) f = WT T f
  mem : ∀ e ∈ d, ∃ t ∈ T, t.1 = e.1 ∧ t.2.2 = e.2.2
  low : ∀ t ∈ T, ∃ e ∈ d, e.1 = t.1 ∧ rle e.2.2 t.2.2
  pos : ∀ e ∈ d, 0 < e.2.1
theorem rmin_or (r l : Row) : rmin r l = r ∨ rmin r l = l := by
  unfold rmin
  split
  · exact .inr rfl
  · exact .inl rfl
theorem rmin_left (r l : Row) : rle (rmin r l) r := by
  unfold rmin
  split
  · rename_i h; exact rle_of_lt h
  · exact rle_refl r
theorem rmin_right (r l : Row) : rle (rmin r l) l := by
  unfold rmin
  split
  · exact rle_refl l
  · rename_i h
    show rlt l r = false
    cases q : rlt l r with
    | false => rfl
    | true => exact absurd q h
theorem merged_step {d : Di α} {T : List (Tr α)} {t : Tr α} (h : Merged d T) (ht : 0 < t.2.1) : Merged (putStep d t) (T ++ [t]) := by
  obtain ⟨v, c, r⟩ := t
  unfold putStep
  cases e : lookA d v with
  | none =>
    refine ⟨nodup_put _ _ h.nd, fun f => ?_, fun x hx => ?_, fun x hx => ?_, fun x hx => ?_⟩
    · have : putA d v (c, r) = d ++ [(v, (c, r))] := by
        unfold putA
        rw [any_look, e]
        rfl
      show WT ((putA d v (c, r)).map trOf) f = _
      rw [this, List.map_append, WT_app, h.w, WT_app]
      rfl
    · rcases mem_put hx with rfl | ⟨hx, _⟩
      · exact ⟨_, List.mem_append_right _ List.mem_cons_self, rfl, rfl⟩
      · obtain ⟨t, ht, r1⟩ := h.mem x hx
        exact ⟨t, List.mem_append_left _ ht, r1⟩
    · rcases List.mem_append.mp hx with hx | hx
      · obtain ⟨y, hy, e1, r1⟩ := h.low x hx
        refine ⟨y, put_old hy ?_, e1, r1⟩
        exact lookA_none e y hy
      · rw [List.mem_singleton.mp hx]
        exact ⟨_, put_mem _ _ _, rfl, rle_refl _⟩
    · rcases mem_put hx with rfl | ⟨hx, _⟩
      · exact ht
      · exact h.pos x hx
  | some b =>
    obtain ⟨m, l⟩ := b
    have hm := lookA_mem e
    refine ⟨nodup_put _ _ h.nd, fun f => ?_, fun x hx => ?_, fun x hx => ?_, fun x hx => ?_⟩
    · have : putA d v (c + m, rmin r l) = d.map (fun kv => if kv.1 = v then (kv.1, (c + m, rmin r l)) else kv) := by
        unfold putA
        rw [any_look, e]
        rfl
      show WT ((putA d v (c + m, rmin r l)).map trOf) f = _
      rw [this, WT_app, ← h.w]
      have s := sum_put (fun x : α × (Int × Row) => x.2.1 * f x.1) (b := (c + m, rmin r l)) h.nd e
      have w1 : ∀ D : Di α, WT (D.map trOf) f = (D.map fun x : α × (Int × Row) => x.2.1 * f x.1).sum := fun D => by
        unfold WT
        rw [List.map_map]
        rfl
      rw [w1, w1, s]
      show (d.map fun x : α × (Int × Row) => x.2.1 * f x.1).sum - m * f v + (c + m) * f v = (d.map fun x : α × (Int × Row) => x.2.1 * f x.1).sum + (([(v, c, r)] : List (Tr α)).map fun t => t.2.1 * f t.1).sum
      simp only [List.map_cons, List.map_nil, List.sum_cons, List.sum_nil]
      rw [Int.add_mul]
      omega
    · rcases mem_put hx with rfl | ⟨hx, _⟩
      · show ∃ t ∈ T ++ [(v, c, r)], t.1 = v ∧ t.2.2 = rmin r l
        rcases rmin_or r l with q | q
        · rw [q]
          exact ⟨_, List.mem_append_right _ List.mem_cons_self, rfl, rfl⟩
        · rw [q]
          obtain ⟨t, ht, r1⟩ := h.mem _ hm
          exact ⟨t, List.mem_append_left _ ht, r1⟩
      · obtain ⟨t, ht, r1⟩ := h.mem x hx
        exact ⟨t, List.mem_append_left _ ht, r1⟩
    · rcases List.mem_append.mp hx with hx | hx
      · obtain ⟨y, hy, e1, r1⟩ := h.low x hx
        by_cases z : y.1 = v
        · have ey : y = (v, (m, l)) := by
            have : lookA d v = some y.2 := by
              have hy2 : (v, y.2) ∈ d := by rw [← z]; exact hy
              have nd := h.nd
              -- the only entry
              unfold lookA
              cases q : d.find? fun kv => decide (kv.1 = v) with
              | none =>
                have := List.find?_eq_none.mp q y hy
                simp [z] at this
              | some p =>
                have hp := List.mem_of_find?_eq_some q
                have hk := List.find?_some q
                have hk : p.1 = v := by simpa using hk
                have : p = y := nodup_key (·.1) nd hp hy (hk.trans z.symm)
                rw [this]
                rfl
            rw [e] at this
            have := Option.some.inj this
            rw [← z, this]
          rw [ey] at r1 e1
          exact ⟨_, put_mem _ _ _, e1, rle_trans (rmin_right r l) r1⟩
        · exact ⟨y, put_old hy z, e1, r1⟩
      · rw [List.mem_singleton.mp hx]
        exact ⟨_, put_mem _ _ _, rfl, rmin_left r l⟩
    · rcases mem_put hx with rfl | ⟨hx, _⟩
      · have := h.pos _ hm
        show 0 < c + m
        have h1 : 0 < m := this
        have h2 : 0 < c := ht
        omega
      · exact h.pos x hx
theorem merged_all : ∀ (T : List (Tr α)), (∀ t ∈ T, 0 < t.2.1) → Merged (mergeD T) T := by
  have key : ∀ (n : Nat) (T : List (Tr α)), T.length = n → (∀ t ∈ T, 0 < t.2.1) → Merged (mergeD T) T := by
    intro n
    induction n with
    | zero =>
      intro T hT _
      have : T = [] := List.eq_nil_of_length_eq_zero hT
      subst this
      exact ⟨List.nodup_nil, fun _ => rfl, fun _ h => (nomatch h), fun _ h => (nomatch h), fun _ h => (nomatch h)⟩
    | succ n ih =>
      intro T hT hp
      have hne : T ≠ [] := fun e => by rw [e] at hT; simp at hT
      have e := List.dropLast_concat_getLast hne
      rw [← e, mergeD_snoc]
      refine merged_step (ih _ (by simp [hT]) fun t ht => hp t (List.dropLast_subset _ ht)) ?_
      exact hp _ (List.getLast_mem hne)
  exact fun T h => key _ T rfl h
/-- a table of the rows L -/
structure TabOf (L : List (Row × α)) (T : List (Tr α)) : Prop where
  raw : RawOf L T
  nd : (T.map (·.1)).Nodup
theorem tab_merge {L : List (Row × α)} {T : List (Tr α)} (h : RawOf L T) : TabOf L (mergeM T) := by
  have m := merged_all T h.pos
  refine ⟨⟨fun f => (m.w f).trans (h.w f), fun t ht => ?_, fun p hp => ?_, fun t ht => ?_⟩, ?_⟩
  · obtain ⟨e, he, rfl⟩ := List.mem_map.mp ht
    obtain ⟨u, hu, e1, e2⟩ := m.mem e he
    have := h.mem u hu
    rw [e1, e2] at this
    exact this
  · obtain ⟨t, ht, e1, r1⟩ := h.low p hp
    obtain ⟨e, he, e2, r2⟩ := m.low t ht
    exact ⟨trOf e, List.mem_map.mpr ⟨e, he, rfl⟩, e2.trans e1, rle_trans r2 r1⟩
  · obtain ⟨e, he, rfl⟩ := List.mem_map.mp ht
    exact m.pos e he
  · unfold mergeM
    rw [List.map_map]
    exact m.nd
theorem TabOf.perm {L : List (Row × α)} {T T' : List (Tr α)} (h : TabOf L T) (p : T.Perm T') : TabOf L T' := ⟨h.raw.perm p, (p.map _).nodup_iff.mp h.nd⟩
theorem TabOf.permL {L L' : List (Row × α)} {T : List (Tr α)} (h : TabOf L T) (p : L.Perm L') : TabOf L' T := ⟨h.raw.permL p, h.nd⟩
theorem WL_one (L : List (Row × α)) : WL L (fun _ => 1) = (L.length : Int) := by
  unfold WL
  induction L with
  | nil => rfl
  | cons p L ih =>
    rw [List.map_cons, List.sum_cons, ih, List.length_cons]
    show (1 : Int) + _ = _
    omega
theorem sum_ge_len {γ : Type} (g : γ → Int) : ∀ {T : List γ}, (∀ t ∈ T, 0 < g t) → (T.length : Int) ≤ (T.map g).sum
  | [], _ => by simp
  | t :: T, h => by
    have := sum_ge_len g fun u hu => h u (List.mem_cons_of_mem _ hu)
    have h1 := h t List.mem_cons_self
    rw [List.map_cons, List.sum_cons, List.length_cons]
    omega
theorem RawOf.total {L : List (Row × α)} {T : List (Tr α)} (h : RawOf L T) : (T.map fun t => t.2.1).sum = (L.length : Int) := by
  rw [← WL_one, ← h.w]
  unfold WT
  refine sum_congr fun t _ => ?_
  rw [Int.mul_one]
theorem RawOf.len {L : List (Row × α)} {T : List (Tr α)} (h : RawOf L T) : T.length ≤ L.length := by
  have h1 := h.total
  have h2 := sum_ge_len (fun t : Tr α => t.2.1) h.pos
  omega
theorem nodup_fst {T : List (Tr α)} (nd : (T.map (·.1)).Nodup) {t u : Tr α} (ht : t ∈ T) (hu : u ∈ T) (e : t.1 = u.1) : t = u := nodup_key (·.1) nd ht hu e
theorem TabOf.least {L : List (Row × α)} {T : List (Tr α)} (h : TabOf L T) {t : Tr α} (ht : t ∈ T) {p : Row × α} (hp : p ∈ L) (e : p.2 = t.1) : rle t.2.2 p.1 := by
  obtain ⟨u, hu, e1, r⟩ := h.raw.low p hp
  have : u = t := nodup_fst h.nd hu ht (e1.trans e)
  rw [← this]
  exact r
theorem sum_ind {T : List (Tr α)} (v : α) : ∀ {T : List (Tr α)}, (T.map (·.1)).Nodup → ∀ {t}, t ∈ T → t.1 = v → (T.map fun u => u.2.1 * if u.1 = v then 1 else 0).sum = t.2.1
  | [], _, _, h, _ => nomatch h
  | u :: T, nd, t, ht, e => by
    rw [List.map_cons, List.nodup_cons] at nd
    rw [List.map_cons, List.sum_cons]
    by_cases z : u.1 = v
    · have hne : ∀ x ∈ T, ¬ x.1 = v := fun x hx q => nd.1 (List.mem_map.mpr ⟨x, hx, by rw [q, z]⟩)
      have z0 : (T.map fun u => u.2.1 * if u.1 = v then (1 : Int) else 0).sum = 0 := by
        have : (T.map fun u => u.2.1 * if u.1 = v then (1 : Int) else 0) = T.map fun _ => (0 : Int) := List.map_congr_left fun x hx => by rw [if_neg (hne x hx)]; simp
        rw [this]
        clear this hne nd ht
        induction T with
        | nil => rfl
        | cons _ _ ih => rw [List.map_cons, List.sum_cons, ih]; rfl
      have : t = u := by
        rcases List.mem_cons.mp ht with q | q
        · exact q
        · exact absurd e (hne t q)
      rw [this, if_pos z, z0]
      omega
    · have ht' : t ∈ T := by
        rcases List.mem_cons.mp ht with q | q
        · rw [q] at e; exact absurd e z
        · exact q
      rw [if_neg z, sum_ind (T := T) v nd.2 ht' e]
      omega
theorem filter_len (v : α) : ∀ L : List (Row × α), (L.map fun p => if p.2 = v then (1 : Int) else 0).sum = ((L.filter fun p => decide (p.2 = v)).length : Int)
  | [] => rfl
  | p :: L => by
    rw [List.map_cons, List.sum_cons, filter_len v L]
    by_cases h : p.2 = v
    · rw [if_pos h, List.filter_cons_of_pos (by simp [h]), List.length_cons]; omega
    · rw [if_neg h, List.filter_cons_of_neg (by simp [h])]; omega
theorem TabOf.count {L : List (Row × α)} {T : List (Tr α)} (h : TabOf L T) {t : Tr α} (ht : t ∈ T) : t.2.1 = ((L.filter fun p => decide (p.2 = t.1)).length : Int) := by
  rw [← filter_len, ← sum_ind (T := T) t.1 h.nd ht rfl]
  exact h.raw.w fun u => if u = t.1 then 1 else 0
/-- the law's own looks, over rows in order -/
theorem law_looks {L S : List (Row × α)} {T : List (Tr α)} (h : TabOf L T) (hp : S.Perm L) (hs : S.Pairwise fun p q => rlt p.1 q.1 = true) {t : Tr α} (ht : t ∈ T) :
    (((S.filter fun p => decide (p.2 = t.1)).map (·.1)).length : Int) = t.2.1 ∧
    ∃ r, (S.filter fun p => decide (p.2 = t.1)).map (·.1) = t.2.2 :: r ∧ ∀ x ∈ r, rlt t.2.2 x = true := by
  have hS : TabOf S T := h.permL hp.symm
  have hc := hS.count ht
  refine ⟨by rw [List.length_map]; exact hc.symm, ?_⟩
  have hf : (S.filter fun p => decide (p.2 = t.1)).Pairwise fun p q => rlt p.1 q.1 = true := hs.filter _
  have hm := hS.raw.mem t ht
  have hm2 : (t.2.2, t.1) ∈ S.filter fun p => decide (p.2 = t.1) := List.mem_filter.mpr ⟨hm, by simp⟩
  cases e : S.filter fun p => decide (p.2 = t.1) with
  | nil => rw [e] at hm2; cases hm2
  | cons q r =>
    rw [e] at hf hm2
    rw [List.pairwise_cons] at hf
    have hq : q ∈ S.filter fun p => decide (p.2 = t.1) := by rw [e]; exact List.mem_cons_self
    obtain ⟨hq1, hq2⟩ := List.mem_filter.mp hq
    have hq2 : q.2 = t.1 := by simpa using hq2
    have l1 := hS.least ht hq1 hq2
    have e1 : q.1 = t.2.2 := by
      rcases List.mem_cons.mp hm2 with z | z
      · rw [← z]
      · have := hf.1 _ z
        rw [show rlt q.1 t.2.2 = false from l1] at this
        cases this
    refine ⟨r.map (·.1), by rw [List.map_cons, e1], fun x hx => ?_⟩
    obtain ⟨y, hy, rfl⟩ := List.mem_map.mp hx
    rw [← e1]
    exact hf.1 y hy
end
end CR

set_option Elab.async false
set_option linter.all false
set_option maxRecDepth 100000
set_option maxHeartbeats 4000000
namespace CR
open PySem
inductive All2 {α β : Type} (R : α → β → Prop) : List α → List β → Prop
  | nil : All2 R [] []
  | cons {a b l m} : R a b → All2 R l m → All2 R (a :: l) (b :: m)
/-! ### prefix codes -/
section
variable {α β : Type}
structure Code (L : List (Row × α)) : Prop where
  pc : ∀ p ∈ L, ∀ q ∈ L, ∀ t t', p.1 ++ t = q.1 ++ t' → p = q
  nd : (L.map (·.1)).Nodup
theorem Code.nil : Code ([] : List (Row × α)) := ⟨fun _ h => (nomatch h), List.nodup_nil⟩
theorem Code.one (v : α) : Code [(([] : Row), v)] := ⟨fun p hp q hq _ _ _ => by rw [List.mem_singleton.mp hp, List.mem_singleton.mp hq], by simp⟩
theorem Code.map {L : List (Row × α)} (h : Code L) (g : Row × α → β) : Code (L.map fun p => (p.1, g p)) := by
  refine ⟨fun p hp q hq t t' e => ?_, ?_⟩
  · obtain ⟨a, ha, rfl⟩ := List.mem_map.mp hp
    obtain ⟨b, hb, rfl⟩ := List.mem_map.mp hq
    rw [h.pc a ha b hb t t' e]
  · rw [List.map_map]
    exact h.nd
theorem Code.filter {L : List (Row × α)} (h : Code L) (c : Row × α → Bool) : Code (L.filter c) :=
  ⟨fun p hp q hq t t' e => h.pc p (List.mem_filter.mp hp).1 q (List.mem_filter.mp hq).1 t t' e, h.nd.sublist (List.filter_sublist.map _)⟩
theorem nodup_ne {L : List (Row × α)} (h : (L.map (·.1)).Nodup) : L.Pairwise fun p q => p.1 ≠ q.1 := List.pairwise_map.mp h
/-- rows behind rows -/
theorem Code.flat {γ : Type} {A : List (Row × γ)} (h : Code A) (f : Row × γ → List (Row × β)) (hf : ∀ a ∈ A, Code (f a)) : Code (A.flatMap fun a => (f a).map fun q => (a.1 ++ q.1, q.2)) := by
  refine ⟨fun p hp q hq t t' e => ?_, ?_⟩
  · obtain ⟨a, ha, hp⟩ := List.mem_flatMap.mp hp
    obtain ⟨b, hb, hq⟩ := List.mem_flatMap.mp hq
    obtain ⟨x, hx, rfl⟩ := List.mem_map.mp hp
    obtain ⟨y, hy, rfl⟩ := List.mem_map.mp hq
    have e : a.1 ++ x.1 ++ t = b.1 ++ y.1 ++ t' := e
    rw [List.append_assoc, List.append_assoc] at e
    have ab := h.pc a ha b hb _ _ e
    subst ab
    have e2 := List.append_cancel_left e
    rw [(hf a ha).pc x hx y hy t t' e2]
  · show List.Pairwise _ _
    rw [List.pairwise_map, List.pairwise_flatMap]
    refine ⟨fun a ha => ?_, ?_⟩
    · rw [List.pairwise_map]
      refine (nodup_ne (hf a ha).nd).imp fun {x y} hxy z => hxy ?_
      exact List.append_cancel_left (show a.1 ++ x.1 = a.1 ++ y.1 from z)
    · have := List.Pairwise.and_mem.mp (nodup_ne h.nd)
      refine this.imp fun {a b} hab x hx y hy z => ?_
      obtain ⟨ha, hb, hne⟩ := hab
      obtain ⟨x', _, rfl⟩ := List.mem_map.mp hx
      obtain ⟨y', _, rfl⟩ := List.mem_map.mp hy
      have z : a.1 ++ x'.1 = b.1 ++ y'.1 := z
      exact hne (congrArg (fun q => q.1) (h.pc a ha b hb _ _ z))
theorem Code.step {A : List (Row × List α)} {M : List (Row × α)} (h : Code A) (k : Code M) : Code (stepM A M) := by
  have e : stepM A M = A.flatMap fun a => (M.map fun q => (q.1, a.2 ++ [q.2])).map fun q => (a.1 ++ q.1, q.2) := by
    unfold stepM
    congr 1
    funext a
    rw [List.map_map]
    rfl
  rw [e]
  exact h.flat (fun a => M.map fun q => (q.1, a.2 ++ [q.2])) fun a _ => k.map fun q => a.2 ++ [q.2]
theorem Code.pow {M : List (Row × α)} (k : Code M) : ∀ n, Code (powM M n)
  | 0 => .one []
  | n + 1 => (k.pow n).step k
theorem Code.beh {A : List (Row × β)} (h : Code A) (ch : Row) : Code (behR ch A) := by
  have e : behR ch A = A.flatMap fun a => ([(ch, a.2)] : List (Row × β)).map fun q => (a.1 ++ q.1, q.2) := by
    unfold behR
    rw [List.map_eq_flatMap]
    rfl
  rw [e]
  refine h.flat (fun a => [(ch, a.2)]) fun a _ => ⟨fun p hp q hq _ _ _ => by rw [List.mem_singleton.mp hp, List.mem_singleton.mp hq], by simp⟩
/-- two codes whose rows part -/
theorem Code.app {A B : List (Row × α)} (h : Code A) (k : Code B) (ap : ∀ p ∈ A, ∀ q ∈ B, ∀ t t', p.1 ++ t ≠ q.1 ++ t') : Code (A ++ B) := by
  refine ⟨fun p hp q hq t t' e => ?_, ?_⟩
  · rcases List.mem_append.mp hp with a | a <;> rcases List.mem_append.mp hq with b | b
    · exact h.pc p a q b t t' e
    · exact absurd e (ap p a q b t t')
    · exact absurd e.symm (ap q b p a t' t)
    · exact k.pc p a q b t t' e
  · rw [List.map_append, List.nodup_append]
    refine ⟨h.nd, k.nd, fun x hx y hy z => ?_⟩
    obtain ⟨p, hp, rfl⟩ := List.mem_map.mp hx
    obtain ⟨q, hq, rfl⟩ := List.mem_map.mp hy
    exact ap p hp q hq [] [] (by rw [z])
theorem loop_ext {M : List (Row × α)} : ∀ (n : Nat) {A : List (Row × List α)} {p : Row × List α}, p ∈ loopR M n A → ∃ a ∈ A, ∃ x, p.1 = a.1 ++ x
  | 0, _, p, h => ⟨p, h, [], (List.append_nil _).symm⟩
  | n + 1, A, p, h => by
    rcases List.mem_append.mp h with h | h
    · obtain ⟨a, ha, rfl⟩ := List.mem_map.mp h
      exact ⟨a, ha, [0], rfl⟩
    · obtain ⟨b, hb, x, e⟩ := loop_ext n h
      obtain ⟨c, hc, d, hd, rfl⟩ := mem_stepM.mp hb
      obtain ⟨a, ha, rfl⟩ := List.mem_map.mp hc
      exact ⟨a, ha, 1 :: (d.1 ++ x), by rw [e]; simp⟩
theorem loop_ext1 {M : List (Row × α)} (n : Nat) {A : List (Row × List α)} {p : Row × List α} (h : p ∈ loopR M n (stepM (behR [1] A) M)) : ∃ a ∈ A, ∃ x, p.1 = a.1 ++ 1 :: x := by
  obtain ⟨b, hb, x, e⟩ := loop_ext n h
  obtain ⟨c, hc, d, hd, rfl⟩ := mem_stepM.mp hb
  obtain ⟨a, ha, rfl⟩ := List.mem_map.mp hc
  exact ⟨a, ha, d.1 ++ x, by rw [e]; simp⟩
theorem Code.loop {M : List (Row × α)} (k : Code M) : ∀ (n : Nat) {A : List (Row × List α)}, Code A → Code (loopR M n A)
  | 0, _, h => h
  | n + 1, A, h => by
    refine (h.beh [0]).app (k.loop n ((h.beh [1]).step k)) fun p hp q hq t t' e => ?_
    obtain ⟨a, ha, rfl⟩ := List.mem_map.mp hp
    obtain ⟨b, hb, x, eq⟩ := loop_ext1 n hq
    rw [eq] at e
    have e : a.1 ++ [0] ++ t = b.1 ++ 1 :: x ++ t' := e
    rw [List.append_assoc, List.append_assoc] at e
    have ab := h.pc a ha b hb _ _ e
    subst ab
    have e2 := List.append_cancel_left e
    simp at e2
/-- rows behind a first choice -/
def preR (k : Int) (L : List (Row × β)) : List (Row × β) := L.map fun p => (k :: p.1, p.2)
def preT (k : Int) (T : List (Tr β)) : List (Tr β) := T.map fun t => (t.1, t.2.1, k :: t.2.2)
theorem Code.pre {L : List (Row × β)} (h : Code L) (k : Int) : Code (preR k L) := by
  refine ⟨fun p hp q hq t t' e => ?_, ?_⟩
  · obtain ⟨a, ha, rfl⟩ := List.mem_map.mp hp
    obtain ⟨b, hb, rfl⟩ := List.mem_map.mp hq
    have e : k :: (a.1 ++ t) = k :: (b.1 ++ t') := e
    rw [h.pc a ha b hb t t' (List.cons.inj e).2]
  · unfold preR
    rw [List.map_map]
    show List.Pairwise _ _
    rw [List.pairwise_map]
    exact (nodup_ne h.nd).imp fun {x y} hxy z => hxy (List.cons.inj (show k :: x.1 = k :: y.1 from z)).2
theorem raw_pre {L : List (Row × β)} {T : List (Tr β)} (h : RawOf L T) (k : Int) : RawOf (preR k L) (preT k T) := h.map (fun a => a) (fun r => k :: r) fun a b q => rle_app_left [k] q
/-! ### lengths -/
theorem len_step (A : List (Row × List α)) (M : List (Row × α)) : (stepM A M).length = A.length * M.length := by
  unfold stepM
  rw [List.length_flatMap]
  induction A with
  | nil => simp
  | cons a A ih => rw [List.map_cons, List.sum_cons, ih, List.length_map, List.length_cons, Nat.add_mul]; omega
theorem len_pow (M : List (Row × α)) : ∀ n, (powM M n).length = M.length ^ n
  | 0 => rfl
  | n + 1 => by show (stepM (powM M n) M).length = _; rw [len_step, len_pow M n, Nat.pow_succ]
/-- how many ways a list's loop makes -/
def loopN (b : Nat) : Nat → Nat → Nat
  | 0, a => a
  | n + 1, a => a + loopN b n (a * b)
theorem len_loop (M : List (Row × α)) : ∀ (n : Nat) (A : List (Row × List α)), (loopR M n A).length = loopN M.length n A.length
  | 0, _ => rfl
  | n + 1, A => by
    show (behR [0] A ++ loopR M n (stepM (behR [1] A) M)).length = A.length + loopN M.length n (A.length * M.length)
    rw [List.length_append, len_loop M n, len_step]
    unfold behR
    rw [List.length_map, List.length_map]
/-! ### what rows are made of -/
theorem mem_pow {M : List (Row × α)} : ∀ {n : Nat} {p : Row × List α}, p ∈ powM M n → ∃ ps : List (Row × α), ps.length = n ∧ (∀ q ∈ ps, q ∈ M) ∧ p = (ps.flatMap (·.1), ps.map (·.2))
  | 0, p, h => ⟨[], rfl, fun _ h => (nomatch h), List.mem_singleton.mp h⟩
  | n + 1, p, h => by
    obtain ⟨a, ha, b, hb, rfl⟩ := mem_stepM.mp h
    obtain ⟨ps, h1, h2, rfl⟩ := mem_pow ha
    refine ⟨ps ++ [b], by simp [h1], fun q hq => ?_, by simp⟩
    rcases List.mem_append.mp hq with z | z
    · exact h2 q z
    · rw [List.mem_singleton.mp z]; exact hb
theorem mem_loop {M : List (Row × α)} : ∀ {n : Nat} {A : List (Row × List α)} {p : Row × List α}, p ∈ loopR M n A →
    ∃ a ∈ A, ∃ ps : List (Row × α), ps.length ≤ n ∧ (∀ q ∈ ps, q ∈ M) ∧ p = (a.1 ++ (ps.flatMap (fun q => 1 :: q.1) ++ (if ps.length < n then [0] else [])), a.2 ++ ps.map (·.2))
  | 0, A, p, h => ⟨p, h, [], Nat.le_refl _, fun _ h => (nomatch h), by simp⟩
  | n + 1, A, p, h => by
    rcases List.mem_append.mp h with h | h
    · obtain ⟨a, ha, rfl⟩ := List.mem_map.mp h
      exact ⟨a, ha, [], Nat.zero_le _, fun _ h => (nomatch h), by simp⟩
    · obtain ⟨b, hb, ps, h1, h2, rfl⟩ := mem_loop h
      obtain ⟨c, hc, d, hd, rfl⟩ := mem_stepM.mp hb
      obtain ⟨a, ha, rfl⟩ := List.mem_map.mp hc
      refine ⟨a, ha, d :: ps, by simp; omega, fun q hq => ?_, ?_⟩
      · rcases List.mem_cons.mp hq with z | z
        · rw [z]; exact hd
        · exact h2 q z
      · simp
/-! ### permutations -/
theorem flat_left {γ δ : Type} (l : List γ) {f g : γ → List δ} (h : ∀ a ∈ l, (f a).Perm (g a)) : (l.flatMap f).Perm (l.flatMap g) := by
  induction l with
  | nil => exact List.Perm.refl _
  | cons a l ih =>
    rw [List.flatMap_cons, List.flatMap_cons]
    exact (h a List.mem_cons_self).append (ih fun b hb => h b (List.mem_cons_of_mem _ hb))
theorem step_perm {A A' : List (Row × List α)} {M M' : List (Row × α)} (h : A.Perm A') (k : M.Perm M') : (stepM A M).Perm (stepM A' M') := by
  unfold stepM
  exact (List.Perm.flatMap_right _ h).trans (flat_left _ fun a _ => k.map _)
theorem pow_perm {M M' : List (Row × α)} (k : M.Perm M') : ∀ n, (powM M n).Perm (powM M' n)
  | 0 => List.Perm.refl _
  | n + 1 => step_perm (pow_perm k n) k
theorem loop_perm {M M' : List (Row × α)} (k : M.Perm M') : ∀ (n : Nat) {A A' : List (Row × List α)}, A.Perm A' → (loopR M n A).Perm (loopR M' n A')
  | 0, _, _, h => h
  | n + 1, _, _, h => (h.map _).append (loop_perm k n (step_perm (h.map _) k))
/-! ### joining parts -/
def joinR (Ls : List (List (Row × α))) : List (Row × List α) := Ls.foldl stepM [([], [])]
def joinT (Ts : List (List (Tr α))) : List (Tr (List α)) := Ts.foldl multM [([], 1, [])]
theorem joinR_rep (M : List (Row × α)) : ∀ n, joinR (List.replicate n M) = powM M n
  | 0 => rfl
  | n + 1 => by
    unfold joinR
    rw [List.replicate_succ', List.foldl_append]
    show stepM (joinR (List.replicate n M)) M = _
    rw [joinR_rep M n]
    rfl
theorem join_raw' : ∀ {Ls : List (List (Row × α))} {Ts : List (List (Tr α))} {A : List (Row × List α)} {B : List (Tr (List α))}, All2 RawOf Ls Ts → RawOf A B → RawOf (Ls.foldl stepM A) (Ts.foldl multM B)
  | _, _, _, _, .nil, h => h
  | _ :: Ls, _ :: Ts, _, _, .cons k ks, h => join_raw' (Ls := Ls) (Ts := Ts) ks (h.mult k)
theorem join_raw {Ls : List (List (Row × α))} {Ts : List (List (Tr α))} (h : All2 RawOf Ls Ts) : RawOf (joinR Ls) (joinT Ts) := join_raw' h (.one [] [])
theorem join_code' : ∀ {Ls : List (List (Row × α))} {A : List (Row × List α)}, (∀ L ∈ Ls, Code L) → Code A → Code (Ls.foldl stepM A)
  | [], _, _, h => h
  | L :: Ls, _, k, h => join_code' (Ls := Ls) (fun M hM => k M (List.mem_cons_of_mem _ hM)) (h.step (k L List.mem_cons_self))
theorem join_code {Ls : List (List (Row × α))} (h : ∀ L ∈ Ls, Code L) : Code (joinR Ls) := join_code' h (.one [])
theorem join_perm' : ∀ {Ls Ms : List (List (Row × α))} {A A' : List (Row × List α)}, All2 List.Perm Ls Ms → A.Perm A' → (Ls.foldl stepM A).Perm (Ms.foldl stepM A')
  | _, _, _, _, .nil, h => h
  | _ :: Ls, _ :: Ms, _, _, .cons k ks, h => join_perm' (Ls := Ls) (Ms := Ms) ks (step_perm h k)
theorem join_perm {Ls Ms : List (List (Row × α))} (h : All2 List.Perm Ls Ms) : (joinR Ls).Perm (joinR Ms) := join_perm' h (List.Perm.refl _)
theorem step_nil (A : List (Row × List α)) : stepM A [] = [] := by
  unfold stepM
  induction A with
  | nil => rfl
  | cons a A ih => rw [List.flatMap_cons, ih]; rfl
theorem fold_nil : ∀ Ls : List (List (Row × α)), Ls.foldl stepM [] = []
  | [] => rfl
  | L :: Ls => fold_nil Ls
theorem join_empty' : ∀ {Ls : List (List (Row × α))} {A : List (Row × List α)}, [] ∈ Ls → Ls.foldl stepM A = []
  | L :: Ls, A, h => by
    rcases List.mem_cons.mp h with e | e
    · rw [← e]
      show Ls.foldl stepM (stepM A []) = []
      rw [step_nil, fold_nil]
    · exact join_empty' (Ls := Ls) e
theorem join_empty {Ls : List (List (Row × α))} (h : [] ∈ Ls) : joinR Ls = [] := join_empty' h
theorem mult_nil (A : List (Tr (List α))) : multM A [] = [] := by
  unfold multM
  induction A with
  | nil => rfl
  | cons a A ih => rw [List.flatMap_cons, ih]; rfl
theorem foldT_nil : ∀ Ls : List (List (Tr α)), Ls.foldl multM [] = []
  | [] => rfl
  | L :: Ls => foldT_nil Ls
theorem joinT_empty' : ∀ {Ls : List (List (Tr α))} {A : List (Tr (List α))}, [] ∈ Ls → Ls.foldl multM A = []
  | L :: Ls, A, h => by
    rcases List.mem_cons.mp h with e | e
    · rw [← e]
      show Ls.foldl multM (multM A []) = []
      rw [mult_nil, foldT_nil]
    · exact joinT_empty' (Ls := Ls) e
theorem joinT_empty {Ls : List (List (Tr α))} (h : [] ∈ Ls) : joinT Ls = [] := joinT_empty' h
/-! ### repeat -/
theorem tpow_first (B : List (Tr α)) (c : Int) (r : Row) : ∀ n, tpowM B [([], c, r)] n = (tpowM B [([], 1, [])] n).map fun t => (t.1, c * t.2.1, r ++ t.2.2)
  | 0 => by show [([], c, r)] = [([], c * 1, r ++ [])]; rw [Int.mul_one, List.append_nil]
  | n + 1 => by
    show multM (tpowM B [([], c, r)] n) B = (multM (tpowM B [([], 1, [])] n) B).map _
    rw [tpow_first B c r n]
    unfold multM
    rw [List.flatMap_map, List.map_flatMap]
    congr 1
    funext t
    rw [List.map_map]
    refine List.map_congr_left fun u _ => ?_
    show (t.1 ++ [u.1], c * t.2.1 * u.2.1, r ++ t.2.2 ++ u.2.2) = (t.1 ++ [u.1], c * (t.2.1 * u.2.1), r ++ (t.2.2 ++ u.2.2))
    rw [Int.mul_assoc, List.append_assoc]
/-- ways behind ways: how many of B is told by the first's value -/
theorem raw_flat {γ : Type} {L : List (Row × γ)} {T : List (Tr γ)} (h : RawOf L T) (f : γ → List (Row × β)) (g : γ → List (Tr β)) (hg : ∀ v, RawOf (f v) (g v)) :
    RawOf (L.flatMap fun p => (f p.2).map fun q => (p.1 ++ q.1, q.2)) (T.flatMap fun t => (g t.1).map fun u => (u.1, t.2.1 * u.2.1, t.2.2 ++ u.2.2)) := by
  refine ⟨fun φ => ?_, fun t ht => ?_, fun p hp => ?_, fun t ht => ?_⟩
  · have e := h.w fun v => WL (f v) φ
    have e1 : WT (T.flatMap fun t => (g t.1).map fun u => (u.1, t.2.1 * u.2.1, t.2.2 ++ u.2.2)) φ = WT T fun v => WL (f v) φ := by
      show ((T.flatMap fun t => (g t.1).map fun u => (u.1, t.2.1 * u.2.1, t.2.2 ++ u.2.2)).map fun t => t.2.1 * φ t.1).sum = (T.map fun t => t.2.1 * WL (f t.1) φ).sum
      rw [sum_flat]
      refine sum_congr fun t _ => ?_
      rw [← (hg t.1).w φ, List.map_map]
      unfold WT
      rw [← sum_mulL]
      refine sum_congr fun u _ => ?_
      show t.2.1 * u.2.1 * φ u.1 = t.2.1 * (u.2.1 * φ u.1)
      rw [Int.mul_assoc]
    rw [e1, e]
    show (L.map fun p => WL (f p.2) φ).sum = ((L.flatMap fun p => (f p.2).map fun q => (p.1 ++ q.1, q.2)).map fun p => φ p.2).sum
    rw [sum_flat]
    refine sum_congr fun p _ => ?_
    rw [List.map_map]
    rfl
  · obtain ⟨a, ha, h2⟩ := List.mem_flatMap.mp ht
    obtain ⟨b, hb, rfl⟩ := List.mem_map.mp h2
    exact List.mem_flatMap.mpr ⟨_, h.mem a ha, List.mem_map.mpr ⟨_, (hg _).mem b hb, rfl⟩⟩
  · obtain ⟨a, ha, h2⟩ := List.mem_flatMap.mp hp
    obtain ⟨b, hb, rfl⟩ := List.mem_map.mp h2
    obtain ⟨t, ht, e1, r1⟩ := h.low a ha
    obtain ⟨u, hu, e2, r2⟩ := (hg a.2).low b hb
    rw [← e1] at hu
    exact ⟨_, List.mem_flatMap.mpr ⟨t, ht, List.mem_map.mpr ⟨u, hu, rfl⟩⟩, e2, rle_app r1 r2⟩
  · obtain ⟨a, ha, h2⟩ := List.mem_flatMap.mp ht
    obtain ⟨b, hb, rfl⟩ := List.mem_map.mp h2
    exact Int.mul_pos (h.pos a ha) ((hg _).pos b hb)
theorem raw_self (L : List (Row × α)) : RawOf L (L.map fun p => (p.2, (1 : Int), p.1)) := by
  refine ⟨fun f => ?_, fun t ht => ?_, fun p hp => ⟨_, List.mem_map.mpr ⟨p, hp, rfl⟩, rfl, rle_refl _⟩, fun t ht => ?_⟩
  · unfold WT WL
    rw [List.map_map]
    refine sum_congr fun p _ => ?_
    show 1 * f p.2 = f p.2
    rw [Int.one_mul]
  · obtain ⟨p, hp, rfl⟩ := List.mem_map.mp ht
    exact hp
  · obtain ⟨p, hp, rfl⟩ := List.mem_map.mp ht
    exact Int.zero_lt_one
end
end CR

set_option Elab.async false
set_option linter.all false
set_option maxRecDepth 100000
set_option maxHeartbeats 4000000
namespace CR
open PySem
/-! ### kinds, conditions, maps, generators -/
inductive Bs where
  | int | word
  deriving DecidableEq
inductive Kd where
  | b (b : Bs)
  | tup (bs : List Bs)
  | lst (k : Kd)
inductive Cond where
  | atmost (n : Int) | divides (n : Int) | isw (x : Str) | item (k : Nat) (c : Cond) | every (c : Cond) | some (c : Cond) | size (c : Cond) | sum (c : Cond) | rising | different
  | not (c : Cond) | and (c d : Cond) | or (c d : Cond)
inductive Mp where
  | plus (n : Int) | times (n : Int) | length | sum | sorted | reversed
inductive Lf where
  | int (lo hi : Int)
  | pick (ws : List Str)
inductive Gen where
  | leaf (l : Lf)
  | tuple (ls : List Lf)
  | list (g : Gen) (l m : Nat)
  | one (g : Gen)
  | two (g h : Gen)
  | kept (g : Gen) (c : Cond)
  | turned (g : Gen) (m : Mp)
  | rep (lo hi : Int) (g : Gen)
abbrev tx (s : String) : Dt := .text (Str.ofString s)
def Bs.d : Bs → Dt
  | .int => tx "int"
  | .word => tx "word"
def Kd.d : Kd → Dt
  | .b x => x.d
  | .tup bs => .tup [tx "tuple", .tup (bs.map Bs.d)]
  | .lst k => .tup [tx "list", k.d]
def Cond.d : Cond → Dt
  | .atmost n => .tup [tx "atmost", .num n]
  | .divides n => .tup [tx "divides", .num n]
  | .isw x => .tup [tx "is", .text x]
  | .item k c => .tup [tx "item", .num k, c.d]
  | .every c => .tup [tx "every", c.d]
  | .some c => .tup [tx "some", c.d]
  | .size c => .tup [tx "size", c.d]
  | .sum c => .tup [tx "sum", c.d]
  | .rising => .tup [tx "rising"]
  | .different => .tup [tx "different"]
  | .not c => .tup [tx "not", c.d]
  | .and c d => .tup [tx "and", c.d, d.d]
  | .or c d => .tup [tx "or", c.d, d.d]
def Mp.d : Mp → Dt
  | .plus n => .tup [tx "plus", .num n]
  | .times n => .tup [tx "times", .num n]
  | .length => .tup [tx "length"]
  | .sum => .tup [tx "sum"]
  | .sorted => .tup [tx "sorted"]
  | .reversed => .tup [tx "reversed"]
def Lf.d : Lf → Dt
  | .int lo hi => .tup [tx "int", .num lo, .num hi]
  | .pick ws => .tup [tx "pick", .tup (ws.map .text)]
def Gen.d : Gen → Dt
  | .leaf l => l.d
  | .tuple ls => .tup [tx "tuple", .tup (ls.map Lf.d)]
  | .list g l m => .tup [tx "list", g.d, .num l, .num m]
  | .one g => .tup [tx "one", .tup [g.d]]
  | .two g h => .tup [tx "one", .tup [g.d, h.d]]
  | .kept g c => .tup [tx "kept", g.d, c.d]
  | .turned g m => .tup [tx "turned", g.d, m.d]
  | .rep lo hi g => .tup [tx "repeat", .tup [tx "int", .num lo, .num hi], g.d]
def Gen.parts : Gen → List Gen
  | .leaf _ => []
  | .tuple ls => ls.map .leaf
  | .list g _ _ => [g]
  | .one g => [g]
  | .two g h => [g, h]
  | .kept g _ => [g]
  | .turned g _ => [g]
  | .rep lo hi g => [.leaf (.int lo hi), g]
def Gen.depth : Gen → Nat
  | .leaf _ => 0
  | .tuple _ => 1
  | .list g _ _ => g.depth + 1
  | .one g => g.depth + 1
  | .two g h => max g.depth h.depth + 1
  | .kept g _ => g.depth + 1
  | .turned g _ => g.depth + 1
  | .rep _ _ g => g.depth + 1
def Cond.depth : Cond → Nat
  | .item _ c | .every c | .some c | .size c | .sum c | .not c => c.depth + 1
  | .and c d | .or c d => max c.depth d.depth + 1
  | _ => 0
theorem depth_part {g p : Gen} (h : p ∈ g.parts) : p.depth < g.depth := by
  cases g with
  | leaf l => cases h
  | tuple ls =>
    obtain ⟨l, _, rfl⟩ := List.mem_map.mp h
    exact Nat.zero_lt_one
  | list g l m => rw [List.mem_singleton.mp h]; exact Nat.lt_succ_self _
  | one g => rw [List.mem_singleton.mp h]; exact Nat.lt_succ_self _
  | two g h' =>
    have h : p ∈ [g, h'] := h
    show p.depth < max g.depth h'.depth + 1
    simp only [List.mem_cons, List.not_mem_nil, or_false] at h
    rcases h with h | h <;> rw [h] <;> omega
  | kept g c => rw [List.mem_singleton.mp h]; exact Nat.lt_succ_self _
  | turned g c => rw [List.mem_singleton.mp h]; exact Nat.lt_succ_self _
  | rep lo hi g =>
    have h : p ∈ [Gen.leaf (.int lo hi), g] := h
    show p.depth < g.depth + 1
    simp only [List.mem_cons, List.not_mem_nil, or_false] at h
    rcases h with h | h
    · rw [h]; exact Nat.succ_pos _
    · rw [h]; exact Nat.lt_succ_self _
/-! ### what conditions and maps say -/
def numD : Dt → Int
  | .num i => i
  | _ => 0
def strD : Dt → Str
  | .text x => x
  | _ => Str.ofString ""
def sumD (ds : List Dt) : Int := (ds.map numD).sum
def isNum : Dt → Bool
  | .num _ => true
  | _ => false
def risesM (ds : List Dt) : Bool := (List.range (ds.length - 1)).all fun k => decide (numD (ds.getD k .none) ≤ numD (ds.getD (k + 1) .none))
def diffM (ds : List Dt) : Bool := (List.range ds.length).all fun k => !((ds.take k).any fun y => decide (y = ds.getD k .none))
def holdsM : Cond → Dt → Bool
  | .atmost n, v => decide (numD v ≤ n)
  | .divides n, v => decide (numD v % n = 0)
  | .isw x, v => decide (v = .text x)
  | .item k c, .tup ds => holdsM c (ds.getD k .none)
  | .every c, .tup ds => ds.all (holdsM c)
  | .some c, .tup ds => ds.any (holdsM c)
  | .size c, .tup ds => holdsM c (.num ds.length)
  | .sum c, .tup ds => holdsM c (.num (sumD ds))
  | .rising, .tup ds => risesM ds
  | .different, .tup ds => diffM ds
  | .not c, v => !holdsM c v
  | .and c d, v => holdsM c v && holdsM d v
  | .or c d, v => holdsM c v || holdsM d v
  | _, _ => false
def leStr (a b : Str) : Bool := !decide (b.cps.toList < a.cps.toList)
def sortD (ds : List Dt) : List Dt := if ds.all isNum = true then ((ds.map numD).mergeSort fun a b => decide (a ≤ b)).map .num else ((ds.map strD).mergeSort leStr).map .text
def turnM : Mp → Dt → Dt
  | .plus n, v => .num (numD v + n)
  | .times n, v => .num (numD v * n)
  | .length, .tup ds => .num ds.length
  | .sum, .tup ds => .num (sumD ds)
  | .sorted, .tup ds => .tup (sortD ds)
  | .reversed, .tup ds => .tup ds.reverse
  | _, v => v
/-! ### the exact rows -/
def lfR : Lf → List (Row × Dt)
  | .int lo hi => (List.range (hi - lo + 1).toNat).map fun (k : Nat) => ([(k : Int)], .num (lo + k))
  | .pick ws => (List.range ws.length).map fun (k : Nat) => ([(k : Int)], .text (ws.getD k (Str.ofString "")))
def tupR (L : List (Row × List Dt)) : List (Row × Dt) := L.map fun p => (p.1, .tup p.2)
def tupT (T : List (Tr (List Dt))) : List (Tr Dt) := T.map fun t => (.tup t.1, t.2.1, t.2.2)
/-- how many a repeat draws -/
def fit6 (v : Dt) : Bool := decide (0 ≤ numD v) && decide (numD v ≤ 6)
def repR (L M : List (Row × Dt)) : List (Row × Dt) := L.flatMap fun p => (if fit6 p.2 = true then tupR (powM M (numD p.2).toNat) else []).map fun q => (p.1 ++ q.1, q.2)
def repT (T B : List (Tr Dt)) : List (Tr Dt) := T.flatMap fun t => (if fit6 t.1 = true then tupT (tpowM B [([], 1, [])] (numD t.1).toNat) else []).map fun u => (u.1, t.2.1 * u.2.1, t.2.2 ++ u.2.2)
/-- a generator's rows by its parts' -/
def rowsOf : Gen → List (List (Row × Dt)) → List (Row × Dt)
  | .leaf l, _ => lfR l
  | .tuple _, Ps => tupR (joinR Ps)
  | .list _ l m, [M] => tupR (loopR M (m - l) (powM M l))
  | .one _, [M] => preR 0 M
  | .two _ _, [M, N] => preR 0 M ++ preR 1 N
  | .kept _ c, [M] => M.filter fun p => holdsM c p.2
  | .turned _ m, [M] => M.map fun p => (p.1, turnM m p.2)
  | .rep _ _ _, [L, M] => repR L M
  | _, _ => []
def trisOf : Gen → List (List (Tr Dt)) → List (Tr Dt)
  | .leaf l, _ => (lfR l).map fun p => (p.2, 1, p.1)
  | .tuple _, Ts => tupT (joinT Ts)
  | .list _ l m, [T] => tupT (loopT T (m - l) (tpowM T [([], 1, [])] l))
  | .one _, [T] => preT 0 T
  | .two _ _, [T, U] => preT 0 T ++ preT 1 U
  | .kept _ c, [T] => T.filter fun t => holdsM c t.1
  | .turned _ m, [T] => T.map fun t => (turnM m t.1, t.2.1, t.2.2)
  | .rep _ _ _, [T, U] => repT T U
  | _, _ => []
def rowsM : Gen → List (Row × Dt)
  | .leaf l => lfR l
  | .tuple ls => tupR (joinR (ls.map lfR))
  | .list g l m => tupR (loopR (rowsM g) (m - l) (powM (rowsM g) l))
  | .one g => preR 0 (rowsM g)
  | .two g h => preR 0 (rowsM g) ++ preR 1 (rowsM h)
  | .kept g c => (rowsM g).filter fun p => holdsM c p.2
  | .turned g m => (rowsM g).map fun p => (p.1, turnM m p.2)
  | .rep lo hi g => repR (lfR (.int lo hi)) (rowsM g)
theorem rowsM_eq (g : Gen) : rowsM g = rowsOf g (g.parts.map rowsM) := by
  cases g with
  | tuple ls =>
    show tupR (joinR (ls.map lfR)) = tupR (joinR ((ls.map Gen.leaf).map rowsM))
    rw [List.map_map]
    rfl
  | _ => rfl
theorem All2.length {α β : Type} {R : α → β → Prop} : ∀ {l : List α} {m : List β}, All2 R l m → l.length = m.length
  | _, _, .nil => rfl
  | _, _, .cons _ t => by simp [All2.length t]
theorem rows_perm {g : Gen} {Ps Qs : List (List (Row × Dt))} (h : All2 List.Perm Ps Qs) (hl : Ps.length = g.parts.length) : (rowsOf g Ps).Perm (rowsOf g Qs) := by
  cases g with
  | leaf l => exact List.Perm.refl _
  | tuple ls => exact (join_perm h).map _
  | list g l m =>
    cases h with
    | cons a t => cases t with
      | nil => exact (loop_perm a _ (pow_perm a _)).map _
      | cons _ _ => simp [Gen.parts] at hl
    | nil => simp [Gen.parts] at hl
  | one g =>
    cases h with
    | cons a t => cases t with
      | nil => exact a.map _
      | cons _ _ => simp [Gen.parts] at hl
    | nil => simp [Gen.parts] at hl
  | two g g' =>
    cases h with
    | cons a t => cases t with
      | nil => simp [Gen.parts] at hl
      | cons b t => cases t with
        | nil => exact (a.map _).append (b.map _)
        | cons _ _ => simp [Gen.parts] at hl
    | nil => simp [Gen.parts] at hl
  | kept g c =>
    cases h with
    | cons a t => cases t with
      | nil => exact a.filter _
      | cons _ _ => simp [Gen.parts] at hl
    | nil => simp [Gen.parts] at hl
  | turned g m =>
    cases h with
    | cons a t => cases t with
      | nil => exact a.map _
      | cons _ _ => simp [Gen.parts] at hl
    | nil => simp [Gen.parts] at hl
  | rep lo hi g =>
    cases h with
    | cons a t => cases t with
      | nil => simp [Gen.parts] at hl
      | cons b t => cases t with
        | nil =>
          refine (List.Perm.flatMap_right _ a).trans (flat_left _ fun p _ => List.Perm.map _ ?_)
          split
          · exact (pow_perm b _).map _
          · exact List.Perm.refl _
        | cons _ _ => simp [Gen.parts] at hl
    | nil => simp [Gen.parts] at hl
theorem raw_tup {L : List (Row × List Dt)} {T : List (Tr (List Dt))} (h : RawOf L T) : RawOf (tupR L) (tupT T) := h.map NestedKey.tup (fun r => r) fun _ _ q => q
theorem raw_rep {L M : List (Row × Dt)} {T B : List (Tr Dt)} (h : RawOf L T) (k : RawOf M B) : RawOf (repR L M) (repT T B) := by
  refine raw_flat h (fun v => if fit6 v = true then tupR (powM M (numD v).toNat) else []) (fun v => if fit6 v = true then tupT (tpowM B [([], 1, [])] (numD v).toNat) else []) fun v => ?_
  show RawOf (if fit6 v = true then _ else _) (if fit6 v = true then _ else _)
  split
  · exact raw_tup (raw_pow k _)
  · exact .nil
theorem tris_raw {g : Gen} {Ps : List (List (Row × Dt))} {Ts : List (List (Tr Dt))} (h : All2 RawOf Ps Ts) (hl : Ps.length = g.parts.length) : RawOf (rowsOf g Ps) (trisOf g Ts) := by
  cases g with
  | leaf l => exact raw_self _
  | tuple ls => exact raw_tup (join_raw h)
  | list g l m =>
    cases h with
    | cons a t => cases t with
      | nil => exact raw_tup (raw_loop a _ (raw_pow a _))
      | cons _ _ => simp [Gen.parts] at hl
    | nil => simp [Gen.parts] at hl
  | one g =>
    cases h with
    | cons a t => cases t with
      | nil => exact raw_pre a 0
      | cons _ _ => simp [Gen.parts] at hl
    | nil => simp [Gen.parts] at hl
  | two g g' =>
    cases h with
    | cons a t => cases t with
      | nil => simp [Gen.parts] at hl
      | cons b t => cases t with
        | nil => exact (raw_pre a 0).app (raw_pre b 1)
        | cons _ _ => simp [Gen.parts] at hl
    | nil => simp [Gen.parts] at hl
  | kept g c =>
    cases h with
    | cons a t => cases t with
      | nil => exact a.filter (holdsM c)
      | cons _ _ => simp [Gen.parts] at hl
    | nil => simp [Gen.parts] at hl
  | turned g m =>
    cases h with
    | cons a t => cases t with
      | nil => exact a.map (turnM m) (fun r => r) fun _ _ q => q
      | cons _ _ => simp [Gen.parts] at hl
    | nil => simp [Gen.parts] at hl
  | rep lo hi g =>
    cases h with
    | cons a t => cases t with
      | nil => simp [Gen.parts] at hl
      | cons b t => cases t with
        | nil => exact raw_rep a b
        | cons _ _ => simp [Gen.parts] at hl
    | nil => simp [Gen.parts] at hl
/-! ### the rows are a code -/
theorem lfR_code (l : Lf) : Code (lfR l) := by
  have key : ∀ (n : Nat) (f : Nat → Dt), Code ((List.range n).map fun (k : Nat) => ([(k : Int)], f k)) := fun n f => by
    refine ⟨fun p hp q hq t t' e => ?_, ?_⟩
    · obtain ⟨i, _, rfl⟩ := List.mem_map.mp hp
      obtain ⟨j, _, rfl⟩ := List.mem_map.mp hq
      have e : (i : Int) :: t = (j : Int) :: t' := e
      have : i = j := by have := (List.cons.inj e).1; omega
      rw [this]
    · rw [List.map_map]
      show List.Pairwise _ _
      rw [List.pairwise_map]
      refine (List.nodup_range (n := n)).imp fun {a b} hab z => hab ?_
      have z : [(a : Int)] = [(b : Int)] := z
      have := (List.cons.inj z).1
      omega
  cases l with
  | int lo hi => exact key _ _
  | pick ws => exact key _ _
theorem tup_code {L : List (Row × List Dt)} (h : Code L) : Code (tupR L) := h.map fun p => NestedKey.tup p.2
theorem rep_code {L M : List (Row × Dt)} (h : Code L) (k : Code M) : Code (repR L M) := h.flat (fun p => if fit6 p.2 = true then tupR (powM M (numD p.2).toNat) else []) fun p _ => by
  show Code (if fit6 p.2 = true then _ else _)
  split
  · exact tup_code (k.pow _)
  · exact .nil
theorem rows_code : ∀ g, Code (rowsM g)
  | .leaf l => lfR_code l
  | .tuple ls => tup_code (join_code fun L hL => by
    obtain ⟨l, _, rfl⟩ := List.mem_map.mp hL
    exact lfR_code l)
  | .list g l m => tup_code ((rows_code g).loop _ ((rows_code g).pow _))
  | .one g => (rows_code g).pre 0
  | .two g h => ((rows_code g).pre 0).app ((rows_code h).pre 1) fun p hp q hq t t' e => by
    obtain ⟨a, _, rfl⟩ := List.mem_map.mp hp
    obtain ⟨b, _, rfl⟩ := List.mem_map.mp hq
    have e : (0 : Int) :: (a.1 ++ t) = 1 :: (b.1 ++ t') := e
    have := (List.cons.inj e).1
    omega
  | .kept g c => (rows_code g).filter fun p => holdsM c p.2
  | .turned g m => (rows_code g).map fun p => turnM m p.2
  | .rep lo hi g => rep_code (lfR_code _) (rows_code g)
/-! ### kinds of values -/
def okS (x : Str) : Bool := x.cps.all (· < 0x110000)
def HasB : Bs → Dt → Prop
  | .int, d => ∃ i, d = .num i
  | .word, d => ∃ x, d = .text x ∧ okS x = true
def HasK : Kd → Dt → Prop
  | .b b, d => HasB b d
  | .tup bs, d => ∃ ds, d = .tup ds ∧ All2 HasB bs ds
  | .lst k, d => ∃ ds, d = .tup ds ∧ ∀ x ∈ ds, HasK k x
def Fits : Cond → Kd → Prop
  | .atmost _, k => k = .b .int
  | .divides n, k => k = .b .int ∧ 0 < n
  | .isw _, k => k = .b .word
  | .item i c, k => ∃ bs b, k = .tup bs ∧ bs[i]? = some b ∧ Fits c (.b b)
  | .every c, k => ∃ k', k = .lst k' ∧ Fits c k'
  | .some c, k => ∃ k', k = .lst k' ∧ Fits c k'
  | .size c, k => (∃ k', k = .lst k') ∧ Fits c (.b .int)
  | .sum c, k => k = .lst (.b .int) ∧ Fits c (.b .int)
  | .rising, k => k = .lst (.b .int)
  | .different, k => ∃ k', k = .lst k'
  | .not c, k => Fits c k
  | .and c d, k => Fits c k ∧ Fits d k
  | .or c d, k => Fits c k ∧ Fits d k
def MFits : Mp → Kd → Kd → Prop
  | .plus _, k, k' => k = .b .int ∧ k' = .b .int
  | .times n, k, k' => k = .b .int ∧ k' = .b .int ∧ -100 ≤ n ∧ n ≤ 100
  | .length, k, k' => (∃ j, k = .lst j) ∧ k' = .b .int
  | .sum, k, k' => k = .lst (.b .int) ∧ k' = .b .int
  | .sorted, k, k' => ∃ b, k = .lst (.b b) ∧ k' = k
  | .reversed, k, k' => (∃ j, k = .lst j) ∧ k' = k
theorem turn_kind {m : Mp} {k k' : Kd} {v : Dt} (h : MFits m k k') (hv : HasK k v) : HasK k' (turnM m v) := by
  cases m with
  | plus n => obtain ⟨rfl, rfl⟩ := h; exact ⟨_, rfl⟩
  | times n => obtain ⟨rfl, rfl, _⟩ := h; exact ⟨_, rfl⟩
  | length => obtain ⟨⟨j, rfl⟩, rfl⟩ := h; obtain ⟨ds, rfl, _⟩ := hv; exact ⟨_, rfl⟩
  | sum => obtain ⟨rfl, rfl⟩ := h; obtain ⟨ds, rfl, _⟩ := hv; exact ⟨_, rfl⟩
  | sorted =>
    obtain ⟨b, rfl, rfl⟩ := h
    obtain ⟨ds, rfl, hd⟩ := hv
    refine ⟨_, rfl, fun x hx => ?_⟩
    unfold sortD at hx
    cases b with
    | int =>
      have : ds.all isNum = true := List.all_eq_true.mpr fun y hy => by
        obtain ⟨i, rfl⟩ := hd y hy
        rfl
      rw [if_pos this] at hx
      obtain ⟨i, _, rfl⟩ := List.mem_map.mp hx
      exact ⟨i, rfl⟩
    | word =>
      by_cases z : ds.all isNum = true
      · cases ds with
        | nil => simp at hx
        | cons y ds =>
          obtain ⟨w, rfl, _⟩ := hd y List.mem_cons_self
          simp [isNum] at z
      · rw [if_neg z] at hx
        obtain ⟨i, hi, rfl⟩ := List.mem_map.mp hx
        have hi2 := (List.mergeSort_perm (ds.map strD) leStr).mem_iff.mp hi
        obtain ⟨y, hy, rfl⟩ := List.mem_map.mp hi2
        obtain ⟨w, rfl, ok⟩ := hd y hy
        exact ⟨w, rfl, ok⟩
  | reversed =>
    obtain ⟨⟨j, rfl⟩, rfl⟩ := h
    obtain ⟨ds, rfl, hd⟩ := hv
    exact ⟨_, rfl, fun x hx => hd x (List.mem_reverse.mp hx)⟩
def LfK : Lf → Bs → Prop
  | .int _ _, b => b = .int
  | .pick ws, b => b = .word ∧ ∀ x ∈ ws, okS x = true
theorem lf_kind {l : Lf} {b : Bs} (h : LfK l b) : ∀ p ∈ lfR l, HasB b p.2 := fun p hp => by
  cases l with
  | int lo hi =>
    cases h
    obtain ⟨i, _, rfl⟩ := List.mem_map.mp hp
    exact ⟨_, rfl⟩
  | pick ws =>
    obtain ⟨rfl, ok⟩ := h
    obtain ⟨i, hi, rfl⟩ := List.mem_map.mp hp
    have hi := List.mem_range.mp hi
    refine ⟨_, rfl, ?_⟩
    rw [List.getD_eq_getElem?_getD, List.getElem?_eq_getElem hi]
    exact ok _ (List.getElem_mem hi)
/-- few rows, short ones -/
structure Few (L : List (Row × Dt)) : Prop where
  n : L.length ≤ 2000
  len : ∀ p ∈ L, p.1.length ≤ 500
def Wf : Gen → Kd → Prop
  | .leaf l, k => (∃ b, k = .b b ∧ LfK l b) ∧ Few (lfR l)
  | .tuple ls, k => (∃ bs, k = .tup bs ∧ All2 LfK ls bs ∧ (∀ l ∈ ls, Few (lfR l)) ∧ ls.length ≤ 4) ∧ Few (rowsM (.tuple ls))
  | .list g l m, k => (∃ k', k = .lst k' ∧ Wf g k' ∧ l ≤ m ∧ m ≤ 6) ∧ Few (rowsM (.list g l m))
  | .one g, k => Wf g k ∧ Few (rowsM (.one g))
  | .two g h, k => (Wf g k ∧ Wf h k) ∧ Few (rowsM (.two g h))
  | .kept g c, k => (Wf g k ∧ Fits c k ∧ c.depth ≤ 6) ∧ Few (rowsM (.kept g c))
  | .turned g m, k => (∃ k', Wf g k' ∧ MFits m k' k) ∧ Few (rowsM (.turned g m))
  | .rep lo hi g, k => (∃ k', k = .lst k' ∧ Wf g k' ∧ Few (lfR (.int lo hi))) ∧ Few (rowsM (.rep lo hi g))
theorem Wf.few : ∀ {g : Gen} {k : Kd}, Wf g k → Few (rowsM g)
  | .leaf _, _, h => h.2
  | .tuple _, _, h => h.2
  | .list _ _ _, _, h => h.2
  | .one _, _, h => h.2
  | .two _ _, _, h => h.2
  | .kept _ _, _, h => h.2
  | .turned _ _, _, h => h.2
  | .rep _ _ _, _, h => h.2
theorem Wf.part {g : Gen} {k : Kd} (h : Wf g k) : ∀ p ∈ g.parts, ∃ k', Wf p k' := by
  cases g with
  | leaf l => intro p hp; cases hp
  | tuple ls =>
    intro p hp
    obtain ⟨l, hl, rfl⟩ := List.mem_map.mp hp
    obtain ⟨⟨bs, rfl, h2, h3, _⟩, _⟩ := h
    have key : ∀ {ls : List Lf} {bs : List Bs}, All2 LfK ls bs → ∀ l ∈ ls, ∃ b, LfK l b := by
      intro ls bs h
      induction h with
      | nil => intro l hl; cases hl
      | cons a _ ih =>
        intro l hl
        rcases List.mem_cons.mp hl with z | z
        · rw [z]; exact ⟨_, a⟩
        · exact ih l z
    obtain ⟨b, hb⟩ := key h2 l hl
    exact ⟨.b b, ⟨b, rfl, hb⟩, h3 l hl⟩
  | list g l m =>
    intro p hp
    obtain ⟨⟨k', _, h2, _⟩, _⟩ := h
    rw [List.mem_singleton.mp hp]; exact ⟨k', h2⟩
  | one g => intro p hp; rw [List.mem_singleton.mp hp]; exact ⟨k, h.1⟩
  | two g g' =>
    intro p hp
    have hp : p ∈ [g, g'] := hp
    simp only [List.mem_cons, List.not_mem_nil, or_false] at hp
    rcases hp with z | z
    · rw [z]; exact ⟨k, h.1.1⟩
    · rw [z]; exact ⟨k, h.1.2⟩
  | kept g c => intro p hp; rw [List.mem_singleton.mp hp]; exact ⟨k, h.1.1⟩
  | turned g m =>
    intro p hp
    obtain ⟨⟨k', h2, _⟩, _⟩ := h
    rw [List.mem_singleton.mp hp]; exact ⟨k', h2⟩
  | rep lo hi g =>
    intro p hp
    have hp : p ∈ [Gen.leaf (.int lo hi), g] := hp
    obtain ⟨⟨k', _, h2, h3⟩, _⟩ := h
    simp only [List.mem_cons, List.not_mem_nil, or_false] at hp
    rcases hp with z | z
    · rw [z]; exact ⟨.b .int, ⟨.int, rfl, rfl⟩, h3⟩
    · rw [z]; exact ⟨k', h2⟩
theorem pow_kind {M : List (Row × Dt)} {k : Kd} (h : ∀ p ∈ M, HasK k p.2) {n : Nat} : ∀ p ∈ powM M n, ∀ x ∈ p.2, HasK k x := fun p hp x hx => by
  obtain ⟨ps, _, h2, rfl⟩ := mem_pow hp
  obtain ⟨q, hq, rfl⟩ := List.mem_map.mp hx
  exact h q (h2 q hq)
theorem join_kind' : ∀ {Ls : List (List (Row × Dt))} {bs cs : List Bs} {A : List (Row × List Dt)}, All2 (fun L b => ∀ p ∈ L, HasB b p.2) Ls bs → (∀ p ∈ A, All2 HasB cs p.2) → ∀ p ∈ Ls.foldl stepM A, All2 HasB (cs ++ bs) p.2
  | _, _, cs, A, .nil, h => by rw [List.append_nil]; exact h
  | L :: Ls, b :: bs, cs, A, .cons k ks, h => by
    have e : cs ++ b :: bs = (cs ++ [b]) ++ bs := by simp
    rw [e]
    refine join_kind' (Ls := Ls) ks fun p hp => ?_
    obtain ⟨a, ha, q, hq, rfl⟩ := mem_stepM.mp hp
    have snoc : ∀ {bs : List Bs} {ds : List Dt} {b : Bs} {d : Dt}, All2 HasB bs ds → HasB b d → All2 HasB (bs ++ [b]) (ds ++ [d]) := by
      intro bs ds b d h
      induction h with
      | nil => exact fun r => .cons r .nil
      | cons a _ ih => exact fun r => .cons a (ih r)
    exact snoc (h a ha) (k q hq)
theorem rows_kind : ∀ {g : Gen} {k : Kd}, Wf g k → ∀ p ∈ rowsM g, HasK k p.2
  | .leaf l, k, h => by
    obtain ⟨⟨b, rfl, hb⟩, _⟩ := h
    exact lf_kind hb
  | .tuple ls, k, h => by
    obtain ⟨⟨bs, rfl, h2, _⟩, _⟩ := h
    intro p hp
    obtain ⟨q, hq, rfl⟩ := List.mem_map.mp hp
    have key : ∀ {ls : List Lf} {bs : List Bs}, All2 LfK ls bs → All2 (fun (L : List (Row × Dt)) b => ∀ p ∈ L, HasB b p.2) (ls.map lfR) bs := by
      intro ls bs h
      induction h with
      | nil => exact .nil
      | cons a _ ih => exact .cons (lf_kind a) ih
    refine ⟨q.2, rfl, join_kind' (cs := []) (key h2) (fun p hp => ?_) q hq⟩
    rw [List.mem_singleton.mp hp]
    exact .nil
  | .list g l m, k, h => by
    obtain ⟨⟨k', rfl, h2, _⟩, _⟩ := h
    have ih := rows_kind h2
    intro p hp
    obtain ⟨q, hq, rfl⟩ := List.mem_map.mp hp
    refine ⟨q.2, rfl, fun x hx => ?_⟩
    obtain ⟨a, ha, ps, _, h4, rfl⟩ := mem_loop hq
    rcases List.mem_append.mp hx with z | z
    · exact pow_kind ih a ha x z
    · obtain ⟨y, hy, rfl⟩ := List.mem_map.mp z
      exact ih y (h4 y hy)
  | .one g, k, h => by
    intro p hp
    obtain ⟨q, hq, rfl⟩ := List.mem_map.mp hp
    exact rows_kind h.1 q hq
  | .two g g', k, h => by
    intro p hp
    rcases List.mem_append.mp hp with hp | hp
    · obtain ⟨q, hq, rfl⟩ := List.mem_map.mp hp
      exact rows_kind h.1.1 q hq
    · obtain ⟨q, hq, rfl⟩ := List.mem_map.mp hp
      exact rows_kind h.1.2 q hq
  | .kept g c, k, h => fun p hp => rows_kind h.1.1 p (List.mem_filter.mp hp).1
  | .turned g m, k, h => by
    obtain ⟨⟨k', h2, h3⟩, _⟩ := h
    intro p hp
    obtain ⟨q, hq, rfl⟩ := List.mem_map.mp hp
    exact turn_kind h3 (rows_kind h2 q hq)
  | .rep lo hi g, k, h => by
    obtain ⟨⟨k', rfl, h2, h3⟩, _⟩ := h
    intro p hp
    obtain ⟨a, ha, h4⟩ := List.mem_flatMap.mp hp
    obtain ⟨b, hb, rfl⟩ := List.mem_map.mp h4
    split at hb
    · obtain ⟨q, hq, rfl⟩ := List.mem_map.mp hb
      exact ⟨q.2, rfl, pow_kind (rows_kind h2) q hq⟩
    · cases hb
end CR

set_option Elab.async false
set_option linter.all false
set_option maxRecDepth 100000
set_option maxHeartbeats 4000000
namespace CR
open PySem PySem.Spec PyProof.Rows L2
/-! ### data at values -/
mutual
def Rp (H : Hp) : Dt → V → Prop
  | .none, v => v = .non
  | .num i, v => v = .int i
  | .text x, v => v = .str x
  | .tup ds, v => ∃ a xs, v = .ref a ∧ H a = some (.tup xs) ∧ RpA H ds xs
def RpA (H : Hp) : List Dt → List V → Prop
  | [], xs => xs = []
  | d :: ds, xs => ∃ x r, xs = x :: r ∧ Rp H d x ∧ RpA H ds r
end
/-- tuples stay -/
def TK (H H' : Hp) : Prop := ∀ b xs, H b = some (.tup xs) → H' b = some (.tup xs)
theorem TK.refl (H : Hp) : TK H H := fun _ _ h => h
theorem TK.trans {H H1 H2 : Hp} (a : TK H H1) (b : TK H1 H2) : TK H H2 := fun c xs h => b c xs (a c xs h)
theorem TK.of {H H' : Hp} (e : LamX.ExtN H H') : TK H H' := fun b xs h => e b _ h (fun _ z => by cases z)
theorem TK.new {H : Hp} {p : Addr} (h : H p = none) (o : HO) : TK H (upd H p o) := fun b xs e => by rw [upd_ne (ne_of_none e h)]; exact e
mutual
theorem Rp.tk {H H' : Hp} (k : TK H H') : ∀ {d : Dt} {v : V}, Rp H d v → Rp H' d v
  | .none, _, h => h
  | .num _, _, h => h
  | .text _, _, h => h
  | .tup ds, _, h => by
    obtain ⟨a, xs, e, h1, h2⟩ := h
    exact ⟨a, xs, e, k a xs h1, RpA.tk k h2⟩
theorem RpA.tk {H H' : Hp} (k : TK H H') : ∀ {ds : List Dt} {xs : List V}, RpA H ds xs → RpA H' ds xs
  | [], _, h => h
  | d :: ds, _, h => by
    obtain ⟨x, r, e, h1, h2⟩ := h
    exact ⟨x, r, e, Rp.tk k h1, RpA.tk k h2⟩
end
section
variable {H : Hp}
theorem RpA.length : ∀ {ds : List Dt} {xs : List V}, RpA H ds xs → xs.length = ds.length
  | [], _, h => by rw [show _ = [] from h]; rfl
  | d :: ds, _, h => by
    obtain ⟨x, r, rfl, _, h2⟩ := h
    rw [List.length_cons, List.length_cons, RpA.length h2]
theorem RpA.get : ∀ {ds : List Dt} {xs : List V} {i : Nat} {d : Dt}, RpA H ds xs → ds[i]? = some d → ∃ x, xs[i]? = some x ∧ Rp H d x
  | d :: ds, _, 0, e, h, hi => by
    obtain ⟨x, r, rfl, h1, _⟩ := h
    cases hi
    exact ⟨x, rfl, h1⟩
  | d :: ds, _, i + 1, e, h, hi => by
    obtain ⟨x, r, rfl, _, h2⟩ := h
    obtain ⟨y, hy, ry⟩ := RpA.get h2 (show ds[i]? = some e from hi)
    exact ⟨y, hy, ry⟩
  | [], _, i, e, h, hi => by simp at hi
theorem RpA.back : ∀ {ds : List Dt} {xs : List V} {i : Nat} {x : V}, RpA H ds xs → xs[i]? = some x → ∃ d, ds[i]? = some d ∧ Rp H d x
  | [], _, i, x, h, hi => by rw [show _ = [] from h] at hi; simp at hi
  | d :: ds, _, 0, x, h, hi => by
    obtain ⟨y, r, rfl, h1, _⟩ := h
    cases hi
    exact ⟨d, rfl, h1⟩
  | d :: ds, _, i + 1, x, h, hi => by
    obtain ⟨y, r, rfl, _, h2⟩ := h
    obtain ⟨e, he, re⟩ := RpA.back (i := i) (x := x) h2 hi
    exact ⟨e, he, re⟩
theorem RpA.app : ∀ {ds es : List Dt} {xs ys : List V}, RpA H ds xs → RpA H es ys → RpA H (ds ++ es) (xs ++ ys)
  | [], es, xs, ys, h, k => by rw [show xs = [] from h]; exact k
  | d :: ds, es, _, ys, h, k => by
    obtain ⟨x, r, rfl, h1, h2⟩ := h
    exact ⟨x, r ++ ys, rfl, h1, RpA.app h2 k⟩
theorem RpA.one {d : Dt} {x : V} (h : Rp H d x) : RpA H [d] [x] := ⟨x, [], rfl, h, rfl⟩
theorem RpA.snoc {ds : List Dt} {xs : List V} {d : Dt} {x : V} (h : RpA H ds xs) (k : Rp H d x) : RpA H (ds ++ [d]) (xs ++ [x]) := h.app (.one k)
theorem RpA.take : ∀ {ds : List Dt} {xs : List V} (n : Nat), RpA H ds xs → RpA H (ds.take n) (xs.take n)
  | _, _, 0, _ => rfl
  | [], xs, n + 1, h => by rw [show xs = [] from h]; rfl
  | d :: ds, _, n + 1, h => by
    obtain ⟨x, r, rfl, h1, h2⟩ := h
    exact ⟨x, r.take n, rfl, h1, RpA.take n h2⟩
theorem RpA.drop : ∀ {ds : List Dt} {xs : List V} (n : Nat), RpA H ds xs → RpA H (ds.drop n) (xs.drop n)
  | _, _, 0, h => h
  | [], xs, n + 1, h => by rw [show xs = [] from h]; rfl
  | d :: ds, _, n + 1, h => by
    obtain ⟨x, r, rfl, h1, h2⟩ := h
    exact RpA.drop n h2
theorem RpA.reverse : ∀ {ds : List Dt} {xs : List V}, RpA H ds xs → RpA H ds.reverse xs.reverse
  | [], xs, h => by rw [show xs = [] from h]; rfl
  | d :: ds, _, h => by
    obtain ⟨x, r, rfl, h1, h2⟩ := h
    rw [List.reverse_cons, List.reverse_cons]
    exact (RpA.reverse h2).snoc h1
theorem RpA.ints : ∀ {ns : List Int} {xs : List V}, RpA H (ns.map .num) xs → xs = ns.map V.int
  | [], _, h => h
  | n :: ns, _, h => by
    obtain ⟨x, r, rfl, h1, h2⟩ := h
    rw [RpA.ints h2, show x = V.int n from h1]
    rfl
theorem RpA.of_ints : ∀ (ns : List Int), RpA H (ns.map .num) (ns.map V.int)
  | [] => rfl
  | n :: ns => ⟨_, _, rfl, rfl, RpA.of_ints ns⟩
theorem RpA.strs : ∀ {ws : List Str} {xs : List V}, RpA H (ws.map .text) xs → xs = ws.map V.str
  | [], _, h => h
  | n :: ns, _, h => by
    obtain ⟨x, r, rfl, h1, h2⟩ := h
    rw [RpA.strs h2, show x = V.str n from h1]
    rfl
theorem RpA.of_strs : ∀ (ns : List Str), RpA H (ns.map .text) (ns.map V.str)
  | [] => rfl
  | n :: ns => ⟨_, _, rfl, rfl, RpA.of_strs ns⟩
/-- a row of choices -/
def rowD (r : Row) : Dt := .tup (r.map .num)
theorem Rp.row {r : Row} {v : V} : Rp H (rowD r) v ↔ ∃ a, v = .ref a ∧ H a = some (.tup (r.map V.int)) := by
  constructor
  · rintro ⟨a, xs, e, h1, h2⟩
    rw [RpA.ints h2] at h1
    exact ⟨a, e, h1⟩
  · rintro ⟨a, e, h1⟩
    exact ⟨a, _, e, h1, RpA.of_ints r⟩
/-- data built at a new address -/
theorem Rp.new {p : Addr} {ds : List Dt} {xs : List V} (h : RpA H ds xs) (hp : H p = none) : Rp (upd H p (.tup xs)) (.tup ds) (.ref p) := ⟨p, xs, rfl, upd_same, h.tk (TK.new hp _)⟩
/-! data as the layer tells it -/
mutual
theorem Rp.dp {K : PySem.W.Frag} : ∀ {d : Dt} {v : V}, Rp H d v → Dp K H v d.data
  | .none, v, h => by rw [show v = .non from h]; exact .non
  | .num i, v, h => by rw [show v = .int i from h]; exact .int i
  | .text x, v, h => by rw [show v = .str x from h]; exact .str x
  | .tup ds, _, h => by
    obtain ⟨a, xs, rfl, h1, h2⟩ := h
    exact .tup (SqT.of h1) (RpA.dp h2)
theorem RpA.dp {K : PySem.W.Frag} : ∀ {ds : List Dt} {xs : List V}, RpA H ds xs → DpAll K H xs (NestedKey.datas ds)
  | [], xs, h => by rw [show xs = [] from h]; exact .nil
  | d :: ds, _, h => by
    obtain ⟨x, r, rfl, h1, h2⟩ := h
    exact .cons (Rp.dp h1) (RpA.dp h2)
end
end
mutual
theorem eqv_data : ∀ a b : Dt, PyData.eqv a.data b.data = NestedKey.beq a b
  | .none, .none => rfl
  | .none, .num _ => rfl
  | .none, .text _ => rfl
  | .none, .tup _ => rfl
  | .num _, .none => rfl
  | .num a, .num b => by
    show (a == b) = decide (a = b)
    by_cases h : a = b <;> simp [h]
  | .num _, .text _ => rfl
  | .num _, .tup _ => rfl
  | .text _, .none => rfl
  | .text _, .num _ => rfl
  | .text a, .text b => by
    show (a == b) = decide (a = b)
    by_cases h : a = b <;> simp [h]
  | .text _, .tup _ => rfl
  | .tup _, .none => rfl
  | .tup _, .num _ => rfl
  | .tup _, .text _ => rfl
  | .tup a, .tup b => eqv_datas a b
theorem eqv_datas : ∀ a b : List Dt, PyData.eqvAll (NestedKey.datas a) (NestedKey.datas b) = NestedKey.beqAll a b
  | [], [] => rfl
  | [], _ :: _ => rfl
  | _ :: _, [] => rfl
  | x :: xs, y :: ys => by
    show (PyData.eqv x.data y.data && PyData.eqvAll (NestedKey.datas xs) (NestedKey.datas ys)) = (NestedKey.beq x y && NestedKey.beqAll xs ys)
    rw [eqv_data x y, eqv_datas xs ys]
end
theorem eqv_dec (a b : Dt) : PyData.eqv a.data b.data = decide (a = b) := by rw [eqv_data, NestedKey.decide_eq]
/-- data that == may be asked of -/
def okD (d : Dt) : Prop := SeqAt.shaped d.data = true
section
variable {X : Cx}
/-- == of data -/
def rEqR : R2 := fun x y H Q => ∃ d e, Rp H d x ∧ Rp H e y ∧ okD d ∧ okD e ∧ Q (.bl (decide (d = e))) H
def rNeR : R2 := fun x y H Q => ∃ d e, Rp H d x ∧ Rp H e y ∧ okD d ∧ okD e ∧ Q (.bl (!decide (d = e))) H
theorem op_eqR (hu : X.A.units + 64 < cLine) : OpR X (compareOp .Eq) rEqR := by
  intro pins s σ H x y v u Q I rx ry h
  obtain ⟨d, e, hd, he, sd, se, q⟩ := h
  refine op_eqD hu pins s σ H x y v u Q I rx ry ⟨_, _, hd.dp, he.dp, sd, se, ?_⟩
  rw [eqv_dec]
  exact q
theorem op_neR (hu : X.A.units + 64 < cLine) : OpR X (compareOp .NotEq) rNeR := by
  intro pins s σ H x y v u Q I rx ry h
  obtain ⟨d, e, hd, he, sd, se, q⟩ := h
  refine op_neD hu pins s σ H x y v u Q I rx ry ⟨_, _, hd.dp, he.dp, sd, se, ?_⟩
  rw [eqv_dec]
  exact q
end
/-! ### values are such data -/
def ckD (d : Dt) : Bool := d.data.canLay0
def ckDs (ds : List Dt) : Bool := PyData.canLayAll0 (NestedKey.datas ds)
theorem ckDs_all : ∀ {ds : List Dt}, (∀ d ∈ ds, ckD d = true) → ckDs ds = true
  | [], _ => rfl
  | d :: ds, h => by
    show (d.data.canLay0 && PyData.canLayAll0 (NestedKey.datas ds)) = true
    rw [show d.data.canLay0 = true from h d List.mem_cons_self, show PyData.canLayAll0 (NestedKey.datas ds) = true from ckDs_all fun e he => h e (List.mem_cons_of_mem _ he)]
    rfl
mutual
theorem depth_data : ∀ d : Dt, d.data.depth = d.depth
  | .none => rfl
  | .num _ => rfl
  | .text _ => rfl
  | .tup ds => congrArg (· + 1) (depth_datas ds)
theorem depth_datas : ∀ ds : List Dt, PyData.depthAll (NestedKey.datas ds) = NestedKey.depthAll ds
  | [] => rfl
  | d :: ds => by
    show max d.data.depth (PyData.depthAll (NestedKey.datas ds)) = max d.depth (NestedKey.depthAll ds)
    rw [depth_data d, depth_datas ds]
end
theorem okD_of {d : Dt} (h : ckD d = true) (k : d.depth ≤ 64) : okD d := by
  unfold okD SeqAt.shaped
  rw [show d.data.canLay0 = true from h, depth_data, decide_eq_true k]
  rfl
theorem depth_all : ∀ {ds : List Dt} {n : Nat}, (∀ d ∈ ds, d.depth ≤ n) → NestedKey.depthAll ds ≤ n
  | [], _, _ => Nat.zero_le _
  | d :: ds, n, h => by
    show max d.depth (NestedKey.depthAll ds) ≤ n
    have h1 := h d List.mem_cons_self
    have h2 := depth_all fun e he => h e (List.mem_cons_of_mem _ he)
    omega
def Kd.depth : Kd → Nat
  | .b _ => 0
  | .tup _ => 1
  | .lst k => k.depth + 1
theorem hasB_ck {b : Bs} {d : Dt} (h : HasB b d) : ckD d = true ∧ d.depth = 0 := by
  cases b with
  | int => obtain ⟨i, rfl⟩ := h; exact ⟨rfl, rfl⟩
  | word => obtain ⟨x, rfl, ok⟩ := h; exact ⟨ok, rfl⟩
theorem all2_mem {α β : Type} {R : α → β → Prop} : ∀ {l : List α} {m : List β}, All2 R l m → ∀ b ∈ m, ∃ a, R a b
  | _, _, .nil, b, h => nomatch h
  | _, _, .cons r t, b, h => by
    rcases List.mem_cons.mp h with e | e
    · rw [e]; exact ⟨_, r⟩
    · exact all2_mem t b e
theorem hasK_ck : ∀ {k : Kd} {d : Dt}, HasK k d → ckD d = true ∧ d.depth ≤ k.depth
  | .b b, d, h => by have := hasB_ck h; exact ⟨this.1, by rw [this.2]; exact Nat.le_refl _⟩
  | .tup bs, d, h => by
    obtain ⟨ds, rfl, h2⟩ := h
    refine ⟨ckDs_all fun e he => ?_, Nat.succ_le_succ (depth_all fun e he => ?_)⟩
    · obtain ⟨b, hb⟩ := all2_mem h2 e he
      exact (hasB_ck hb).1
    · obtain ⟨b, hb⟩ := all2_mem h2 e he
      rw [(hasB_ck hb).2]
      exact Nat.le_refl _
  | .lst k, d, h => by
    obtain ⟨ds, rfl, h2⟩ := h
    refine ⟨ckDs_all fun e he => (hasK_ck (h2 e he)).1, Nat.succ_le_succ (depth_all fun e he => (hasK_ck (h2 e he)).2)⟩
theorem hasK_ok {k : Kd} {d : Dt} (h : HasK k d) (hk : k.depth ≤ 8) : okD d := by
  have := hasK_ck h
  exact okD_of this.1 (by omega)
theorem row_ok (r : Row) : okD (rowD r) := by
  refine okD_of (ckDs_all fun d hd => ?_) ?_
  · obtain ⟨i, _, rfl⟩ := List.mem_map.mp hd
    rfl
  · show NestedKey.depthAll (r.map .num) + 1 ≤ 64
    have := depth_all (ds := r.map NestedKey.num) (n := 0) fun d hd => by
      obtain ⟨i, _, rfl⟩ := List.mem_map.mp hd
      exact Nat.le_refl _
    omega
end CR

set_option Elab.async false
set_option linter.all false
set_option maxRecDepth 100000
set_option maxHeartbeats 4000000
namespace CR
open PySem PySem.Spec PyProof.Rows L2
/-! ### the lambda of a sort: (len(x[j]), x[j]) -/
/-- the key of a row, as data -/
def keyP (r : Row) : PyData := .tuple [.int r.length, .tuple (r.map .int)]
abbrev lamBody (x : Str) (j : Int) (p1 p2 p3 p4 p5 p6 p7 p8 p9 : Pos) (k1 k2 k3 : Nat) : Expr :=
  .Tuple [.Call (.Name "len" p1) [.Subscript (.Name x p2) (.Constant (.int j) k1 p3) p4] [] p5, .Subscript (.Name x p6) (.Constant (.int j) k2 p7) p8] k3 p9
theorem reads_ints {h : Heap} : ∀ {vs : List Value} {ns : List Int}, IntsAre vs ns → ReadsAll h vs (ns.map .int) []
  | _, _, .nil => .nil
  | _, _, .cons n t hi => .cons (.int _ _) (reads_ints hi)
section
variable {P : Program} {w : World} {A : Around} {s : Shared}
theorem lam_key {x q : Str} {j : Nat} {params : Arguments} {scope : Scope} {f c' t b : Addr} {pm ctv : Value} {mg : Str → Option Value} {its row : List Value} {r : Row} {p1 p2 p3 p4 p5 p6 p7 p8 p9 : Pos} {k1 k2 k3 : Nat}
    (hroom : A.depth < recursionLimit) (hb : ∃ mb, s.heap.Ns builtinsNs mb ∧ mb "len" = bootBuiltins "len") (hg : s.heap.Ns mainGlobals mg) (hm : mg "len" = none) (nl : s.heap.NoLimit)
    (hf : s.heap.get? f = some (PySem.W.kla_obj "<lambda>" q params (lamBody x j p1 p2 p3 p4 p5 p6 p7 p8 p9 k1 k2 k3) scope [] pm c' ctv)) (hcd : s.heap.CodeRec (.ref c') q)
    (hbind : bindArgs (PySem.W.kla_fn "<lambda>" q params (lamBody x j p1 p2 p3 p4 p5 p6 p7 p8 p9 k1 k2 k3) scope [] pm (.ref c') ctv) ⟨[.ref t], []⟩ = pure [(x, .ref t)])
    (sk : scope.kind = .function) (co : scope.isCoroutine = false) (gn : scope.isGenerator = false) (ncell : ∀ y ∈ scope.names, y.2 ≠ .cell) (hx : scope.names.lookup x = some .local) (hl : scope.names.lookup ("len" : Str) = some .globalImplicit)
    (hxd : (x == ("__debug__" : Str)) = false) (h63 : (j : Int) < 2 ^ 63)
    (ht : IsTup s.heap t its.toArray) (hj : its[j]? = some (.ref b)) (hr : IsTup s.heap b row.toArray) (hi : IntsAre row r) (hz : row.length ≤ sizeLine) :
    wpAny (model P w) A (call (.ref f) [.ref t]) (PySem.W.KeyPure (keyP r) s) (fun _ _ => False) s := by
  have rc : codeAny (model P w) A (.call (.ref f) ⟨[.ref t], []⟩) (fun r0 s' => ∃ u, r0 = .ok (.ret u) ∧ PySem.W.KeyPure (keyP r) s u s') s := by
    refine PySem.W.kla_callFunE hroom hf rfl co gn rfl hcd ?_
    rw [hbind]
    refine wpAny_pure (wpAny_newFunctionEnv ncell (fun y hy => by
      have e := List.mem_singleton.mp hy
      rw [e]
      exact hx) (fun h₁ hns hsb => ⟨nl.fresh _ hsb, ?_⟩) sk)
    have kp : ∀ b o, s.heap.get? b = some o → h₁.get? b = some o := fun b o e => hsb.extBut b o (Nat.ne_of_lt (Heap.lt_size e)) (Heap.get?_push_of_some _ e)
    have hns' : h₁.Ns s.heap.objs.size (fun y => [(x, Value.ref t)].lookup y) := hns
    have hlen := hi.length
    have hil : its.length ≤ its.length := Nat.le_refl _
    have hjl : j < its.length := (List.getElem?_eq_some_iff.mp hj).1
    have sub : ∀ (g : Heap) (tk : Nat) (A' : Around) (E' : Value → Shared → Prop) (Q : Value → Shared → Prop) (pa pb pc : Pos) (k : Nat), (∀ b o, h₁.get? b = some o → g.get? b = some o) →
        Q (.ref b) { s with heap := g, toks := tk + 1 } →
        wpAny (model P w) A' (eval (.Subscript (.Name x pa) (.Constant (.int j) k pb) pc) (PySem.W.envX q scope s.heap.objs.size f (.ref c') [])) Q E' { s with heap := g, toks := tk } := by
      intro g tk A' E' Q pa pb pc k kg hq
      refine Subscript_ (wpAny_Name (wpAny_loadName_local sk hx (hns'.keeps kg) (show [(x, Value.ref t)].lookup x = some (.ref t) by simp) ?_) hxd)
      refine wpAny_Constant_int ?_
      exact PyProof.Rows.item_tupleT (ht.keeps fun b o e => kg b o (kp b o e)) (by omega) h63 (PySem.StrLaws.seqIndex_nonneg (Int.ofNat_nonneg j) (by exact_mod_cast hjl)) (by simpa using hj) hq rfl
    obtain ⟨mb, hb1, hb2⟩ := hb
    refine PySem.W.kla_codeExpr ?_
    refine Tuple_ ?_
    show wpAny _ _ (spliced [(false, eval (.Call (.Name "len" p1) [.Subscript (.Name x p2) (.Constant (.int j) k1 p3) p4] [] p5) _), (false, eval (.Subscript (.Name x p6) (.Constant (.int j) k2 p7) p8) _)]) _ _ _
    refine Calls.spliced_cons ?_
    refine Call_ (Calls.Name_function_global sk hl (Calls.loadGlobal_builtin (hg.keeps kp) hm (hb1.keeps kp) (hb2.trans boot_len) ?_))
    refine PyProof.Rows.callWith_builtin1 ?_
    refine Calls.spliced_cons (sub h₁ _ _ _ _ _ _ _ _ (fun _ _ e => e) (Calls.spliced_nil ?_))
    have hr1 : IsTup h₁ b row.toArray := hr.keeps kp
    refine PyProof.Rows.len_tuple hr1 (by have := sizeLine_eq; simp only [List.size_toArray]; omega) ?_
    refine Calls.spliced_cons (sub h₁ _ _ _ _ _ _ _ _ (fun _ _ e => e) (Calls.spliced_nil ?_))
    refine wpAny_newObj_type ?_ (by show 2 ≤ sizeLine; decide)
    refine ⟨_, rfl, _, _, rfl, fun b o e => Heap.get?_push_of_some _ (kp b o e), ?_⟩
    obtain ⟨o, ho, hc, n, hd⟩ := hr1
    refine Reads.tuple (Heap.get?_push_size _ rfl) rfl rfl (as := [] ++ ([] ++ [])) (.cons ?_ (.cons (.tuple (Heap.get?_push_of_some _ ho) hc hd (by simpa using reads_ints hi)) .nil))
    rw [List.size_toArray, hlen]
    exact .int _ _
  refine wpAny_call (codeAny_mono rc fun r0 s' hq => ?_)
  obtain ⟨u, rfl, hq⟩ := hq
  exact hq
end
/-! ### the order of keys is the order of rows -/
theorem rowLt_ints : ∀ xs ys : List Int, PySem.W.rowLt (xs.map .int) (ys.map .int) = lexI xs ys
  | [], [] => lex_irrefl _
  | [], y :: ys => by
    rw [PySem.W.dataLt_ints]
    show decide (([] : List Int) < y :: ys) = true
    exact decide_eq_true (List.nil_lt_cons _ _)
  | x :: xs, [] => by
    rw [PySem.W.dataLt_ints]
    show decide (x :: xs < ([] : List Int)) = false
    exact decide_eq_false (List.not_lt_nil _)
  | x :: xs, y :: ys => by
    show PyProof.Rows.lexLt itemOrd (PySem.W.keyToksAll (.int x :: xs.map .int)) (PySem.W.keyToksAll (.int y :: ys.map .int)) = _
    rw [PySem.W.dataLt_cons (by simp [PySem.W.alike])]
    show _ = if x = y then lexI xs ys else decide (x < y)
    by_cases e : x = y
    · rw [if_pos e, if_pos (by simp [PyData.eqv, e])]
      exact rowLt_ints xs ys
    · rw [if_neg e, if_neg (by simp [PyData.eqv, e]), PySem.W.dataLt_int]
theorem lt_keyP (a b : Row) : PySem.W.dataLt (keyP a) (keyP b) = rlt a b := by
  unfold keyP rlt
  rw [PySem.W.dataLt_pair (by simp [PySem.W.alike]) (by simp [PySem.W.alike, PySem.W.alike_ints])]
  by_cases e : a.length = b.length
  · rw [if_pos e, if_pos (by simp [PyData.eqv, e])]
    split
    · rename_i q
      have q' : a = b := by
        have q1 : PyData.eqvAll (a.map .int) (b.map .int) = true := q
        have key : ∀ a b : Row, PyData.eqvAll (a.map .int) (b.map .int) = true → a = b := by
          intro a
          induction a with
          | nil => intro b h; cases b with
            | nil => rfl
            | cons _ _ => exact absurd h (by simp [PyData.eqvAll])
          | cons x a ih =>
            intro b h
            cases b with
            | nil => exact absurd h (by simp [PyData.eqvAll])
            | cons y b =>
              have h : PyData.eqvAll (.int x :: a.map .int) (.int y :: b.map .int) = true := h
              rw [PySem.W.eqv_all_cons, Bool.and_eq_true] at h
              rw [ih b h.2]
              have h1 := h.1
              simp [PyData.eqv] at h1
              rw [h1]
        exact key a b q1
      rw [q', lexI_irrefl]
    · rw [PySem.W.dataLt_tuple]
      exact rowLt_ints a b
  · rw [if_neg e, if_neg (by simp [PyData.eqv]; omega), PySem.W.dataLt_int]
    exact decide_eq_decide.mpr (by omega)
/-- the list, sorted by its rows -/
def byRow {β : Type} (row : β → Row) (bs : List β) : List β := bs.mergeSort fun a b => !rlt (row b) (row a)
theorem sorted_row {β : Type} (row : β → Row) (bs : List β) : bs.mergeSort (PySem.W.dataLe false fun b => keyP (row b)) = byRow row bs := by
  unfold byRow
  congr 1
  funext a b
  show (!PySem.W.dataLt (keyP (row b)) (keyP (row a))) = _
  rw [lt_keyP]
theorem byRow_perm {β : Type} (row : β → Row) (bs : List β) : (byRow row bs).Perm bs := List.mergeSort_perm _ _
theorem byRow_sorted {β : Type} (row : β → Row) (bs : List β) : (byRow row bs).Pairwise fun a b => rle (row a) (row b) := by
  have h := List.pairwise_mergeSort (le := fun a b => !rlt (row b) (row a)) (fun a b c h1 h2 => by
    have h1 : rlt (row b) (row a) = false := by simpa using h1
    have h2 : rlt (row c) (row b) = false := by simpa using h2
    show (!rlt (row c) (row a)) = true
    rw [show rlt (row c) (row a) = false from rle_trans (a := row a) (b := row b) (c := row c) h1 h2]
    rfl) (fun a b => by
    cases q : rlt (row b) (row a) with
    | false => rfl
    | true => rw [rlt_asymm q]; rfl) bs
  exact h.imp fun {a b} q => by simpa [rle] using q
/-! ### as a rule of the layer -/
theorem paired_each {β : Type} {R : V → β → Prop} : ∀ {xs : List V} {us : List Value} {bs : List β}, Vals xs us → All2 R xs bs → PySem.W.EachIs (fun u b => ∃ x, RelV x u ∧ R x b) us bs
  | _, _, _, .nil, .nil => .nil
  | _, _, _, .cons r t, .cons q u => .cons ⟨_, r, q⟩ (paired_each t u)
theorem each_paired {β : Type} {R : V → β → Prop} : ∀ {us : List Value} {bs : List β}, PySem.W.EachIs (fun u b => ∃ x, RelV x u ∧ R x b) us bs → ∃ xs, Vals xs us ∧ All2 R xs bs
  | _, _, .nil => ⟨[], .nil, .nil⟩
  | _, _, .cons ⟨x, r, q⟩ t => by
    obtain ⟨xs, h1, h2⟩ := each_paired t
    exact ⟨x :: xs, .cons r h1, .cons q h2⟩
/-- an item: a tuple, a row at place j -/
def ItemR (H : Hp) (j : Nat) (x : V) (r : Row) : Prop := ∃ t its b, x = .ref t ∧ H t = some (.tup its) ∧ its[j]? = some (.ref b) ∧ H b = some (.tup (r.map V.int))
theorem ItemR.tk {H H' : Hp} (k : TK H H') {j : Nat} {x : V} {r : Row} (h : ItemR H j x r) : ItemR H' j x r := by
  obtain ⟨t, its, b, h1, h2, h3, h4⟩ := h
  exact ⟨t, its, b, h1, k _ _ h2, h3, k _ _ h4⟩
def tSortR (K : PySem.W.Frag) (T : List (Addr × Str)) (j : Nat) (te : TE) : TE := fun σ H Q => te σ H fun v H1 => ∃ (a : Addr) (xs : List V) (β : Type) (bs : List β) (row : β → Row) (R : V → β → Prop),
  v = .ref a ∧ SqL K H1 a xs ∧ All2 R xs bs ∧ (∀ x b, R x b → ItemR H1 j x (row b)) ∧ LamX.Tabs T H1 ∧
  ∀ (H2 : Hp) (ys : List V) (p : Addr), LamX.ExtN H1 H2 → LamX.Tabs T H2 → H2 p = none → All2 R ys (byRow row bs) → Q (.ref p) (upd H2 p (.lst ys))
section
variable {X : Cx}
theorem ints_of : ∀ {ns : List Int} {us : List Value}, Vals (ns.map V.int) us → IntsAre us ns
  | [], _, .nil => .nil
  | n :: ns, _, .cons r t => by
    obtain ⟨t', rfl⟩ := r
    exact .cons _ _ (ints_of t)
theorem pe_sortR {T : List (Addr × Str)} {x : Str} {j k : Nat} {c P : Addr} {e : Expr} {te : TE} {params : Arguments} {scope : Scope} {p pos kpos lpos p1 p2 p3 p4 p5 p6 p7 p8 p9 : Pos} {k1 k2 k3 : Nat}
    (he : PE X e te) (hg : Gl X "sorted") (hm : X.mg "sorted" = none) (hml : X.mg "len" = none) (hr : Room (k + 1) X.A)
    (TB : LamX.TabB X.base X.mg c P) (hcode : X.env.code = .ref c) (hmT : (P, X.env.qual ++ "<lambda>") ∈ T) (hu : ∀ p ∈ T, p.1 = P → p.2 = X.env.qual ++ "<lambda>") (hdef : defaultsOf params X.env = ([], []))
    (hclo : cloFrom X.env.cells scope.names [] = []) (hfree : ∀ y ∈ scope.names, y.2 ≠ .free)
    (hbind : ∀ (q : Str) (t : Addr) (pm cv ctv : Value), bindArgs (PySem.W.kla_fn "<lambda>" q params (lamBody x j p1 p2 p3 p4 p5 p6 p7 p8 p9 k1 k2 k3) scope [] pm cv ctv) ⟨[.ref t], []⟩ = pure [(x, .ref t)])
    (sk : scope.kind = .function) (co : scope.isCoroutine = false) (gn : scope.isGenerator = false) (ncell : ∀ y ∈ scope.names, y.2 ≠ .cell) (hx : scope.names.lookup x = some .local) (hl : scope.names.lookup ("len" : Str) = some .globalImplicit)
    (hxd : (x == ("__debug__" : Str)) = false) (h63 : (j : Int) < 2 ^ 63)
    (hee : backTo pos (starEach [e] X.env) = [(false, eval e X.env)] := by rfl) (hpl : (backTo pos (starEach [e] X.env)).any (·.1) = false := by rfl) :
    PE X (.Call (.Name "sorted" p) [e] [⟨some "key", .Lambda params (lamBody x j p1 p2 p3 p4 p5 p6 p7 p8 p9 k1 k2 k3) scope lpos, kpos⟩] pos) (tSortR X.K T j te) := by
  refine ⟨fun pins s σ H Q I h => ?_⟩
  refine wpAny_Call_Name_kw (ld_blt I hg hm boot_sorted ?_ (by decide))
  refine PyProof.Rows.callWith_kw ?_ hee hpl
  rw [hee]
  refine Calls.spliced_cons (thn (he.run pins s σ H _ I h) fun u s1 ⟨v, H1, I1, r1, q1⟩ => Calls.spliced_nil ?_)
  obtain ⟨a, xs, β, bs, row, R, rfl, hs, h2, hR, hT, q⟩ := q1
  cases r1
  show wpAny _ _ (evalAll [do let v ← eval (.Lambda params (lamBody x j p1 p2 p3 p4 p5 p6 p7 p8 p9 k1 k2 k3) scope lpos) X.env; standAt pos; pure v]) _ _ s1
  refine wpAny_evalAll_cons (wpAny_bind (LamX.lam_make2 I1 TB hcode hmT hu hT hdef (fun y hy e => absurd e (hfree y hy)) fun f c' pm ctv H2 s2 I2 eN T2 hf hfn hfr hco => wpAny_bind (wpAny_standAt (wpAny_pure (wpAny_evalAll_nil ?_)))))
  show wpAny (model X.prog X.w) X.A (call (.builtin "sorted") [.ref a] [(Str.ofString "key", .ref f)]) _ _ s2
  rw [hclo] at hf
  have hs2 : SqL X.K H2 a xs := by
    rcases hs with hs | hs
    · rcases hs with hs | ⟨o, hs⟩
      · exact .inl (.inl (eN _ _ hs fun _ z => by cases z))
      · exact .inl (.inr ⟨o, eN _ _ hs fun _ z => by cases z⟩)
    · exact .inr hs
  obtain ⟨its, rv, pl, hz⟩ := I2.list hs2
  have hbl : bs.length = xs.length := h2.length.symm
  have hk2 : TK H1 H2 := TK.of eN
  obtain ⟨⟨oc, vs, tq, hoc, hdc, hvc⟩, _, _⟩ := I2.hok c' _ hco
  have hcr : s2.heap.CodeRec (.ref c') (X.env.qual ++ "<lambda>") := ⟨c', oc, vs, tq, rfl, hoc, hdc, hvc⟩
  obtain ⟨mb, hb1, hb2⟩ := I2.mod.blt
  refine PySem.W.sorted_key_data (β := β) (R := fun u b => ∃ x, RelV x u ∧ R x b) (b := false) (fun b => keyP (row b)) pl.isList (paired_each rv h2) (PySem.W.AllAlike.of fun b b' => by
      unfold keyP
      simp [PySem.W.alike, PySem.W.alikeAll, PySem.W.alike_ints]) (PySem.W.Sortable.tuples fun b => ⟨_, _, rfl⟩) (by omega) (fun b hb => ?_) (PyProof.Rows.ksk_s1 _ _) (fun _ => PyProof.Rows.ksk_l1 _ _) (fun _ => PyProof.Rows.ksk_t1 _ _) (fun u b hub hb h tk kh => ?_) fun out cc h' tk kh _ hget hlen heach => ?_
  · have := hr.un
    unfold keyP
    rw [PyData.depth, PyData.depthAll, PyData.depthAll, PyData.depth, PyData.depthAll, PyData.depth, PySem.W.depth_ints]
    omega
  · obtain ⟨x0, rx, hx0⟩ := hub
    obtain ⟨t, its1, b1, rfl, ht, hj, hb1'⟩ := hR _ _ hx0
    cases rx
    obtain ⟨_, us1, rv1, pt⟩ := I2.hok t _ (hk2 _ _ ht)
    obtain ⟨hz2, us2, rv2, pb⟩ := I2.hok b1 _ (hk2 _ _ hb1')
    obtain ⟨u1, hu1, ru1⟩ := rv1.get hj
    cases ru1
    have hi := ints_of rv2
    refine lam_key (s := { s2 with heap := h, toks := tk }) (A := X.A.in1.in1) ?_ ⟨mb, (hb1.keeps I2.bk).keeps kh, hb2 _ (by decide)⟩ ((I2.mod.glob.keeps I2.bk).keeps kh) hml (I2.nolimit.keeps kh) (kh _ _ hf) (hcr.keeps kh) (hbind _ _ _ _ _) sk co gn ncell hx hl hxd h63 (pt.keeps kh) hu1 (pb.keeps kh) hi ?_
    · have := hr.dp
      show X.A.depth < recursionLimit
      omega
    · rw [← rv2.length]
      exact hz2
  · rw [sorted_row] at heach
    obtain ⟨ys, hy1, hy2⟩ := each_paired heach
    have hfr : s2.heap.objs.size ≤ s2.heap.objs.size + 1 := Nat.le_succ _
    have hn2 : H2 (s2.heap.objs.size + 1) = none := I2.hok.fresh hfr
    refine ⟨.ref (s2.heap.objs.size + 1), upd H2 (s2.heap.objs.size + 1) (.lst ys), I2.laid (t' := tk) kh hfr ⟨?_, out, cc, hy1, hget⟩, rfl, q H2 ys _ eN T2 hn2 hy2⟩
    rw [hy1.length, hlen]
    omega
end
end CR

set_option Elab.async false
set_option linter.all false
set_option maxRecDepth 100000
set_option maxHeartbeats 4000000
namespace CR
open PySem PySem.Spec PyProof.Rows L2
section
variable {X : Cx}
/-! ### keys of rows: their order, the less of two -/
/-- x is (len(r), r) -/
def KeyAt (H : Hp) (x : V) (r : Row) : Prop := ∃ t b, x = .ref t ∧ H t = some (.tup [.int r.length, .ref b]) ∧ H b = some (.tup (r.map V.int))
theorem KeyAt.rp {H : Hp} {x : V} {r : Row} (h : KeyAt H x r) : Rp H (.tup [.num r.length, rowD r]) x := by
  obtain ⟨t, b, rfl, h1, h2⟩ := h
  exact ⟨t, _, rfl, h1, _, _, rfl, rfl, _, _, rfl, Rp.row.mpr ⟨b, rfl, h2⟩, rfl⟩
theorem keyData : ∀ r : Row, (NestedKey.tup [.num r.length, rowD r]).data = keyP r := fun r => by
  have key : ∀ r : Row, NestedKey.datas (r.map NestedKey.num) = r.map PyData.int := by
    intro r
    induction r with
    | nil => rfl
    | cons x r ih =>
      show PyData.int x :: NestedKey.datas (r.map NestedKey.num) = _
      rw [ih]
      rfl
  show PyData.tuple [.int r.length, .tuple (NestedKey.datas (r.map NestedKey.num))] = _
  rw [key]
  rfl
theorem KeyAt.dp {K : PySem.W.Frag} {H : Hp} {x : V} {r : Row} (h : KeyAt H x r) : Dp K H x (keyP r) := by
  rw [← keyData]
  exact h.rp.dp
theorem keyP_depth (r : Row) : (keyP r).depth = 2 := by
  unfold keyP
  rw [PyData.depth, PyData.depthAll, PyData.depthAll, PyData.depth, PyData.depthAll, PyData.depth, PySem.W.depth_ints]
  rfl
theorem keyP_alike (a b : Row) : PySem.W.alike (keyP a) (keyP b) = true := by
  unfold keyP
  simp [PySem.W.alike, PySem.W.alikeAll, PySem.W.alike_ints]
def rLtK : R2 := fun x y H Q => ∃ a b, KeyAt H x a ∧ KeyAt H y b ∧ Q (.bl (rlt a b)) H
theorem op_ltK (hu : X.A.units + 64 < cLine) : OpR X (compareOp .Lt) rLtK := by
  intro pins s σ H x y v u Q I rx ry h
  obtain ⟨a, b, ha, hb, q⟩ := h
  obtain ⟨as, r1⟩ := Dp.reads I _ x v ha.dp rx
  obtain ⟨bs, r2⟩ := Dp.reads I _ y u hb.dp ry
  refine PySem.W.lt_data r1 r2 (keyP_alike a b) (fun z => by cases z) ?_ ?_
  · rw [keyP_depth, keyP_depth]
    omega
  · rw [lt_keyP]
    exact ⟨.bl _, H, I, rfl, q⟩
/-- min([k1, k2]) -/
def rMinK (K : PySem.W.Frag) : List V → Hp → VK → Prop := fun vs H Q => ∃ a x y r l, vs = [.ref a] ∧ SqL K H a [x, y] ∧ KeyAt H x r ∧ KeyAt H y l ∧ ∀ z, KeyAt H z (rmin r l) → Q z H
theorem cr_minK (hc : X.calm = true) (hu : X.A.units + 64 < cLine) : CallR X (.builtin "min") (rMinK X.K) := by
  intro pins s σ H vs us Q I r h
  obtain ⟨a, x, y, r1, l1, rfl, hs, hx, hy, q⟩ := h
  obtain ⟨u, rfl, ru⟩ := vals1 r
  obtain rfl : u = Value.ref a := ru
  obtain ⟨its, rv, hl, hz⟩ := I.list hs
  obtain ⟨v1, v2, rfl, rx, ry⟩ := vals2 rv
  obtain ⟨as, h1⟩ := Dp.reads I _ x v1 hx.dp rx
  obtain ⟨bs, h2⟩ := Dp.reads I _ y v2 hy.dp ry
  have hm : PySem.W.minD (keyP r1) [keyP l1] = keyP (rmin r1 l1) := by
    show (if PySem.W.dataLt (keyP l1) (keyP r1) then keyP l1 else keyP r1) = _
    rw [lt_keyP]
    unfold rmin
    split <;> rfl
  refine PySem.W.min_list_data (I.ok.hd hc) hl.isList (x := keyP r1) (xs := [keyP l1]) (.cons h1 (.cons h2 .nil)) ?_ ?_ fun i v h' tk cs hv hr hk => ?_
  · refine ⟨fun d hd e he => ?_, fun d hd => ?_⟩
    · simp only [List.mem_cons, List.not_mem_nil, or_false] at hd he
      rcases hd with rfl | rfl <;> rcases he with rfl | rfl <;> exact keyP_alike _ _
    · simp only [List.mem_cons, List.not_mem_nil, or_false] at hd
      rcases hd with rfl | rfl <;> exact fun z => by cases z
  · rw [PyData.depthAll, PyData.depthAll, keyP_depth, keyP_depth, PyData.depthAll]
    omega
  · have I1 : Inv X pins σ H { s with heap := h', toks := tk } := I.kept hk
    rw [hm] at hr
    have fin : ∀ (z : V) (r0 : Row), RelV z v → KeyAt H z r0 → EP X pins σ Q v { s with heap := h', toks := tk } := fun z r0 rz hz0 => by
      obtain ⟨ds, h3⟩ := Dp.reads I1 _ z v hz0.dp rz
      have e := PySem.W.alike_unique _ _ _ _ _ (keyP_alike _ _) h3 hr
      have e2 : r0 = rmin r1 l1 := by
        unfold keyP at e
        injection e with e
        injection e with e1 e2
        injection e2 with e2 _
        injection e2 with e2
        exact (List.map_inj_right fun x y z => by injection z).mp e2
      rw [e2] at hz0
      exact ⟨z, H, I1, rz, q z hz0⟩
    match i, hv with
    | 0, hv => 
      have e : v1 = v := by simpa using hv
      subst e
      exact fin x r1 rx hx
    | 1, hv =>
      have e : v2 = v := by simpa using hv
      subst e
      exact fin y l1 ry hy
    | i + 2, hv => simp at hv
/-! ### x not in t, of data -/
def rNotInR : R2 := fun x y H Q => ∃ d ds, Rp H d x ∧ Rp H (.tup ds) y ∧ okD d ∧ (∀ e ∈ ds, okD e) ∧ Q (.bl (!ds.any fun z => decide (z = d))) H
theorem canLay_all {ds : List Dt} (h : ∀ e ∈ ds, okD e) : PyData.canLayAll0 (NestedKey.datas ds) = true := ckDs_all fun e he => SeqAt.canLay_of_shaped (h e he)
theorem any_datas (d : Dt) : ∀ ds : List Dt, ((NestedKey.datas ds).any fun z => PyData.eqv z d.data) = ds.any fun z => decide (z = d)
  | [] => rfl
  | e :: ds => by
    show (PyData.eqv e.data d.data || (NestedKey.datas ds).any fun z => PyData.eqv z d.data) = _
    rw [eqv_dec, any_datas d ds]
    rfl
theorem op_notInR (hu : X.A.units + 65 < cLine) : OpR X (compareOp .NotIn) rNotInR := by
  intro pins s σ H x y v u Q I rx ry h
  obtain ⟨d, ds, hd, he, sd, se, q⟩ := h
  obtain ⟨as, r1⟩ := Dp.reads I d.data x v hd.dp rx
  obtain ⟨bs, r2⟩ := Dp.reads I (.tuple (NestedKey.datas ds)) y u he.dp ry
  refine SeqAt.notIn_tuple_reads r2 r1 (canLay_all se) (SeqAt.canLay_of_shaped sd) (room_in_shaped sd hu) ⟨.bl _, H, I, rfl, ?_⟩
  rw [any_datas]
  exact q
/-! ### sum(t) -/
def rSumT (K : PySem.W.Frag) : List V → Hp → VK → Prop := fun vs H Q => ∃ (a : Addr) (ns : List Int), vs = [V.ref a] ∧ SqT K H a (ns.map V.int) ∧ Q (.int ns.sum) H
theorem cr_sumT (hc : X.calm = true) : CallR X (.builtin "sum") (rSumT X.K) := by
  intro pins s σ H vs us Q I r h
  obtain ⟨a, ns, rfl, hs, q⟩ := h
  obtain ⟨its, rv, hl, hz⟩ := I.tuple hs
  obtain ⟨u, rfl, ru⟩ := vals1 r
  obtain rfl : u = Value.ref a := ru
  have hi := ints_of rv
  obtain ⟨xs, e⟩ := hi.allInts.items
  have hn : numsOf (intItems xs).toList = ns := by rw [← e]; exact hi.numsOf
  rw [nums_intItems] at hn
  have hl' : s.heap.IsTuple a (intItems xs) := by rw [← e]; exact hl
  refine PySem.W.ktm_sumG (I.ok.hd hc) hl' fun h' tk t' hk => ?_
  rw [preSum_eq, List.take_of_length_le (by simp), hn]
  exact ⟨.int ns.sum, H, I.kept hk, ⟨_, rfl⟩, q⟩
/-! ### t[::-1] -/
end
section
variable {prog : Program} {w : World} {A : Around} {E : Value → Shared → Prop} {s : Shared}
theorem pick_rev (xs : Array Value) : ((List.range xs.size).filterMap fun (m : Nat) => xs[(((xs.size : Int) - 1) + (m : Int) * (-1)).toNat]?).toArray = xs.toList.reverse.toArray := by
  have e : (List.range xs.size).filterMap (fun (m : Nat) => xs[(((xs.size : Int) - 1) + (m : Int) * (-1)).toNat]?) = ((List.range xs.size).map fun k => xs.size - 1 - k).filterMap (xs[·]?) := by
    rw [List.filterMap_map]
    have key : ∀ l : List Nat, (∀ m ∈ l, m < xs.size) → l.filterMap (fun (m : Nat) => xs[(((xs.size : Int) - 1) + (m : Int) * (-1)).toNat]?) = l.filterMap ((xs[·]?) ∘ fun k => xs.size - 1 - k) := by
      intro l
      induction l with
      | nil => intro _; rfl
      | cons m l ih =>
        intro h
        have hm := h m List.mem_cons_self
        have e : (((xs.size : Int) - 1) + (m : Int) * (-1)).toNat = xs.size - 1 - m := by omega
        rw [List.filterMap_cons, List.filterMap_cons, ih fun k hk => h k (List.mem_cons_of_mem _ hk), e]
        rfl
    exact key _ fun m hm => List.mem_range.mp hm
  rw [e, PySem.W.krv_range, List.filterMap_reverse, PySem.W.krv_all]
theorem getItem_tuple_rev {t sl : Addr} {items : Array Value} {vs : Value} {Q : Value → Shared → Prop} (ht : IsTup s.heap t items) (hs : s.heap.IsSliceOf sl .none .none vs) (ps : IsPart vs (some (-1)))
    (h : Q (.ref s.heap.objs.size) { s with heap := s.heap.push { cls := .type "tuple", data := .seq items.toList.reverse.toArray } })
    (hsz : items.size ≤ sizeLine) : wpAny (model prog w) A (getItem (.ref t) (.ref sl)) Q E s := by
  have htake : sizeOk (.seq items.toList.reverse.toArray) := by
    show items.toList.reverse.toArray.size ≤ sizeLine
    rw [List.size_toArray, List.length_reverse, Array.length_toList]
    exact hsz
  obtain ⟨os, hos, hcs, hds⟩ := id hs
  have hTs : s.TypeIs (.ref sl) "slice" := ⟨os, hos, hcs⟩
  unfold getItem
  try with_reducible refine wpAny_holding ?_
  first | refine wpAny_bind (wpAny_pure ?_) | skip
  refine wpAny_bind (wpAny_sequenceKey ht.typeIs (by decide) ?_)
  refine wpAny_bind (wpAny_callSpecial?_slot (name := Str.ofString "__getitem__") ht.typeIs PyProof.Rows.slot_tuple_getitem
    (wpAny_call_entry PyProof.Rows.slot_tuple_getitem ht.typeIs entry_tuple_getitem ?_ (args_tuple_getitem _ _)))
  show wpAny _ _ (Builtin.Tuple.tupleItemsOf (.ref t) >>= _) _ _ s
  refine wpAny_bind (tupleItemsOf_ ht ?_)
  refine wpAny_bind (wpAny_typeOf hTs ?_)
  rw [if_pos (by decide)]
  have app : ∀ {Q : Int × Int × Nat → Shared → Prop} {A : Around} {E : Value → Shared → Prop}, Q ((items.size : Int) - 1, -1, items.size) s → wpAny (model prog w) A (Builtin.Slice.sliceApplied (.ref sl) (pure (items.size : Int))) Q E s := by
    intro Q A E hq
    unfold Builtin.Slice.sliceApplied Builtin.Slice.sliceFields
    refine wpAny_bind (wpAny_bind (wpAny_field hos hds (x := .none) rfl (wpAny_bind (wpAny_field hos hds (x := .none) rfl (wpAny_bind (wpAny_field hos hds (x := vs) rfl (wpAny_pure ?_)))))))
    refine wpAny_bind (HT.slicePart_ ps ?_)
    show wpAny _ _ (if ((-1 : Int) == 0) = true then _ else _) _ _ s
    rw [if_neg (by decide)]
    refine wpAny_bind (HT.slicePart_ .none (wpAny_bind (HT.slicePart_ .none (wpAny_bind (wpAny_pure ?_)))))
    show wpAny _ _ (match Builtin.Slice.sliceAdjust none none (-1) (items.size : Int) with | (lo, hi) => pure (lo, (-1 : Int), Builtin.Slice.slicePlaces lo hi (-1))) _ _ s
    have e1 : Builtin.Slice.sliceAdjust none none (-1) (items.size : Int) = ((items.size : Int) - 1, -1) := by
      unfold Builtin.Slice.sliceAdjust
      simp
    rw [e1]
    have e2 : Builtin.Slice.slicePlaces ((items.size : Int) - 1) (-1) (-1) = items.size := by
      unfold Builtin.Slice.slicePlaces
      simp
      omega
    show wpAny _ _ (pure ((items.size : Int) - 1, (-1 : Int), Builtin.Slice.slicePlaces ((items.size : Int) - 1) (-1) (-1))) _ _ s
    rw [e2]
    exact wpAny_pure hq
  refine wpAny_bind (app ?_)
  show wpAny _ _ (if (((items.size : Int) - 1) == 0 && (-1 : Int) == 1 && items.size == items.size) = true then _ else _) _ _ s
  rw [if_neg (by simp)]
  rw [pick_rev]
  first
    | exact wpAny_bind (m := Builtin.Tuple.tupleExact _) (wpAny_newObj_type (wpAny_pure ⟨_, rfl, wpAny_pure h⟩) htake)
    | exact wpAny_bind (m := Builtin.Tuple.tupleExact _) (wpAny_newObj_type (wpAny_bind (wpAny_pure (wpAny_pure ⟨_, rfl, wpAny_pure h⟩))) htake)
    | exact wpAny_bind (wpAny_bind (m := Builtin.Tuple.tupleExact _) (wpAny_newObj_type (wpAny_pure (wpAny_pure ⟨_, rfl, wpAny_pure h⟩)) htake))
    | exact wpAny_bind (wpAny_bind (m := Builtin.Tuple.tupleExact _) (wpAny_newObj_type (wpAny_pure ⟨_, rfl, wpAny_pure h⟩) htake))
end
section
variable {X : Cx}
def tRevT (K : PySem.W.Frag) (te : TE) : TE := fun σ H Q => te σ H fun x H1 => ∃ a xs, x = .ref a ∧ SqT K H1 a xs ∧ ∀ p, H1 p = none → Q (.ref p) (upd H1 p (.tup xs.reverse))
theorem pe_revT {e : Expr} {te : TE} {k : Nat} {p1 p2 p3 pos : Pos} (he : PE X e te) : PE X (.Subscript e (.Slice none none (some (.UnaryOp .USub (.Constant (.int 1) k p1) p2)) p3) pos) (tRevT X.K te) := by
  refine ⟨fun pins s σ H Q I h => ?_⟩
  refine Subscript_ (thn (he.run pins s σ H _ I h) fun v s1 ⟨x, H1, I1, r1, q1⟩ => ?_)
  obtain ⟨a, xs, ex, hx, q⟩ := q1
  subst ex
  cases r1
  have hst : PO X (some (.UnaryOp .USub (.Constant (.int 1) k p1) p2)) (tPart (tUn (rU fun i => .int (-i)) (tC (.int 1)))) := po_some (pe_un un_neg pe_int)
  refine wpAny_Slice ?_
  rw [evalPart_none]
  refine wpAny_pure (wpAny_pure ?_)
  refine thn (hst.run pins s1 σ H1 (fun o H4 => o = some (-1) ∧ H4 = H1) I1 ⟨1, rfl, -1, rfl, rfl, rfl⟩) fun vs s4 ⟨o, H4, I4, ps, eo, e4⟩ => ?_
  subst eo e4
  have I5 : Inv X pins σ H4 { s4 with heap := s4.heap.push { cls := .type "slice", data := .fields #[.none, .none, vs] } } := I4.kept (t' := s4.toks) fun b ob q => Heap.get?_push_of_some _ q
  obtain ⟨its, r, ht, hz⟩ := I5.tuple hx
  have hlen := r.length
  show wpAny (model X.prog X.w) X.A (subscriptTail e (.Slice none none (some (.UnaryOp .USub (.Constant (.int 1) k p1) p2)) p3) (.ref a) (.ref s4.heap.objs.size)) (EP X pins σ Q) X.xe { s4 with heap := s4.heap.push { cls := .type "slice", data := .fields #[.none, .none, vs] } }
  refine tail_any (ops := [.ref a, .ref s4.heap.objs.size]) ht.typeIs PyProof.Rows.slot_tuple_getitem.lookup ?_ (by with_unfolding_all rfl)
  refine getItem_tuple_rev ht (Heap.IsSliceOf.new _ .none .none vs) ps ?_ (by rw [List.size_toArray]; omega)
  refine ⟨.ref _, _, I5.laid (t' := s4.toks) (o := .tup xs.reverse) (fun b ob q => Heap.get?_push_of_some _ q) (Nat.le_refl _) ?_, rfl, q _ (I5.hok.fresh (Nat.le_refl _))⟩
  exact ⟨by rw [List.length_reverse]; exact hz, _, r.reverse, IsTup.new _ _⟩
end
/-! ### sorted(t), of numbers or of texts -/
section
variable {prog : Program} {w : World} {A : Around} {E : Value → Shared → Prop} {s : Shared}
theorem collect_tup {l : Addr} {vs : List Value} {Q : List Value → Shared → Prop} (hl : IsTup s.heap l vs.toArray)
    (h : Q vs { s with heap := (s.heap.push (seqObj "list" #[] 0)).update s.heap.objs.size (Obj.mapSeq (· ++ vs.toArray)) }) (hsz : vs.length ≤ sizeLine) :
    wpAny (model prog w) A (collect (.ref l)) Q E s := by
  obtain ⟨o, ho, hc, n, hd⟩ := id hl
  unfold collect
  refine wpAny_bind (wpAny_runValue (codeAny_builtin entry_proto_collect' ?_))
  show wpAny _ _ (do again (.builtin "list.__iadd__" ⟨[← newList [], .ref l], []⟩)) _ _ s
  refine wpAny_bind (wpAny_newList (wpAny_pure ⟨Code.quiet_builtin _ (by decide +kernel), codeAny_builtin entry_list_iadd' ?_⟩))
  show wpAny _ _ (Builtin.List.listExtendWith (.ref s.heap.objs.size) (.ref l) (.ref s.heap.objs.size)) _ _ { s with heap := s.heap.push (seqObj "list" #[] 0) }
  unfold Builtin.List.listExtendWith
  have ho' : (s.heap.push (seqObj "list" #[] 0)).get? l = some o := Heap.get?_push_of_some _ ho
  refine wpAny_bind (wpAny_typeOf (T := "tuple") ⟨o, ho', hc⟩ ?_)
  have ht : (Value.type "tuple" == Value.type "tuple") = true := by rfl
  rw [if_pos (by rw [ht]; simp)]
  refine wpAny_bind (listItems_at ho' hd ?_)
  refine wpAny_bind (listItems_at (xs := #[]) (n := 0) (Heap.get?_push_size _ rfl) rfl ?_)
  rw [if_neg (by simp)]
  refine wpAny_bind (listUpdate_at (xs := #[]) (n := 0) (Heap.get?_push_size _ rfl) rfl ?_ (Nat.zero_le _) (by show (#[] ++ vs.toArray).size ≤ sizeLine + 1; simp only [Array.size_append, List.size_toArray, List.length_nil]; omega))
  refine wpAny_pure ?_
  show wpAny (model prog w) A (do
      let o ← load s.heap.objs.size
      match o.data with
      | .seq xs _ => pure xs.toList
      | _ => unsupported "internal:collect") Q E { s with heap := (s.heap.push (seqObj "list" #[] 0)).update s.heap.objs.size (Obj.mapSeq (· ++ vs.toArray)) }
  refine wpAny_bind (wpAny_load (get?_update_seq (Heap.get?_push_size _ rfl) _) ?_)
  show wpAny _ _ (pure ((#[] : Array Value) ++ vs.toArray).toList) Q E _
  rw [show ((#[] : Array Value) ++ vs.toArray).toList = vs by simp]
  exact wpAny_pure h
theorem sorted_tup_data {β : Type} {vs : List Value} {bs : List β} {enc : β → PyData} {R : Value → β → Prop} {l : Addr} {Q : Value → Shared → Prop} (hl : IsTup s.heap l vs.toArray) (e : PySem.W.EachIs R vs bs) (er : PySem.W.EachIs (fun v b => Reads s.heap v (enc b) []) vs bs)
    (hal : PySem.W.AllAlike (bs.map enc)) (hk : PySem.W.Sortable (bs.map enc)) (hL : bs.length ≤ sizeLine)
    (hu : ∀ b, b ∈ bs → A.units + 3 + (enc b).depth < cLine)
    (h : ∀ (out : List Value) (h' : Heap) (n : Nat), (∀ b o, s.heap.get? b = some o → h'.get? b = some o) → h'.get? (s.heap.objs.size + 1) = some (seqObj "list" out.toArray n) → out.length = bs.length → PySem.W.EachIs R out (bs.mergeSort (PySem.W.dataLe false enc)) → Q (.ref (s.heap.objs.size + 1)) { s with heap := h' }) :
    wpAny (model prog w) A (call (.builtin "sorted") [.ref l]) Q E s := by
  have hz : vs.length ≤ sizeLine := by rw [e.length]; exact hL
  refine Calls.call_function_entry kind_sorted plain_sorted entry_sorted (args_sorted1 _) ?_
  unfold Builtin.«sorted»
  refine wpAny_bind (m := checkCount "sorted" 1 1 _) (wpAny_pure ?_)
  refine wpAny_bind (collect_tup hl ?_ hz)
  refine wpAny_bind (wpAny_newList ?_ hz)
  have hsz : ((s.heap.push (seqObj "list" #[] 0)).update s.heap.objs.size (Obj.mapSeq (· ++ vs.toArray))).objs.size = s.heap.objs.size + 1 := by
    rw [Heap.size_update, size_push']
  show wpAny _ _ _ _ _ { s with heap := PySem.W.copyHeap s.heap vs }
  rw [hsz]
  refine wpAny_bind (wpAny_holding ?_)
  refine PySem.W.list_sort_data (s := { s with heap := PySem.W.copyHeap s.heap vs }) (PySem.W.copyHeap_at s.heap vs) e (er.mono fun v b r => ⟨[], PyProof.Rows.Reads.keeps (fun _ _ q => PySem.W.copyHeap_old q) r, by simp⟩) hal hk hL (fun b hb => by
    show A.units + 1 + 1 + (enc b).depth < cLine
    have := hu b hb
    omega) fun out hlen heach => ?_
  obtain ⟨n, hn⟩ := PyProof.Rows.sortedHeap_at (vs := vs) (out := out.toArray) (PySem.W.copyHeap_at s.heap vs)
  refine wpAny_pure ⟨_, rfl, h out _ n (fun b o q => ?_) hn hlen heach⟩
  rw [PyProof.Rows.sortedHeap_old (Nat.ne_of_lt (Nat.lt_succ_of_lt (Heap.lt_size q))) (Heap.lt_size (PySem.W.copyHeap_old q))]
  exact PySem.W.copyHeap_old q
end
/-- all numbers, or all texts -/
def Flat (ds : List Dt) : Prop := (∃ ns : List Int, ds = ns.map .num) ∨ ∃ xs : List Str, ds = xs.map .text
theorem sort_ints (ns : List Int) : sortD (ns.map .num) = (ns.mergeSort fun a b => decide (a ≤ b)).map .num := by
  unfold sortD
  rw [if_pos (by rw [List.all_map]; exact List.all_eq_true.mpr fun _ _ => rfl), List.map_map]
  have e : (numD ∘ NestedKey.num) = id := rfl
  rw [e, List.map_id]
theorem sort_strs (xs : List Str) : sortD (xs.map .text) = (xs.mergeSort leStr).map .text := by
  have e : (strD ∘ NestedKey.text) = id := rfl
  unfold sortD
  cases xs with
  | nil => simp
  | cons x xs =>
    rw [if_neg (by simp [isNum]), List.map_map, e, List.map_id]
theorem alike_str (a b : Str) : PySem.W.alike (.str a) (.str b) = true := by simp [PySem.W.alike]
theorem alike_int (a b : Int) : PySem.W.alike (.int a) (.int b) = true := by simp [PySem.W.alike]
section
variable {X : Cx}
theorem each_int {vs : List Value} {ns : List Int} (r : Vals (ns.map V.int) vs) : PySem.W.EachIs (fun v n => RelV (V.int n) v) vs ns := by
  induction ns generalizing vs with
  | nil => cases r; exact .nil
  | cons n ns ih => cases r with
    | cons r t => exact .cons r (ih t)
theorem each_str {vs : List Value} {ns : List Str} (r : Vals (ns.map V.str) vs) : PySem.W.EachIs (fun v n => RelV (V.str n) v) vs ns := by
  induction ns generalizing vs with
  | nil => cases r; exact .nil
  | cons n ns ih => cases r with
    | cons r t => exact .cons r (ih t)
theorem each_int_back {vs : List Value} {ns : List Int} (r : PySem.W.EachIs (fun v n => RelV (V.int n) v) vs ns) : Vals (ns.map V.int) vs := by
  induction r with
  | nil => exact .nil
  | cons r _ ih => exact .cons r ih
theorem each_str_back {vs : List Value} {ns : List Str} (r : PySem.W.EachIs (fun v n => RelV (V.str n) v) vs ns) : Vals (ns.map V.str) vs := by
  induction r with
  | nil => exact .nil
  | cons r _ ih => exact .cons r ih
def rSortT : List V → Hp → VK → Prop := fun vs H Q => ∃ (a : Addr) (ds : List Dt) (xs : List V), vs = [V.ref a] ∧ H a = some (.tup xs) ∧ RpA H ds xs ∧ Flat ds ∧ ∀ (ys : List V) (p : Addr), RpA H (sortD ds) ys → H p = none → Q (.ref p) (upd H p (.lst ys))
theorem cr_sortT (hu : X.A.units + 64 < cLine) : CallR X (.builtin "sorted") rSortT := by
  intro pins s σ H vs us Q I r h
  obtain ⟨a, ds, xs, rfl, ha, hx, hf, q⟩ := h
  obtain ⟨u, rfl, ru⟩ := vals1 r
  obtain rfl : u = Value.ref a := ru
  obtain ⟨its, rv, hl, hz⟩ := I.tuple (SqT.of ha)
  rcases hf with ⟨ns, rfl⟩ | ⟨ns, rfl⟩
  · rw [RpA.ints hx] at rv hz
    have hL : ns.length ≤ sizeLine := by simpa using hz
    have he := each_int rv
    refine sorted_tup_data (enc := fun n : Int => PyData.int n) (bs := ns) hl he (he.mono fun v n ⟨t, e⟩ => by rw [e]; exact .int _ _) (PySem.W.AllAlike.of fun _ _ => alike_int _ _) (PySem.W.Sortable.others fun b => ⟨(fun z => nomatch z), fun _ z => nomatch z⟩) hL (fun b _ => by rw [PyData.depth]; omega) fun out h' n kh hn hlen heach => ?_
    rw [PySem.W.dataLe_int (fun n => n)] at heach
    have hfr : s.heap.objs.size ≤ s.heap.objs.size + 1 := Nat.le_succ _
    refine ⟨.ref (s.heap.objs.size + 1), upd H (s.heap.objs.size + 1) (.lst ((ns.mergeSort fun a b => decide (a ≤ b)).map V.int)), I.laid (t' := s.toks) kh hfr ⟨?_, out, n, each_int_back heach, hn⟩, rfl, q _ _ ?_ (I.hok.fresh hfr)⟩
    · rw [List.length_map, List.length_mergeSort]; exact hL
    · rw [sort_ints]; exact RpA.of_ints _
  · rw [RpA.strs hx] at rv hz
    have hL : ns.length ≤ sizeLine := by simpa using hz
    have he := each_str rv
    refine sorted_tup_data (enc := fun n : Str => PyData.str n) (bs := ns) hl he (he.mono fun v n ⟨t, e⟩ => by rw [e]; exact .str _ _) (PySem.W.AllAlike.of fun _ _ => alike_str _ _) (PySem.W.Sortable.others fun b => ⟨(fun z => nomatch z), fun _ z => nomatch z⟩) hL (fun b _ => by rw [PyData.depth]; omega) fun out h' n kh hn hlen heach => ?_
    have e : PySem.W.dataLe false (fun n : Str => PyData.str n) = leStr := by
      funext a b
      show (!PySem.W.dataLt (.str b) (.str a)) = _
      rw [PySem.W.dataLt_str]
      rfl
    rw [e] at heach
    have hfr : s.heap.objs.size ≤ s.heap.objs.size + 1 := Nat.le_succ _
    refine ⟨.ref (s.heap.objs.size + 1), upd H (s.heap.objs.size + 1) (.lst ((ns.mergeSort leStr).map V.str)), I.laid (t' := s.toks) kh hfr ⟨?_, out, n, each_str_back heach, hn⟩, rfl, q _ _ ?_ (I.hok.fresh hfr)⟩
    · rw [List.length_map, List.length_mergeSort]; exact hL
    · rw [sort_strs]; exact RpA.of_strs _
end
end CR

set_option Elab.async false
set_option linter.all false
set_option maxRecDepth 100000
set_option maxHeartbeats 4000000
namespace CR
open PySem PySem.Spec PyProof.Rows L2
/-! ### a dict whose keys are values: flat ones (b false) or tuples (b true) -/
/-- an entry: the key as data, the key, the value -/
abbrev En := Dt × V × V
def lookE (xs : List En) (k : Dt) : Option (V × V) := (xs.find? fun x => decide (x.1 = k)).map (·.2)
def repE (k : Dt) (v : V) (x : En) : En := if x.1 = k then (x.1, x.2.1, v) else x
def putE (xs : List En) (k : Dt) (kv v : V) : List En := if (lookE xs k).isSome then xs.map (repE k v) else xs ++ [(k, kv, v)]
def keyF : L2.Key → Dt
  | .inl i => .num i
  | .inr x => .text x
theorem keyF_inj {a b : L2.Key} (h : keyF a = keyF b) : a = b := by
  cases a <;> cases b <;> simp [keyF] at h <;> rw [h]
theorem lookE_pos {x : En} {xs : List En} {k : Dt} (e : x.1 = k) : lookE (x :: xs) k = some x.2 := by simp [lookE, List.find?_cons, e]
theorem lookE_neg {x : En} {xs : List En} {k : Dt} (e : ¬ x.1 = k) : lookE (x :: xs) k = lookE xs k := by simp [lookE, List.find?_cons, e]
def FlatE : List En → List (L2.Key × Value) → Prop := Paired fun p q => p.1 = keyF q.1 ∧ p.2.1 = kV q.1 ∧ RelV p.2.2 q.2
def TupE : List En → List (Dt × Addr × Value) → Prop := Paired fun p q => p.1 = q.1 ∧ p.2.1 = .ref q.2.1 ∧ RelV p.2.2 q.2.2
def RelP : Option (V × V) → Option Value → Prop
  | some p, some u => RelV p.2 u
  | none, none => True
  | _, _ => False
theorem RelP.isSome {o : Option (V × V)} {u : Option Value} (r : RelP o u) : o.isSome = u.isSome := by
  cases o <;> cases u <;> first | rfl | exact r.elim
theorem FlatE.look {xs : List En} {vs : List (L2.Key × Value)} (r : FlatE xs vs) (k : L2.Key) : RelP (lookE xs (keyF k)) (valueAt vs k) := by
  unfold FlatE at r
  induction r with
  | nil => exact True.intro
  | @cons p q ps qs h t ih =>
    obtain ⟨h1, _, h2⟩ := h
    by_cases e : q.1 = k
    · have b : valueAt (q :: qs) k = some q.2 := by simp [valueAt, List.find?_cons, e]
      rw [lookE_pos (h1.trans (by rw [e])), b]; exact h2
    · have b : valueAt (q :: qs) k = valueAt qs k := by simp [valueAt, List.find?_cons, e]
      rw [lookE_neg (fun z => e (keyF_inj (h1.symm.trans z))), b]; exact ih
theorem any_val {κ : Type} [DecidableEq κ] (k : κ) : ∀ vs : List (κ × Value), (vs.any fun kv => decide (kv.1 = k)) = (valueAt vs k).isSome
  | [] => rfl
  | p :: r => by
    rw [List.any_cons, any_val k r]
    by_cases e : p.1 = k
    · simp [valueAt, List.find?_cons, e]
    · simp [valueAt, List.find?_cons, e]
theorem FlatE.rep {xs : List En} {vs : List (L2.Key × Value)} (r : FlatE xs vs) (k : L2.Key) {v : V} {u : Value} (rv : RelV v u) : FlatE (xs.map (repE (keyF k) v)) (vs.map fun kv => if kv.1 = k then (kv.1, u) else kv) := by
  unfold FlatE at r ⊢
  induction r with
  | nil => exact .nil
  | @cons p q ps qs h t ih =>
    rw [List.map_cons, List.map_cons]
    obtain ⟨h1, h2, h3⟩ := h
    refine .cons ?_ ih
    unfold repE
    by_cases e : q.1 = k
    · rw [if_pos (h1.trans (by rw [e])), if_pos e]; exact ⟨h1, h2, rv⟩
    · rw [if_neg (fun z => e (keyF_inj (h1.symm.trans z))), if_neg e]; exact ⟨h1, h2, h3⟩
theorem FlatE.put {xs : List En} {vs : List (L2.Key × Value)} (r : FlatE xs vs) (k : L2.Key) {v : V} {u : Value} (rv : RelV v u) : FlatE (putE xs (keyF k) (kV k) v) (stored vs k u) := by
  unfold putE stored
  rw [any_val, ← (r.look k).isSome]
  by_cases q : (lookE xs (keyF k)).isSome = true
  · rw [if_pos q, if_pos q]; exact r.rep k rv
  · rw [if_neg q, if_neg q]; exact Paired.snoc r ⟨rfl, rfl, rv⟩
theorem TupE.look {xs : List En} {ys : List (Dt × Addr × Value)} (r : TupE xs ys) (k : Dt) : RelP (lookE xs k) ((atKey ys k).map (·.2)) := by
  unfold TupE at r
  induction r with
  | nil => exact True.intro
  | @cons p q ps qs h t ih =>
    obtain ⟨h1, _, h2⟩ := h
    by_cases e : q.1 = k
    · have b : atKey (q :: qs) k = some q.2 := by simp [atKey, List.find?_cons, e]
      rw [lookE_pos (h1.trans e), b]; exact h2
    · have b : atKey (q :: qs) k = atKey qs k := by simp [atKey, List.find?_cons, e]
      rw [lookE_neg (fun z => e (h1.symm.trans z)), b]; exact ih
theorem TupE.rep {xs : List En} {ys : List (Dt × Addr × Value)} (r : TupE xs ys) (k : Dt) {v : V} {u : Value} (rv : RelV v u) : TupE (xs.map (repE k v)) (ys.map (putAt k u)) := by
  unfold TupE at r ⊢
  induction r with
  | nil => exact .nil
  | @cons p q ps qs h t ih =>
    rw [List.map_cons, List.map_cons]
    obtain ⟨h1, h2, h3⟩ := h
    refine .cons ?_ ih
    unfold repE putAt
    by_cases e : q.1 = k
    · rw [if_pos (h1.trans e), if_pos e]; exact ⟨h1, h2, rv⟩
    · rw [if_neg (fun z => e (h1.symm.trans z)), if_neg e]; exact ⟨h1, h2, h3⟩
theorem TupE.put {xs : List En} {ys : List (Dt × Addr × Value)} (r : TupE xs ys) (k : Dt) (a : Addr) {v : V} {u : Value} (rv : RelV v u) : TupE (putE xs k (.ref a) v) (storedH ys k a u) := by
  have e : (atKey ys k).isSome = (lookE xs k).isSome := by rw [(r.look k).isSome, Option.isSome_map]
  unfold putE storedH
  rw [e]
  by_cases q : (lookE xs k).isSome = true
  · rw [if_pos q, if_pos q]; exact r.rep k rv
  · rw [if_neg q, if_neg q]; exact Paired.snoc r ⟨rfl, rfl, rv⟩
theorem putE_length (xs : List En) (k : Dt) (kv v : V) : (putE xs k kv v).length ≤ xs.length + 1 := by
  unfold putE
  split
  · rw [List.length_map]; omega
  · rw [List.length_append]; exact Nat.le_refl _
def VFlat (P : Program) (w : World) (h : Heap) (d : Addr) (xs : List En) : Prop := ∃ vs, FlatE xs vs ∧ h.DictOf (mixKind P w) d vs
def RawT (P : Program) (w : World) (h : Heap) (d : Addr) (ys : List (Dt × Addr × Value)) : Prop :=
  ∃ o es ep, h.get? d = some o ∧ o.ExactDict ∧ o.data = .dict es ep ∧ es.toList = ys.map (entryOfKey (nestedKind P w)) ∧ (ys.map (·.1)).Nodup
def VTup (P : Program) (w : World) (h : Heap) (d : Addr) (xs : List En) : Prop := ∃ ys, TupE xs ys ∧ RawT P w h d ys
def VOk (P : Program) (w : World) (b : Bool) (d : Addr) (xs : List En) (h : Heap) : Prop := xs.length ≤ sizeLine ∧ (d == sysModules) = false ∧ if b = true then VTup P w h d xs else VFlat P w h d xs
/-- a dict of values -/
def VO (P : Program) (w : World) (b : Bool) (d : Addr) (xs : List En) : HO := .ext (VOk P w b d xs)
theorem VOk.get {P : Program} {w : World} {b : Bool} {d : Addr} {xs : List En} {h : Heap} (x : VOk P w b d xs h) : ∃ o, h.get? d = some o := by
  obtain ⟨_, _, x⟩ := x
  cases b with
  | true => obtain ⟨ys, _, o, es, ep, e, _⟩ := (show VTup P w h d xs from x); exact ⟨o, e⟩
  | false => obtain ⟨vs, _, o, es, ep, e, _⟩ := (show VFlat P w h d xs from x); exact ⟨o, e⟩
theorem VOk.stay {P : Program} {w : World} {b : Bool} {d : Addr} {xs : List En} {h1 h2 : Heap} (x : VOk P w b d xs h1) (k : ∀ o, h1.get? d = some o → h2.get? d = some o) : VOk P w b d xs h2 := by
  obtain ⟨z, y, x⟩ := x
  refine ⟨z, y, ?_⟩
  cases b with
  | true => obtain ⟨ys, r, o, es, ep, e, q⟩ := (show VTup P w h1 d xs from x); exact (show VTup P w h2 d xs from ⟨ys, r, o, es, ep, k _ e, q⟩)
  | false => obtain ⟨vs, r, o, es, ep, e, q⟩ := (show VFlat P w h1 d xs from x); exact (show VFlat P w h2 d xs from ⟨vs, r, o, es, ep, k _ e, q⟩)
theorem VO.ok {P : Program} {w : World} {b : Bool} {d : Addr} {xs : List En} {H : Hp} {h : Heap} (x : VOk P w b d xs h) : ObjOk P w H h d (VO P w b d xs) := ⟨x, x.get, fun _ _ y k => y.stay k⟩
/-- a key of such a dict -/
def KeyOk (b : Bool) (k : Dt) : Prop := if b = true then (∃ ds, k = .tup ds) ∧ k.depth ≤ 8 else (∃ i, k = .num i) ∨ ∃ x, k = .text x
mutual
theorem nested_of {P : Program} {w : World} {H : Hp} {h : Heap} (ok : HOk P w H h) : ∀ (d : Dt) (v : V) (u : Value), Rp H d v → RelV v u → NestedIs h d u
  | .none, v, u, x, r => by
    rw [show v = .non from x] at r
    rw [show u = .none from r]
    exact .none
  | .num i, v, u, x, r => by
    rw [show v = .int i from x] at r
    obtain ⟨t, rfl⟩ := (show ∃ t, u = Value.int i t from r)
    exact .int i t
  | .text i, v, u, x, r => by
    rw [show v = .str i from x] at r
    obtain ⟨t, rfl⟩ := (show ∃ t, u = Value.str i t from r)
    exact .text i t
  | .tup ds, v, u, x, r => by
    obtain ⟨a, xs, e, h1, h2⟩ := x
    rw [e] at r
    rw [show u = .ref a from r]
    obtain ⟨_, its, rv, o, ho, hc, n, hd⟩ := ok a _ h1
    exact .tup ho hc hd (by simpa using nesteds_of ok ds xs its h2 rv)
theorem nesteds_of {P : Program} {w : World} {H : Hp} {h : Heap} (ok : HOk P w H h) : ∀ (ds : List Dt) (vs : List V) (us : List Value), RpA H ds vs → Vals vs us → NestedAll h ds us
  | [], vs, us, x, r => by
    rw [show vs = [] from x] at r
    cases r
    exact .nil
  | d :: ds, vs, us, x, r => by
    obtain ⟨y, ys, rfl, h1, h2⟩ := x
    cases r with
    | cons r rr => exact .cons (nested_of ok d y _ h1 r) (nesteds_of ok ds ys _ h2 rr)
end
section
variable {X : Cx} {pins : List (Addr × Obj)} {σ : L2.St} {H : Hp} {s : Shared} {d : Addr} {b : Bool} {xs : List En}
theorem vo_of (I : Inv X pins σ H s) (h : H d = some (VO X.prog X.w b d xs)) : VOk X.prog X.w b d xs s.heap := (I.hok d _ h).1
/-- the keys of a tuple dict stand in the heap -/
theorem vo_tup (I : Inv X pins σ H s) (hv : VTup X.prog X.w s.heap d xs) (hk : ∀ x ∈ xs, Rp H x.1 x.2.1 ∧ KeyOk true x.1) : ∃ ys, TupE xs ys ∧ s.heap.DictOfH (nestedKind X.prog X.w) d ys := by
  obtain ⟨ys, r, o, es, ep, ho, hx, hd, he, hn⟩ := hv
  refine ⟨ys, r, o, es, ep, ho, hx, hd, he, fun y hy => ?_, hn⟩
  have all : ∀ {l : List En} {m : List (Dt × Addr × Value)}, TupE l m → (∀ x ∈ l, Rp H x.1 x.2.1 ∧ KeyOk true x.1) → ∀ y ∈ m, (nestedKind X.prog X.w).is s.heap y.1 y.2.1 := by
    intro l m q
    unfold TupE at q
    induction q with
    | nil => intro _ y hy; exact nomatch hy
    | @cons p q ps qs hq t ih =>
      intro hk y hy
      rcases List.mem_cons.mp hy with e | hy
      · rw [e]
        obtain ⟨h1, h2, h3⟩ := hq
        obtain ⟨a1, a2⟩ := hk p List.mem_cons_self
        rw [h1, h2] at a1
        rw [h1] at a2
        exact ⟨nested_of I.hok _ _ _ a1 rfl, (show (∃ ds, q.1 = .tup ds) ∧ q.1.depth ≤ 8 from a2).2⟩
      · exact ih (fun x hx => hk x (List.mem_cons_of_mem _ hx)) y hy
  exact all r hk y hy
/-- the dict at d holds xs -/
def VD (P : Program) (w : World) (b : Bool) (H : Hp) (d : Addr) (xs : List En) : Prop := H d = some (VO P w b d xs) ∧ ∀ x ∈ xs, Rp H x.1 x.2.1 ∧ KeyOk b x.1
theorem flat_key {k : Dt} {y : V} {u : Value} (h : KeyOk false k) (hy : Rp H k y) (r : RelV y u) : ∃ k0 : L2.Key, k = keyF k0 ∧ y = kV k0 ∧ RelV (kV k0) u := by
  rcases (show (∃ i, k = .num i) ∨ ∃ x, k = .text x from h) with ⟨i, rfl⟩ | ⟨x, rfl⟩
  · have e : y = .int i := hy
    rw [e] at r
    exact ⟨.inl i, rfl, e, r⟩
  · have e : y = .str x := hy
    rw [e] at r
    exact ⟨.inr x, rfl, e, r⟩
theorem tup_key {k : Dt} {y : V} {u : Value} (I : Inv X pins σ H s) (h : KeyOk true k) (hy : Rp H k y) (r : RelV y u) : ∃ a, y = .ref a ∧ u = .ref a ∧ (nestedKind X.prog X.w).is s.heap k a := by
  obtain ⟨⟨ds, e⟩, h2⟩ := (show (∃ ds, k = .tup ds) ∧ k.depth ≤ 8 from h)
  have hn := nested_of I.hok k y u hy r
  rw [e] at hy
  obtain ⟨a, zs, e2, _⟩ := hy
  rw [e2] at r
  have e3 : u = .ref a := r
  rw [e3] at hn
  exact ⟨a, e2, e3, hn, h2⟩
def rInV (P : Program) (w : World) : R2 := fun y x H Q => ∃ b d xs k, x = .ref d ∧ VD P w b H d xs ∧ KeyOk b k ∧ Rp H k y ∧ Q (.bl (lookE xs k).isSome) H
theorem op_inV (hu : X.A.units + 64 < cLine) : OpR X (compareOp .In) (rInV X.prog X.w) := by
  intro pins s σ H y x v u Q I ry rx h
  obtain ⟨b, d, xs, k, rfl, ⟨hd, hk⟩, ko, hy, q⟩ := h
  obtain rfl : u = Value.ref d := rx
  obtain ⟨hz, hs, hv⟩ := vo_of I hd
  cases b with
  | true =>
    obtain ⟨a, rfl, rfl, hkey⟩ := tup_key I ko hy ry
    obtain ⟨ys, r, dd⟩ := vo_tup I hv hk
    refine wpAny_in_heap (show X.A.in1.units + 8 < cLine from ?_) hkey hs dd ?_
    · show X.A.units + 1 + 8 < cLine
      omega
    · rw [← Option.isSome_map (f := (·.2)), ← (r.look k).isSome]
      exact ⟨.bl _, H, I.tok _, rfl, q⟩
  | false =>
    obtain ⟨k0, rfl, rfl, rk⟩ := flat_key ko hy ry
    obtain ⟨vs, r, dd⟩ := (show VFlat X.prog X.w s.heap d xs from hv)
    refine wpAny_in_of (kV_is rk) hs dd.mapOf ?_
    rw [← (r.look k0).isSome]
    exact ⟨.bl _, H, I.tok _, rfl, q⟩
/-- found[y] -/
def rGetV (P : Program) (w : World) : V → V → Hp → VK → Prop := fun x y H Q => ∃ b d xs k p, x = .ref d ∧ VD P w b H d xs ∧ KeyOk b k ∧ Rp H k y ∧ lookE xs k = some p ∧ Q p.2 H
theorem vo_type (I : Inv X pins σ H s) (hd : H d = some (VO X.prog X.w b d xs)) : s.TypeIs (.ref d) "dict" := by
  obtain ⟨hz, hs, hv⟩ := vo_of I hd
  cases b with
  | true => obtain ⟨ys, _, o, es, ep, e, hx, _⟩ := (show VTup X.prog X.w s.heap d xs from hv); exact ⟨o, e, hx.1⟩
  | false => obtain ⟨vs, _, dd⟩ := (show VFlat X.prog X.w s.heap d xs from hv); exact dd.typeIs
theorem get_V (hu : X.A.units + 64 < cLine) {x y : V} {v u : Value} {Q : VK} (I : Inv X pins σ H s) (rx : RelV x v) (ry : RelV y u) (h : rGetV X.prog X.w x y H Q) : s.TypeIs v "dict" ∧ wpAny (model X.prog X.w) X.A (getItem v u) (EP X pins σ Q) X.xe s := by
  obtain ⟨b, d, xs, k, p, rfl, ⟨hd, hk⟩, ko, hy, hl, q⟩ := h
  obtain rfl : v = Value.ref d := rx
  refine ⟨vo_type I hd, ?_⟩
  obtain ⟨hz, hs, hv⟩ := vo_of I hd
  cases b with
  | true =>
    obtain ⟨a, rfl, rfl, hkey⟩ := tup_key I ko hy ry
    obtain ⟨ys, r, dd⟩ := vo_tup I hv hk
    have hr := r.look k
    rw [hl] at hr
    cases hp : atKey ys k with
    | none => rw [hp] at hr; exact hr.elim
    | some p' =>
      rw [hp] at hr
      refine wpAny_getItem_heap (show X.A.in1.units + 8 < cLine from ?_) hkey dd hp ?_
      · show X.A.units + 1 + 8 < cLine
        omega
      · exact ⟨p.2, H, I.tok _, hr, q⟩
  | false =>
    obtain ⟨k0, rfl, rfl, rk⟩ := flat_key ko hy ry
    obtain ⟨vs, r, dd⟩ := (show VFlat X.prog X.w s.heap d xs from hv)
    have hr := r.look k0
    rw [hl] at hr
    cases hp : valueAt vs k0 with
    | none => rw [hp] at hr; exact hr.elim
    | some p' =>
      rw [hp] at hr
      exact wpAny_getItem_of (kV_is rk) dd.mapOf hp ⟨p.2, H, I.tok _, hr, q⟩
def tGetV (P : Program) (w : World) (td ty : TE) : TE := fun σ H Q => td σ H fun x H1 => ty σ H1 fun y H2 => rGetV P w x y H2 Q
theorem pe_getV {o i : Expr} {td ty : TE} {pos : Pos} (hu : X.A.units + 64 < cLine) (ho : PE X o td) (hi : PE X i ty) (hs : NoSl i) : PE X (.Subscript o i pos) (tGetV X.prog X.w td ty) := by
  refine ⟨fun pins s σ H Q I h => ?_⟩
  refine subD_of PySem.F.slot_dict_getitem.lookup hs (thn (ho.run pins s σ H _ I h) fun u s1 ⟨x, H1, I1, rx, q1⟩ => thn (hi.run pins s1 σ H1 _ I1 q1) fun iv s2 ⟨y, H2, I2, ry, q2⟩ => ?_)
  exact get_V hu I2 rx ry q2
/-- found[y] = v -/
def rSetV (P : Program) (w : World) : TSet := fun x y v H Q => ∃ b d xs k, x = .ref d ∧ VD P w b H d xs ∧ KeyOk b k ∧ Rp H k y ∧ xs.length < sizeLine ∧ Q (upd H d (VO P w b d (putE xs k y v)))
theorem set_V (hu : X.A.units + 64 < cLine) : PSet X (rSetV X.prog X.w) := by
  intro pins s σ H x y v xv yv u Q I rx ry rv h
  obtain ⟨b, d, xs, k, rfl, ⟨hd, hk⟩, ko, hy, hlen, q⟩ := h
  obtain rfl : xv = Value.ref d := rx
  obtain ⟨hz, hs, hv⟩ := vo_of I hd
  have hl2 := putE_length xs k y v
  cases b with
  | true =>
    obtain ⟨a, rfl, rfl, hkey⟩ := tup_key I ko hy ry
    obtain ⟨ys, r, dd⟩ := vo_tup I hv hk
    have hyl : xs.length = ys.length := Paired.length r
    refine wpAny_setItem_heap (hsz := by rw [← hyl]; exact hz) (show X.A.in1.units + 8 < cLine from ?_) hkey dd fun h' dd' hs' => ?_
    · show X.A.units + 1 + 8 < cLine
      omega
    · obtain ⟨o, es, ep, ho, hx, hdt, he, _, hn⟩ := dd'
      have new : VOk X.prog X.w true d (putE xs k (.ref a) v) h' := ⟨by omega, hs, (show VTup X.prog X.w h' d _ from ⟨_, r.put k a rv, o, es, ep, ho, hx, hdt, he, hn⟩)⟩
      exact ⟨_, d_write I (by rw [hd]; exact True.intro) hs' ⟨o, ho⟩ (VO.ok new), q⟩
  | false =>
    obtain ⟨k0, rfl, rfl, rk⟩ := flat_key ko hy ry
    obtain ⟨vs, r, dd⟩ := (show VFlat X.prog X.w s.heap d xs from hv)
    have hyl : xs.length = vs.length := Paired.length r
    refine wpAny_setItem_pairs (hsz := by rw [← hyl]; exact hz) (kV_is rk) dd fun h' dd' hs' => ?_
    have new : VOk X.prog X.w false d (putE xs (keyF k0) (kV k0) v) h' := ⟨by omega, hs, (show VFlat X.prog X.w h' d _ from ⟨_, r.put k0 rv, dd'⟩)⟩
    exact ⟨_, d_write I (by rw [hd]; exact True.intro) hs' new.get (VO.ok new), q⟩
/-- {} -/
def tNewV (P : Program) (w : World) : TE := fun _ H Q => ∃ b : Bool, ∀ p, H p = none → Q (.ref p) (upd H p (VO P w b p []))
theorem pe_newV {pos : Pos} : PE X (.Dict [] [] pos) (tNewV X.prog X.w) := ⟨fun pins s σ H Q I ⟨b, h⟩ => by
  refine wpAny_Dict_empty ?_
  have hs : (s.heap.objs.size == sysModules) = false := beq_eq_false_iff_ne.mpr (Ne.symm (Nat.ne_of_lt I.big))
  refine ⟨.ref s.heap.objs.size, _, I.laid (a := s.heap.objs.size) (o := VO X.prog X.w b s.heap.objs.size []) (t' := s.toks) (fun _ _ q => Heap.get?_push_of_some _ q) (Nat.le_refl _) (VO.ok ?_), rfl, h _ (I.hok.fresh (Nat.le_refl _))⟩
  refine ⟨Nat.zero_le _, hs, ?_⟩
  cases b with
  | true => exact (show VTup _ _ _ _ _ from ⟨[], .nil, _, #[], 0, Heap.get?_push_size _ rfl, ⟨rfl, rfl, rfl⟩, rfl, rfl, List.nodup_nil⟩)
  | false => exact (show VFlat _ _ _ _ _ from ⟨[], .nil, Heap.DictOf.new s.heap⟩)⟩
/-! ### its items -/
theorem vo_raw (I : Inv X pins σ H s) {o : Obj} (h : H d = some (.frz o (VO X.prog X.w b d xs))) : (d == sysModules) = false ∧ ∃ es ep, DT.Raw s.heap d es ep ∧ o.data = .dict es ep ∧ es.size = xs.length ∧ ∀ (i : Nat) (x : En), xs[i]? = some x → ∃ en, es[i]? = some en ∧ RelV x.2.1 en.key ∧ RelV x.2.2 en.val := by
  obtain ⟨hd, x⟩ := I.hok d _ h
  obtain ⟨⟨hz, hs, hv⟩, _⟩ := (show ObjOk X.prog X.w H s.heap d (VO X.prog X.w b d xs) from x)
  refine ⟨hs, ?_⟩
  cases b with
  | true =>
    obtain ⟨ys, r, o', es, ep, ho, hx, hdt, he, _⟩ := (show VTup X.prog X.w s.heap d xs from hv)
    rw [hd] at ho; cases ho
    have l1 : es.size = ys.length := size_of_entries he
    have l2 : xs.length = ys.length := Paired.length r
    refine ⟨es, ep, ⟨o, hd, hx, hdt⟩, hdt, by omega, fun i x hi => ?_⟩
    obtain ⟨y, hy, e1, e2, e3⟩ := paired_get r hi
    have q := entry_at he i
    rw [hy] at q
    exact ⟨_, q, by rw [e2]; rfl, e3⟩
  | false =>
    obtain ⟨vs, r, dd⟩ := (show VFlat X.prog X.w s.heap d xs from hv)
    obtain ⟨es, ep, ⟨o', ho, hx, hdt⟩, hsz, he⟩ := dd.raw
    rw [hd] at ho; cases ho
    have l2 : xs.length = vs.length := Paired.length r
    refine ⟨es, ep, ⟨o, hd, hx, hdt⟩, hdt, by omega, fun i x hi => ?_⟩
    obtain ⟨y, hy, e1, e2, e3⟩ := paired_get r hi
    have hil : i < es.size := by
      have := (List.getElem?_eq_some_iff.mp hi).1
      omega
    obtain ⟨q1, q2⟩ := he i hil y.1 y.2 hy
    refine ⟨es[i], Array.getElem?_eq_getElem hil, ?_, by rw [q2]; exact e3⟩
    rw [e2]
    exact relV_key q1
/-- the pairs of the locked dict, each a new tuple -/
def ItV (P : Program) (w : World) (b : Bool) (d : Addr) (o : Obj) (xs : List En) : It :=
  ⟨fun i H => H d = some (.frz o (VO P w b d xs)) ∧ i < xs.length, fun i H x H' => ∃ T e, xs[i]? = some e ∧ x = .ref T ∧ H T = none ∧ H' = upd H T (.tup [e.2.1, e.2.2]), fun i H => H d = some (.frz o (VO P w b d xs)) ∧ xs.length ≤ i⟩
theorem turn_V {P : Program} {w : World} {K : PySem.W.Frag} {elts : List Expr} {kk : Nat} {tpos : Pos} {o : Obj} {es : Array DictEntry} {ep : Nat} (it : Addr) (hod : o.data = .dict es ep) :
    Turn P w K (.Tuple elts kk tpos) (ItV P w b d o xs) [it] it (fun i h => ∃ ok ov, IsItemIter h it d i xs.length ep ok ov) where
  mem := by simp
  obj := fun i h st b hb => by
    have e : b = it := by simpa using hb
    subst e
    obtain ⟨ok, ov, e⟩ := st
    exact ⟨_, e, fun v z => nomatch z⟩
  keep := fun i h h' st k => let ⟨ok, ov, e⟩ := st; ⟨ok, ov, k it (by simp) _ e⟩
  item := by
    intro X hP hw hK hc i pins s σ H E I hf st hg
    subst hP hw hK
    obtain ⟨hd, hi⟩ := hg
    obtain ⟨hs, es', ep', hraw, hdt, hsz, hent⟩ := vo_raw I hd
    obtain ⟨rfl, rfl⟩ := dict_ep hod hdt
    obtain ⟨e, he0⟩ : ∃ p, xs[i]? = some p := ⟨xs[i], List.getElem?_eq_getElem hi⟩
    obtain ⟨en, hen, rk, rvl⟩ := hent i e he0
    obtain ⟨ok, ov, he⟩ := st
    rw [← hsz] at he
    have hlt : it < s.heap.objs.size := Heap.lt_size he
    have hie : i < es'.size := by omega
    have hee : es'[i] = en := by
      rw [Array.getElem?_eq_getElem hie] at hen
      exact Option.some.inj hen
    refine DT.nextI he hraw hie fun h' ho hT hz hk => ?_
    rw [hee] at ho hT
    refine ⟨_, rfl, wpAny_letOwnedTupleGo_items (s := { s with heap := h' }) ho fun h'' he' sb => ?_⟩
    have hT2 : h''.get? s.heap.objs.size = some { cls := .type "tuple", data := .seq #[en.key, en.val] } := (sb.2 _ (Nat.ne_of_gt hlt)).trans hT
    have new : ObjOk X.prog X.w (upd H s.heap.objs.size (.tup [e.2.1, e.2.2])) h'' s.heap.objs.size (.tup [e.2.1, e.2.2]) :=
      ⟨by show 2 ≤ sizeLine; decide, [en.key, en.val], .cons rk (.cons rvl .nil), ⟨_, hT2, rfl, _, rfl⟩⟩
    have I1 : Inv X pins σ (upd H s.heap.objs.size (.tup [e.2.1, e.2.2])) { s with heap := h'' } :=
      I.turnedNew (t' := s.toks) (ch := [it]) (fun b ob hb e => (sb.2 b (by simpa using hb)).trans (hk b ob (by simpa using hb) e)) hf (Nat.le_refl _) new
    refine ⟨.ref s.heap.objs.size, _, I1, rfl, ⟨_, e, he0, rfl, I.hok.fresh (Nat.le_refl _), rfl⟩, ⟨en.key, en.val, ?_⟩, fun b hb => ?_⟩
    · rw [← hsz]; exact he'
    · have e : b = it := by simpa using hb
      rw [e, upd_ne (Nat.ne_of_lt hlt)]
      exact (hf it (by simp)).1
  done := by
    intro X hP hw hK hc i pins s σ H E I hf st hg
    subst hP hw hK
    obtain ⟨hd, hi⟩ := hg
    obtain ⟨f0, f1, f2, f3, f4, f5⟩ := hf it (by simp)
    obtain ⟨hs, es', ep', hraw, hdt, hsz, hent⟩ := vo_raw I hd
    obtain ⟨rfl, rfl⟩ := dict_ep hod hdt
    obtain ⟨ok, ov, he⟩ := st
    rw [← hsz] at he
    exact DT.endI (I.ok.hd hc) he hraw (by omega) fun h' eb => ⟨rfl, I.turned (t' := s.toks) (fun b ob hb e => eb b ob hb e) f0 f1 f3 f4 f5⟩
  self := fun A i s Q E st h => let ⟨_, _, e⟩ := st; PySem.W.kcp_self e h
def iItemsV (P : Program) (w : World) (td : TE) : TI := fun σ H R => td σ H fun x H1 => ∃ b d o xs, x = .ref d ∧ H1 d = some (.frz o (VO P w b d xs)) ∧ R (ItV P w b d o xs) H1
theorem pi_itemsV {e : Expr} {td : TE} {apos cpos : Pos} {elts : List Expr} {kk : Nat} {tpos : Pos} (he : PE X e td) (hbase : attributeBase e "items" X.env (eval e X.env) = eval e X.env := by rfl) (hline : (apos.endLine == cpos.line) = true := by rfl) :
    PI X (.Tuple elts kk tpos) (.Call (.Attribute e "items" apos) [] [] cpos) (iItemsV X.prog X.w td) := by
  refine ⟨fun pins s σ H R I h => ?_⟩
  refine wpAny_Call_method (T := "dict") (id := "dict.items") hbase rfl hline F.plainAttrs_dict F.slot_dict_items F.type_dict_items (thn (he.run pins s σ H _ I h) fun u s1 ⟨x, H1, I1, rx, b, d, o, xs, ex, hd, q⟩ => ?_)
  subst ex
  obtain rfl : u = Value.ref d := rx
  obtain ⟨hs, es, ep, hraw, hdt, hsz, hent⟩ := vo_raw I1 hd
  obtain ⟨o', ho', hx', hd'⟩ := id hraw
  refine ⟨hraw.typeIs, fun b q => ?_, ?_⟩
  · cases q
    exact ⟨o', ho', hx'.2.1⟩
  have I2 : Inv X pins σ H1 { s1 with heap := s1.heap.push { cls := .type "dict_items", data := .fields #[.ref d] } } := I1.kept (t' := s1.toks) fun b ob q => Heap.get?_push_of_some _ q
  have fin : wpAny (model X.prog X.w) X.A (pyIter (.ref s1.heap.objs.size)) (PIE X pins σ (.Tuple elts kk tpos) R) X.xe { s1 with heap := s1.heap.push { cls := .type "dict_items", data := .fields #[.ref d] } } := by
    refine DT.iterI (d := d) (es := es) (ep := ep) ⟨_, Heap.get?_push_size _ rfl, rfl, rfl⟩ (hraw.push _) (pi_one (tk := s1.toks) I2 _ (turn_V _ hdt) ⟨.none, .none, ?_⟩ q)
    rw [← hsz]
    exact Heap.get?_push_size _ rfl
  show wpAny _ _ (callWith cpos (.builtin "dict.items") [.ref d] [] []) _ X.xe s1
  exact method_meetsIn F.slot_dict_items F.entry_dict_items rfl (PySem.evalArgs_none ⟨rfl, hraw.typeIs, F.args_dict_items_1 _, _, DT.meetsItems (es := es) (ep := ep) hs, ⟨hraw, fin⟩⟩)
end
end CR

set_option Elab.async false
set_option linter.all false
set_option maxRecDepth 100000
set_option maxHeartbeats 4000000
namespace CR
open PySem PySem.Spec PyProof.Rows L2 GenW
/-! ### the consumers: any, all, of a generator whose items are bools -/
/-- only tokens and generators' states have changed -/
def Still (s s' : Shared) : Prop := s'.heap = s.heap ∧ s'.os = s.os ∧ AllBare s'.gens
/-- all objects stand -/
def Stands (s s' : Shared) : Prop := (∀ b o, s.heap.get? b = some o → s'.heap.get? b = some o) ∧ s'.os = s.os ∧ AllBare s'.gens
def YB (go : Bool) (a : Addr) (g : Nat) (F : Shared → Prop) : Protocol := fun n s₀ v s kap =>
  ∃ b, v = .bool b ∧ AllBare s.gens ∧ s.heap.NoLimit ∧ s.heap.IsGen a g ∧ (b = go → ∀ s'', Still s s'' → kap (.send .none) s'') ∧ (b ≠ go → F s)
def RB (D : Shared → Prop) : GenEnd := fun n s₀ r s₁ => r = .ok .next ∧ (AllBare s₁.gens ∧ D s₁)
section
variable {P : Program} {w : World} {A : Around} {R : Result → Shared → Prop} {a : Addr} {g : Nat} {D F : Shared → Prop}
theorem loop_all (hh : A.handled = none) (hd : A.depth < recursionLimit) (hD : ∀ s s', D s → Stands s s' → R (.ok (.ret (.bool true))) s') (hF : ∀ s s', F s → Stands s s' → R (.ok (.ret (.bool false))) s') :
    ∀ (n : Nat) (s : Shared), s.heap.IsGen a g → s.heap.NoLimit → (∃ gs, s.gens[g]? = some gs ∧ gs.Goes (model P w) A.in1.in1 (RB D) (YB true a g F) n (.send .none) (s.setGen g .running)) → codeAny (model P w) A (.builtin "all.loop" ⟨[.ref a], []⟩) R s := by
  intro n
  induction n with
  | zero =>
    intro s hg hl ⟨gs, hgs, hgo⟩
    refine codeAny_builtin PySem.F.entry_all_loop ?_
    rw [Around.under_plainId PySem.F.plain_all_loop _]
    show wpAny _ A.in1 (pyNext (.ref a) >>= _) _ _ s
    refine wpAny_bind (wpAny_pyNext_genexpQ (A := A.in1) (P := fun n s₀ s₁ => AllBare s₁.gens ∧ D s₁) hh hl hd hg hgs hgo (fun v s₁ gs' hbare hv => ?_) (fun s₁ hp h' hk => ?_))
    · obtain ⟨b, rfl, hb, hl1, hg1, hk, hf⟩ := hv
      refine wpAny_bind (wpAny_holding (wpAny_truthy_bool ?_))
      refine wpAny_bind (wpAny_letGo ?_)
      cases b with
      | true => exact False.elim (hk rfl s₁ ⟨rfl, rfl, hb⟩)
      | false =>
        simp only [Bool.false_eq_true, if_false]
        exact wpAny_bind (wpAny_rule (wpAny_pure (hF s₁ _ (hf (by decide)) ⟨fun _ _ e => e, rfl, allBare_setGen hb hbare⟩)))
    · exact wpAny_bind (wpAny_rule (wpAny_pure (hD s₁ _ hp.2 ⟨hk, rfl, allBare_setGen hp.1 rfl⟩)))
  | succ n ih =>
    intro s hg hl ⟨gs, hgs, hgo⟩
    have hgl : g < s.gens.size := (Array.getElem?_eq_some_iff.mp hgs).1
    refine codeAny_builtin PySem.F.entry_all_loop ?_
    rw [Around.under_plainId PySem.F.plain_all_loop _]
    show wpAny _ A.in1 (pyNext (.ref a) >>= _) _ _ s
    refine wpAny_bind (wpAny_gsz (n := g + 1) hgl (wpAny_pyNext_genexpQ (A := A.in1) (P := fun n s₀ s₁ => AllBare s₁.gens ∧ D s₁) hh hl hd hg hgs hgo (fun v s₁ gs' hbare hv => ?_) (fun s₁ hp h' hk => ?_)))
    · intro hsz
      obtain ⟨b, rfl, hb, hl1, hg1, hk, hf⟩ := hv
      refine wpAny_bind (wpAny_holding (wpAny_truthy_bool ?_))
      refine wpAny_bind (wpAny_letGo ?_)
      have hsz1 : g < s₁.gens.size := by
        have q : (s₁.setGen g gs').gens.size = s₁.gens.size := setGen_size _ _ _
        have hsz' : g + 1 ≤ (s₁.setGen g gs').gens.size := hsz
        omega
      cases b with
      | true =>
        simp only [if_true]
        refine wpAny_pure ⟨plainId_quiet PySem.F.plain_all_loop _, ?_⟩
        exact ih _ hg1 hl1 ⟨gs', setGen_at hsz1, hk rfl _ ⟨rfl, rfl, allBare_setGen (s := s₁.setGen g gs') (allBare_setGen hb hbare) rfl⟩⟩
      | false =>
        simp only [Bool.false_eq_true, if_false]
        exact wpAny_bind (wpAny_rule (wpAny_pure (hF s₁ _ (hf (by decide)) ⟨fun _ _ e => e, rfl, allBare_setGen hb hbare⟩)))
    · intro hsz
      exact wpAny_bind (wpAny_rule (wpAny_pure (hD s₁ _ hp.2 ⟨hk, rfl, allBare_setGen hp.1 rfl⟩)))
theorem loop_any (hh : A.handled = none) (hd : A.depth < recursionLimit) (hD : ∀ s s', D s → Stands s s' → R (.ok (.ret (.bool false))) s') (hF : ∀ s s', F s → Stands s s' → R (.ok (.ret (.bool true))) s') :
    ∀ (n : Nat) (s : Shared), s.heap.IsGen a g → s.heap.NoLimit → (∃ gs, s.gens[g]? = some gs ∧ gs.Goes (model P w) A.in1.in1 (RB D) (YB false a g F) n (.send .none) (s.setGen g .running)) → codeAny (model P w) A (.builtin "any.loop" ⟨[.ref a], []⟩) R s := by
  intro n
  induction n with
  | zero =>
    intro s hg hl ⟨gs, hgs, hgo⟩
    refine codeAny_builtin PySem.F.entry_any_loop ?_
    rw [Around.under_plainId PySem.F.plain_any_loop _]
    show wpAny _ A.in1 (pyNext (.ref a) >>= _) _ _ s
    refine wpAny_bind (wpAny_pyNext_genexpQ (A := A.in1) (P := fun n s₀ s₁ => AllBare s₁.gens ∧ D s₁) hh hl hd hg hgs hgo (fun v s₁ gs' hbare hv => ?_) (fun s₁ hp h' hk => ?_))
    · obtain ⟨b, rfl, hb, hl1, hg1, hk, hf⟩ := hv
      refine wpAny_bind (wpAny_holding (wpAny_truthy_bool ?_))
      refine wpAny_bind (wpAny_letGo ?_)
      cases b with
      | false => exact False.elim (hk rfl s₁ ⟨rfl, rfl, hb⟩)
      | true =>
        simp only [if_true]
        exact wpAny_bind (wpAny_rule (wpAny_pure (hF s₁ _ (hf (by decide)) ⟨fun _ _ e => e, rfl, allBare_setGen hb hbare⟩)))
    · exact wpAny_bind (wpAny_rule (wpAny_pure (hD s₁ _ hp.2 ⟨hk, rfl, allBare_setGen hp.1 rfl⟩)))
  | succ n ih =>
    intro s hg hl ⟨gs, hgs, hgo⟩
    have hgl : g < s.gens.size := (Array.getElem?_eq_some_iff.mp hgs).1
    refine codeAny_builtin PySem.F.entry_any_loop ?_
    rw [Around.under_plainId PySem.F.plain_any_loop _]
    show wpAny _ A.in1 (pyNext (.ref a) >>= _) _ _ s
    refine wpAny_bind (wpAny_gsz (n := g + 1) hgl (wpAny_pyNext_genexpQ (A := A.in1) (P := fun n s₀ s₁ => AllBare s₁.gens ∧ D s₁) hh hl hd hg hgs hgo (fun v s₁ gs' hbare hv => ?_) (fun s₁ hp h' hk => ?_)))
    · intro hsz
      obtain ⟨b, rfl, hb, hl1, hg1, hk, hf⟩ := hv
      refine wpAny_bind (wpAny_holding (wpAny_truthy_bool ?_))
      refine wpAny_bind (wpAny_letGo ?_)
      have hsz1 : g < s₁.gens.size := by
        have q : (s₁.setGen g gs').gens.size = s₁.gens.size := setGen_size _ _ _
        have hsz' : g + 1 ≤ (s₁.setGen g gs').gens.size := hsz
        omega
      cases b with
      | false =>
        simp only [Bool.false_eq_true, if_false]
        refine wpAny_pure ⟨plainId_quiet PySem.F.plain_any_loop _, ?_⟩
        exact ih _ hg1 hl1 ⟨gs', setGen_at hsz1, hk rfl _ ⟨rfl, rfl, allBare_setGen (s := s₁.setGen g gs') (allBare_setGen hb hbare) rfl⟩⟩
      | true =>
        simp only [if_true]
        exact wpAny_bind (wpAny_rule (wpAny_pure (hF s₁ _ (hf (by decide)) ⟨fun _ _ e => e, rfl, allBare_setGen hb hbare⟩)))
    · intro hsz
      exact wpAny_bind (wpAny_rule (wpAny_pure (hD s₁ _ hp.2 ⟨hk, rfl, allBare_setGen hp.1 rfl⟩)))
end
/-! ### the generator's body -/
/-- the context of a generator expression's body -/
abbrev genCx (X : Cx) (A : Around) (s : Shared) (H : Hp) (cenv : Env) (fp : List Addr) : Cx where
  prog := X.prog
  w := X.w
  K := X.K
  mg := X.mg
  base := X.base
  A := A
  N := X.N
  s_0 := s
  H_0 := H
  env := cenv
  outer := X.stack
  stack := cenv :: X.stack
  ex := fp
  fn := fun _ => false
  calm := true
  pn := []
  xe := fun _ _ => False
/-- its scope: one name x of its own, captured names that the def has -/
structure GSc (N : List Str) (sc scope : Scope) (x : Str) (i : Nat) : Prop where
  kind : scope.kind = .function
  co : scope.isCoroutine = false
  cell : ∀ y ∈ scope.names, y.2 ≠ .cell
  dot : scope.names.lookup (".0" : Str) = some NameKind.local
  loc : scope.names.lookup x = some .local
  ix : N[i]? = some x
  own : ∀ y ∈ scope.names, y.2 = .local → y.1 = x ∨ y.1 ∉ N
  free : ∀ y ∈ scope.names, y.2 = .free → sc.names.lookup y.1 = some .cell ∨ sc.names.lookup y.1 = some .free
section
variable {X : Cx} {pins : List (Addr × Obj)} {σ : L2.St} {H : Hp} {s : Shared}
theorem GSc.has {scope : Scope} {x : Str} {i : Nat} (G : GSc X.N X.env.scope scope x i) (ok : X.Ok) : ∀ y ∈ scope.names, y.2 = .free → ∃ c, X.env.cells.lookup y.1 = some c := fun y hy e => by
  rcases G.free y hy e with k | k
  · exact ok.has _ (.inl k)
  · exact ok.has _ (.inr k)
/-- the generator has been made: its body's invariant -/
theorem gen_inv {scope : Scope} {x : Str} {i : Nat} {A : Around} {fp : List Addr} {code : Value} {h' : Heap} {G' : Array GenState} {tk : Nat} {go : Obj} {m : Str → Option Value}
    (I : Inv X pins σ H s) (G : GSc X.N X.env.scope scope x i) (hN : X.N.Nodup) (hfp : ∀ b ∈ fp, FpOk X pins H b ∧ b < s.heap.objs.size) (hA : A.frames = some (genEnv scope (cloFrom X.env.cells scope.names []) s.heap.objs.size code builtinsNs X.env :: X.stack)) (hh : A.handled = none)
    (hns : h'.Ns s.heap.objs.size m) (hk : ∀ b o, s.heap.get? b = some o → h'.get? b = some o) (hsz : h'.objs.size = s.heap.objs.size + 1) (hgp : ∀ h : Heap, (h.push go).get? h.objs.size = some go) (hgd : ∀ v, go.data ≠ .cell v) (hG : AllBare G') :
    Inv (genCx X A s H (genEnv scope (cloFrom X.env.cells scope.names []) s.heap.objs.size code builtinsNs X.env) fp) [(h'.objs.size, go)] (σ.set i none) H { s with heap := h'.push go, gens := G', toks := tk } := by
  have hfree := G.has I.ok
  generalize hcenv : genEnv scope (cloFrom X.env.cells scope.names []) s.heap.objs.size code builtinsNs X.env = cenv
  have hL : cenv.locals = s.heap.objs.size := by rw [← hcenv]; rfl
  have hcl : cenv.cells = cloFrom X.env.cells scope.names [] := by rw [← hcenv]; rfl
  have hsc : cenv.scope = scope := by rw [← hcenv]; rfl
  rw [hcenv] at hA
  have cm : ∀ {y c}, cenv.cells.lookup y = some c → X.env.cells.lookup y = some c := fun {y c} e => by
    rw [hcl] at e
    rcases cloFrom_mem (PySem.mem_of_lookup e) with hm | ⟨h1, h2⟩
    · cases hm
    · obtain ⟨c1, hc⟩ := hfree _ h1 rfl
      have hc : X.env.cells.lookup y = some c1 := hc
      have e2 : c = c1 := by
        rw [h2, hc] <;> rfl
      rw [e2]
      exact hc
  have look : ∀ {y}, scope.names.lookup y = some .free → ∃ c, cenv.cells.lookup y = some c := fun {y} hl => by
    have hy : (y, NameKind.free) ∈ scope.names := PySem.mem_of_lookup hl
    rw [hcl]
    exact mem_lookup (cloFrom_has (cells := X.env.cells) (acc := []) hy)
  have keep5 : ∀ b o, s.heap.get? b = some o → (h'.push go).get? b = some o := fun b o e => Heap.get?_push_of_some _ (hk b o e)
  have okG : (genCx X A s H cenv fp).Ok := by
    refine ⟨I.ok.mod, by show cenv.scope.kind = _; rw [hsc]; exact G.kind, by show cenv.globals = _; rw [← hcenv]; exact I.ok.glob, by show cenv.builtins = _; rw [← hcenv]; rfl, by show s.heap.objs.size ≤ cenv.locals; rw [hL]; exact Nat.le_refl _,
      fun y z c e1 e2 => I.ok.inj y z c (cm e1) (cm e2), fun y hy => ?_, fun y c z _ => ?_, fun _ => hh, hA, .inr ⟨rfl, by show cenv.frame = some cenv.locals; rw [← hcenv]; rfl⟩, fun b hb => ⟨?_, fun y c e z => ?_⟩, I.bs, Nat.le_trans I.ok.bsz I.sz, fun b o e hb => ?_, fun b hb z => ?_, I.stack, I.stkFree⟩
    · have hy : scope.names.lookup y = some .cell ∨ scope.names.lookup y = some .free := by rw [← hsc]; exact hy
      rcases hy with hy | hy
      · exact absurd rfl (G.cell _ (PySem.mem_of_lookup hy))
      · exact look hy
    · have z : false = true := z
      cases z
    · show b ≠ cenv.locals
      rw [hL]; exact Nat.ne_of_lt (hfp b hb).2
    · exact (hfp b hb).1.2.2.2.2.1 y c (cm e) z
    · rcases (hfp b hb).1.2.2.2.1 with z | z
      · exact I.ok.noex b o e z
      · exact absurd (Nat.lt_of_lt_of_le (Heap.lt_size e) (Nat.le_trans I.ok.bsz z)) (Nat.lt_irrefl _)
    · rcases List.mem_cons.mp (I.stkSub b z) with z | z
      · exact (hfp b hb).1.2.1 z
      · exact (hfp b hb).1.2.2.1 z
  have ha : s.heap.objs.size ≤ h'.objs.size := by rw [hsz]; exact Nat.le_succ _
  refine ⟨okG, rfl, hG, Un.kept keep5, ⟨m, ?_, fun j y v e1 e2 e3 => ?_⟩, fun y c e => ?_, ?_, fun y c e => I.freeC y c (cm e), fun p hp => ?_, I.hok.kept keep5, ?_⟩
  · show Heap.Ns _ cenv.locals _
    rw [hL]
    exact hns.push go
  · have e3 : Vis scope y := by rw [← hsc]; exact e3
    rcases e3 with k | k | k
    · rcases G.own _ (PySem.mem_of_lookup k) rfl with z | z
      · have z : y = x := z
        rw [z] at e1
        have hj : j = i := nodup_ix hN e1 G.ix
        rw [hj] at e2
        by_cases hi : i < σ.length
        · rw [List.getElem?_set_self hi] at e2; cases e2
        · rw [List.getElem?_eq_none (by simpa using hi)] at e2; cases e2
      · exact absurd (List.mem_of_getElem? e1) z
    · exact absurd rfl (G.cell _ (PySem.mem_of_lookup k))
    · obtain ⟨m', hn', hl'⟩ := I.loc
      have e2' : σ[j]? = some (some v) := by
        by_cases hj : i = j
        · rw [hj] at e2
          by_cases hi : j < σ.length
          · rw [List.getElem?_set_self hi] at e2; cases e2
          · rw [List.getElem?_eq_none (by simpa using hi)] at e2; cases e2
        · rw [List.getElem?_set_ne hj] at e2; exact e2
      have hvis : Vis X.env.scope y := (G.free _ (PySem.mem_of_lookup k) rfl).elim (fun k => .inr (.inl k)) (fun k => .inr (.inr k))
      obtain ⟨u, r, q⟩ := hl' j y v e1 e2' hvis
      obtain ⟨c2, h2⟩ := look k
      have c1 := cm h2
      refine ⟨u, r, .inr ⟨.inr (by show cenv.scope.names.lookup y = _; rw [hsc]; exact k), c2, h2, ?_⟩⟩
      rcases q with ⟨k', _⟩ | ⟨_, c3, e', z⟩
      · have k' : X.env.scope.names.lookup y = some .local := k'
        rcases G.free _ (PySem.mem_of_lookup k) rfl with k2 | k2 <;> rw [show X.env.scope.names.lookup y = _ from k2] at k' <;> cases k'
      · rw [c1] at e'
        cases e'
        exact z.keeps keep5
  · obtain ⟨u, z⟩ := I.cell y c (cm e)
    exact ⟨u, z.keeps keep5⟩
  · show H cenv.locals = none
    rw [hL]; exact I.hok.fresh (Nat.le_refl _)
  · have hp : p ∈ [] ++ [(h'.objs.size, go)] := hp
    have e := List.mem_singleton.mp (show p ∈ [(h'.objs.size, go)] from by simpa using hp)
    rw [e]
    refine ⟨hgp h', I.hok.fresh ha, ?_, fun z => ?_, hgd⟩
    · show h'.objs.size ≠ cenv.locals
      rw [hL, hsz]; exact Nat.succ_ne_self _
    · rcases List.mem_cons.mp (I.stkSub _ z) with z | z
      · have := I.lt
        rw [← z] at this
        exact absurd (Nat.lt_of_lt_of_le this ha) (Nat.lt_irrefl _)
      · exact I.nofs ha z
  · show (σ.set i none).length = X.N.length
    rw [List.length_set]; exact I.len
end
/-- the reading of a generator's turns: while the item is go it goes on; Qf: behind the end (go), behind another item (!go) -/
def Turns (go : Bool) (J : It) (i : Nat) (te : TE) (σ : L2.St) (Qf : Bool → Hp → Prop) (W : Nat → Nat → Hp → Prop) : Prop := ∀ n m H, W n m H →
  (J.stop n H ∧ Qf go H) ∨ (J.go n H ∧ ∀ x H', J.yld n H x H' → te (σ.set i (some x)) H' fun y H'' => ∃ b, y = .bl b ∧ (b = go → ∃ m', m' < m ∧ W (n + 1) m' H'') ∧ (b ≠ go → Qf (!go) H''))
/-- the generator's code -/
abbrev genCode (elt iter : Expr) (x : Str) (px pos : Pos) (scope : Scope) (it : Addr) (cenv : Env) : PySem.Code := PySem.Code.compLoop (.GeneratorExp elt [⟨.Name x px, iter, [], 0⟩] scope pos) 0 (.ref it) .none cenv
section
variable {X : Cx}
theorem seg_loopG {elt iter : Expr} {x : Str} {px pos : Pos} {scope : Scope} {B : Around} {s₄ : Shared} {H₄ : Hp} {cenv : Env} {fp : List Addr} {it a : Addr} {g i : Nat} {J : It} {tn : Nat → Heap → Prop} {te : TE} {σ0 : L2.St} {Qf : Bool → Hp → Prop} {W : Nat → Nat → Hp → Prop} {go : Bool} {gobj : Obj}
    (hgen : ∀ h : Heap, h.get? a = some gobj → h.IsGen a g) (T : Turn X.prog X.w X.K (.Name x px) J fp it tn)
    (hel : PE (genCx X (B.over (genCode elt iter x px pos scope it cenv) []) s₄ H₄ cenv fp) elt te) (hix : X.N[i]? = some x) (hN : X.N.Nodup) (hloc : cenv.scope.names.lookup x = some .local) (hco : cenv.scope.isCoroutine = false) (hafp : ∀ b ∈ fp, a ≠ b) (tr : Turns go J i te σ0 Qf W) :
    ∀ (n k m : Nat) (σ' : L2.St) (H : Hp) (s₀ s : Shared), m < n → W k m H → Inv (genCx X (B.over (genCode elt iter x px pos scope it cenv) []) s₄ H₄ cenv fp) [(a, gobj)] σ' H s → (∀ v, σ'.set i (some v) = σ0.set i (some v)) → tn k s.heap → (∀ b ∈ fp, H b = none) →
      Seg (model X.prog X.w) B (RB fun s => ∃ σ' H', Inv (genCx X (B.over (genCode elt iter x px pos scope it cenv) []) s₄ H₄ cenv fp) [(a, gobj)] σ' H' s ∧ Qf go H')
        (YB go a g fun s => ∃ σ' H', Inv (genCx X (B.over (genCode elt iter x px pos scope it cenv) []) s₄ H₄ cenv fp) [(a, gobj)] σ' H' s ∧ Qf (!go) H') n s₀
        (genCode elt iter x px pos scope it cenv) ((model X.prog X.w).den (genCode elt iter x px pos scope it cenv)) [] s := by
  intro n
  induction n with
  | zero => intro k m σ' H s₀ s hm; exact absurd hm (Nat.not_lt_zero _)
  | succ n ih =>
    intro k m σ' H s₀ s hm w I hσ st fr
    have stat : ∀ {H' : Hp}, (∀ b ∈ fp, H' b = none) → ∀ b ∈ fp, FpOk (genCx X (B.over (genCode elt iter x px pos scope it cenv) []) s₄ H₄ cenv fp) [(a, gobj)] H' b := fun {H'} hn b hb => by
      refine ⟨hn b hb, (I.ok.exf b hb).1, I.ok.exfs b hb, .inl hb, (I.ok.exf b hb).2, fun p hp => ?_⟩
      have e := List.mem_singleton.mp (show p ∈ [(a, gobj)] from by simpa using hp)
      rw [e]
      exact hafp b hb
    show Seg _ B _ _ _ s₀ _ ((compTurn (.GeneratorExp elt [⟨.Name x px, iter, [], 0⟩] scope pos) 0 (.ref it) .none cenv).onRaise (leaving cenv)) [] s
    rw [compTurn_gen, Sem.onRaise_eq_wrap]
    refine seg_bind_wrap (wpAny_standAt ?_)
    rcases tr k m H w with ⟨stop, q⟩ | ⟨goes, step⟩
    · refine seg_bind_wrap (thn (T.done (genCx X (B.over (genCode elt iter x px pos scope it cenv) []) s₄ H₄ cenv fp) rfl rfl rfl rfl k [(a, gobj)] s σ' H _ I (stat fr) st stop) fun r s1 ⟨hr, I1⟩ => ?_)
      subst hr
      exact seg_end (.ok .next) ⟨rfl, I1.bare, σ', H, I1, q⟩
    · refine seg_bind_wrap (thn (T.item (genCx X (B.over (genCode elt iter x px pos scope it cenv) []) s₄ H₄ cenv fp) rfl rfl rfl rfl k [(a, gobj)] s σ' H _ I (stat fr) st goes) fun r s1 ⟨u, hr, h1⟩ => ?_)
      subst hr
      refine seg_bind_wrap (thn h1 fun _ s2 ⟨y, H2, I2, r2, y2, st2, fr2⟩ => ?_)
      have I2' := I2.pinned (stat fr2) (T.obj _ _ st2)
      have pg : PG (genCx X (B.over (genCode elt iter x px pos scope it cenv) []) s₄ H₄ cenv fp) (.Name x px) (gName i) := pg_name hN hix (.inl hloc) (.inr hloc)
      refine seg_bind_wrap (wpAny_mono (pg.run _ s2 σ' H2 y u (fun σ3 H3 => σ3 = σ'.set i (some y) ∧ H3 = H2) I2' r2 ⟨rfl, rfl⟩) (fun _ s3 h3 => ?_) fun _ _ z => z.elim)
      obtain ⟨σ3, H3, I3, e3, e3'⟩ := h3
      subst e3 e3'
      simp only [List.forIn_nil]
      refine seg_bind_wrap (wpAny_pure ?_)
      simp only [if_true]
      have hy : ∀ v, yieldOut cenv v = yieldValue v := fun v => by simp only [yieldOut, hco, Bool.false_eq_true, if_false]
      simp only [hy]
      rw [Sem.bind_eq_wrap', Sem.bind_eq_wrap', Sem.wrap_wrap, Sem.wrap_wrap]
      refine seg_wrap (wpAny_mono (hel.run _ s3 _ _ _ I3 (by rw [hσ]; exact step y H3 y2)) (fun v s4 h4 => ?_) fun _ _ z => z.elim)
      obtain ⟨yv, H4, I4, r4, b, rfl, hgo, hno⟩ := h4
      have r4 : v = .bool b := r4
      subst r4
      have pin4 : ∀ c ∈ fp, ∀ o, s2.heap.get? c = some o → s4.heap.get? c = some o ∧ H4 c = none := fun c hc o e => by
        have q := I4.pin (c, o) (List.mem_append_right _ (List.mem_append_right _ (mem_pinsAt hc e)))
        exact ⟨q.1, q.2.1⟩
      have I5 : Inv (genCx X (B.over (genCode elt iter x px pos scope it cenv) []) s₄ H₄ cenv fp) [(a, gobj)] (σ'.set i (some y)) H4 s4 := I4.unpinned
      have hga : s4.heap.IsGen a g := hgen _ (I5.pin (a, gobj) (List.mem_append_right _ (List.mem_singleton.mpr rfl))).1
      refine seg_at (seg_yield rfl rfl rfl ⟨b, rfl, I4.bare, I4.nolimit, hga, fun hb s'' hs'' => ?_, fun hb => ⟨_, H4, I5, hno hb⟩⟩)
      obtain ⟨m', hm', w'⟩ := hgo hb
      have I6 : Inv (genCx X (B.over (genCode elt iter x px pos scope it cenv) []) s₄ H₄ cenv fp) [(a, gobj)] (σ'.set i (some y)) H4 s'' :=
        I5.call' (ch := []) hs''.2.1 (by rw [hs''.1]; exact Un.refl) (by rw [hs''.1]; exact I5.hok) hs''.2.2 fun c hc => absurd hc (by simp)
      refine seg_again rfl (ih (k + 1) m' _ H4 s'' s'' (by omega) w' I6 (fun v => ?_) ?_ fun c hc => ?_)
      · rw [List.set_set]; exact hσ v
      · rw [hs''.1]
        exact T.keep _ _ _ st2 fun c hc o e => (pin4 c hc o e).1
      · obtain ⟨o, e, _⟩ := T.obj _ _ st2 c hc
        exact (pin4 c hc o e).2
theorem seg_startG {elt iter : Expr} {x : Str} {px pos : Pos} {scope : Scope} {B : Around} {s₄ : Shared} {H₄ : Hp} {cenv : Env} {fp : List Addr} {it a : Addr} {g i : Nat} {J : It} {tn : Nat → Heap → Prop} {te : TE} {σ0 : L2.St} {Qf : Bool → Hp → Prop} {W : Nat → Nat → Hp → Prop} {go : Bool} {gobj : Obj}
    (hgen : ∀ h : Heap, h.get? a = some gobj → h.IsGen a g) (T : Turn X.prog X.w X.K (.Name x px) J fp it tn)
    (hel : PE (genCx X (B.over (genCode elt iter x px pos scope it cenv) []) s₄ H₄ cenv fp) elt te) (hix : X.N[i]? = some x) (hN : X.N.Nodup) (hloc : cenv.scope.names.lookup x = some .local) (hco : cenv.scope.isCoroutine = false) (hafp : ∀ b ∈ fp, a ≠ b) (tr : Turns go J i te σ0 Qf W)
    (m : Nat) (σ' : L2.St) (H : Hp) (s₀ s : Shared) (w : W 0 m H) (I : Inv (genCx X (B.over (genCode elt iter x px pos scope it cenv) []) s₄ H₄ cenv fp) [(a, gobj)] σ' H s) (hσ : ∀ v, σ'.set i (some v) = σ0.set i (some v)) (st : tn 0 s.heap) (fr : ∀ b ∈ fp, H b = none) :
      Seg (model X.prog X.w) B (RB fun s => ∃ σ' H', Inv (genCx X (B.over (genCode elt iter x px pos scope it cenv) []) s₄ H₄ cenv fp) [(a, gobj)] σ' H' s ∧ Qf go H')
        (YB go a g fun s => ∃ σ' H', Inv (genCx X (B.over (genCode elt iter x px pos scope it cenv) []) s₄ H₄ cenv fp) [(a, gobj)] σ' H' s ∧ Qf (!go) H') (m + 1) s₀
        (.compStart (.GeneratorExp elt [⟨.Name x px, iter, [], 0⟩] scope pos) 0 (.ref it) .none cenv) ((model X.prog X.w).den (.compStart (.GeneratorExp elt [⟨.Name x px, iter, [], 0⟩] scope pos) 0 (.ref it) .none cenv)) [] s := by
  have loop := seg_loopG hgen T hel hix hN hloc hco hafp tr (m + 1) 0 m σ' H s₀ s (Nat.lt_succ_self _) w I hσ st fr
  show Seg _ B _ _ _ s₀ _ ((compStart (.GeneratorExp elt [⟨.Name x px, iter, [], 0⟩] scope pos) 0 (.ref it) .none cenv).onRaise (leaving cenv)) [] s
  unfold compStart
  rw [Sem.onRaise_eq_wrap]
  show Seg _ B _ _ _ s₀ _ ((ask >>= _).wrap _ _ _ _) [] s
  refine seg_bind_wrap (wpAny_askSetting ?_)
  split
  · exact seg_again rfl loop
  · first
      | exact seg_bind_wrap (wpAny_rule (seg_bind_wrap (wpAny_standAt (seg_bind_wrap (T.self _ 0 s _ _ st (seg_again rfl loop))))))
      | (refine seg_bind_wrap (wpAny_rule ?_); show Seg _ B _ _ _ s₀ _ ((standAt iter.pos >>= _).wrap _ _ _ _) [] s; exact seg_bind_wrap (wpAny_standAt (seg_bind_wrap (T.self _ 0 s _ _ st (seg_again rfl loop)))))
end
/-! ### any, all of a generator expression -/
section
variable {X : Cx} {pins : List (Addr × Obj)} {σ : L2.St} {H : Hp} {s : Shared}
theorem room_over {A : Around} {k : Nat} (r : Room (k + 1) A) (elt iter : Expr) (x : Str) (px pos : Pos) (scope : Scope) (it : Addr) (cenv : Env) : Room k (A.in1.in1.over (genCode elt iter x px pos scope it cenv) []) := by
  refine ⟨r.hd, ?_, ?_⟩
  · have := r.dp
    show A.depth + 0 + 1 + 3 * k + 5 < _
    omega
  · have := r.un
    show A.units + 1 + 1 + 0 + 3 * 1 + 16 * k + 200 < _
    omega
theorem frames_over {A : Around} {outer : List Env} (h : A.frames = some outer) (elt iter : Expr) (x : Str) (px pos : Pos) (scope : Scope) (it : Addr) (cenv : Env) : (A.in1.in1.over (genCode elt iter x px pos scope it cenv) []).frames = some (cenv :: outer) := by
  show (A.frames).map (fun l => [cenv] ++ l) = _
  rw [h]
  rfl
/-- the generator is made, ready to be drained -/
def GenReady (X : Cx) (pins : List (Addr × Obj)) (σ : L2.St) (Q : VK) (go : Bool) (a : Addr) (s5 : Shared) : Prop :=
  ∃ (g : Nat) (D F : Shared → Prop) (n : Nat), s5.heap.IsGen a g ∧ s5.heap.NoLimit ∧ (∃ gs, s5.gens[g]? = some gs ∧ gs.Goes (model X.prog X.w) X.A.in1.in1 (RB D) (YB go a g F) n (.send .none) (s5.setGen g .running)) ∧
    (∀ s s', D s → Stands s s' → EP X pins σ Q (.bool go) s') ∧ ∀ s s', F s → Stands s s' → EP X pins σ Q (.bool (!go)) s'
def tGenB (go : Bool) (T : List (Addr × Str)) (i : Nat) (wi : TI) (te : TE) : TE := fun σ H Q => wi σ H fun J H1 => LamX.Tabs T H1 ∧ ∀ H2, LamX.ExtN H1 H2 → LamX.Tabs T H2 → ∃ W : Nat → Nat → Hp → Prop, (∃ m, W 0 m H2) ∧ Turns go J i te σ (fun b H' => Q (.bl b) H') W
theorem gen_make {go : Bool} {T : List (Addr × Str)} {c P : Addr} {elt iter : Expr} {x : Str} {px gpos : Pos} {scope : Scope} {i k : Nat} {wi : TI} {te : TE} {Q : VK} {Q' : Value → Shared → Prop}
    (hr : Room (k + 1) X.A) (TB : LamX.TabB X.base X.mg c P) (hcode : X.env.code = .ref c) (hmT : (P, X.env.qual ++ "<genexpr>") ∈ T) (hu : ∀ p ∈ T, p.1 = P → p.2 = X.env.qual ++ "<genexpr>") (G : GSc X.N X.env.scope scope x i) (hN : X.N.Nodup) (hi : PI X (.Name x px) iter wi)
    (hel : ∀ (A : Around) (s : Shared) (H : Hp) (C : Addr) (code : Value) (fp : List Addr), Room k A → PE (genCx X A s H (genEnv scope (cloFrom X.env.cells scope.names []) C code builtinsNs X.env) fp) elt te)
    (hs : ∀ v, genFold iter X.env v = pure v) (I : Inv X pins σ H s) (h : tGenB go T i wi te σ H Q) (hQ : ∀ a s5, GenReady X pins σ Q go a s5 → Q' (.ref a) s5) :
    wpAny (model X.prog X.w) X.A (eval (.GeneratorExp elt [⟨.Name x px, iter, [], 0⟩] scope gpos) X.env) Q' X.xe s := by
  refine wpAny_GeneratorExp_make G.co (closure_ok (G.has I.ok)) G.cell G.dot G.kind (by have := hr.dp; omega) ?_ hs
  refine thn (hi.run pins s σ H _ I h) fun xv s1 h1 => thn h1 fun itv s2 ⟨it, fp, tn, J, H1, e, I1, Tn, st, hfp, hT, q⟩ => ?_
  subst e
  refine ⟨I1.nolimit, ?_⟩
  obtain ⟨ps, hP, ht, ha⟩ := hT _ hmT
  have hPs : s2.heap.get? P = some { cls := .none, data := .fields ps } := I1.hok P _ hP
  have fpP : ∀ b ∈ fp, b ≠ P := fun b hb z => by
    have q1 := (hfp b hb).1
    rw [z, hP] at q1; cases q1
  have fplt : ∀ b ∈ fp, b < s2.heap.objs.size := fun b hb => let ⟨o, e, _⟩ := Tn.obj _ _ st b hb; Heap.lt_size e
  have cont : ∀ (code : Value) (h3 : Heap) (tk : Nat) (H4 : Hp), Inv X pins σ H4 { s2 with heap := h3, toks := tk } → LamX.ExtN H1 H4 → LamX.Tabs T H4 → (∀ b o, b ≠ P → s2.heap.get? b = some o → h3.get? b = some o) → s2.heap.objs.size ≤ h3.objs.size → (∀ b ∈ fp, H4 b = none) →
      wpAny (model X.prog X.w) X.A (builtinsFor X.env.globals X.env.builtins) (fun bi s₄ => ∀ h', h'.Ns s₄.heap.objs.size (fun y => if y = ".0" then some (Value.ref it) else none) → Heap.SameBut s₄.heap.objs.size (s₄.heap.push { cls := .type "frame", data := .dict #[] }) h' →
          Q' (.ref h'.objs.size) { s₄ with
            gens := s₄.gens.push (.fresh (.compStart (.GeneratorExp elt [⟨.Name x px, iter, [], 0⟩] scope gpos) 0 (.ref it) .none (genEnv scope (cloFrom X.env.cells scope.names []) s₄.heap.objs.size code bi X.env))),
            toks := s₄.toks + 1 + 1 + 1,
            heap := h'.push { cls := .type "generator", data := .fields #[.int s₄.gens.size 0, .str "<genexpr>" (s₄.toks + 1), .str (X.env.qual ++ "<genexpr>") (s₄.toks + 1 + 1)] } }) X.xe { s2 with heap := h3, toks := tk } := by
    intro code h3 tk H4 I4 eN T4 k3 sz3 fr4
    obtain ⟨bm, ob, e1, e2, e3, e4, e5, e6, e7, e8⟩ := TB.bm
    refine wpAny_builtinsFor (m := X.mg) (by rw [I4.ok.glob]; exact I4.mod.glob.keeps I4.bk) e1 e2 (I4.bk _ _ e5) e6 e7 e8 ?_
    intro h' hn' hs'
    have hsz : h'.objs.size = h3.objs.size + 1 := by rw [hs'.1, Heap.size_push]
    have keep' : ∀ b o, h3.get? b = some o → h'.get? b = some o := fun b o e => hs'.extBut b o (Nat.ne_of_lt (Heap.lt_size e)) (Heap.get?_push_of_some _ e)
    have hfp4 : ∀ b ∈ fp, FpOk X pins H4 b ∧ b < h3.objs.size := fun b hb => ⟨⟨fr4 b hb, (hfp b hb).2⟩, Nat.lt_of_lt_of_le (fplt b hb) sz3⟩
    have hh : X.A.handled = none := hr.hd
    have J0 := gen_inv (x := x) (i := i) (A := X.A.in1.in1.over (genCode elt iter x px gpos scope it (genEnv scope (cloFrom X.env.cells scope.names []) h3.objs.size code builtinsNs X.env)) []) (fp := fp) (code := code) (h' := h') (G' := s2.gens.push (.fresh (.compStart (.GeneratorExp elt [⟨.Name x px, iter, [], 0⟩] scope gpos) 0 (.ref it) .none (genEnv scope (cloFrom X.env.cells scope.names []) h3.objs.size code builtinsNs X.env))))
      (tk := tk + 1 + 1 + 1) (go := { cls := .type "generator", data := .fields #[.int s2.gens.size 0, .str "<genexpr>" (tk + 1), .str (X.env.qual ++ "<genexpr>") (tk + 1 + 1)] }) I4 G hN hfp4 (frames_over I4.ok.frames ..) hh hn' keep' hsz (fun h => Heap.get?_push_size _ rfl) (fun v z => by cases z) (AllBare.push I4.bare rfl)
    obtain ⟨W, ⟨m, w0⟩, tr⟩ := q H4 eN T4
    have gl : (s2.gens.push (.fresh (.compStart (.GeneratorExp elt [⟨.Name x px, iter, [], 0⟩] scope gpos) 0 (.ref it) .none (genEnv scope (cloFrom X.env.cells scope.names []) h3.objs.size code builtinsNs X.env))))[s2.gens.size]? = some (.fresh (.compStart (.GeneratorExp elt [⟨.Name x px, iter, [], 0⟩] scope gpos) 0 (.ref it) .none (genEnv scope (cloFrom X.env.cells scope.names []) h3.objs.size code builtinsNs X.env))) := Array.getElem?_push_size ..
    have hgen : ∀ h : Heap, h.get? h'.objs.size = some { cls := .type "generator", data := .fields #[.int s2.gens.size 0, .str "<genexpr>" (tk + 1), .str (X.env.qual ++ "<genexpr>") (tk + 1 + 1)] } → h.IsGen h'.objs.size s2.gens.size := fun h e => ⟨_, _, _, e, rfl, rfl, rfl⟩
    have hafp : ∀ b ∈ fp, h'.objs.size ≠ b := fun b hb z => by
      have h1 : b < h3.objs.size := (hfp4 b hb).2
      rw [← z, hsz] at h1
      exact absurd (Nat.lt_of_succ_lt h1) (Nat.lt_irrefl _)
    have fin : ∀ (b : Bool) (sa sb : Shared), (∃ σ' H', Inv (genCx X (X.A.in1.in1.over (genCode elt iter x px gpos scope it (genEnv scope (cloFrom X.env.cells scope.names []) h3.objs.size code builtinsNs X.env)) []) { s2 with heap := h3, toks := tk } H4 (genEnv scope (cloFrom X.env.cells scope.names []) h3.objs.size code builtinsNs X.env) fp)
        [(h'.objs.size, { cls := .type "generator", data := .fields #[.int s2.gens.size 0, .str "<genexpr>" (tk + 1), .str (X.env.qual ++ "<genexpr>") (tk + 1 + 1)] })] σ' H' sa ∧ Q (.bl b) H') → Stands sa sb → EP X pins σ Q (.bool b) sb := by
      intro b sa sb ⟨σ', H', Ia, qa⟩ hst
      refine ⟨.bl b, H', I4.call' (ch := fp) (hst.2.1.trans Ia.os) (Ia.base.trans (Un.kept hst.1)) (Ia.hok.kept hst.1) hst.2.2 fun c hc => ?_, rfl, qa⟩
      obtain ⟨f0, f1, f2, f3, f4, f5⟩ := (hfp4 c hc).1
      exact ⟨f3, f1, f4, f5⟩
    refine hQ _ _ ⟨s2.gens.size, _, _, m + 1, hgen _ (Heap.get?_push_size _ rfl), J0.nolimit, ⟨_, gl, rfl, ?_⟩, fun sa sb hD hst => fin go sa sb hD hst, fun sa sb hF hst => fin (!go) sa sb hF hst⟩
    have J1 := J0.call' (s' := ({ s2 with heap := h'.push { cls := .type "generator", data := .fields #[.int s2.gens.size 0, .str "<genexpr>" (tk + 1), .str (X.env.qual ++ "<genexpr>") (tk + 1 + 1)] }, gens := s2.gens.push (.fresh (.compStart (.GeneratorExp elt [⟨.Name x px, iter, [], 0⟩] scope gpos) 0 (.ref it) .none (genEnv scope (cloFrom X.env.cells scope.names []) h3.objs.size code builtinsNs X.env))), toks := tk + 1 + 1 + 1 } : Shared).setGen s2.gens.size .running) (ch := []) rfl Un.refl J0.hok (allBare_setGen J0.bare rfl) fun c hc => absurd hc (by simp)
    refine seg_startG (s₄ := { s2 with heap := h3, toks := tk }) (H₄ := H4) (σ0 := σ) hgen Tn (hel _ _ _ _ _ _ (room_over hr ..)) G.ix hN G.loc G.co hafp tr m _ H4 _ _ w0 J1 (fun v => by rw [List.set_set]) ?_ fr4
    refine Tn.keep _ _ _ st fun b hb o e => ?_
    exact Heap.get?_push_of_some _ (keep' b o (k3 b o (fpP b hb) e))
  have bP : s2.heap.BuiltinsAt X.mg P := TB.bm.keeps I1.bk
  have cd : PySem.W.CodeHd s2.heap c P := TB.code.keeps I1.bk
  cases hf : codeAmong gpos ps.toList with
  | none =>
    refine wpAny_genexprCodeX hcode (cd.code hPs ht) (cd.tab hPs) hf fun c' h' tk hx hge hlt hco' hrec htab' _ => ?_
    obtain ⟨c2, oc, vs, t, e2, hoc, hd, hv⟩ := hrec
    cases e2
    have nC : H1 c' = none := I1.hok.fresh hge
    have I2 := LamX.inv_table (t' := tk) (q := X.env.qual ++ "<genexpr>") (more := #[rawInt gpos.line, rawInt gpos.col, .ref c']) (h' := h') I1 hP (fun b o hb e => hx b o hb e) htab'.2 hge ⟨oc, vs, t, hoc, hd, hv⟩
    have hE : LamX.ExtN H1 (upd (upd H1 P (.tbl (ps ++ #[rawInt gpos.line, rawInt gpos.col, .ref c']))) c' (LamX.CodeO c' (X.env.qual ++ "<genexpr>"))) := fun b o e n => by
      rw [upd_ne (ne_of_none e nC), upd_ne (fun z => n ps (Option.some.inj (e.symm.trans (by rw [z]; exact hP))))]
      exact e
    have eL : (ps ++ #[rawInt gpos.line, rawInt gpos.col, .ref c']).toList = ps.toList ++ [rawInt gpos.line, rawInt gpos.col, .ref c'] := by simp
    refine cont (.ref c') h' tk _ I2 hE (fun p hp => ?_) (fun b o hb e => hx b o hb e) (Nat.le_trans hge (Nat.le_of_lt hlt)) fun b hb => ?_
    · by_cases hb : p.1 = P
      · rw [hu p hp hb, hb]
        refine ⟨_, by rw [upd_ne (ne_of_none hP nC), upd_same], by rw [eL]; exact PySem.TriplesOk_snoc _ _ _ _ ht, fun p' cv hcv => ?_⟩
        rw [eL] at hcv
        rcases LamX.among_app _ ht hcv with z | z
        · obtain ⟨c0, e1, e2⟩ := ha p' cv z
          exact ⟨c0, e1, hE _ _ e2 LamX.codeO_ne⟩
        · exact ⟨c', z, upd_same⟩
      · obtain ⟨ps', a1, a2, a3⟩ := hT p hp
        refine ⟨ps', by rw [upd_ne (ne_of_none a1 nC), upd_ne hb]; exact a1, a2, fun p' cv hcv => ?_⟩
        obtain ⟨c0, e1, e2⟩ := a3 p' cv hcv
        exact ⟨c0, e1, hE _ _ e2 LamX.codeO_ne⟩
    · have hbc : b ≠ c' := Nat.ne_of_lt (Nat.lt_of_lt_of_le (fplt b hb) hge)
      rw [upd_ne hbc, upd_ne (fpP b hb)]
      exact (hfp b hb).1
  | some cv =>
    refine wpAny_genexprCode_hit hcode (cd.code hPs ht) hf ?_
    exact cont cv s2.heap s2.toks H1 I1 (LamX.ExtN.refl _) hT (fun _ _ _ e => e) (Nat.le_refl _) fun b hb => (hfp b hb).1
variable {T : List (Addr × Str)} {c P : Addr} {elt iter : Expr} {x : Str} {px p pos gpos : Pos} {scope : Scope} {i k : Nat} {wi : TI} {te : TE}
theorem pe_allG (hr : Room (k + 1) X.A) (hg : Gl X "all") (hm : X.mg "all" = none) (hb : bootBuiltins "all" = some (.builtin "all")) (TB : LamX.TabB X.base X.mg c P) (hcode : X.env.code = .ref c) (hmT : (P, X.env.qual ++ "<genexpr>") ∈ T) (hu : ∀ p ∈ T, p.1 = P → p.2 = X.env.qual ++ "<genexpr>") (G : GSc X.N X.env.scope scope x i) (hN : X.N.Nodup) (hi : PI X (.Name x px) iter wi)
    (hel : ∀ (A : Around) (s : Shared) (H : Hp) (C : Addr) (code : Value) (fp : List Addr), Room k A → PE (genCx X A s H (genEnv scope (cloFrom X.env.cells scope.names []) C code builtinsNs X.env) fp) elt te)
    (hs : ∀ v, genFold iter X.env v = pure v)
    (he : starEach [.GeneratorExp elt [⟨.Name x px, iter, [], 0⟩] scope gpos] X.env = (false, eval (.GeneratorExp elt [⟨.Name x px, iter, [], 0⟩] scope gpos) X.env) :: starEach [] X.env := by rfl) :
    PE X (.Call (.Name "all" p) [.GeneratorExp elt [⟨.Name x px, iter, [], 0⟩] scope gpos] [] pos) (tGenB true T i wi te) := by
  refine ⟨fun pins s σ H Q I h => ?_⟩
  refine wpAny_Call_Name_kw (ld_blt I hg hm hb ?_)
  refine PyProof.Rows.callWith_builtin1 ?_ he (by rfl)
  rw [he]
  show wpAny _ _ (spliced ((false, eval (.GeneratorExp elt [⟨.Name x px, iter, [], 0⟩] scope gpos) X.env) :: backTo pos (starEach [] X.env))) _ _ s
  refine Calls.spliced_cons (gen_make hr TB hcode hmT hu G hN hi hel hs I h fun a s5 hG => ?_)
  refine Calls.spliced_nil ?_
  obtain ⟨g, D, F, n, hg5, hl5, hgo, hD, hF⟩ := hG
  refine call_function_tree PySem.F.kind_all PySem.F.plain_all PySem.F.entry_all (PySem.F.args_all1 _) ?_
  unfold Builtin.«all»
  refine wpAny_bind (m := oneArg "all" _) (wpAny_pure ?_)
  refine wpAny_bind (wpAny_pyIter_gen hg5 ?_)
  exact wpAny_pure ⟨plainId_quiet PySem.F.plain_all_loop _, loop_all hr.hd (by have := hr.dp; omega) (fun sa sb a b => hD sa sb a b) (fun sa sb a b => hF sa sb a b) n s5 hg5 hl5 hgo⟩
theorem pe_anyG (hr : Room (k + 1) X.A) (hg : Gl X "any") (hm : X.mg "any" = none) (TB : LamX.TabB X.base X.mg c P) (hcode : X.env.code = .ref c) (hmT : (P, X.env.qual ++ "<genexpr>") ∈ T) (hu : ∀ p ∈ T, p.1 = P → p.2 = X.env.qual ++ "<genexpr>") (G : GSc X.N X.env.scope scope x i) (hN : X.N.Nodup) (hi : PI X (.Name x px) iter wi)
    (hel : ∀ (A : Around) (s : Shared) (H : Hp) (C : Addr) (code : Value) (fp : List Addr), Room k A → PE (genCx X A s H (genEnv scope (cloFrom X.env.cells scope.names []) C code builtinsNs X.env) fp) elt te)
    (hs : ∀ v, genFold iter X.env v = pure v)
    (he : starEach [.GeneratorExp elt [⟨.Name x px, iter, [], 0⟩] scope gpos] X.env = (false, eval (.GeneratorExp elt [⟨.Name x px, iter, [], 0⟩] scope gpos) X.env) :: starEach [] X.env := by rfl) :
    PE X (.Call (.Name "any" p) [.GeneratorExp elt [⟨.Name x px, iter, [], 0⟩] scope gpos] [] pos) (tGenB false T i wi te) := by
  refine ⟨fun pins s σ H Q I h => ?_⟩
  refine wpAny_Call_Name_kw (ld_blt I hg hm boot_any ?_)
  refine PyProof.Rows.callWith_builtin1 ?_ he (by rfl)
  rw [he]
  show wpAny _ _ (spliced ((false, eval (.GeneratorExp elt [⟨.Name x px, iter, [], 0⟩] scope gpos) X.env) :: backTo pos (starEach [] X.env))) _ _ s
  refine Calls.spliced_cons (gen_make hr TB hcode hmT hu G hN hi hel hs I h fun a s5 hG => ?_)
  refine Calls.spliced_nil ?_
  obtain ⟨g, D, F, n, hg5, hl5, hgo, hD, hF⟩ := hG
  refine call_function_tree PySem.F.kind_any PySem.F.plain_any PySem.F.entry_any (PySem.F.args_any1 _) ?_
  unfold Builtin.«any»
  refine wpAny_bind (m := oneArg "any" _) (wpAny_pure ?_)
  refine wpAny_bind (wpAny_pyIter_gen hg5 ?_)
  exact wpAny_pure ⟨plainId_quiet PySem.F.plain_any_loop _, loop_any hr.hd (by have := hr.dp; omega) (fun sa sb a b => hD sa sb a b) (fun sa sb a b => hF sa sb a b) n s5 hg5 hl5 hgo⟩
end
end CR

set_option Elab.async false
set_option linter.all false
set_option maxRecDepth 100000
set_option maxHeartbeats 4000000
namespace CR
open PySem PySem.Spec PyProof.Rows L2
/-! ### what follows a state: all but the code tables stands -/
abbrev Tbl := List (Addr × Str)
structure Fut (T : Tbl) (H H' : Hp) : Prop where
  e : LamX.ExtN H H'
  t : LamX.Tabs T H'
section
variable {T : Tbl} {H H1 H2 : Hp}
theorem Fut.refl (h : LamX.Tabs T H) : Fut T H H := ⟨LamX.ExtN.refl _, h⟩
theorem Fut.trans (a : Fut T H H1) (b : Fut T H1 H2) : Fut T H H2 := ⟨a.e.trans b.e, b.t⟩
theorem Fut.tk (a : Fut T H H1) : TK H H1 := TK.of a.e
theorem Fut.rp {d : Dt} {v : V} (a : Fut T H H1) (h : Rp H d v) : Rp H1 d v := h.tk a.tk
theorem Fut.rpA {ds : List Dt} {vs : List V} (a : Fut T H H1) (h : RpA H ds vs) : RpA H1 ds vs := h.tk a.tk
theorem Fut.lst {p : Addr} {xs : List V} (a : Fut T H H1) (h : H p = some (.lst xs)) : H1 p = some (.lst xs) := a.e _ _ h fun _ z => by cases z
theorem Fut.tup {p : Addr} {xs : List V} (a : Fut T H H1) (h : H p = some (.tup xs)) : H1 p = some (.tup xs) := a.e _ _ h fun _ z => by cases z
theorem Fut.frz {p : Addr} {o : Obj} {u : HO} (a : Fut T H H1) (h : H p = some (.frz o u)) : H1 p = some (.frz o u) := a.e _ _ h fun _ z => by cases z
theorem Fut.ins {p C dx : Addr} {fs : List (Str × V)} (a : Fut T H H1) (h : H p = some (.ins C dx fs)) : H1 p = some (.ins C dx fs) := a.e _ _ h fun _ z => by cases z
theorem Fut.ext {p : Addr} {φ : Heap → Prop} (a : Fut T H H1) (h : H p = some (.ext φ)) : H1 p = some (.ext φ) := a.e _ _ h fun _ z => by cases z
theorem Fut.sqL {K : PySem.W.Frag} {p : Addr} {xs : List V} (a : Fut T H H1) (h : SqL K H p xs) : SqL K H1 p xs := by
  rcases h with (h | ⟨o, h⟩) | h
  · exact .inl (.inl (a.lst h))
  · exact .inl (.inr ⟨o, a.frz h⟩)
  · exact .inr h
theorem Fut.free (a : Fut T H H1) {p : Addr} (h : H1 p = none) (hn : ∀ ps, H p ≠ some (.tbl ps)) : H p = none := by
  cases q : H p with
  | none => rfl
  | some o => rw [a.e _ _ q fun ps z => hn ps (by rw [q, z])] at h; cases h
/-- a new object -/
theorem Fut.new (a : Fut T H H1) {p : Addr} (h : H1 p = none) (o : HO) : Fut T H (upd H1 p o) :=
  ⟨a.e.trans (LamX.ExtN.of fun b u e => by rw [upd_ne (ne_of_none e h)]; exact e), a.t.ext fun b u e => by rw [upd_ne (ne_of_none e h)]; exact e⟩
theorem Fut.newR (h0 : LamX.Tabs T H) {p : Addr} (h : H p = none) (o : HO) : Fut T H (upd H p o) := (Fut.refl h0).new h o
/-- an object of ours is written: it was not there at H -/
theorem tabs_upd {p : Addr} {u o : HO} (t : LamX.Tabs T H) (h : H p = some u) (n1 : ∀ ps, u ≠ .tbl ps) (n2 : ∀ q, u ≠ LamX.CodeO p q) : LamX.Tabs T (upd H p o) := fun q hq => by
  obtain ⟨ps, h1, h2, h3⟩ := t q hq
  refine ⟨ps, by rw [upd_ne (fun z => by rw [z, h] at h1; exact n1 ps (Option.some.inj h1))]; exact h1, h2, fun pos cv hc => ?_⟩
  obtain ⟨c, e1, e2⟩ := h3 pos cv hc
  refine ⟨c, e1, ?_⟩
  rw [upd_ne (fun z => by rw [z, h] at e2; exact n2 q.2 (Option.some.inj e2))]
  exact e2
theorem Fut.put (a : Fut T H H1) {p : Addr} {u o : HO} (h0 : H p = Option.none) (h : H1 p = some u) (n1 : ∀ ps, u ≠ .tbl ps) (n2 : ∀ q, u ≠ LamX.CodeO p q) : Fut T H (upd H1 p o) :=
  ⟨fun b x e n => by rw [upd_ne (ne_of_none e h0)]; exact a.e b x e n, tabs_upd a.t h n1 n2⟩
theorem Fut.putL (a : Fut T H H1) {p : Addr} {xs : List V} {o : HO} (h0 : H p = Option.none) (h : H1 p = some (.lst xs)) : Fut T H (upd H1 p o) :=
  a.put h0 h (fun _ z => by cases z) fun _ z => by unfold LamX.CodeO at z; cases z
end
/-! ### readings that give values of a kind, now and later -/
def EV (T : Tbl) (te : TE) (σ : L2.St) (H : Hp) (R : Hp → V → Prop) : Prop := ∀ H1, Fut T H H1 → ∀ Q : VK, (∀ v H2, Fut T H1 H2 → R H2 v → Q v H2) → te σ H1 Q
def EA (T : Tbl) (ta : TA) (σ : L2.St) (H : Hp) (R : Hp → List V → Prop) : Prop := ∀ H1, Fut T H H1 → ∀ Q : List V → Hp → Prop, (∀ vs H2, Fut T H1 H2 → R H2 vs → Q vs H2) → ta σ H1 Q
def ET (T : Tbl) (tt : TT) (σ : L2.St) (H : Hp) (b : Bool) : Prop := ∀ H1, Fut T H H1 → ∀ Q : Bool → Hp → Prop, (∀ H2, Fut T H1 H2 → Q b H2) → tt σ H1 Q
/-- data -/
abbrev ED (T : Tbl) (te : TE) (σ : L2.St) (H : Hp) (d : Dt) : Prop := EV T te σ H fun H v => Rp H d v
abbrev EDs (T : Tbl) (ta : TA) (σ : L2.St) (H : Hp) (ds : List Dt) : Prop := EA T ta σ H fun H vs => RpA H ds vs
abbrev EB (T : Tbl) (te : TE) (σ : L2.St) (H : Hp) (b : Bool) : Prop := EV T te σ H fun _ v => v = .bl b
/-- a list of data -/
def Ld (H : Hp) (ds : List Dt) (v : V) : Prop := ∃ p xs, v = .ref p ∧ H p = some (.lst xs) ∧ RpA H ds xs
theorem Ld.fut {T : Tbl} {H H1 : Hp} {ds : List Dt} {v : V} (a : Fut T H H1) (h : Ld H ds v) : Ld H1 ds v := by
  obtain ⟨p, xs, h1, h2, h3⟩ := h
  exact ⟨p, xs, h1, a.lst h2, a.rpA h3⟩
abbrev EL (T : Tbl) (te : TE) (σ : L2.St) (H : Hp) (ds : List Dt) : Prop := EV T te σ H fun H v => Ld H ds v
section
variable {T : Tbl} {σ : L2.St} {H : Hp} {te ta tb : TE} {tr : TA} {K : PySem.W.Frag}
theorem EV.at {R : Hp → V → Prop} (h : EV T te σ H R) (ht : LamX.Tabs T H) {Q : VK} (q : ∀ v H2, Fut T H H2 → R H2 v → Q v H2) : te σ H Q := h H (Fut.refl ht) Q q
theorem EV.fut {R : Hp → V → Prop} {H' : Hp} (h : EV T te σ H R) (f : Fut T H H') : EV T te σ H' R := fun H1 f1 Q q => h H1 (f.trans f1) Q q
theorem EV.imp {R R' : Hp → V → Prop} (h : EV T te σ H R) (i : ∀ H' v, Fut T H H' → R H' v → R' H' v) : EV T te σ H R' := fun H1 f1 Q q => h H1 f1 Q fun v H2 f2 r => q v H2 f2 (i H2 v (f1.trans f2) r)
theorem EA.fut {R : Hp → List V → Prop} {H' : Hp} (h : EA T tr σ H R) (f : Fut T H H') : EA T tr σ H' R := fun H1 f1 Q q => h H1 (f.trans f1) Q q
theorem EA.at {R : Hp → List V → Prop} (h : EA T tr σ H R) (ht : LamX.Tabs T H) {Q : List V → Hp → Prop} (q : ∀ v H2, Fut T H H2 → R H2 v → Q v H2) : tr σ H Q := h H (Fut.refl ht) Q q
theorem EA.imp {R R' : Hp → List V → Prop} (h : EA T tr σ H R) (i : ∀ H' v, Fut T H H' → R H' v → R' H' v) : EA T tr σ H R' := fun H1 f1 Q q => h H1 f1 Q fun v H2 f2 r => q v H2 f2 (i H2 v (f1.trans f2) r)
theorem ET.at {b : Bool} {tt : TT} (h : ET T tt σ H b) (ht : LamX.Tabs T H) {Q : Bool → Hp → Prop} (q : ∀ H2, Fut T H H2 → Q b H2) : tt σ H Q := h H (Fut.refl ht) Q q
/-! names, constants -/
theorem EV.var {i : Nat} {v : V} {R : Hp → V → Prop} (h : σ[i]? = some (some v)) (r : ∀ H', Fut T H H' → R H' v) : EV T (tVar i) σ H R := fun H1 f1 Q q => ⟨v, h, q v H1 ⟨LamX.ExtN.refl _, f1.t⟩ (r H1 f1)⟩
theorem ED.var {i : Nat} {v : V} {d : Dt} (h : σ[i]? = some (some v)) (r : Rp H d v) : ED T (tVar i) σ H d := EV.var h fun _ f => f.rp r
theorem EL.var {i : Nat} {v : V} {ds : List Dt} (h : σ[i]? = some (some v)) (r : Ld H ds v) : EL T (tVar i) σ H ds := EV.var h fun _ f => r.fut f
theorem EV.con {v : V} {R : Hp → V → Prop} (r : ∀ H', Fut T H H' → R H' v) : EV T (tC v) σ H R := fun H1 f1 Q q => q v H1 ⟨LamX.ExtN.refl _, f1.t⟩ (r H1 f1)
theorem ED.int (i : Int) : ED T (tC (.int i)) σ H (.num i) := EV.con fun _ _ => rfl
theorem ED.str (x : Str) : ED T (tC (.str x)) σ H (.text x) := EV.con fun _ _ => rfl
/-! argument lists, displays -/
theorem EDs.nil : EDs T tNil σ H [] := fun H1 f1 Q q => q [] H1 ⟨LamX.ExtN.refl _, f1.t⟩ rfl
theorem EDs.cons {d : Dt} {ds : List Dt} (h : ED T te σ H d) (hr : EDs T tr σ H ds) : EDs T (tCons te tr) σ H (d :: ds) := fun H1 f1 Q q =>
  h H1 f1 _ fun v H2 f2 r => hr H2 (f1.trans f2) _ fun vs H3 f3 rs => q _ H3 (f2.trans f3) ⟨v, vs, rfl, f3.rp r, rs⟩
theorem EA.nil : EA T tNil σ H (fun _ vs => vs = []) := fun H1 f1 Q q => q [] H1 ⟨LamX.ExtN.refl _, f1.t⟩ rfl
theorem EA.cons {R : Hp → V → Prop} {Rs : Hp → List V → Prop} (h : EV T te σ H R) (mono : ∀ H1 H2 v, Fut T H1 H2 → R H1 v → R H2 v) (hr : EA T tr σ H Rs) : EA T (tCons te tr) σ H (fun H vs => ∃ v r, vs = v :: r ∧ R H v ∧ Rs H r) := fun H1 f1 Q q =>
  h H1 f1 _ fun v H2 f2 r => hr H2 (f1.trans f2) _ fun vs H3 f3 rs => q _ H3 (f2.trans f3) ⟨v, vs, rfl, mono _ _ _ f3 r, rs⟩
theorem EA.one {R : Hp → V → Prop} (h : EV T te σ H R) : EA T (tCons te tNil) σ H (fun H vs => ∃ v, vs = [v] ∧ R H v) := fun H1 f1 Q q =>
  h H1 f1 _ fun v H2 f2 r => q _ H2 f2 ⟨v, rfl, r⟩
theorem ED.tup {ds : List Dt} (h : EDs T tr σ H ds) (hl : ds.length ≤ sizeLine) : ED T (tTup tr) σ H (.tup ds) := fun H1 f1 Q q =>
  h H1 f1 _ fun vs H2 f2 rs => ⟨by rw [rs.length]; exact hl, fun p hp => q _ _ (f2.new hp _) (Rp.new rs hp)⟩
theorem EL.lst {ds : List Dt} (h : EDs T tr σ H ds) (hl : ds.length ≤ sizeLine) : EL T (tLst tr) σ H ds := fun H1 f1 Q q =>
  h H1 f1 _ fun vs H2 f2 rs => ⟨by rw [rs.length]; exact hl, fun p hp => q _ _ (f2.new hp _) ⟨p, vs, rfl, upd_same, rs.tk (TK.new hp _)⟩⟩
/-! operators -/
/-- two values, one after another -/
theorem EV.op {r : R2} {d e : Dt} {R : Hp → V → Prop} (ha : ED T ta σ H d) (hb : ED T tb σ H e) (h : ∀ H1 x y Q, Fut T H H1 → Rp H1 d x → Rp H1 e y → (∀ v H2, Fut T H1 H2 → R H2 v → Q v H2) → r x y H1 Q) : EV T (tOp r ta tb) σ H R := fun H1 f1 Q q =>
  ha H1 f1 _ fun x H2 f2 rx => hb H2 (f1.trans f2) _ fun y H3 f3 ry => h H3 x y Q ((f1.trans f2).trans f3) (f3.rp rx) ry fun v H4 f4 rv => q v H4 ((f2.trans f3).trans f4) rv
theorem EV.un {r : V → Hp → VK → Prop} {d : Dt} {R : Hp → V → Prop} (ha : ED T ta σ H d) (h : ∀ H1 x Q, Fut T H H1 → Rp H1 d x → (∀ v H2, Fut T H1 H2 → R H2 v → Q v H2) → r x H1 Q) : EV T (tUn r ta) σ H R := fun H1 f1 Q q =>
  ha H1 f1 _ fun x H2 f2 rx => h H2 x Q (f1.trans f2) rx fun v H4 f4 rv => q v H4 (f2.trans f4) rv
theorem fr {H1 : Hp} (f : Fut T H H1) : Fut T H1 H1 := ⟨LamX.ExtN.refl _, f.t⟩
theorem ED.rI0 {i j : Int} {g : Int → Int → V} {R : Hp → V → Prop} (ha : ED T ta σ H (.num i)) (hb : ED T tb σ H (.num j)) (h : ∀ H', R H' (g i j)) : EV T (tOp (rI0 g) ta tb) σ H R :=
  EV.op ha hb fun H1 x y Q f rx ry q => ⟨i, j, rx, ry, q _ H1 (fr f) (h H1)⟩
theorem ED.rI {i j : Int} {C : Int → Int → Prop} {g : Int → Int → V} {R : Hp → V → Prop} (ha : ED T ta σ H (.num i)) (hb : ED T tb σ H (.num j)) (hc : C i j) (h : ∀ H', R H' (g i j)) : EV T (tOp (rI C g) ta tb) σ H R :=
  EV.op ha hb fun H1 x y Q f rx ry q => ⟨i, j, rx, ry, hc, q _ H1 (fr f) (h H1)⟩
theorem ED.add {i j : Int} (ha : ED T ta σ H (.num i)) (hb : ED T tb σ H (.num j)) : ED T (tOp (L2.rI0 fun i j => .int (i + j)) ta tb) σ H (.num (i + j)) := ED.rI0 ha hb fun _ => rfl
theorem ED.sub {i j : Int} (ha : ED T ta σ H (.num i)) (hb : ED T tb σ H (.num j)) : ED T (tOp (L2.rI0 fun i j => .int (i - j)) ta tb) σ H (.num (i - j)) := ED.rI0 ha hb fun _ => rfl
theorem ED.mul {i j : Int} (ha : ED T ta σ H (.num i)) (hb : ED T tb σ H (.num j)) (hc : CMul i j) : ED T (tOp (L2.rI CMul fun i j => .int (i * j)) ta tb) σ H (.num (i * j)) := ED.rI ha hb hc fun _ => rfl
theorem EB.lt {i j : Int} (ha : ED T ta σ H (.num i)) (hb : ED T tb σ H (.num j)) : EB T (tOp (L2.rI0 fun i j => .bl (decide (i < j))) ta tb) σ H (decide (i < j)) := ED.rI0 ha hb fun _ => rfl
theorem EB.le {i j : Int} (ha : ED T ta σ H (.num i)) (hb : ED T tb σ H (.num j)) : EB T (tOp (L2.rI0 fun i j => .bl (decide (i ≤ j))) ta tb) σ H (decide (i ≤ j)) := ED.rI0 ha hb fun _ => rfl
theorem EB.gt {i j : Int} (ha : ED T ta σ H (.num i)) (hb : ED T tb σ H (.num j)) : EB T (tOp (L2.rI0 fun i j => .bl (decide (j < i))) ta tb) σ H (decide (j < i)) := ED.rI0 ha hb fun _ => rfl
theorem EB.ge {i j : Int} (ha : ED T ta σ H (.num i)) (hb : ED T tb σ H (.num j)) : EB T (tOp (L2.rI0 fun i j => .bl (decide (j ≤ i))) ta tb) σ H (decide (j ≤ i)) := ED.rI0 ha hb fun _ => rfl
theorem EB.eq {d e : Dt} (ha : ED T ta σ H d) (hb : ED T tb σ H e) (h1 : okD d) (h2 : okD e) : EB T (tOp rEqR ta tb) σ H (decide (d = e)) :=
  EV.op ha hb fun H1 x y Q f rx ry q => ⟨d, e, rx, ry, h1, h2, q _ H1 (fr f) rfl⟩
theorem EB.ne {d e : Dt} (ha : ED T ta σ H d) (hb : ED T tb σ H e) (h1 : okD d) (h2 : okD e) : EB T (tOp rNeR ta tb) σ H (!decide (d = e)) :=
  EV.op ha hb fun H1 x y Q f rx ry q => ⟨d, e, rx, ry, h1, h2, q _ H1 (fr f) rfl⟩
/-- of texts, of numbers, by the layer's own rule -/
theorem EB.eqS {x y : Str} (ha : ED T ta σ H (.text x)) (hb : ED T tb σ H (.text y)) : EB T (tOp rEq ta tb) σ H (decide (x = y)) :=
  EV.op ha hb fun H1 u v Q f ru rv q => by
    have e1 : u = .str x := ru
    have e2 : v = .str y := rv
    refine ⟨by rw [e1, e2]; rfl, q _ H1 (fr f) ?_⟩
    rw [e1, e2]
    congr 1
    exact decide_eq_decide.mpr ⟨fun z => by injection z, fun z => by rw [z]⟩
theorem EB.eqI {x y : Int} (ha : ED T ta σ H (.num x)) (hb : ED T tb σ H (.num y)) : EB T (tOp rEq ta tb) σ H (decide (x = y)) :=
  EV.op ha hb fun H1 u v Q f ru rv q => by
    have e1 : u = .int x := ru
    have e2 : v = .int y := rv
    refine ⟨by rw [e1, e2]; rfl, q _ H1 (fr f) ?_⟩
    rw [e1, e2]
    congr 1
    exact decide_eq_decide.mpr ⟨fun z => by injection z, fun z => by rw [z]⟩
theorem EB.neI {x y : Int} (ha : ED T ta σ H (.num x)) (hb : ED T tb σ H (.num y)) : EB T (tOp rNe ta tb) σ H (!decide (x = y)) :=
  EV.op ha hb fun H1 u v Q f ru rv q => by
    have e1 : u = .int x := ru
    have e2 : v = .int y := rv
    refine ⟨by rw [e1, e2]; rfl, q _ H1 (fr f) ?_⟩
    rw [e1, e2]
    congr 2
    exact decide_eq_decide.mpr ⟨fun z => by injection z, fun z => by rw [z]⟩
/-- t[i] -/
theorem ED.ix {ds : List Dt} {i : Nat} {d : Dt} (ha : ED T ta σ H (.tup ds)) (hb : ED T tb σ H (.num (i : Nat))) (hi : ds[i]? = some d) : ED T (tOp (rIxT K) ta tb) σ H d :=
  EV.op ha hb fun H1 x y Q f rx ry q => by
    obtain ⟨a, xs, e, h1, h2⟩ := rx
    obtain ⟨z, hz, rz⟩ := h2.get hi
    exact ⟨a, xs, (i : Int), z, e, ry, SqT.of h1, atI_nat hz, q z H1 (fr f) rz⟩
/-- t[:k] -/
theorem ED.upto {ds : List Dt} {k : Nat} (ha : ED T ta σ H (.tup ds)) (hb : ED T tb σ H (.num (k : Nat))) : ED T (tSl (rSlA K) ta tNoPart (tPart tb)) σ H (.tup (ds.take k)) := fun H1 f1 Q q =>
  ha H1 f1 _ fun x H2 f2 rx => hb H2 (f1.trans f2) _ fun y H3 f3 ry => by
    obtain ⟨a, xs, e, h1, h2⟩ := f3.rp rx
    have hc : cutV xs none (some (k : Int)) = xs.take k := by
      unfold cutV
      rw [HT.sIx_none, HT.sIx_nat, List.drop_zero, Nat.sub_zero]
      by_cases h : k ≤ xs.length
      · rw [Nat.min_eq_left h]
      · rw [Nat.min_eq_right (by omega), List.take_of_length_le (Nat.le_refl _), List.take_of_length_le (by omega)]
    refine ⟨(k : Int), ry, a, xs, e, SqT.of h1, fun hw => q _ H3 (f2.trans f3) ⟨a, xs, rfl, h1, ?_⟩, fun _ p hp => q _ _ ((f2.trans f3).new hp _) ?_⟩
    · have hw2 := hw.2
      rw [HT.sIx_nat] at hw2
      have hk : xs.length ≤ k := by omega
      rw [List.take_of_length_le (by rw [← h2.length]; exact hk)]
      exact h2
    · rw [hc]
      exact Rp.new (h2.take k) hp
/-- t + u -/
theorem ED.cat {ds es : List Dt} (ha : ED T ta σ H (.tup ds)) (hb : ED T tb σ H (.tup es)) (hl : ds.length + es.length ≤ sizeLine) : ED T (tOp (rCatA K) ta tb) σ H (.tup (ds ++ es)) :=
  EV.op ha hb fun H1 x y Q f rx ry q => by
    obtain ⟨a, xs, e1, h1, h2⟩ := rx
    obtain ⟨b, ys, e2, h3, h4⟩ := ry
    refine ⟨a, b, xs, ys, e1, e2, SqT.of h1, SqT.of h3, by rw [h2.length, h4.length]; exact hl, fun hx => q _ H1 (fr f) ?_, fun _ hy => q _ H1 (fr f) ?_, fun _ _ p hp => q _ _ ((fr f).new hp _) (Rp.new (h2.app h4) hp)⟩
    · have : ds = [] := by
        have := h2.length
        rw [hx] at this
        exact List.eq_nil_of_length_eq_zero this.symm
      rw [this]
      exact ⟨b, ys, rfl, h3, h4⟩
    · have : es = [] := by
        have := h4.length
        rw [hy] at this
        exact List.eq_nil_of_length_eq_zero this.symm
      rw [this, List.append_nil]
      exact ⟨a, xs, rfl, h1, h2⟩
theorem ED.catR {a b : Row} (ha : ED T ta σ H (rowD a)) (hb : ED T tb σ H (rowD b)) (hl : a.length + b.length ≤ sizeLine) : ED T (tOp (rCatA K) ta tb) σ H (rowD (a ++ b)) := by
  have h := ED.cat (K := K) ha hb (by rw [List.length_map, List.length_map]; exact hl)
  rw [← List.map_append] at h
  exact h
/-! calls of built-ins -/
theorem EV.call {r : List V → Hp → VK → Prop} {Rs : Hp → List V → Prop} {R : Hp → V → Prop} (ha : EA T tr σ H Rs) (h : ∀ H1 vs Q, Fut T H H1 → Rs H1 vs → (∀ v H2, Fut T H1 H2 → R H2 v → Q v H2) → r vs H1 Q) : EV T (tCB r tr) σ H R := fun H1 f1 Q q =>
  ha H1 f1 _ fun vs H2 f2 rs => h H2 vs Q (f1.trans f2) rs fun v H4 f4 rv => q v H4 (f2.trans f4) rv
theorem ED.len {ds : List Dt} (ha : ED T ta σ H (.tup ds)) : ED T (tCB (fun xs H Q => ∃ p ys, xs = [.ref p] ∧ (SqL K H p ys ∨ SqT K H p ys) ∧ Q (.int ys.length) H) (tCons ta tNil)) σ H (.num ds.length) :=
  EV.call (EA.one ha) fun H1 vs Q f rs q => by
    obtain ⟨v, e, a, xs, e2, h1, h2⟩ := rs
    exact ⟨a, xs, by rw [e, e2], .inr (SqT.of h1), by rw [h2.length]; exact q _ H1 (fr f) rfl⟩
theorem ED.lenL {ds : List Dt} (ha : EL T ta σ H ds) : ED T (tCB (fun xs H Q => ∃ p ys, xs = [.ref p] ∧ (SqL K H p ys ∨ SqT K H p ys) ∧ Q (.int ys.length) H) (tCons ta tNil)) σ H (.num ds.length) :=
  EV.call (EA.one ha) fun H1 vs Q f rs q => by
    obtain ⟨v, e, a, xs, e2, h1, h2⟩ := rs
    exact ⟨a, xs, by rw [e, e2], .inl (SqL.of h1), by rw [h2.length]; exact q _ H1 (fr f) rfl⟩
end
end CR

set_option Elab.async false
set_option linter.all false
set_option maxRecDepth 100000
set_option maxHeartbeats 4000000
namespace CR
open PySem PySem.Spec PyProof.Rows L2
/-! ### what the top has left -/
/-- a def of the top -/
structure Df (K : PySem.W.Frag) (mg : Str → Option Value) (x : Str) (st : Stmt) : Type where
  a : Addr
  d : FuncData
  F : FnP K x x st a d
  m : mg x = some (.ref a)
/-- a method -/
structure Dm (K : PySem.W.Frag) (C : Addr) (x q : Str) (st : Stmt) : Type where
  a : Addr
  d : FuncData
  F : FnP K x q st a d
  m : Meth K C x a
/-- a def with a table of code objects: what its code object is -/
structure Cd (K : PySem.W.Frag) (base : Heap) (mg : Str → Option Value) (T : Tbl) (x : Str) (st : Stmt) (q : Str) (f : Addr) (fd : FuncData) : Prop where
  ex : ∃ (oc : Value) (od : Option Addr) (dV kV doc pm : Value) (an : Option Addr) (c P : Addr) (ct : Value) (osl : Array (Option Value)),
    fd = PySem.W.fnOf x x (defArgs st) (defBody st) (defScope st) dV kV doc pm an (.ref c) ct ∧ K.lookup f = some ⟨oc, od, .func fd, osl⟩ ∧ PySem.W.codeIn K (.ref c) x = true ∧ LamX.TabB base mg c P ∧ (P, q) ∈ T ∧ ∀ p ∈ T, p.1 = P → p.2 = q
structure G (K : PySem.W.Frag) (mg : Str → Option Value) (base : Heap) (T : Tbl) : Type where
  rises : Df K mg "rises" s_rises
  is_different : Df K mg "is_different" s_is_different
  holds_list : Df K mg "holds_list" s_holds_list
  holds : Df K mg "holds" s_holds
  turn : Df K mg "turn" s_turn
  parts_of : Df K mg "parts_of" s_parts_of
  in_order : Df K mg "in_order" s_in_order
  put_together : Df K mg "put_together" s_put_together
  multiplied : Df K mg "multiplied" s_multiplied
  behind : Df K mg "behind" s_behind
  check_many : Df K mg "check_many" s_check_many
  power : Df K mg "power" s_power
  table_of_tuple : Df K mg "table_of_tuple" s_table_of_tuple
  table_of_list : Df K mg "table_of_list" s_table_of_list
  table_of_repeat : Df K mg "table_of_repeat" s_table_of_repeat
  triples_of : Df K mg "triples_of" s_triples_of
  table_at : Df K mg "table_at" s_table_at
  table : Df K mg "table" s_table
  least_row : Df K mg "least_row" s_least_row
  count_rows : Df K mg "count_rows" s_count_rows
  listed_rows : Df K mg "listed_rows" s_listed_rows
  joined_rows : Df K mg "joined_rows" s_joined_rows
  rows_of_parts : Df K mg "rows_of_parts" s_rows_of_parts
  rows_at : Df K mg "rows_at" s_rows_at
  all_rows : Df K mg "all_rows" s_all_rows
  first_rows : Df K mg "first_rows" s_first_rows
  draw : Df K mg "draw" s_draw
  is_exact : Df K mg "is_exact" s_is_exact
  value_of : Df K mg "value_of" s_value_of
  is_less : Df K mg "is_less" s_is_less
  law_cell : Df K mg "_law_cell" s_law_cell
  law_draw : Df K mg "_law_draw" s_law_draw
  law_box : Df K mg "_law_box" s_law_box
  law_take : Df K mg "_law_take" s_law_take
  law_kind : Df K mg "_law_kind" s_law_kind
  law_limit : Df K mg "_law_limit" s_law_limit
  law_gen : Df K mg "_law_gen" s_law_gen
  law_some : Df K mg "_law_some" s_law_some
  C : Addr
  mC : mg "Draw" = some (.ref C)
  cls : Cls K C
  nrow : NoAttr K C "row"
  nused : NoAttr K C "used"
  aI : Addr
  dI : FuncData
  FI : FnP K "__init__" "Draw.__init__" s_D_init aI dI
  mkI : Mk K C aI
  D_choice : Dm K C "choice" "Draw.choice" s_D_choice
  D_refuse : Dm K C "refuse" "Draw.refuse" s_D_refuse
  D_listed : Dm K C "listed" "Draw.listed" s_D_listed
  D_repeated : Dm K C "repeated" "Draw.repeated" s_D_repeated
  D_kept : Dm K C "kept" "Draw.kept" s_D_kept
  D_value : Dm K C "value" "Draw.value" s_D_value
  n_len : mg "len" = none
  n_range : mg "range" = none
  n_all : mg "all" = none
  n_any : mg "any" = none
  n_sum : mg "sum" = none
  n_sorted : mg "sorted" = none
  n_min : mg "min" = none
  n_max : mg "max" = none
  n_tuple : mg "tuple" = none
  n_list : mg "list" = none
  i_LONG : ∃ t, mg "LONG" = some (.int 6 t)
  i_VALUES : ∃ t, mg "VALUES" = some (.int 2000 t)
  i_EXACT : ∃ t, mg "EXACT" = some (.int 5000 t)
  c_rises : Cd K base mg T "rises" s_rises (("rises" : Str) ++ (".<locals>." : Str) ++ ("<genexpr>" : Str)) rises.a rises.d
  c_is_different : Cd K base mg T "is_different" s_is_different (("is_different" : Str) ++ (".<locals>." : Str) ++ ("<genexpr>" : Str)) is_different.a is_different.d
  c_holds_list : Cd K base mg T "holds_list" s_holds_list (("holds_list" : Str) ++ (".<locals>." : Str) ++ ("<genexpr>" : Str)) holds_list.a holds_list.d
  c_in_order : Cd K base mg T "in_order" s_in_order (("in_order" : Str) ++ (".<locals>." : Str) ++ ("<lambda>" : Str)) in_order.a in_order.d
  c_table_of_tuple : Cd K base mg T "table_of_tuple" s_table_of_tuple (("table_of_tuple" : Str) ++ (".<locals>." : Str) ++ ("<genexpr>" : Str)) table_of_tuple.a table_of_tuple.d
  c_joined_rows : Cd K base mg T "joined_rows" s_joined_rows (("joined_rows" : Str) ++ (".<locals>." : Str) ++ ("<genexpr>" : Str)) joined_rows.a joined_rows.d
  c_all_rows : Cd K base mg T "all_rows" s_all_rows (("all_rows" : Str) ++ (".<locals>." : Str) ++ ("<lambda>" : Str)) all_rows.a all_rows.d
section
variable {K : PySem.W.Frag} {mg : Str → Option Value} {base : Heap} {T : Tbl}
theorem b_rises (D : Df K mg "rises" s_rises) : Binds K D.d ["value"] [] := D.F.bindsN fun _ _ _ _ _ _ us hl => match us, hl with | [_], _ => rfl
theorem b_is_different (D : Df K mg "is_different" s_is_different) : Binds K D.d ["value"] [] := D.F.bindsN fun _ _ _ _ _ _ us hl => match us, hl with | [_], _ => rfl
theorem b_holds_list (D : Df K mg "holds_list" s_holds_list) : Binds K D.d ["condition", "value"] [] := D.F.bindsN fun _ _ _ _ _ _ us hl => match us, hl with | [_, _], _ => rfl
theorem b_holds (D : Df K mg "holds" s_holds) : Binds K D.d ["condition", "value"] [] := D.F.bindsN fun _ _ _ _ _ _ us hl => match us, hl with | [_, _], _ => rfl
theorem b_turn (D : Df K mg "turn" s_turn) : Binds K D.d ["some_map", "value"] [] := D.F.bindsN fun _ _ _ _ _ _ us hl => match us, hl with | [_, _], _ => rfl
theorem b_parts_of (D : Df K mg "parts_of" s_parts_of) : Binds K D.d ["generator"] [] := D.F.bindsN fun _ _ _ _ _ _ us hl => match us, hl with | [_], _ => rfl
theorem b_in_order (D : Df K mg "in_order" s_in_order) : Binds K D.d ["found"] [] := D.F.bindsN fun _ _ _ _ _ _ us hl => match us, hl with | [_], _ => rfl
theorem b_put_together (D : Df K mg "put_together" s_put_together) : Binds K D.d ["triples"] [] := D.F.bindsN fun _ _ _ _ _ _ us hl => match us, hl with | [_], _ => rfl
theorem b_multiplied (D : Df K mg "multiplied" s_multiplied) : Binds K D.d ["first", "second"] [] := D.F.bindsN fun _ _ _ _ _ _ us hl => match us, hl with | [_, _], _ => rfl
theorem b_behind (D : Df K mg "behind" s_behind) : Binds K D.d ["triples", "choices"] [] := D.F.bindsN fun _ _ _ _ _ _ us hl => match us, hl with | [_, _], _ => rfl
theorem b_check_many (D : Df K mg "check_many" s_check_many) : Binds K D.d ["many", "path"] [] := D.F.bindsN fun _ _ _ _ _ _ us hl => match us, hl with | [_, _], _ => rfl
theorem b_power (D : Df K mg "power" s_power) : Binds K D.d ["base", "many"] [] := D.F.bindsN fun _ _ _ _ _ _ us hl => match us, hl with | [_, _], _ => rfl
theorem b_table_of_tuple (D : Df K mg "table_of_tuple" s_table_of_tuple) : Binds K D.d ["tables", "path"] [] := D.F.bindsN fun _ _ _ _ _ _ us hl => match us, hl with | [_, _], _ => rfl
theorem b_table_of_list (D : Df K mg "table_of_list" s_table_of_list) : Binds K D.d ["part", "least", "most", "path"] [] := D.F.bindsN fun _ _ _ _ _ _ us hl => match us, hl with | [_, _, _, _], _ => rfl
theorem b_table_of_repeat (D : Df K mg "table_of_repeat" s_table_of_repeat) : Binds K D.d ["first", "other", "path"] [] := D.F.bindsN fun _ _ _ _ _ _ us hl => match us, hl with | [_, _, _], _ => rfl
theorem b_triples_of (D : Df K mg "triples_of" s_triples_of) : Binds K D.d ["generator", "tables", "path"] [] := D.F.bindsN fun _ _ _ _ _ _ us hl => match us, hl with | [_, _, _], _ => rfl
theorem b_table_at (D : Df K mg "table_at" s_table_at) : Binds K D.d ["generator", "path"] [] := D.F.bindsN fun _ _ _ _ _ _ us hl => match us, hl with | [_, _], _ => rfl
theorem b_table (D : Df K mg "table" s_table) : Binds K D.d ["generator"] [] := D.F.bindsN fun _ _ _ _ _ _ us hl => match us, hl with | [_], _ => rfl
theorem b_least_row (D : Df K mg "least_row" s_least_row) : Binds K D.d ["generator", "value"] [] := D.F.bindsN fun _ _ _ _ _ _ us hl => match us, hl with | [_, _], _ => rfl
theorem b_count_rows (D : Df K mg "count_rows" s_count_rows) : Binds K D.d ["generator"] [] := D.F.bindsN fun _ _ _ _ _ _ us hl => match us, hl with | [_], _ => rfl
theorem b_listed_rows (D : Df K mg "listed_rows" s_listed_rows) : Binds K D.d ["part", "least", "most"] [] := D.F.bindsN fun _ _ _ _ _ _ us hl => match us, hl with | [_, _, _], _ => rfl
theorem b_joined_rows (D : Df K mg "joined_rows" s_joined_rows) : Binds K D.d ["parts"] [] := D.F.bindsN fun _ _ _ _ _ _ us hl => match us, hl with | [_], _ => rfl
theorem b_rows_of_parts (D : Df K mg "rows_of_parts" s_rows_of_parts) : Binds K D.d ["generator", "parts"] [] := D.F.bindsN fun _ _ _ _ _ _ us hl => match us, hl with | [_, _], _ => rfl
theorem b_rows_at (D : Df K mg "rows_at" s_rows_at) : Binds K D.d ["generator", "path"] [] := D.F.bindsN fun _ _ _ _ _ _ us hl => match us, hl with | [_, _], _ => rfl
theorem b_all_rows (D : Df K mg "all_rows" s_all_rows) : Binds K D.d ["generator"] [] := D.F.bindsN fun _ _ _ _ _ _ us hl => match us, hl with | [_], _ => rfl
theorem b_first_rows (D : Df K mg "first_rows" s_first_rows) : Binds K D.d ["generator", "many"] [] := D.F.bindsN fun _ _ _ _ _ _ us hl => match us, hl with | [_, _], _ => rfl
theorem b_draw (D : Df K mg "draw" s_draw) : Binds K D.d ["generator", "row"] [] := D.F.bindsN fun _ _ _ _ _ _ us hl => match us, hl with | [_, _], _ => rfl
theorem b_is_exact (D : Df K mg "is_exact" s_is_exact) : Binds K D.d ["generator", "row"] [] := D.F.bindsN fun _ _ _ _ _ _ us hl => match us, hl with | [_, _], _ => rfl
theorem b_value_of (D : Df K mg "value_of" s_value_of) : Binds K D.d ["generator", "row"] [] := D.F.bindsN fun _ _ _ _ _ _ us hl => match us, hl with | [_, _], _ => rfl
theorem b_is_less (D : Df K mg "is_less" s_is_less) : Binds K D.d ["row", "other"] [] := D.F.bindsN fun _ _ _ _ _ _ us hl => match us, hl with | [_, _], _ => rfl
theorem b_law_cell (D : Df K mg "_law_cell" s_law_cell) : Binds K D.d ["_law_script", "_law_k"] [] := D.F.bindsN fun _ _ _ _ _ _ us hl => match us, hl with | [_, _], _ => rfl
theorem b_law_draw (D : Df K mg "_law_draw" s_law_draw) : Binds K D.d ["_law_script", "_law_k", "_law_sizes"] [] := D.F.bindsN fun _ _ _ _ _ _ us hl => match us, hl with | [_, _, _], _ => rfl
theorem b_law_box (D : Df K mg "_law_box" s_law_box) : Binds K D.d ["_law_script", "_law_k"] [] := D.F.bindsN fun _ _ _ _ _ _ us hl => match us, hl with | [_, _], _ => rfl
theorem b_law_take (D : Df K mg "_law_take" s_law_take) : Binds K D.d ["_law_box_here", "_law_many"] [] := D.F.bindsN fun _ _ _ _ _ _ us hl => match us, hl with | [_, _], _ => rfl
theorem b_law_kind (D : Df K mg "_law_kind" s_law_kind) : Binds K D.d ["_law_box_here", "_law_depth"] [] := D.F.bindsN fun _ _ _ _ _ _ us hl => match us, hl with | [_, _], _ => rfl
theorem b_law_limit (D : Df K mg "_law_limit" s_law_limit) : Binds K D.d ["_law_box_here", "_law_kind_here", "_law_depth"] [] := D.F.bindsN fun _ _ _ _ _ _ us hl => match us, hl with | [_, _, _], _ => rfl
theorem b_law_gen (D : Df K mg "_law_gen" s_law_gen) : Binds K D.d ["_law_box_here", "_law_kind_here", "_law_depth"] [] := D.F.bindsN fun _ _ _ _ _ _ us hl => match us, hl with | [_, _, _], _ => rfl
theorem b_law_some (D : Df K mg "_law_some" s_law_some) : Binds K D.d ["_law_script", "_law_k"] [] := D.F.bindsN fun _ _ _ _ _ _ us hl => match us, hl with | [_, _], _ => rfl
theorem b_init (g : G K mg base T) : Binds K g.dI ["self", "row"] [] := g.FI.bindsN fun _ _ _ _ _ _ us hl => match us, hl with | [_, _], _ => rfl
theorem b_D_choice {C : Addr} (D : Dm K C "choice" "Draw.choice" s_D_choice) : Binds K D.d ["self", "bound"] [] := D.F.bindsN fun _ _ _ _ _ _ us hl => match us, hl with | [_, _], _ => rfl
theorem b_D_refuse {C : Addr} (D : Dm K C "refuse" "Draw.refuse" s_D_refuse) : Binds K D.d ["self"] [] := D.F.bindsN fun _ _ _ _ _ _ us hl => match us, hl with | [_], _ => rfl
theorem b_D_listed {C : Addr} (D : Dm K C "listed" "Draw.listed" s_D_listed) : Binds K D.d ["self", "generator"] [] := D.F.bindsN fun _ _ _ _ _ _ us hl => match us, hl with | [_, _], _ => rfl
theorem b_D_repeated {C : Addr} (D : Dm K C "repeated" "Draw.repeated" s_D_repeated) : Binds K D.d ["self", "generator"] [] := D.F.bindsN fun _ _ _ _ _ _ us hl => match us, hl with | [_, _], _ => rfl
theorem b_D_kept {C : Addr} (D : Dm K C "kept" "Draw.kept" s_D_kept) : Binds K D.d ["self", "generator"] [] := D.F.bindsN fun _ _ _ _ _ _ us hl => match us, hl with | [_, _], _ => rfl
theorem b_D_value {C : Addr} (D : Dm K C "value" "Draw.value" s_D_value) : Binds K D.d ["self", "generator"] [] := D.F.bindsN fun _ _ _ _ _ _ us hl => match us, hl with | [_, _], _ => rfl
end
/-! ### promises over data -/
/-- v is no list that stands in H -/
def NL (H : Hp) (v : V) : Prop := ∀ p l, v = .ref p → H p ≠ some (.lst l)
theorem NL.new {H : Hp} {p : Addr} (h : H p = none) : NL H (.ref p) := fun q l e z => by
  cases e
  rw [h] at z
  cases z
theorem NL.back {T : Tbl} {H H1 : Hp} {v : V} (f : Fut T H H1) (h : NL H1 v) : NL H v := fun p l e z => h p l e (f.lst z)
theorem NL.ne {H : Hp} {p : Addr} {v : V} {xs : List V} (h : NL H v) (hp : H p = some (.lst xs)) : v ≠ .ref p := fun e => h p xs e hp
/-- a promise: from arguments told by z to a value told by z, all that stood stands -/
def Pm (T : Tbl) {α : Type} (pre : α → Hp → List V → Prop) (post : α → Hp → V → Prop) : Sp := fun vs H Q _ => ∃ z, pre z H vs ∧ LamX.Tabs T H ∧ ∀ v H', Fut T H H' → post z H' v → Q v H'
/-- the same, the value no list that stood -/
def PmL (T : Tbl) {α : Type} (pre : α → Hp → List V → Prop) (post : α → Hp → V → Prop) : Sp := fun vs H Q _ => ∃ z, pre z H vs ∧ LamX.Tabs T H ∧ ∀ v H', Fut T H H' → post z H' v ∧ NL H v → Q v H'
/-- a call of such a def -/
theorem EV.fn {T : Tbl} {σ : L2.St} {H : Hp} {α : Type} {pre : α → Hp → List V → Prop} {post : α → Hp → V → Prop} {E : XK} {ta : TA} (z : α) (h : EA T ta σ H (pre z)) : EV T (tCall (Pm T pre post) [] E ta) σ H (post z) := fun H1 f1 Q q =>
  h H1 f1 _ fun vs H2 f2 r => ⟨z, by rw [List.append_nil]; exact r, f2.t, fun v H3 f3 rv => q v H3 (f2.trans f3) rv⟩
theorem EV.fnL {T : Tbl} {σ : L2.St} {H : Hp} {α : Type} {pre : α → Hp → List V → Prop} {post : α → Hp → V → Prop} {E : XK} {ta : TA} (z : α) (h : EA T ta σ H (pre z)) : EV T (tCall (PmL T pre post) [] E ta) σ H (fun H' v => post z H' v ∧ NL H v) := fun H1 f1 Q q =>
  h H1 f1 _ fun vs H2 f2 r => ⟨z, by rw [List.append_nil]; exact r, f2.t, fun v H3 f3 rv => q v H3 (f2.trans f3) ⟨rv.1, rv.2.back (f1.trans f2)⟩⟩
section
variable {P : Program} {w : World} {K : PySem.W.Frag} {mg : Str → Option Value} {base : Heap} {T : Tbl}
theorem pm_ok {x q : Str} {st : Stmt} {f : Addr} {fd : FuncData} (F : FnP K x q st f fd) {N ps : List Str} {k : Nat} {α : Type} {pre : α → Hp → List V → Prop} {post : α → Hp → V → Prop} (S : FnScope N ps (defScope st)) (len : ∀ z H vs, pre z H vs → vs.length = ps.length)
    (hbody : ∀ (cdv : Value) (A : Around) (outer : List Env) (s : Shared) (H : Hp) (vs : List V) (Q : VK) (E : XK) (z : α), Room k (A.deeper (envOfC q (defScope st) s.heap.objs.size f cdv)) → pre z H vs → LamX.Tabs T H → (∀ v H', Fut T H H' → post z H' v → Q v H') →
      ∃ t, PSs (cxOf CX0 P w K mg base N q (defScope st) f cdv A outer s H E).nox (defBody st) t ∧ t { nx := fun _ H' => Q .non H', rt := Q } (start N vs) H) :
    FnOk P w K mg base CX0 (k + 1) f fd ps (Pm T pre post) :=
  F.ok S (fun vs H Q E h => by obtain ⟨z, h, _⟩ := h; exact len z H vs h) fun cdv A outer s H vs Q E hr h => by
    obtain ⟨z, h1, h2, h3⟩ := h
    obtain ⟨t, h4, h5⟩ := hbody cdv A outer s H vs Q E z hr h1 h2 h3
    exact ⟨t, h4.nox, h5⟩
theorem pm_okC {x q : Str} {st : Stmt} {f : Addr} {fd : FuncData} (C : Cd K base mg T x st q f fd) {N ps : List Str} {k : Nat} {α : Type} {pre : α → Hp → List V → Prop} {post : α → Hp → V → Prop} (S : FnScope N ps (defScope st)) (len : ∀ z H vs, pre z H vs → vs.length = ps.length)
    (hbody : ∀ (c P' : Addr) (A : Around) (outer : List Env) (s : Shared) (H : Hp) (vs : List V) (Q : VK) (E : XK) (z : α), LamX.TabB base mg c P' → (P', q) ∈ T → (∀ p ∈ T, p.1 = P' → p.2 = q) → Room k (A.deeper (envOfC x (defScope st) s.heap.objs.size f (.ref c))) → pre z H vs → LamX.Tabs T H → (∀ v H', Fut T H H' → post z H' v → Q v H') →
      ∃ t, PSs (cxOf CX0 P w K mg base N x (defScope st) f (.ref c) A outer s H E).nox (defBody st) t ∧ t { nx := fun _ H' => Q .non H', rt := Q } (start N vs) H) :
    FnOk P w K mg base CX0 (k + 1) f fd ps (Pm T pre post) := by
  obtain ⟨oc, od, dV, kV, doc, pm, an, c, P', ct, osl, rfl, lk, hcd, TB, hm, hu⟩ := C.ex
  exact fn_of lk hcd S (fun vs H Q E h => by obtain ⟨z, h, _⟩ := h; exact len z H vs h) fun A outer s H vs Q E hr h => by
    obtain ⟨z, h1, h2, h3⟩ := h
    obtain ⟨t, h4, h5⟩ := hbody c P' A outer s H vs Q E z TB hm hu hr h1 h2 h3
    exact ⟨t, h4.nox, h5⟩
theorem pm_okL {x q : Str} {st : Stmt} {f : Addr} {fd : FuncData} (F : FnP K x q st f fd) {N ps : List Str} {k : Nat} {α : Type} {pre : α → Hp → List V → Prop} {post : α → Hp → V → Prop} (S : FnScope N ps (defScope st)) (len : ∀ z H vs, pre z H vs → vs.length = ps.length)
    (hbody : ∀ (cdv : Value) (A : Around) (outer : List Env) (s : Shared) (H : Hp) (vs : List V) (Q : VK) (E : XK) (z : α), Room k (A.deeper (envOfC q (defScope st) s.heap.objs.size f cdv)) → pre z H vs → LamX.Tabs T H → (∀ v H', Fut T H H' → post z H' v ∧ NL H v → Q v H') →
      ∃ t, PSs (cxOf CX0 P w K mg base N q (defScope st) f cdv A outer s H E).nox (defBody st) t ∧ t { nx := fun _ H' => Q .non H', rt := Q } (start N vs) H) :
    FnOk P w K mg base CX0 (k + 1) f fd ps (PmL T pre post) :=
  F.ok S (fun vs H Q E h => by obtain ⟨z, h, _⟩ := h; exact len z H vs h) fun cdv A outer s H vs Q E hr h => by
    obtain ⟨z, h1, h2, h3⟩ := h
    obtain ⟨t, h4, h5⟩ := hbody cdv A outer s H vs Q E z hr h1 h2 h3
    exact ⟨t, h4.nox, h5⟩
theorem pm_okCL {x q : Str} {st : Stmt} {f : Addr} {fd : FuncData} (C : Cd K base mg T x st q f fd) {N ps : List Str} {k : Nat} {α : Type} {pre : α → Hp → List V → Prop} {post : α → Hp → V → Prop} (S : FnScope N ps (defScope st)) (len : ∀ z H vs, pre z H vs → vs.length = ps.length)
    (hbody : ∀ (c P' : Addr) (A : Around) (outer : List Env) (s : Shared) (H : Hp) (vs : List V) (Q : VK) (E : XK) (z : α), LamX.TabB base mg c P' → (P', q) ∈ T → (∀ p ∈ T, p.1 = P' → p.2 = q) → Room k (A.deeper (envOfC x (defScope st) s.heap.objs.size f (.ref c))) → pre z H vs → LamX.Tabs T H → (∀ v H', Fut T H H' → post z H' v ∧ NL H v → Q v H') →
      ∃ t, PSs (cxOf CX0 P w K mg base N x (defScope st) f (.ref c) A outer s H E).nox (defBody st) t ∧ t { nx := fun _ H' => Q .non H', rt := Q } (start N vs) H) :
    FnOk P w K mg base CX0 (k + 1) f fd ps (PmL T pre post) := by
  obtain ⟨oc, od, dV, kV, doc, pm, an, c, P', ct, osl, rfl, lk, hcd, TB, hm, hu⟩ := C.ex
  exact fn_of lk hcd S (fun vs H Q E h => by obtain ⟨z, h, _⟩ := h; exact len z H vs h) fun A outer s H vs Q E hr h => by
    obtain ⟨z, h1, h2, h3⟩ := h
    obtain ⟨t, h4, h5⟩ := hbody c P' A outer s H vs Q E z TB hm hu hr h1 h2 h3
    exact ⟨t, h4.nox, h5⟩
end
end CR

set_option Elab.async false
set_option linter.all false
set_option maxRecDepth 100000
set_option maxHeartbeats 4000000
namespace CR
open PySem PySem.Spec PyProof.Rows L2
/-! ### lists of things told by R -/
/-- what is told stands in all that follows -/
def Stab (T : Tbl) {β : Type} (R : β → Hp → V → Prop) : Prop := ∀ b H H1 v, Fut T H H1 → R b H v → R b H1 v
def LR {β : Type} (R : β → Hp → V → Prop) (bs : List β) (H : Hp) (v : V) : Prop := ∃ p xs, v = .ref p ∧ H p = some (.lst xs) ∧ All2 (fun b x => R b H x) bs xs
theorem all2_imp {α β : Type} {R S : α → β → Prop} (h : ∀ a b, R a b → S a b) : ∀ {l : List α} {m : List β}, All2 R l m → All2 S l m
  | _, _, .nil => .nil
  | _, _, .cons a t => .cons (h _ _ a) (all2_imp h t)
theorem all2_get {α β : Type} {R : α → β → Prop} : ∀ {l : List α} {m : List β} {i : Nat} {b : β}, All2 R l m → m[i]? = some b → ∃ a, l[i]? = some a ∧ R a b
  | _, _, 0, b, .cons r t, h => by cases h; exact ⟨_, rfl, r⟩
  | _, _, i + 1, b, .cons r t, h => all2_get (i := i) t h
  | _, _, i, b, .nil, h => by simp at h
theorem all2_fwd {α β : Type} {R : α → β → Prop} : ∀ {l : List α} {m : List β} {i : Nat} {a : α}, All2 R l m → l[i]? = some a → ∃ b, m[i]? = some b ∧ R a b
  | _, _, 0, b, .cons r t, h => by cases h; exact ⟨_, rfl, r⟩
  | _, _, i + 1, b, .cons r t, h => all2_fwd (i := i) t h
  | _, _, i, b, .nil, h => by simp at h
theorem all2_app {α β : Type} {R : α → β → Prop} : ∀ {l k : List α} {m n : List β}, All2 R l m → All2 R k n → All2 R (l ++ k) (m ++ n)
  | _, _, _, _, .nil, h => h
  | _, _, _, _, .cons a t, h => .cons a (all2_app t h)
theorem stab_rp (T : Tbl) : Stab T (fun d H v => Rp H d v) := fun b H H1 v f h => f.rp h
theorem LR.fut {T : Tbl} {β : Type} {R : β → Hp → V → Prop} (s : Stab T R) {H H1 : Hp} {bs : List β} {v : V} (a : Fut T H H1) (h : LR R bs H v) : LR R bs H1 v := by
  obtain ⟨p, xs, h1, h2, h3⟩ := h
  exact ⟨p, xs, h1, a.lst h2, all2_imp (fun b x => s b H H1 x a) h3⟩
theorem Stab.lr {T : Tbl} {β : Type} {R : β → Hp → V → Prop} (s : Stab T R) : Stab T (LR R) := fun b H H1 v f h => h.fut s f
theorem rpA_all2 {H : Hp} : ∀ {ds : List Dt} {xs : List V}, RpA H ds xs ↔ All2 (fun d x => Rp H d x) ds xs
  | [], xs => ⟨fun h => by rw [show xs = [] from h]; exact .nil, fun h => by cases h; rfl⟩
  | d :: ds, xs => ⟨fun h => by
      obtain ⟨x, r, rfl, h1, h2⟩ := h
      exact .cons h1 (rpA_all2.mp h2), fun h => by
      cases h with
      | cons a t => exact ⟨_, _, rfl, a, rpA_all2.mpr t⟩⟩
theorem ld_lr {ds : List Dt} {H : Hp} {v : V} : Ld H ds v ↔ LR (fun d H v => Rp H d v) ds H v := by
  constructor
  · rintro ⟨p, xs, h1, h2, h3⟩; exact ⟨p, xs, h1, h2, rpA_all2.mp h3⟩
  · rintro ⟨p, xs, h1, h2, h3⟩; exact ⟨p, xs, h1, h2, rpA_all2.mpr h3⟩
/-- a list whose items are told by data of b -/
theorem lr_map {β γ : Type} {R : γ → Hp → V → Prop} {f : β → γ} {bs : List β} {H : Hp} {v : V} : LR R (bs.map f) H v ↔ LR (fun b => R (f b)) bs H v := by
  have key : ∀ {bs : List β} {xs : List V}, All2 (fun c x => R c H x) (bs.map f) xs ↔ All2 (fun b x => R (f b) H x) bs xs := by
    intro bs
    induction bs with
    | nil => intro xs; exact ⟨fun h => by cases h; exact .nil, fun h => by cases h; exact .nil⟩
    | cons b bs ih => intro xs; exact ⟨fun h => by cases h with | cons a t => exact .cons a (ih.mp t), fun h => by cases h with | cons a t => exact .cons a (ih.mpr t)⟩
  constructor
  · rintro ⟨p, xs, h1, h2, h3⟩; exact ⟨p, xs, h1, h2, key.mp h3⟩
  · rintro ⟨p, xs, h1, h2, h3⟩; exact ⟨p, xs, h1, h2, key.mpr h3⟩
/-- told without the list at D -/
def Sep {β : Type} (R : β → Hp → V → Prop) : Prop := ∀ b H D xs xs' v, H D = some (.lst xs) → v ≠ .ref D → R b H v → R b (upd H D (.lst xs')) v
theorem tk_lst {H : Hp} {D : Addr} {xs : List V} {o : HO} (h : H D = some (.lst xs)) : TK H (upd H D o) := fun b ys e => by
  rw [upd_ne (fun z => by rw [z, h] at e; cases e)]
  exact e
theorem sep_rp : Sep (fun d H v => Rp H d v) := fun b H D xs xs' v h _ r => r.tk (tk_lst h)
theorem sep_lr {β : Type} {R : β → Hp → V → Prop} (f : β → Dt) (h : ∀ b H v, R b H v ↔ Rp H (f b) v) : Sep (LR R) := fun bs H D xs xs' v hD n r => by
  obtain ⟨p, ys, rfl, h2, h3⟩ := r
  exact ⟨p, ys, rfl, by rw [upd_ne (fun z => n (by rw [z]))]; exact h2, all2_imp (fun b x q => (h b _ x).mpr (((h b _ x).mp q).tk (tk_lst hD))) h3⟩
/-- the i-th of bs -/
def YL {β : Type} (R : β → Hp → V → Prop) (bs : List β) : Nat → Hp → V → Prop := fun i H x => ∃ b, bs[i]? = some b ∧ R b H x
/-! ### what is walked -/
/-- fresh -/
def IVn (T : Tbl) (wi : TI) (σ : L2.St) (H : Hp) (n : Nat) (Y : Nat → Hp → V → Prop) : Prop := ∀ H1, Fut T H H1 → ∀ R : It → Hp → Prop, (∀ J H2, Fut T H1 H2 → (Walk J n (Fut T H2) fun i H3 x H4 => Fut T H3 H4 ∧ Y i H4 x) → R J H2) → wi σ H1 R
/-- it stood at B -/
def IV (T : Tbl) (B : Hp) (wi : TI) (σ : L2.St) (H : Hp) (n : Nat) (Y : Nat → Hp → V → Prop) : Prop := ∀ R : It → Hp → Prop, (∀ J, (Walk J n (Fut T B) fun i H3 x H4 => H4 = H3 ∧ Y i H3 x) → R J H) → wi σ H R
section
variable {T : Tbl} {σ : L2.St} {H B : Hp} {K : PySem.W.Frag} {wi : TI} {n : Nat} {Y : Nat → Hp → V → Prop}
theorem IVn.list {β : Type} {R : β → Hp → V → Prop} {te : TE} {bs : List β} (s : Stab T R) (h : EV T te σ H (LR R bs)) : IVn T (iList K te) σ H bs.length (YL R bs) := fun H1 f1 Q q =>
  h H1 f1 _ fun v H2 f2 r => by
    obtain ⟨p, xs, e, h2, h3⟩ := r
    refine ⟨p, e, ⟨xs, SqL.of h2⟩, q _ H2 f2 ?_⟩
    rw [h3.length]
    refine (walk_list (K := K) (a := p) (xs := xs)).mono (fun H' f => SqL.of (f.lst h2)) fun i H' x H'' hi f y => ?_
    obtain ⟨rfl, hx⟩ := y
    obtain ⟨b, hb, rb⟩ := all2_get h3 hx
    exact ⟨⟨LamX.ExtN.refl _, f.t⟩, b, hb, s b _ _ x f rb⟩
theorem IVn.tup {te : TE} {ds : List Dt} (h : ED T te σ H (.tup ds)) : IVn T (iTup K te) σ H ds.length (YL (fun d H v => Rp H d v) ds) := fun H1 f1 Q q =>
  h H1 f1 _ fun v H2 f2 r => by
    obtain ⟨p, xs, e, h2, h3⟩ := r
    refine ⟨p, e, ⟨xs, SqT.of h2⟩, q _ H2 f2 ?_⟩
    rw [← h3.length]
    refine (walk_tup (K := K) (a := p) (xs := xs)).mono (fun H' f => SqT.of (f.tup h2)) fun i H' x H'' hi f y => ?_
    obtain ⟨rfl, hx⟩ := y
    obtain ⟨b, hb, rb⟩ := RpA.back h3 hx
    exact ⟨⟨LamX.ExtN.refl _, f.t⟩, b, hb, f.rp rb⟩
theorem IVn.rng1 {te : TE} {m : Nat} (h : ED T te σ H (.num m)) (hm : m ≤ 1000000) : IVn T (iRng1 (tCons te tNil)) σ H m (fun i _ x => x = .int i) := fun H1 f1 Q q =>
  h H1 f1 _ fun v H2 f2 r => ⟨m, by rw [show v = .int m from r], by omega, by omega, q _ H2 f2 (walk_range.mono (fun _ _ => trivial) fun i H' x H'' hi f y => by
    obtain ⟨rfl, rfl⟩ := y
    exact ⟨⟨LamX.ExtN.refl _, f.t⟩, congrArg V.int (Int.zero_add _)⟩)⟩
theorem IVn.rng2 {te tf : TE} {l m : Int} (h : ED T te σ H (.num l)) (h' : ED T tf σ H (.num m)) (hl : -1000000 ≤ l) (hl' : l ≤ 1000000) (hm : -1000000 ≤ m) (hm' : m ≤ 1000000) : IVn T (iRng2 (tCons te (tCons tf tNil))) σ H (m - l).toNat (fun i _ x => x = .int (l + i)) := fun H1 f1 Q q =>
  h H1 f1 _ fun v H2 f2 r => h' H2 (f1.trans f2) _ fun v' H3 f3 r' => ⟨l, m, by rw [show v = .int l from r, show v' = .int m from r'], ⟨by omega, by omega, by omega, by omega⟩, q _ H3 (f2.trans f3) (walk_range.mono (fun _ _ => trivial) fun i H' x H'' hi f y => by
    obtain ⟨rfl, rfl⟩ := y
    exact ⟨⟨LamX.ExtN.refl _, f.t⟩, rfl⟩)⟩
/-- a list that stood at B, in slot i -/
theorem IV.list {β : Type} {R : β → Hp → V → Prop} {bs : List β} {i : Nat} {v : V} (hi : σ[i]? = some (some v)) (h : LR R bs B v) (f : Fut T B H) : IV T B (iList K (tVar i)) σ H bs.length (fun i _ x => YL R bs i B x) := fun Q q => by
  obtain ⟨p, xs, rfl, h2, h3⟩ := h
  refine ⟨_, hi, p, rfl, ⟨xs, SqL.of (f.lst h2)⟩, q _ ?_⟩
  rw [h3.length]
  refine (walk_list (K := K) (a := p) (xs := xs)).mono (fun H' f => SqL.of (f.lst h2)) fun i H' x H'' hi f y => ?_
  obtain ⟨rfl, hx⟩ := y
  obtain ⟨b, hb, rb⟩ := all2_get h3 hx
  exact ⟨rfl, b, hb, rb⟩
theorem IV.rng1 {te : TE} {m : Nat} (h : ∀ Q : VK, Q (.int m) H → te σ H Q) (hm : m ≤ 1000000) : IV T B (iRng1 (tCons te tNil)) σ H m (fun i _ x => x = .int i) := fun Q q =>
  h _ ⟨m, rfl, by omega, by omega, q _ (walk_range.mono (fun _ _ => trivial) fun i H' x H'' hi f y => by
    obtain ⟨rfl, rfl⟩ := y
    exact ⟨rfl, congrArg V.int (Int.zero_add _)⟩)⟩
theorem IV.rng2 {te tf : TE} {l m : Int} (h : ∀ Q : VK, Q (.int l) H → te σ H Q) (h' : ∀ Q : VK, Q (.int m) H → tf σ H Q) (hl : -1000000 ≤ l) (hl' : l ≤ 1000000) (hm : -1000000 ≤ m) (hm' : m ≤ 1000000) : IV T B (iRng2 (tCons te (tCons tf tNil))) σ H (m - l).toNat (fun i _ x => x = .int (l + i)) := fun Q q =>
  h _ (h' _ ⟨l, m, rfl, ⟨by omega, by omega, by omega, by omega⟩, q _ (walk_range.mono (fun _ _ => trivial) fun i H' x H'' hi f y => by
    obtain ⟨rfl, rfl⟩ := y
    exact ⟨rfl, rfl⟩)⟩)
/-! ### for -/
theorem for_iv {g : TG} {tb : TS} {D : Ends} (h : IV T B wi σ H n Y) (Pv : Nat → L2.St → Hp → Prop) (h0 : Pv 0 σ H) (hG : ∀ i σ H, Pv i σ H → Fut T B H)
    (hs : ∀ i x σ H, i < n → Pv i σ H → Y i H x → g x σ H fun σ2 H2 => tb { D with nx := Pv (i + 1), ct := Pv (i + 1), bk := D.nx } σ2 H2) (hd : ∀ σ H, Pv n σ H → D.nx σ H) : tFor wi g tb D σ H :=
  h _ fun J w => for_it w Pv h0 (fun i σ H _ p => hG i σ H p) (fun i x σ H H' hi p y => by
    obtain ⟨rfl, y⟩ := y
    exact hs i x σ _ hi p y) hd
/-! ### list comprehensions -/
theorem EV.lc {g : TG} {tt : TT} {te : TE} {vs : List Nat} {γ : Type} {R : γ → Hp → V → Prop} (s : Stab T R) (sp : Sep R) (hi : IVn T wi σ H n Y) (hn : n ≤ sizeLine) (f : Nat → Option γ)
    (hb : ∀ i x H1, i < n → Fut T H H1 → Y i H1 x → ∃ σ2, (∀ Q : L2.St → Hp → Prop, Q σ2 H1 → g x (wipe σ vs) H1 Q) ∧ wipe σ2 vs = wipe σ vs ∧ (∀ c, f i = some c → ET T tt σ2 H1 true ∧ EV T te σ2 H1 fun H2 v => R c H2 v ∧ NL H1 v) ∧ (f i = none → ET T tt σ2 H1 false)) :
    EV T (tLc wi g tt te vs) σ H (fun H' v => LR R ((List.range n).filterMap f) H' v ∧ NL H v) := fun H1 f1 Q q =>
  hi H1 f1 _ fun J H2 f2 w D hD => by
    refine lc_it w (fun i H' => ∃ xs, H' D = some (.lst xs) ∧ Fut T H2 H' ∧ xs.length ≤ i ∧ All2 (fun c x => R c H' x ∧ x ≠ .ref D) ((List.range i).filterMap f) xs) ⟨[], upd_same, Fut.newR f2.t hD _, Nat.le_refl _, .nil⟩ (fun i H' _ ⟨_, _, h, _⟩ => h) (fun i x H3 H4 hi' ⟨xs, hx, f3, hl, ha⟩ y => ?_) fun H' ⟨xs, hx, f3, hl, ha⟩ => q _ _ (f2.trans f3) ⟨⟨D, xs, rfl, hx, all2_imp (fun _ _ z => z.1) ha⟩, (NL.new hD).back (f1.trans f2)⟩
    obtain ⟨f4, y⟩ := y
    have f04 : Fut T H H4 := ((f1.trans f2).trans f3).trans f4
    obtain ⟨σ2, hg, hw, hc⟩ := hb i x H4 hi' f04 y
    have hx4 := f4.lst hx
    have e : (List.range (i + 1)).filterMap f = (List.range i).filterMap f ++ (match f i with | none => [] | some c => [c]) := by
      rw [List.range_succ, List.filterMap_append]
      congr 1
    refine hg _ ⟨hw, ?_⟩
    cases hf : f i with
    | none =>
      refine hc.2 hf H4 (fr f04) _ fun H5 f5 => ?_
      rw [if_neg Bool.false_ne_true]
      rw [hf] at e
      exact ⟨xs, f5.lst hx4, (f3.trans f4).trans f5, Nat.le_succ_of_le hl, by rw [e, List.append_nil]; exact all2_imp (fun c x z => ⟨s c _ _ x (f4.trans f5) z.1, z.2⟩) ha⟩
    | some c =>
      obtain ⟨h1, h2⟩ := hc.1 c hf
      refine h1 H4 (fr f04) _ fun H5 f5 => ?_
      rw [if_pos rfl]
      refine h2 H5 f5 _ fun y H6 f6 ry => ⟨xs, f6.lst (f5.lst hx4), by omega, ?_⟩
      rw [hf] at e
      have f26 : Fut T H2 H6 := ((f3.trans f4).trans f5).trans f6
      have hx6 := f6.lst (f5.lst hx4)
      have f7 : Fut T H2 (upd H6 D (.lst (xs ++ [y]))) := f26.putL hD hx6
      have ny : y ≠ .ref D := fun z => ry.2 D xs z hx4
      refine ⟨xs ++ [y], upd_same, f7, by rw [List.length_append, List.length_singleton]; omega, ?_⟩
      rw [e]
      exact all2_app (all2_imp (fun c x z => ⟨sp c _ D _ _ x hx6 z.2 (s c _ _ x ((f4.trans f5).trans f6) z.1), z.2⟩) ha) (.cons ⟨sp c _ D _ _ y hx6 ny ry.1, ny⟩ .nil)
theorem range_get {β γ : Type} (F : β → Option γ) : ∀ bs : List β, (List.range bs.length).filterMap (fun i => bs[i]?.bind F) = bs.filterMap F
  | [] => rfl
  | b :: bs => by
    have ih := range_get F bs
    rw [List.length_cons, List.range_succ_eq_map, List.filterMap_cons]
    have e : ((List.map Nat.succ (List.range bs.length)).filterMap fun i => (b :: bs)[i]?.bind F) = bs.filterMap F := by
      rw [List.filterMap_map, ← ih]
      rfl
    rw [e]
    show (match F b with | none => bs.filterMap F | some c => c :: bs.filterMap F) = (b :: bs).filterMap F
    rw [List.filterMap_cons]
    cases F b <;> rfl
/-- over a list -/
theorem EV.lcL {g : TG} {tt : TT} {te : TE} {vs : List Nat} {β γ : Type} {S : β → Hp → V → Prop} {R : γ → Hp → V → Prop} {bs : List β} (s : Stab T R) (sp : Sep R) (hi : IVn T wi σ H bs.length (YL S bs)) (hn : bs.length ≤ sizeLine) (F : β → Option γ)
    (hb : ∀ b x H1, b ∈ bs → Fut T H H1 → S b H1 x → ∃ σ2, (∀ Q : L2.St → Hp → Prop, Q σ2 H1 → g x (wipe σ vs) H1 Q) ∧ wipe σ2 vs = wipe σ vs ∧ (∀ c, F b = some c → ET T tt σ2 H1 true ∧ EV T te σ2 H1 fun H2 v => R c H2 v ∧ NL H1 v) ∧ (F b = none → ET T tt σ2 H1 false)) :
    EV T (tLc wi g tt te vs) σ H (fun H' v => LR R (bs.filterMap F) H' v ∧ NL H v) := by
  have h := EV.lc (R := R) s sp hi hn (fun i => bs[i]?.bind F) fun i x H1 hi' f1 y => by
    obtain ⟨b, e, y⟩ := y
    obtain ⟨σ2, h1, h2, h3, h4⟩ := hb b x H1 (List.mem_of_getElem? e) f1 y
    exact ⟨σ2, h1, h2, fun c hc => h3 c (by rw [e] at hc; exact hc), fun hc => h4 (by rw [e] at hc; exact hc)⟩
  rw [range_get] at h
  exact h
theorem ET.yes : ET T tYes σ H true := fun H1 f1 Q q => q H1 (fr f1)
theorem EV.lcM {g : TG} {te : TE} {vs : List Nat} {β γ : Type} {S : β → Hp → V → Prop} {R : γ → Hp → V → Prop} {bs : List β} (s : Stab T R) (sp : Sep R) (hi : IVn T wi σ H bs.length (YL S bs)) (hn : bs.length ≤ sizeLine) (F : β → γ)
    (hb : ∀ b x H1, b ∈ bs → Fut T H H1 → S b H1 x → ∃ σ2, (∀ Q : L2.St → Hp → Prop, Q σ2 H1 → g x (wipe σ vs) H1 Q) ∧ wipe σ2 vs = wipe σ vs ∧ EV T te σ2 H1 fun H2 v => R (F b) H2 v ∧ NL H1 v) :
    EV T (tLc wi g tYes te vs) σ H (fun H' v => LR R (bs.map F) H' v ∧ NL H v) := by
  have h := EV.lcL (R := R) (tt := tYes) (te := te) (g := g) (vs := vs) s sp hi hn (fun b => some (F b)) fun b x H1 hm f1 y => by
    obtain ⟨σ2, h1, h2, h3⟩ := hb b x H1 hm f1 y
    exact ⟨σ2, h1, h2, fun c hc => by cases hc; exact ⟨ET.yes, h3⟩, fun hc => by cases hc⟩
  have e : bs.filterMap (fun b => some (F b)) = bs.map F := by
    induction bs with
    | nil => rfl
    | cons b bs ih => simp
  rw [e] at h
  exact h
theorem ED.nl {te : TE} {d : Dt} (h : ED T te σ H d) : EV T te σ H fun H2 v => Rp H2 d v ∧ NL H v := fun H1 f1 Q q => h H1 f1 Q fun v H2 f2 r => q v H2 f2 ⟨r, fun p l e z => by
  have z2 := f2.lst (f1.lst z)
  subst e
  cases d with
  | none => cases r
  | num i => cases r
  | text x => cases r
  | tup ds =>
    obtain ⟨a, xs, e, h1, _⟩ := r
    cases e
    rw [z2] at h1
    cases h1⟩
/-! ### all and any of a generator expression -/
theorem EB.gen {go : Bool} {i0 : Nat} {te : TE} (hi : IVn T wi σ H n Y) (f : Nat → Bool) (hb : ∀ i x H1, i < n → Fut T H H1 → Y i H1 x → EB T te (σ.set i0 (some x)) H1 (f i)) :
    EB T (tGenB go T i0 wi te) σ H (if go = true then (List.range n).all f else (List.range n).any f) := fun H1 f1 Q q =>
  hi H1 f1 _ fun J H2 f2 w => ⟨f2.t, fun H3 e3 t3 => by
    have f3 : Fut T H2 H3 := ⟨e3, t3⟩
    refine ⟨fun i m H' => m = n - i ∧ i ≤ n ∧ Fut T H2 H' ∧ (∀ j, j < i → f j = go), ⟨n, by simp, Nat.zero_le _, f3, fun j hj => absurd hj (Nat.not_lt_zero j)⟩, ?_⟩
    rintro i m H' ⟨rfl, hi', f4, hj⟩
    by_cases hlt : i < n
    · refine .inr ⟨w.goes i H' hlt f4, fun x H5 y => ?_⟩
      obtain ⟨f5, y⟩ := w.yields i H' x H5 hlt f4 y
      refine hb i x H5 hlt (((f1.trans f2).trans f4).trans f5) y H5 (fr f5) _ fun v H6 f6 e => ⟨f i, e, fun g => ⟨n - (i + 1), by omega, rfl, hlt, (f4.trans f5).trans f6, fun j hj' => ?_⟩, fun g => ?_⟩
      · by_cases z : j = i
        · rw [z]; exact g
        · exact hj j (by omega)
      · refine q _ _ (f2.trans ((f4.trans f5).trans f6)) ?_
        congr 1
        cases go with
        | true =>
          rw [if_pos rfl]
          symm
          rw [Bool.not_true, List.all_eq_false]
          exact ⟨i, List.mem_range.mpr hlt, g⟩
        | false =>
          rw [if_neg Bool.false_ne_true]
          symm
          rw [Bool.not_false, List.any_eq_true]
          exact ⟨i, List.mem_range.mpr hlt, by cases q : f i with | true => rfl | false => exact absurd q g⟩
    · have e : i = n := by omega
      subst e
      refine .inl ⟨w.stops H' f4, q _ _ (f2.trans f4) ?_⟩
      congr 1
      cases go with
      | true =>
        rw [if_pos rfl]
        symm
        exact List.all_eq_true.mpr fun j hj' => hj j (List.mem_range.mp hj')
      | false =>
        rw [if_neg Bool.false_ne_true]
        symm
        rw [List.any_eq_false]
        exact fun j hj' => by rw [hj j (List.mem_range.mp hj')]; simp⟩
theorem range_all {β : Type} (p : β → Bool) : ∀ bs : List β, (List.range bs.length).all (fun i => (bs[i]?.map p).getD true) = bs.all p
  | [] => rfl
  | b :: bs => by
    rw [List.length_cons, List.range_succ_eq_map, List.all_cons, List.all_map, List.all_cons, ← range_all p bs]
    rfl
theorem range_any {β : Type} (p : β → Bool) : ∀ bs : List β, (List.range bs.length).any (fun i => (bs[i]?.map p).getD true) = bs.any p
  | [] => rfl
  | b :: bs => by
    rw [List.length_cons, List.range_succ_eq_map, List.any_cons, List.any_map, List.any_cons, ← range_any p bs]
    rfl
theorem EB.genL {go : Bool} {i0 : Nat} {te : TE} {β : Type} {S : β → Hp → V → Prop} {bs : List β} (hi : IVn T wi σ H bs.length (YL S bs)) (p : β → Bool) (hb : ∀ b x H1, b ∈ bs → Fut T H H1 → S b H1 x → EB T te (σ.set i0 (some x)) H1 (p b)) :
    EB T (tGenB go T i0 wi te) σ H (if go = true then bs.all p else bs.any p) := by
  have h := EB.gen (go := go) (i0 := i0) (te := te) hi (fun i => (bs[i]?.map p).getD true) fun i x H1 hi' f1 y => by
    obtain ⟨b, e, y⟩ := y
    rw [e]
    exact hb b x H1 (List.mem_of_getElem? e) f1 y
  rw [range_all, range_any] at h
  exact h
/-! ### targets -/
theorem g2 {a b : Dt} {x : V} {i j : Nat} (h : Rp H (.tup [a, b]) x) : ∃ u v, Rp H a u ∧ Rp H b v ∧ ∀ (H' : Hp), TK H H' → ∀ (σ : L2.St) (Q : L2.St → Hp → Prop), Q ((σ.set i (some u)).set j (some v)) H' → gTup K 2 (gCons (gName i) (gCons (gName j) gNil)) x σ H' Q := by
  obtain ⟨p, xs, e, h1, u, r, rfl, hu, v, r', rfl, hv, e'⟩ := h
  rw [show r' = [] from e'] at h1
  exact ⟨u, v, hu, hv, fun H' tk σ Q q => ⟨p, [u, v], e, SqT.of (tk _ _ h1), rfl, u, [v], rfl, v, [], rfl, rfl, q⟩⟩
theorem g3 {a b c : Dt} {x : V} {i j k : Nat} (h : Rp H (.tup [a, b, c]) x) : ∃ u v w, Rp H a u ∧ Rp H b v ∧ Rp H c w ∧ ∀ (H' : Hp), TK H H' → ∀ (σ : L2.St) (Q : L2.St → Hp → Prop), Q (((σ.set i (some u)).set j (some v)).set k (some w)) H' → gTup K 3 (gCons (gName i) (gCons (gName j) (gCons (gName k) gNil))) x σ H' Q := by
  obtain ⟨p, xs, e, h1, u, r, rfl, hu, v, r', rfl, hv, w, r'', rfl, hw, e'⟩ := h
  rw [show r'' = [] from e'] at h1
  exact ⟨u, v, w, hu, hv, hw, fun H' tk σ Q q => ⟨p, [u, v, w], e, SqT.of (tk _ _ h1), rfl, u, [v, w], rfl, v, [w], rfl, w, [], rfl, rfl, q⟩⟩
end
end CR

set_option Elab.async false
set_option linter.all false
set_option maxRecDepth 100000
set_option maxHeartbeats 4000000
namespace CR
open PySem PySem.Spec PyProof.Rows L2
theorem hu64 {A : Around} {k : Nat} (hr : Room k A) : A.units + 64 < cLine := by have := hr.un; omega
theorem hu65 {A : Around} {k : Nat} (hr : Room k A) : A.units + 65 < cLine := by have := hr.un; omega
theorem pe_ig {X : Cx} {x : Str} {pos : Pos} {i : Int} (hg : Gl X x) (h : ∃ t, X.mg x = some (.int i t)) (hd : (x == ("__debug__" : Str)) = false := by decide) : PE X (.Name x pos) (tC (.int i)) := by
  obtain ⟨t, e⟩ := h
  exact pe_glob (v := .int i) hg e ⟨t, rfl⟩ hd
def gscC (N : List Str) (sc scope : Scope) (x : Str) (i : Nat) : Bool :=
  (match scope.kind with | .function => true | _ => false) && !scope.isCoroutine && (scope.names.all fun y => match y.2 with
      | .free => (match sc.names.lookup y.1 with | some .cell => true | some .free => true | _ => false)
      | .local => decide (y.1 = x) || decide (y.1 ∉ N)
      | .cell => false
      | _ => true) && (match scope.names.lookup (".0" : Str) with | some .local => true | _ => false) && (match scope.names.lookup x with | some .local => true | _ => false) && decide (N[i]? = some x)
theorem gsc_by {N : List Str} {sc scope : Scope} {x : Str} {i : Nat} (h : gscC N sc scope x i = true) : GSc N sc scope x i := by
  unfold gscC at h
  simp only [Bool.and_eq_true, List.all_eq_true, decide_eq_true_eq] at h
  obtain ⟨⟨⟨⟨⟨h1, h2⟩, h3⟩, h4⟩, h5⟩, h6⟩ := h
  refine ⟨?_, by simpa using h2, fun y hy e => ?_, ?_, ?_, h6, fun y hy e => ?_, fun y hy e => ?_⟩
  · split at h1
    · assumption
    · cases h1
  · have q := h3 y hy
    rw [e] at q
    cases q
  · split at h4
    · assumption
    · cases h4
  · split at h5
    · assumption
    · cases h5
  · have q := h3 y hy
    simp only [e, Bool.or_eq_true, decide_eq_true_eq] at q
    exact q
  · have q := h3 y hy
    simp only [e] at q
    split at q <;> first | exact .inl (by assumption) | exact .inr (by assumption) | cases q
/-! ### rules with the written part named -/
section
variable {X : Cx} {K : PySem.W.Frag} {tg l e : Expr} {te : TE} {pos : Pos}
theorem op_catK (K : PySem.W.Frag) (h : X.K = K) : OpR X (binaryOp .Add) (rCatA K) := h ▸ op_catA
theorem ix_listK (K : PySem.W.Frag) (h : X.K = K) : IxR X (rIxL K) := h ▸ ix_list
theorem ix_tupK (K : PySem.W.Frag) (h : X.K = K) : IxR X (rIxT K) := h ▸ ix_tup
theorem sl_tupK (K : PySem.W.Frag) (h : X.K = K) : SlR X (rSlA K) := h ▸ sl_tupA
theorem sl_listK (K : PySem.W.Frag) (h : X.K = K) : SlR X (rSlL K) := h ▸ sl_list
theorem op_inK (K : PySem.W.Frag) (h : X.K = K) : OpR X (compareOp .In) (rIn K false) := h ▸ op_in_seq
/-- len -/
def rLenK (K : PySem.W.Frag) : List V → Hp → VK → Prop := fun xs H Q => ∃ p ys, xs = [.ref p] ∧ (SqL K H p ys ∨ SqT K H p ys) ∧ Q (.int ys.length) H
theorem cr_lenK (K : PySem.W.Frag) (h : X.K = K) : CallR X (.builtin "len") (rLenK K) := h ▸ call_len_seq
def rListK (K : PySem.W.Frag) : List V → Hp → VK → Prop := fun xs H Q => ∃ p ys, xs = [.ref p] ∧ (SqL K H p ys ∨ SqT K H p ys) ∧ ∀ l, H l = none → Q (.ref l) (upd H l (.lst ys))
theorem cr_listK (K : PySem.W.Frag) (h : X.K = K) : CallR X (.type "list") (rListK K) := h ▸ call_list_of
def rTupK (K : PySem.W.Frag) : List V → Hp → VK → Prop := fun xs H Q => ∃ p ys, xs = [.ref p] ∧ ((SqL K H p ys ∧ ∀ l, H l = none → Q (.ref l) (upd H l (.tup ys))) ∨ (SqT K H p ys ∧ Q (.ref p) H))
theorem cr_tupleK (K : PySem.W.Frag) (h : X.K = K) : CallR X (.type "tuple") (rTupK K) := h ▸ call_tuple_of
theorem cr_sumK (K : PySem.W.Frag) (h : X.K = K) (hc : X.calm = true) : CallR X (.builtin "sum") (rSum K) := h ▸ cr_sum hc
theorem cr_sumTK (K : PySem.W.Frag) (h : X.K = K) (hc : X.calm = true) : CallR X (.builtin "sum") (rSumT K) := h ▸ cr_sumT hc
theorem cr_minKK (K : PySem.W.Frag) (h : X.K = K) (hc : X.calm = true) (hu : X.A.units + 64 < cLine) : CallR X (.builtin "min") (rMinK K) := h ▸ cr_minK hc hu
theorem pi_listK (K : PySem.W.Frag) (h : X.K = K) (hl : PE X l te) : PI X tg l (iList K te) := h ▸ pi_list hl
theorem pi_tupK (K : PySem.W.Frag) (h : X.K = K) (hl : PE X l te) : PI X tg l (iTup K te) := h ▸ pi_tup hl
theorem pg_tupK (K : PySem.W.Frag) (hK : X.K = K) {es : List Expr} {k : Nat} {t : TGs} (n : Nat) (hc : X.calm = true) (h : PGs X es t)
    (hn : (assignEach es X.env).length = n := by rfl) (hst : (assignEach es X.env).findIdx? (·.1) = none := by rfl) : PG X (.Tuple es k pos) (gTup K n t) := hK ▸ pg_tup hc h hn hst
end
section
variable {X : Cx} {T : Tbl} {c P : Addr} {elt iter : Expr} {x : Str} {px p pos gpos : Pos} {scope : Scope} {i k : Nat} {wi : TI} {te : TE}
theorem pe_allQ (q : Str) (hq : X.env.qual = q) (hr : Room (k + 1) X.A) (hg : Gl X "all") (hm : X.mg "all" = none) (TB : LamX.TabB X.base X.mg c P) (hcode : X.env.code = .ref c) (hmT : (P, q ++ ("<genexpr>" : Str)) ∈ T) (hu : ∀ p ∈ T, p.1 = P → p.2 = q ++ ("<genexpr>" : Str)) (G : GSc X.N X.env.scope scope x i) (hN : X.N.Nodup) (hi : PI X (.Name x px) iter wi)
    (hel : ∀ (A : Around) (s : Shared) (H : Hp) (C : Addr) (code : Value) (fp : List Addr), Room k A → PE (genCx X A s H (genEnv scope (cloFrom X.env.cells scope.names []) C code builtinsNs X.env) fp) elt te)
    (hs : ∀ v, genFold iter X.env v = pure v)
    (he : starEach [.GeneratorExp elt [⟨.Name x px, iter, [], 0⟩] scope gpos] X.env = (false, eval (.GeneratorExp elt [⟨.Name x px, iter, [], 0⟩] scope gpos) X.env) :: starEach [] X.env := by rfl) :
    PE X (.Call (.Name "all" p) [.GeneratorExp elt [⟨.Name x px, iter, [], 0⟩] scope gpos] [] pos) (tGenB true T i wi te) := by
  subst hq
  exact pe_allG hr hg hm boot_all TB hcode hmT hu G hN hi hel hs he
theorem pe_anyQ (q : Str) (hq : X.env.qual = q) (hr : Room (k + 1) X.A) (hg : Gl X "any") (hm : X.mg "any" = none) (TB : LamX.TabB X.base X.mg c P) (hcode : X.env.code = .ref c) (hmT : (P, q ++ ("<genexpr>" : Str)) ∈ T) (hu : ∀ p ∈ T, p.1 = P → p.2 = q ++ ("<genexpr>" : Str)) (G : GSc X.N X.env.scope scope x i) (hN : X.N.Nodup) (hi : PI X (.Name x px) iter wi)
    (hel : ∀ (A : Around) (s : Shared) (H : Hp) (C : Addr) (code : Value) (fp : List Addr), Room k A → PE (genCx X A s H (genEnv scope (cloFrom X.env.cells scope.names []) C code builtinsNs X.env) fp) elt te)
    (hs : ∀ v, genFold iter X.env v = pure v)
    (he : starEach [.GeneratorExp elt [⟨.Name x px, iter, [], 0⟩] scope gpos] X.env = (false, eval (.GeneratorExp elt [⟨.Name x px, iter, [], 0⟩] scope gpos) X.env) :: starEach [] X.env := by rfl) :
    PE X (.Call (.Name "any" p) [.GeneratorExp elt [⟨.Name x px, iter, [], 0⟩] scope gpos] [] pos) (tGenB false T i wi te) := by
  subst hq
  exact pe_anyG hr hg hm TB hcode hmT hu G hN hi hel hs he
theorem pe_sortQ (q : Str) (hq : X.env.qual = q) {x : Str} {j k : Nat} {e : Expr} {te : TE} {params : Arguments} {scope : Scope} {p pos kpos lpos p1 p2 p3 p4 p5 p6 p7 p8 p9 : Pos} {k1 k2 k3 : Nat}
    (he : PE X e te) (hg : Gl X "sorted") (hm : X.mg "sorted" = none) (hml : X.mg "len" = none) (hr : Room (k + 1) X.A)
    (TB : LamX.TabB X.base X.mg c P) (hcode : X.env.code = .ref c) (hmT : (P, q ++ ("<lambda>" : Str)) ∈ T) (hu : ∀ p ∈ T, p.1 = P → p.2 = q ++ ("<lambda>" : Str)) (hdef : defaultsOf params X.env = ([], []))
    (hclo : cloFrom X.env.cells scope.names [] = []) (hfree : ∀ y ∈ scope.names, y.2 ≠ .free)
    (hbind : ∀ (q : Str) (t : Addr) (pm cv ctv : Value), bindArgs (PySem.W.kla_fn "<lambda>" q params (lamBody x j p1 p2 p3 p4 p5 p6 p7 p8 p9 k1 k2 k3) scope [] pm cv ctv) ⟨[.ref t], []⟩ = pure [(x, .ref t)])
    (sk : scope.kind = .function) (co : scope.isCoroutine = false) (gn : scope.isGenerator = false) (ncell : ∀ y ∈ scope.names, y.2 ≠ .cell) (hx : scope.names.lookup x = some .local) (hl : scope.names.lookup ("len" : Str) = some .globalImplicit)
    (hxd : (x == ("__debug__" : Str)) = false) (h63 : (j : Int) < 2 ^ 63)
    (hee : backTo pos (starEach [e] X.env) = [(false, eval e X.env)] := by rfl) (hpl : (backTo pos (starEach [e] X.env)).any (·.1) = false := by rfl) :
    PE X (.Call (.Name "sorted" p) [e] [⟨some "key", .Lambda params (lamBody x j p1 p2 p3 p4 p5 p6 p7 p8 p9 k1 k2 k3) scope lpos, kpos⟩] pos) (tSortR X.K T j te) := by
  subst hq
  exact pe_sortR he hg hm hml hr TB hcode hmT hu hdef hclo hfree hbind sk co gn ncell hx hl hxd h63 hee hpl
end
/-! ### statements -/
theorem iteY {A B : Prop} {c : Bool} (hc : c = true) (h : A) : if c = true then A else B := by rw [if_pos hc]; exact h
theorem iteN {A B : Prop} {c : Bool} (hc : c = false) (h : B) : if c = true then A else B := by rw [if_neg (by rw [hc]; exact Bool.false_ne_true)]; exact h
section
variable {T : Tbl} {σ : L2.St} {H : Hp} {D : Ends} {te : TE} {R : Hp → V → Prop}
theorem S.seq {t u : TS} (h : t { D with nx := u D } σ H) : tSeq t u D σ H := h
theorem S.set {i : Nat} (h : EV T te σ H R) (ht : LamX.Tabs T H) (k : ∀ v H2, Fut T H H2 → R H2 v → D.nx (σ.set i (some v)) H2) : tAsg te (gName i) D σ H := h.at ht k
theorem S.asg {gt : TG} (h : EV T te σ H R) (ht : LamX.Tabs T H) (k : ∀ v H2, Fut T H H2 → R H2 v → gt v σ H2 D.nx) : tAsg te gt D σ H := h.at ht k
theorem S.ret (h : EV T te σ H R) (ht : LamX.Tabs T H) (k : ∀ v H2, Fut T H H2 → R H2 v → D.rt v H2) : tRet te D σ H := h.at ht k
theorem S.drop (h : EV T te σ H R) (ht : LamX.Tabs T H) (k : ∀ v H2, Fut T H H2 → R H2 v → D.nx σ H2) : tDrop te D σ H := h.at ht k
theorem S.yes {c : TT} {t u : TS} (h : ET T c σ H true) (ht : LamX.Tabs T H) (k : ∀ H2, Fut T H H2 → t D σ H2) : tIfS c t u D σ H := h.at ht fun H2 f => iteY rfl (k H2 f)
theorem S.no {c : TT} {t u : TS} (h : ET T c σ H false) (ht : LamX.Tabs T H) (k : ∀ H2, Fut T H H2 → u D σ H2) : tIfS c t u D σ H := h.at ht fun H2 f => iteN rfl (k H2 f)
theorem S.if {c : TT} {t u : TS} {b : Bool} (h : ET T c σ H b) (ht : LamX.Tabs T H) (k1 : b = true → ∀ H2, Fut T H H2 → t D σ H2) (k2 : b = false → ∀ H2, Fut T H H2 → u D σ H2) : tIfS c t u D σ H := by
  cases b with
  | true => exact S.yes h ht (k1 rfl)
  | false => exact S.no h ht (k2 rfl)
theorem Sq.set {i : Nat} {u : TS} (h : EV T te σ H R) (ht : LamX.Tabs T H) (k : ∀ v H2, Fut T H H2 → R H2 v → u D (σ.set i (some v)) H2) : tSeq (tAsg te (gName i)) u D σ H := h.at ht k
theorem Sq.asg {gt : TG} {u : TS} (h : EV T te σ H R) (ht : LamX.Tabs T H) (k : ∀ v H2, Fut T H H2 → R H2 v → gt v σ H2 (u D)) : tSeq (tAsg te gt) u D σ H := h.at ht k
theorem Sq.newl {i : Nat} {u : TS} (k : ∀ p, H p = none → u D (σ.set i (some (.ref p))) (upd H p (.lst []))) : tSeq (tAsg (tLst tNil) (gName i)) u D σ H := ⟨Nat.zero_le _, fun p hp => k p hp⟩
theorem Sq.drop {u : TS} (h : EV T te σ H R) (ht : LamX.Tabs T H) (k : ∀ v H2, Fut T H H2 → R H2 v → u D σ H2) : tSeq (tDrop te) u D σ H := h.at ht k
theorem Sq.no {c : TT} {t u : TS} (h : ET T c σ H false) (ht : LamX.Tabs T H) (k : ∀ H2, Fut T H H2 → u D σ H2) : tSeq (tIfS c t tNext) u D σ H := h.at ht fun H2 f => iteN rfl (k H2 f)
theorem Sq.yes {c : TT} {t s u : TS} (h : ET T c σ H true) (ht : LamX.Tabs T H) (k : ∀ H2, Fut T H H2 → t { D with nx := u D } σ H2) : tSeq (tIfS c t s) u D σ H := h.at ht fun H2 f => iteY rfl (k H2 f)
theorem Sq.if {c : TT} {t u : TS} {b : Bool} (h : ET T c σ H b) (ht : LamX.Tabs T H) (k1 : b = true → ∀ H2, Fut T H H2 → t { D with nx := u D } σ H2) (k2 : b = false → ∀ H2, Fut T H H2 → u D σ H2) : tSeq (tIfS c t tNext) u D σ H := by
  cases b with
  | true => exact Sq.yes h ht (k1 rfl)
  | false => exact Sq.no h ht (k2 rfl)
theorem Sq.for {B : Hp} {wi : TI} {n : Nat} {Y : Nat → Hp → V → Prop} {gt : TG} {tb u : TS} (h : IV T B wi σ H n Y) (Pv : Nat → L2.St → Hp → Prop) (h0 : Pv 0 σ H) (hG : ∀ i σ H, Pv i σ H → Fut T B H)
    (hs : ∀ i x σ H, i < n → Pv i σ H → Y i H x → gt x σ H fun σ2 H2 => tb { nx := Pv (i + 1), ct := Pv (i + 1), bk := u D, rt := D.rt } σ2 H2) (hd : ∀ σ H, Pv n σ H → u D σ H) : tSeq (tFor wi gt tb) u D σ H :=
  for_iv (D := { D with nx := u D }) h Pv h0 hG hs hd
/-! tests -/
theorem ET.of {b : Bool} (h : EB T te σ H b) : ET T (tTest te) σ H b := fun H1 f1 Q q => h H1 f1 _ fun v H2 f2 e => ⟨b, e, q H2 f2⟩
theorem ET.ofB {b : Bool} (h : EB T te σ H b) : ET T (tB te) σ H b := fun H1 f1 Q q => h H1 f1 _ fun v H2 f2 e => ⟨b, e, q H2 f2⟩
theorem ET.not {t : TT} {b : Bool} (h : ET T t σ H b) : ET T (tNot t) σ H (!b) := fun H1 f1 Q q => h H1 f1 _ fun H2 f2 => q H2 f2
theorem ET.imp {t : TT} {b c : Bool} (h : ET T t σ H b) (e : b = c) : ET T t σ H c := e ▸ h
theorem ET.and {t u : TT} {b c : Bool} (h : ET T t σ H b) (k : b = true → ET T u σ H c) : ET T (tAnd t u) σ H (b && c) := fun H1 f1 Q q => h H1 f1 _ fun H2 f2 => by
  cases b with
  | true => exact iteY rfl (k rfl H2 (f1.trans f2) Q fun H3 f3 => q H3 (f2.trans f3))
  | false => exact iteN rfl (q H2 f2)
theorem ET.or {t u : TT} {b c : Bool} (h : ET T t σ H b) (k : b = false → ET T u σ H c) : ET T (tOr t u) σ H (b || c) := fun H1 f1 Q q => h H1 f1 _ fun H2 f2 => by
  cases b with
  | true => exact iteY rfl (q H2 f2)
  | false => exact iteN rfl (k rfl H2 (f1.trans f2) Q fun H3 f3 => q H3 (f2.trans f3))
theorem EB.imp {b c : Bool} (h : EB T te σ H b) (e : b = c) : EB T te σ H c := e ▸ h
theorem EB.not {b : Bool} (h : EB T te σ H b) : EB T (tNotV te) σ H (!b) := fun H1 f1 Q q => h H1 f1 _ fun v H2 f2 e => ⟨b, e, q _ H2 f2 rfl⟩
theorem EB.and {tb : TE} {b c : Bool} (h : EB T te σ H b) (k : b = true → EB T tb σ H c) : EB T (tAndV te tb) σ H (b && c) := fun H1 f1 Q q => h H1 f1 _ fun v H2 f2 e => ⟨b, e, by
  cases b with
  | true => exact iteY rfl (k rfl H2 (f1.trans f2) Q fun v H3 f3 e => q v H3 (f2.trans f3) e)
  | false => exact iteN rfl (q _ H2 f2 rfl)⟩
theorem EB.or {tb : TE} {b c : Bool} (h : EB T te σ H b) (k : b = false → EB T tb σ H c) : EB T (tOrV te tb) σ H (b || c) := fun H1 f1 Q q => h H1 f1 _ fun v H2 f2 e => ⟨b, e, by
  cases b with
  | true => exact iteY rfl (q _ H2 f2 rfl)
  | false => exact iteN rfl (k rfl H2 (f1.trans f2) Q fun v H3 f3 e => q v H3 (f2.trans f3) e)⟩
/-- a chain of whole numbers i <= j <= k -/
theorem EB.between {ta tb tc : TE} {i j k : Int} (ha : ED T ta σ H (.num i)) (hb : ED T tb σ H (.num j)) (hc : ED T tc σ H (.num k)) : EB T (tChain (L2.rI0 fun i j => .bl (decide (i ≤ j))) (L2.rI0 fun i j => .bl (decide (i ≤ j))) ta tb tc) σ H (decide (i ≤ j) && decide (j ≤ k)) := fun H1 f1 Q q =>
  ha H1 f1 _ fun x H2 f2 rx => hb H2 (f1.trans f2) _ fun y H3 f3 ry => ⟨i, j, rx, ry, decide (i ≤ j), rfl, by
    by_cases z : i ≤ j
    · rw [decide_eq_true z]
      exact iteY rfl (hc H3 ((f1.trans f2).trans f3) _ fun v H4 f4 rv => ⟨j, k, ry, rv, q _ H4 ((f2.trans f3).trans f4) (by rw [decide_eq_true z]; rfl)⟩)
    · rw [decide_eq_false z]
      exact iteN rfl (q _ H3 (f2.trans f3) (by rw [decide_eq_false z]; rfl))⟩
end
section
variable {P : Program} {w : World} {K : PySem.W.Frag} {mg : Str → Option Value} {base : Heap} {T : Tbl} (g : G K mg base T)
/-! ### check_many -/
abbrev N_check_many : List Str := ["many", "path"]
theorem sc_check_many : FnScope N_check_many ["many", "path"] (defScope s_check_many) := ⟨rfl, rfl, rfl, by decide +kernel, rfl, by decide +kernel, by decide +kernel⟩
theorem ok_check_many : FnOk P w K mg base CX0 1 g.check_many.a g.check_many.d ["many", "path"] (Pm T (fun (n : Int) H vs => n ≤ 2000 ∧ ∃ v, vs = [.int n, v]) fun _ _ v => v = .non) := by
  refine pm_ok g.check_many.F sc_check_many (fun z H vs h => by obtain ⟨_, v, rfl⟩ := h; rfl) fun cdv A outer s H vs Q E n hr h ht hq => ?_
  obtain ⟨hn, v, rfl⟩ := h
  refine ⟨_, (pss_one (ps_if (pt_cmpR op_gt (pv 0) (pe_ig rfl g.i_VALUES) (nomark _)) (pss_one ps_never) pss_nil)), ?_⟩
  refine S.no (ET.imp (.of (EB.gt (ED.var (d := .num n) rfl rfl) (ED.int 2000))) (by simpa using hn)) ht fun H2 f => hq _ _ f rfl
/-! ### power -/
abbrev N_power : List Str := ["base", "many", "made", "_"]
theorem sc_power : FnScope N_power ["base", "many"] (defScope s_power) := ⟨rfl, rfl, rfl, by decide +kernel, rfl, by decide +kernel, by decide +kernel⟩
theorem ok_power : FnOk P w K mg base CX0 1 g.power.a g.power.d ["base", "many"] (Pm T (fun (z : Nat × Nat) H vs => vs = [.int z.1, .int z.2] ∧ z.1 ≤ 10000 ∧ z.2 ≤ 10) fun z _ v => v = .int ((z.1 ^ z.2 : Nat) : Int)) := by
  refine pm_ok g.power.F sc_power (fun z H vs h => by obtain ⟨rfl, _⟩ := h; rfl) fun cdv A outer s H vs Q E z hr h ht hq => ?_
  obtain ⟨rfl, hb, hm⟩ := h
  refine ⟨_, (pss_cons (ps_set (i := 2) sc_power.nd rfl (Or.inl rfl) pe_int) (pss_cons (ps_for PassesOwn.never rfl (pi_range1 rfl g.n_range (pa_cons (pv 1) pa_nil)) (pg_name (i := 3) sc_power.nd rfl (Or.inl rfl)) (pss_one (ps_set (i := 2) sc_power.nd rfl (Or.inl rfl) (pe_op op_mul (pv 2) (pv 0))))) (pss_one (ps_ret (pv 2))))), ?_⟩
  refine Sq.set (ED.int 1) ht fun v H2 f2 r => ?_
  cases r
  refine Sq.for (B := H) (IV.rng1 (m := z.2) (fun Q q => ⟨_, rfl, q⟩) (by omega)) (fun i σ H' => Fut T H H' ∧ ∃ x, σ = [some (.int z.1), some (.int z.2), some (.int ((z.1 ^ i : Nat) : Int)), x]) ⟨f2, _, rfl⟩ (fun i σ H' h => h.1) (fun i x σ H' hi h y => ?_) fun σ H' h => ?_
  · obtain ⟨f, x', rfl⟩ := h
    refine S.set (ED.mul (i := ((z.1 ^ i : Nat) : Int)) (j := z.1) (ED.var rfl rfl) (ED.var rfl rfl) (.inr ⟨by omega, by omega⟩)) f.t fun v H3 f3 r => ⟨f.trans f3, some x, ?_⟩
    cases r
    rw [Nat.pow_succ, Int.natCast_mul]
    rfl
  · obtain ⟨f, x', rfl⟩ := h
    exact ⟨_, rfl, hq _ _ f rfl⟩
end
end CR

set_option Elab.async false
set_option linter.all false
set_option maxRecDepth 100000
set_option maxHeartbeats 4000000
namespace CR
open PySem PySem.Spec PyProof.Rows L2
/-! ### triples, pairs as data -/
def triD (t : Tr Dt) : Dt := .tup [t.1, .num t.2.1, rowD t.2.2]
def prD (p : Row × Dt) : Dt := .tup [rowD p.1, p.2]
/-- tables that the def may multiply -/
structure FT {α : Type} (T : List (Tr α)) : Prop where
  n : T.length ≤ 100000
  t : ∀ t ∈ T, 0 ≤ t.2.1 ∧ t.2.1 ≤ 1000000 ∧ t.2.2.length ≤ 1000000
def FL (A : List (Tr (List Dt))) : Prop := ∀ t ∈ A, t.1.length ≤ 1000
theorem line6 {n : Nat} (h : n ≤ 10000000) : n ≤ sizeLine := by
  have : sizeLine = 16777216 := sizeLine_eq
  omega
theorem ln1 : 1 ≤ sizeLine := by decide
theorem ln2 : 2 ≤ sizeLine := by decide
theorem ln3 : 3 ≤ sizeLine := by decide
theorem line6' {n : Nat} (h : n ≤ 10000000) : n < sizeLine := by
  have : sizeLine = 16777216 := sizeLine_eq
  omega
section
variable {T : Tbl} {K : PySem.W.Frag} {σ : L2.St} {H : Hp} {D : Ends} {te : TE} {R : Hp → V → Prop}
theorem S.app {l : Nat} {p : Addr} {xs : List V} (hl : σ[l]? = some (some (.ref p))) (hp : H p = some (.lst xs)) (hlen : xs.length < sizeLine) (h : EV T te σ H R) (ht : LamX.Tabs T H) (k : ∀ v H2, Fut T H H2 → R H2 v → D.nx σ (upd H2 p (.lst (xs ++ [v])))) :
    tDrop (tBM K "list" rAppend (tVar l) (tCons te tNil)) D σ H :=
  ⟨_, hl, .inl ⟨rfl, _, .inl (.inl hp)⟩, h.at ht fun v H2 f r => ⟨p, xs, v, rfl, rfl, f.lst hp, hlen, k v H2 f r⟩⟩
theorem S.ext {β : Type} {R : β → Hp → V → Prop} {bs : List β} {l : Nat} {p : Addr} {xs : List V} (hl : σ[l]? = some (some (.ref p))) (hp : H p = some (.lst xs)) (hlen : xs.length + bs.length ≤ sizeLine) (h : EV T te σ H (LR R bs)) (ht : LamX.Tabs T H) (k : ∀ zs H2, Fut T H H2 → All2 (fun b x => R b H2 x) bs zs → D.nx σ (upd H2 p (.lst (xs ++ zs)))) :
    tDrop (tBM K "list" rExtend (tVar l) (tCons te tNil)) D σ H :=
  ⟨_, hl, .inl ⟨rfl, _, .inl (.inl hp)⟩, h.at ht fun v H2 f r => by
    obtain ⟨q, zs, rfl, h2, h3⟩ := r
    exact ⟨p, q, xs, zs, rfl, rfl, f.lst hp, h2, by rw [← h3.length]; exact hlen, k zs H2 f h3⟩⟩
/-- a list of data under way: it is ours (H0 does not hold it) -/
theorem rpA_put {H : Hp} {p : Addr} {xs ys : List V} {ds : List Dt} {o : HO} (h : H p = some (.lst xs)) (r : RpA H ds ys) : RpA (upd H p o) ds ys := r.tk (tk_lst h)
theorem EL.fut {H' : Hp} {ds : List Dt} (h : EL T te σ H ds) (f : Fut T H H') : EL T te σ H' ds := EV.fut h f
end
/-! ### the mathematics of the loops -/
theorem mult_snoc (A : List (Tr (List Dt))) (B : List (Tr Dt)) (t : Tr (List Dt)) : multM (A ++ [t]) B = multM A B ++ B.map fun u => (t.1 ++ [u.1], t.2.1 * u.2.1, t.2.2 ++ u.2.2) := by
  unfold multM
  rw [List.flatMap_append, List.flatMap_singleton]
theorem mult_len (A : List (Tr (List Dt))) (B : List (Tr Dt)) : (multM A B).length = A.length * B.length := by
  unfold multM
  induction A with
  | nil => simp
  | cons a A ih => rw [List.flatMap_cons, List.length_append, ih, List.length_map, List.length_cons, Nat.succ_mul, Nat.add_comm]
theorem take_succ_of {α : Type} {l : List α} {i : Nat} {a : α} (h : l[i]? = some a) : l.take (i + 1) = l.take i ++ [a] := by
  rw [List.take_succ, h]
  rfl
section
variable {P : Program} {w : World} {K : PySem.W.Frag} {mg : Str → Option Value} {base : Heap} {T : Tbl} (g : G K mg base T)
abbrev LdT (T : List (Tr Dt)) (H : Hp) (v : V) : Prop := LR (fun t H v => Rp H (triD t) v) T H v
theorem stab_tri : Stab T (fun (t : Tr Dt) H v => Rp H (triD t) v) := fun b H H1 v f h => f.rp h
theorem sep_tri : Sep (fun (t : Tr Dt) H v => Rp H (triD t) v) := fun b H D xs xs' v h _ r => r.tk (tk_lst h)
/-! ### multiplied -/
abbrev N_multiplied : List Str := ["first", "second", "made", "values", "count", "row", "value", "many", "other"]
theorem sc_multiplied : FnScope N_multiplied ["first", "second"] (defScope s_multiplied) := ⟨rfl, rfl, rfl, by decide +kernel, rfl, by decide +kernel, by decide +kernel⟩
theorem ok_multiplied : FnOk P w K mg base CX0 1 g.multiplied.a g.multiplied.d ["first", "second"] (PmL T (fun (z : List (Tr (List Dt)) × List (Tr Dt)) H vs => ∃ u v, vs = [u, v] ∧ LdT (tupT z.1) H u ∧ LdT z.2 H v ∧ FT z.1 ∧ FL z.1 ∧ FT z.2 ∧ z.1.length * z.2.length ≤ 1000000) fun z H v => LdT (tupT (multM z.1 z.2)) H v) := by
  refine pm_okL g.multiplied.F sc_multiplied (fun z H vs h => by obtain ⟨u, v, rfl, _⟩ := h; rfl) fun cdv A outer s H vs Q E z hr h ht hq => ?_
  obtain ⟨A, B⟩ := z
  obtain ⟨u, v, rfl, hA, hB, fA, lA, fB, hn⟩ := h
  refine ⟨_, (pss_cons (ps_set (i := 2) sc_multiplied.nd rfl (Or.inl rfl) (pe_lst pa_nil)) (pss_cons (ps_for PassesOwn.never rfl (pi_listK K rfl (pv 0)) (pg_tupK K rfl 3 rfl (pgs_cons (pg_name (i := 3) sc_multiplied.nd rfl (Or.inl rfl)) (pgs_cons (pg_name (i := 4) sc_multiplied.nd rfl (Or.inl rfl)) (pgs_cons (pg_name (i := 5) sc_multiplied.nd rfl (Or.inl rfl)) pgs_nil)))) (pss_one (ps_for PassesOwn.never rfl (pi_listK K rfl (pv 1)) (pg_tupK K rfl 3 rfl (pgs_cons (pg_name (i := 6) sc_multiplied.nd rfl (Or.inl rfl)) (pgs_cons (pg_name (i := 7) sc_multiplied.nd rfl (Or.inl rfl)) (pgs_cons (pg_name (i := 8) sc_multiplied.nd rfl (Or.inl rfl)) pgs_nil)))) (pss_one (ps_expr (pe_bm PySem.F.plainAttrs_list PySem.F.slot_list_append PySem.F.type_list_append mt_append (pv 2) (pa_cons (pe_tup (pa_cons (pe_op (op_catK K rfl) (pv 3) (pe_tup (pa_cons (pv 6) pa_nil))) (pa_cons (pe_op op_mul (pv 4) (pv 7)) (pa_cons (pe_op (op_catK K rfl) (pv 5) (pv 8)) pa_nil)))) pa_nil))))))) (pss_one (ps_ret (pv 2))))), ?_⟩
  have hn : A.length * B.length ≤ 1000000 := hn
  refine ⟨Nat.zero_le _, fun p hp => ?_⟩
  have f0 : Fut T H (upd H p (.lst [])) := Fut.newR ht hp _
  -- the two loops
  refine Sq.for (B := H) (IV.list rfl hA f0) (fun i σ H' => Fut T H H' ∧ (∃ xs, H' p = some (.lst xs) ∧ RpA H' ((tupT (multM (A.take i) B)).map triD) xs) ∧ ∃ a b c d e f, σ = [some u, some v, some (.ref p), a, b, c, d, e, f]) ⟨f0, ⟨[], upd_same, rfl⟩, none, none, none, none, none, none, rfl⟩ (fun i σ H' h => h.1) (fun i x σ H1 hi h y => ?_) fun σ H1 h => ?_
  · obtain ⟨f1, ⟨xs, hx, rx⟩, a, b, c, d, e, f, rfl⟩ := h
    obtain ⟨t', et, y⟩ := y
    obtain ⟨t, et2, rfl⟩ : ∃ t, A[i]? = some t ∧ t' = (NestedKey.tup t.1, t.2.1, t.2.2) := by
      unfold tupT at et
      rw [List.getElem?_map] at et
      cases q : A[i]? with
      | none => rw [q] at et; cases et
      | some t => rw [q] at et; cases et; exact ⟨t, rfl, rfl⟩
    have mA := List.mem_of_getElem? et2
    obtain ⟨x1, x2, x3, r1, r2, r3, hg⟩ := g3 (i := 3) (j := 4) (k := 5) y
    refine hg _ f1.tk _ _ ?_
    have lenM : (multM (A.take i) B).length + B.length ≤ 1000000 := by
      rw [mult_len, List.length_take]
      have hi' : i < A.length := (List.getElem?_eq_some_iff.mp et2).1
      rw [Nat.min_eq_left (Nat.le_of_lt hi')]
      have : (i + 1) * B.length ≤ A.length * B.length := Nat.mul_le_mul_right _ hi'
      rw [Nat.succ_mul] at this
      omega
    refine for_iv (B := H) (IV.list rfl hB f1) (fun j σ H' => Fut T H H' ∧ (∃ xs, H' p = some (.lst xs) ∧ RpA H' ((tupT (multM (A.take i) B ++ (B.take j).map fun u => (t.1 ++ [u.1], t.2.1 * u.2.1, t.2.2 ++ u.2.2))).map triD) xs) ∧ ∃ d e f, σ = [some u, some v, some (.ref p), some x1, some x2, some x3, d, e, f]) ⟨f1, ⟨xs, hx, by rw [List.take_zero, List.map_nil, List.append_nil]; exact rx⟩, d, e, f, rfl⟩ (fun i σ H' h => h.1) (fun j x' σ H2 hj h y' => ?_) fun σ H2 h => ?_
    · obtain ⟨f2, ⟨ys, hy, ry⟩, d, e, f, rfl⟩ := h
      obtain ⟨s', es, y'⟩ := y'
      have mB := List.mem_of_getElem? es
      obtain ⟨z1, z2, z3, q1, q2, q3, hg'⟩ := g3 (i := 6) (j := 7) (k := 8) y'
      refine hg' _ f2.tk _ _ ?_
      have hl := ry.length
      have hj' : j < B.length := (List.getElem?_eq_some_iff.mp es).1
      have hly : ys.length < 1000000 := by
        rw [hl, List.length_map]
        unfold tupT
        rw [List.length_map, List.length_append, List.length_map, List.length_take, Nat.min_eq_left (Nat.le_of_lt hj')]
        omega
      have ft := fA.t t mA
      have fs := fB.t s' mB
      have lt := lA t mA
      refine S.app (R := fun H v => Rp H (triD (.tup (t.1 ++ [s'.1]), t.2.1 * s'.2.1, t.2.2 ++ s'.2.2)) v) rfl hy (line6' (by omega)) (ED.tup (ds := [.tup (t.1 ++ [s'.1]), .num (t.2.1 * s'.2.1), rowD (t.2.2 ++ s'.2.2)])
        (EDs.cons (ED.cat (ED.var rfl (f2.rp r1)) (ED.tup (EDs.cons (ED.var rfl (f2.rp q1)) EDs.nil) ln1) (line6 (by show t.1.length + 1 ≤ _; omega)))
        (EDs.cons (ED.mul (ED.var rfl (f2.rp r2)) (ED.var rfl (f2.rp q2)) (.inl ⟨by show _ < t.2.1; omega, by show t.2.1 < _; omega⟩)) (EDs.cons (ED.catR (ED.var rfl (f2.rp r3)) (ED.var rfl (f2.rp q3)) (line6 (by show t.2.2.length + s'.2.2.length ≤ _; omega))) EDs.nil))) ln3) f2.t fun v' H3 f3 r' => ?_
      have hy3 := f3.lst hy
      refine ⟨(f2.trans f3).putL hp hy3, ⟨ys ++ [v'], upd_same, ?_⟩, _, _, _, rfl⟩
      have e2 : (tupT (multM (A.take i) B ++ (B.take (j + 1)).map fun u => (t.1 ++ [u.1], t.2.1 * u.2.1, t.2.2 ++ u.2.2))).map triD = (tupT (multM (A.take i) B ++ (B.take j).map fun u => (t.1 ++ [u.1], t.2.1 * u.2.1, t.2.2 ++ u.2.2))).map triD ++ [triD (.tup (t.1 ++ [s'.1]), t.2.1 * s'.2.1, t.2.2 ++ s'.2.2)] := by
        rw [take_succ_of es, List.map_append, ← List.append_assoc]
        unfold tupT
        rw [List.map_append, List.map_append]
        rfl
      rw [e2]
      exact rpA_put hy3 ((f3.rpA ry).snoc r')
    · obtain ⟨f2, ⟨ys, hy, ry⟩, d, e, f, rfl⟩ := h
      refine ⟨f2, ⟨ys, hy, ?_⟩, _, _, _, _, _, _, rfl⟩
      rw [take_succ_of et2, mult_snoc]
      rw [List.take_of_length_le (Nat.le_refl _)] at ry
      exact ry
  · obtain ⟨f1, ⟨xs, hx, rx⟩, a, b, c, d, e, f, rfl⟩ := h
    refine ⟨_, rfl, hq _ _ f1 ⟨lr_map.mp (ld_lr.mp ⟨p, xs, rfl, hx, ?_⟩), NL.new hp⟩⟩
    have e : A.take (tupT A).length = A := List.take_of_length_le (by unfold tupT; rw [List.length_map]; exact Nat.le_refl _)
    show RpA H1 ((tupT (multM A B)).map triD) xs
    rw [e] at rx
    exact rx
/-! ### behind -/
abbrev N_behind : List Str := ["triples", "choices", "value", "count", "row"]
theorem sc_behind : FnScope N_behind ["triples", "choices"] (defScope s_behind) := ⟨rfl, rfl, rfl, by decide +kernel, rfl, by decide +kernel, by decide +kernel⟩
theorem ok_behind : FnOk P w K mg base CX0 1 g.behind.a g.behind.d ["triples", "choices"] (PmL T (fun (z : List (Tr Dt) × Row) H vs => ∃ u v, vs = [u, v] ∧ LdT z.1 H u ∧ Rp H (rowD z.2) v ∧ FT z.1 ∧ z.2.length ≤ 1000) fun z H v => LdT (behT z.2 z.1) H v) := by
  refine pm_okL g.behind.F sc_behind (fun z H vs h => by obtain ⟨u, v, rfl, _⟩ := h; rfl) fun cdv A outer s H vs Q E z hr h ht hq => ?_
  obtain ⟨A, ch⟩ := z
  obtain ⟨u, v, rfl, hA, hc, fA, hl⟩ := h
  have hl : ch.length ≤ 1000 := hl
  refine ⟨_, (pss_one (ps_ret (pe_lc (own := [("value", 2), ("count", 3), ("row", 4)]) rfl sc_behind.nd (pi_listK K rfl (pv 0)) (blkOk_by (own := [("value", 2), ("count", 3), ("row", 4)]) (N := N_behind) (sc := defScope s_behind) (by decide +kernel)) (fun _ _ _ _ _ => (pg_tupK K rfl 3 rfl (pgs_cons (pg_name (i := 2) sc_behind.nd rfl (Or.inl rfl)) (pgs_cons (pg_name (i := 3) sc_behind.nd rfl (Or.inl rfl)) (pgs_cons (pg_name (i := 4) sc_behind.nd rfl (Or.inl rfl)) pgs_nil))))) (fun _ _ _ _ _ => pts_nil) (fun _ _ _ _ _ => (pe_tup (pa_cons (pv 2) (pa_cons (pv 3) (pa_cons (pe_op (op_catK K rfl) (pv 4) (pv 1)) pa_nil)))))))), ?_⟩
  refine S.ret (EV.lcM (R := fun t H v => Rp H (triD t) v) stab_tri sep_tri (IVn.list stab_tri (EV.var rfl fun H' f => hA.fut stab_tri f)) (line6 (by have := fA.n; omega)) (fun t => (t.1, t.2.1, t.2.2 ++ ch)) fun t x H1 mt f1 y => ?_) ht fun v H2 f r => hq _ _ f r
  obtain ⟨x1, x2, x3, r1, r2, r3, hg⟩ := g3 (i := 2) (j := 3) (k := 4) y
  have ft := fA.t t mt
  refine ⟨_, fun Q q => hg H1 (TK.refl _) _ _ q, rfl, ED.nl (ED.tup (ds := [t.1, .num t.2.1, rowD (t.2.2 ++ ch)]) (EDs.cons (ED.var rfl r1) (EDs.cons (ED.var rfl r2) (EDs.cons (ED.catR (ED.var rfl r3) (ED.var rfl (f1.rp hc)) (line6 (by omega))) EDs.nil))) ln3)⟩
end
end CR

set_option Elab.async false
set_option linter.all false
set_option maxRecDepth 100000
set_option maxHeartbeats 4000000
namespace CR
open PySem PySem.Spec PyProof.Rows L2
/-! ### more readings -/
def Mono (T : Tbl) (R : Hp → V → Prop) : Prop := ∀ H1 H2 v, Fut T H1 H2 → R H1 v → R H2 v
theorem mD {T : Tbl} {d : Dt} : Mono T (fun H v => Rp H d v) := fun _ _ _ f h => f.rp h
theorem mL {T : Tbl} {L : List (Tr Dt)} : Mono T (LdT L) := fun _ _ _ f h => h.fut stab_tri f
section
variable {T : Tbl} {K : PySem.W.Frag} {σ : L2.St} {H : Hp} {D : Ends} {ta tb tc td te : TE} {R R1 R2 R3 R4 : Hp → V → Prop}
theorem EV.fst (h : EV T te σ H fun H' v => R H' v ∧ R1 H' v) : EV T te σ H R := h.imp fun _ _ _ q => q.1
theorem EA.two (ha : EV T ta σ H R1) (m1 : Mono T R1) (hb : EV T tb σ H R2) : EA T (tCons ta (tCons tb tNil)) σ H (fun H vs => ∃ u v, vs = [u, v] ∧ R1 H u ∧ R2 H v) := fun H1 f1 Q q =>
  ha H1 f1 _ fun u H2 f2 r1 => hb H2 (f1.trans f2) _ fun v H3 f3 r2 => q _ H3 (f2.trans f3) ⟨u, v, rfl, m1 _ _ _ f3 r1, r2⟩
theorem EA.three (ha : EV T ta σ H R1) (m1 : Mono T R1) (hb : EV T tb σ H R2) (m2 : Mono T R2) (hc : EV T tc σ H R3) : EA T (tCons ta (tCons tb (tCons tc tNil))) σ H (fun H vs => ∃ u v w, vs = [u, v, w] ∧ R1 H u ∧ R2 H v ∧ R3 H w) := fun H1 f1 Q q =>
  ha H1 f1 _ fun u H2 f2 r1 => hb H2 (f1.trans f2) _ fun v H3 f3 r2 => hc H3 ((f1.trans f2).trans f3) _ fun w H4 f4 r3 => q _ H4 ((f2.trans f3).trans f4) ⟨u, v, w, rfl, m1 _ _ _ (f3.trans f4) r1, m2 _ _ _ f4 r2, r3⟩
theorem EA.four (ha : EV T ta σ H R1) (m1 : Mono T R1) (hb : EV T tb σ H R2) (m2 : Mono T R2) (hc : EV T tc σ H R3) (m3 : Mono T R3) (hd : EV T td σ H R4) : EA T (tCons ta (tCons tb (tCons tc (tCons td tNil)))) σ H (fun H vs => ∃ u v w x, vs = [u, v, w, x] ∧ R1 H u ∧ R2 H v ∧ R3 H w ∧ R4 H x) := fun H1 f1 Q q =>
  ha H1 f1 _ fun u H2 f2 r1 => hb H2 (f1.trans f2) _ fun v H3 f3 r2 => hc H3 ((f1.trans f2).trans f3) _ fun w H4 f4 r3 => hd H4 (((f1.trans f2).trans f3).trans f4) _ fun x H5 f5 r4 => q _ H5 (((f2.trans f3).trans f4).trans f5) ⟨u, v, w, x, rfl, m1 _ _ _ ((f3.trans f4).trans f5) r1, m2 _ _ _ (f4.trans f5) r2, m3 _ _ _ f5 r3, r4⟩
/-- anything in a slot -/
theorem EV.any {i : Nat} {v : V} (h : σ[i]? = some (some v)) : EV T (tVar i) σ H (fun _ u => u = v) := EV.var h fun _ _ => rfl
theorem mE {v : V} : Mono T (fun _ u => u = v) := fun _ _ _ _ h => h
/-- whole numbers in a list -/
abbrev LI (ns : List Int) (H : Hp) (v : V) : Prop := LR (fun (n : Int) _ v => v = .int n) ns H v
theorem stab_int : Stab T (fun (n : Int) _ v => v = .int n) := fun _ _ _ _ _ h => h
theorem sep_int : Sep (fun (n : Int) _ v => v = .int n) := fun _ _ _ _ _ _ _ _ h => h
theorem li_ints {ns : List Int} {xs : List V} : All2 (fun (n : Int) v => v = V.int n) ns xs → xs = ns.map V.int := by
  intro h
  induction h with
  | nil => rfl
  | cons a _ ih => rw [a, ih]; rfl
theorem ED.sum {ns : List Int} (h : EV T te σ H (LI ns)) : ED T (tCB (rSum K) (tCons te tNil)) σ H (.num ns.sum) := fun H1 f1 Q q =>
  h H1 f1 _ fun v H2 f2 r => by
    obtain ⟨p, xs, rfl, h2, h3⟩ := r
    rw [li_ints h3] at h2
    exact ⟨p, ns, rfl, SqL.of h2, q _ H2 f2 rfl⟩
theorem ED.lenR {β : Type} {S : β → Hp → V → Prop} {bs : List β} (h : EV T te σ H (LR S bs)) : ED T (tCB (rLenK K) (tCons te tNil)) σ H (.num bs.length) := fun H1 f1 Q q =>
  h H1 f1 _ fun v H2 f2 r => by
    obtain ⟨p, xs, rfl, h2, h3⟩ := r
    exact ⟨p, xs, rfl, .inl (SqL.of h2), by rw [← h3.length]; exact q _ H2 f2 rfl⟩
/-- list + list -/
theorem EV.catL {β : Type} {S : β → Hp → V → Prop} {bs cs : List β} (s : Stab T S) (ha : EV T ta σ H (LR S bs)) (hb : EV T tb σ H (LR S cs)) (sp : ∀ b H p o v, H p = none → S b H v → S b (upd H p o) v) (hl : bs.length + cs.length ≤ sizeLine) : EV T (tOp rCat ta tb) σ H (fun H' v => LR S (bs ++ cs) H' v ∧ NL H v) := fun H1 f1 Q q =>
  ha H1 f1 _ fun u H2 f2 r1 => hb H2 (f1.trans f2) _ fun v H3 f3 r2 => by
    obtain ⟨p, xs, rfl, h1, h2⟩ := r1.fut s f3
    obtain ⟨q', ys, rfl, h3, h4⟩ := r2
    exact ⟨p, q', xs, ys, rfl, rfl, h1, h3, by rw [← h2.length, ← h4.length]; exact hl, fun t ht => q _ _ ((f2.trans f3).new ht _) ⟨⟨t, xs ++ ys, rfl, upd_same, all2_imp (fun b x r => sp b _ t _ x ht r) (all2_app h2 h4)⟩, (NL.new ht).back ((f1.trans f2).trans f3)⟩⟩
theorem new_tri (b : Tr Dt) (H : Hp) (p : Addr) (o : HO) (v : V) (h : H p = none) (r : Rp H (triD b) v) : Rp (upd H p o) (triD b) v := r.tk (TK.new h o)
/-- [t, ..] of triples -/
theorem EV.tris1 {t : Tr Dt} (h : ED T te σ H (triD t)) : EV T (tLst (tCons te tNil)) σ H (fun H' v => LdT [t] H' v ∧ NL H v) := fun H1 f1 Q q =>
  h H1 f1 _ fun v H2 f2 r => ⟨ln1, fun p hp => q _ _ (f2.new hp _) ⟨⟨p, [v], rfl, upd_same, .cons (new_tri t _ _ _ _ hp r) .nil⟩, (NL.new hp).back (f1.trans f2)⟩⟩
end
theorem unit_tri {T : Tbl} {σ : L2.St} {H : Hp} {t1 t2 t3 : TE} {v : List Dt} {c : Int} {r : Row} (h1 : ED T t1 σ H (.tup v)) (h2 : ED T t2 σ H (.num c)) (h3 : ED T t3 σ H (rowD r)) : EV T (tLst (tCons (tTup (tCons t1 (tCons t2 (tCons t3 tNil)))) tNil)) σ H (fun H' v' => LdT (tupT [(v, c, r)]) H' v' ∧ NL H v') :=
  EV.tris1 (t := (.tup v, c, r)) (ED.tup (EDs.cons h1 (EDs.cons h2 (EDs.cons h3 EDs.nil))) ln3)
theorem NL.int {H : Hp} {n : Int} : NL H (.int n) := fun _ _ e => by cases e
theorem NL.bl {H : Hp} {b : Bool} : NL H (.bl b) := fun _ _ e => by cases e
theorem fm_some {α β : Type} (f : α → β) (l : List α) : l.filterMap (fun a => some (f a)) = l.map f := by
  induction l with
  | nil => rfl
  | cons a l ih => rw [List.filterMap_cons, List.map_cons, ih]
/-- the turns of a list's table -/
def itT (B : List (Tr Dt)) (A : List (Tr (List Dt))) : Nat → List (Tr (List Dt))
  | 0 => A
  | j + 1 => multM (behT [1] (itT B A j)) B
def accT (B : List (Tr Dt)) (A : List (Tr (List Dt))) : Nat → List (Tr (List Dt))
  | 0 => []
  | j + 1 => accT B A j ++ behT [0] (itT B A j)
theorem itT_shift (B : List (Tr Dt)) (A : List (Tr (List Dt))) : ∀ j, itT B (multM (behT [1] A) B) j = itT B A (j + 1)
  | 0 => rfl
  | j + 1 => by
    show multM (behT [1] (itT B (multM (behT [1] A) B) j)) B = multM (behT [1] (itT B A (j + 1))) B
    rw [itT_shift B A j]
theorem accT_shift (B : List (Tr Dt)) (A : List (Tr (List Dt))) : ∀ j, behT [0] A ++ accT B (multM (behT [1] A) B) j = accT B A (j + 1)
  | 0 => by simp [accT, itT]
  | j + 1 => by
    show behT [0] A ++ (accT B (multM (behT [1] A) B) j ++ behT [0] (itT B (multM (behT [1] A) B) j)) = accT B A (j + 1) ++ behT [0] (itT B A (j + 1))
    rw [← List.append_assoc, accT_shift B A j, itT_shift]
theorem accT_le (B : List (Tr Dt)) (A : List (Tr (List Dt))) {i j : Nat} (h : i ≤ j) : (accT B A i).length ≤ (accT B A j).length := by
  induction h with
  | refl => exact Nat.le_refl _
  | step _ ih => exact Nat.le_trans ih (by show _ ≤ (accT B A _ ++ _).length; rw [List.length_append]; omega)
theorem loopT_eq (B : List (Tr Dt)) : ∀ (n : Nat) (A : List (Tr (List Dt))), loopT B n A = accT B A n ++ itT B A n
  | 0, A => rfl
  | n + 1, A => by
    show behT [0] A ++ loopT B n (multM (behT [1] A) B) = _
    rw [loopT_eq B n, ← List.append_assoc, accT_shift, itT_shift]
theorem beh_tup (ch : Row) (A : List (Tr (List Dt))) : behT ch (tupT A) = tupT (behT ch A) := by
  unfold behT tupT
  rw [List.map_map, List.map_map]
  rfl
theorem tupT_app (A B : List (Tr (List Dt))) : tupT (A ++ B) = tupT A ++ tupT B := List.map_append
theorem FT.tup {A : List (Tr (List Dt))} (h : FT A) : FT (tupT A) := ⟨by unfold tupT; rw [List.length_map]; exact h.n, fun t ht => by
  obtain ⟨a, ha, rfl⟩ := List.mem_map.mp ht
  exact h.t a ha⟩
section
variable {P : Program} {w : World} {K : PySem.W.Frag} {mg : Str → Option Value} {base : Heap} {T : Tbl} (g : G K mg base T)
/-- what a list's table asks -/
structure PreL (B : List (Tr Dt)) (l m : Nat) : Prop where
  lm : l ≤ m
  m6 : m ≤ 6
  fB : FT B
  sum : ((List.range (m + 1 - l)).map fun i => ((B.length ^ (l + i) : Nat) : Int)).sum ≤ 2000
  n : B.length ≤ 2000
  pw : ∀ k, k ≤ l → FT (tpowM B [([], 1, [])] k) ∧ FL (tpowM B [([], 1, [])] k)
  it : ∀ j, j ≤ m - l → FT (itT B (tpowM B [([], 1, [])] l) j) ∧ FL (itT B (tpowM B [([], 1, [])] l) j)
  it1 : ∀ j, j < m - l → FT (behT [1] (itT B (tpowM B [([], 1, [])] l) j))
  acc : (accT B (tpowM B [([], 1, [])] l) (m - l) ++ itT B (tpowM B [([], 1, [])] l) (m - l)).length ≤ 100000
  mulP : ∀ k, k < l → (tpowM B [([], 1, [])] k).length * B.length ≤ 1000000
  mulI : ∀ j, j < m - l → (itT B (tpowM B [([], 1, [])] l) j).length * B.length ≤ 1000000
abbrev N_table_of_list : List Str := ["part", "least", "most", "path", "made", "_", "found", "many"]
theorem sc_table_of_list : FnScope N_table_of_list ["part", "least", "most", "path"] (defScope s_table_of_list) := ⟨rfl, rfl, rfl, by decide +kernel, rfl, by decide +kernel, by decide +kernel⟩
theorem ok_table_of_list : FnOk P w K mg base CX0 2 g.table_of_list.a g.table_of_list.d ["part", "least", "most", "path"] (PmL T (fun (z : List (Tr Dt) × Nat × Nat) H vs => ∃ u v, vs = [u, .int z.2.1, .int z.2.2, v] ∧ LdT z.1 H u ∧ PreL z.1 z.2.1 z.2.2) fun z H v => LdT (tupT (loopT z.1 (z.2.2 - z.2.1) (tpowM z.1 [([], 1, [])] z.2.1))) H v) := by
  have OK_check_many := ok_check_many (P := P) (w := w) g
  have OK_power := ok_power (P := P) (w := w) g
  have OK_multiplied := ok_multiplied (P := P) (w := w) g
  have OK_behind := ok_behind (P := P) (w := w) g
  refine pm_okL g.table_of_list.F sc_table_of_list (fun z H vs h => by obtain ⟨u, v, rfl, _⟩ := h; rfl) fun cdv A outer s H vs Q E z hr h ht hq => ?_
  obtain ⟨B, l, m⟩ := z
  obtain ⟨u, v, rfl, hB, pr⟩ := h
  refine ⟨_, (pss_cons (ps_expr (pe_call OK_check_many (hr.mono (by omega)) rfl g.check_many.m g.check_many.F.kp (b_check_many g.check_many) .nil pass0 (pa_cons (pe_callB (cr_sumK K rfl rfl) rfl g.n_sum (by decide +kernel) (pa_cons (pe_lc (own := [("many", 7)]) rfl sc_table_of_list.nd (pi_range2 rfl g.n_range (pa_cons (pv 1) (pa_cons (pe_op op_add (pv 2) pe_int) pa_nil))) (blkOk_by (own := [("many", 7)]) (N := N_table_of_list) (sc := defScope s_table_of_list) (by decide +kernel)) (fun _ _ _ _ _ => (pg_name (i := 7) sc_table_of_list.nd rfl (Or.inl rfl))) (fun _ _ _ _ _ => pts_nil) (fun _ _ _ _ _ => (pe_call OK_power (hr.mono (by omega)) rfl g.power.m g.power.F.kp (b_power g.power) .nil pass0 (pa_cons (pe_callB (cr_lenK K rfl) rfl g.n_len boot_len (pa_cons (pv 0) pa_nil)) (pa_cons (pv 7) pa_nil))))) pa_nil)) (pa_cons (pv 3) pa_nil)))) (pss_cons (ps_set (i := 4) sc_table_of_list.nd rfl (Or.inl rfl) (pe_lst (pa_cons (pe_tup (pa_cons (pe_tup pa_nil) (pa_cons pe_int (pa_cons (pe_tup pa_nil) pa_nil)))) pa_nil))) (pss_cons (ps_for PassesOwn.never rfl (pi_range1 rfl g.n_range (pa_cons (pv 1) pa_nil)) (pg_name (i := 5) sc_table_of_list.nd rfl (Or.inl rfl)) (pss_one (ps_set (i := 4) sc_table_of_list.nd rfl (Or.inl rfl) (pe_call OK_multiplied (hr.mono (by omega)) rfl g.multiplied.m g.multiplied.F.kp (b_multiplied g.multiplied) .nil pass0 (pa_cons (pv 4) (pa_cons (pv 0) pa_nil)))))) (pss_cons (ps_set (i := 6) sc_table_of_list.nd rfl (Or.inl rfl) (pe_lst pa_nil)) (pss_cons (ps_for PassesOwn.never rfl (pi_range2 rfl g.n_range (pa_cons (pv 1) (pa_cons (pv 2) pa_nil))) (pg_name (i := 7) sc_table_of_list.nd rfl (Or.inl rfl)) (pss_cons (ps_expr (pe_bm PySem.F.plainAttrs_list PySem.F.slot_list_extend PySem.F.type_list_extend mt_extend (pv 6) (pa_cons (pe_call OK_behind (hr.mono (by omega)) rfl g.behind.m g.behind.F.kp (b_behind g.behind) .nil pass0 (pa_cons (pv 4) (pa_cons (pe_tup (pa_cons pe_int pa_nil)) pa_nil))) pa_nil))) (pss_one (ps_set (i := 4) sc_table_of_list.nd rfl (Or.inl rfl) (pe_call OK_multiplied (hr.mono (by omega)) rfl g.multiplied.m g.multiplied.F.kp (b_multiplied g.multiplied) .nil pass0 (pa_cons (pe_call OK_behind (hr.mono (by omega)) rfl g.behind.m g.behind.F.kp (b_behind g.behind) .nil pass0 (pa_cons (pv 4) (pa_cons (pe_tup (pa_cons pe_int pa_nil)) pa_nil))) (pa_cons (pv 0) pa_nil))))))) (pss_one (ps_ret (pe_op op_cat (pv 6) (pv 4))))))))), ?_⟩
  -- check_many(sum([power(len(part), many) for many in range(least, most + 1)]), path)
  have pr : PreL B l m := pr
  have hB : LdT B H u := hB
  have hlm := pr.lm
  have hm6 := pr.m6
  have hB0 := pr.fB.n
  refine Sq.drop (EV.fn (z := ((List.range (m + 1 - l)).map fun i => ((B.length ^ (l + i) : Nat) : Int)).sum) (EA.imp (EA.two (ED.sum (EV.fst (EV.imp (EV.lc (n := m + 1 - l) (R := fun (n : Int) _ v => v = .int n) stab_int sep_int (cast (by rw [show ((m : Int) + 1 - (l : Int)).toNat = m + 1 - l by omega]) (IVn.rng2 (T := T) (l := (l : Int)) (m := (m : Int) + 1) (H := H) (ED.var rfl rfl) (ED.add (ED.var rfl rfl) (ED.int 1)) (by omega) (by omega) (by omega) (by omega))) (line6 (by omega)) (fun i => some ((B.length ^ (l + i) : Nat) : Int)) fun i x H1 hi f1 y => ?_) fun H' v f r => ⟨by have r1 := r.1; rw [fm_some] at r1; exact r1, r.2⟩))) mD (EV.any rfl)) fun H' vs f r => ?_)) ht fun _ H1 f1 _ => ?_
  · subst y
    refine ⟨_, fun Q q => q, rfl, fun c hc => ⟨ET.yes, ?_⟩, fun hc => by cases hc⟩
    cases hc
    refine EV.imp (EV.fn (z := (B.length, l + i)) (EA.imp (EA.two (ED.lenR (EV.var rfl fun H' f => (hB.fut stab_tri f1).fut stab_tri f)) mD (ED.var (d := .num ((l : Int) + i)) rfl rfl)) fun H' vs f r => ?_)) fun H' v f r => ⟨r, by rw [show v = _ from r]; exact NL.int⟩
    obtain ⟨u', v', rfl, r1, r2⟩ := r
    refine ⟨by rw [show u' = _ from r1, show v' = _ from r2]; rfl, by show B.length ≤ _; have := pr.n; omega, by show l + i ≤ 10; omega⟩
  · obtain ⟨u', v', rfl, r1, r2⟩ := r
    exact ⟨pr.sum, v', by rw [show u' = _ from r1]⟩
  -- made = [((), 1, ())]
  refine Sq.set (EV.fst (unit_tri (v := []) (c := 1) (r := []) (ED.tup EDs.nil (Nat.zero_le _)) (ED.int 1) (ED.tup (ds := []) EDs.nil (Nat.zero_le _)))) f1.t fun mv H2 f2 hm => ?_
  have f2' := f1.trans f2
  -- for _ in range(least): made = multiplied(made, part)
  refine Sq.for (B := H) (IV.rng1 (m := l) (fun Q q => ⟨_, rfl, q⟩) (by omega)) (fun i σ H' => Fut T H H' ∧ ∃ mv x, σ = [some u, some (.int l), some (.int m), some v, some mv, x, none, none] ∧ LdT (tupT (tpowM B [([], 1, [])] i)) H' mv) ⟨f2', mv, none, rfl, hm⟩ (fun i σ H' h => h.1) (fun i x σ H3 hi h y => ?_) fun σ H3 h => ?_
  · obtain ⟨f3, mv, x', rfl, hm⟩ := h
    refine S.set (EV.fst (EV.fnL (z := (tpowM B [([], 1, [])] i, B)) (EA.imp (EA.two (EV.var rfl fun H' f => hm.fut stab_tri f) mL (EV.var rfl fun H' f => (hB.fut stab_tri f3).fut stab_tri f)) fun H' vs f r => ?_))) f3.t fun mv' H4 f4 r => ⟨f3.trans f4, mv', some x, rfl, r⟩
    obtain ⟨a, b, rfl, r1, r2⟩ := r
    exact ⟨a, b, rfl, r1, r2, (pr.pw i (by omega)).1, (pr.pw i (by omega)).2, pr.fB, pr.mulP i hi⟩
  obtain ⟨f3, mv, x', rfl, hm⟩ := h
  -- found = []
  refine Sq.newl fun p hp => ?_
  have f4 := Fut.newR f3.t hp (.lst [])
  have nmv : mv ≠ .ref p := by
    obtain ⟨q, xs, rfl, h2, _⟩ := hm
    intro e
    cases e
    rw [hp] at h2
    cases h2
  -- for many in range(least, most): ..
  refine Sq.for (B := H3) (IV.rng2 (l := l) (m := m) (fun Q q => ⟨_, rfl, q⟩) (fun Q q => ⟨_, rfl, q⟩) (by omega) (by omega) (by omega) (by omega)) (fun j σ H' => Fut T H3 H' ∧ ∃ mv x xs, σ = [some u, some (.int l), some (.int m), some v, some mv, x', some (.ref p), x] ∧ LdT (tupT (itT B (tpowM B [([], 1, [])] l) j)) H' mv ∧ mv ≠ .ref p ∧ H' p = some (.lst xs) ∧ All2 (fun t x => Rp H' (triD t) x) (tupT (accT B (tpowM B [([], 1, [])] l) j)) xs) ⟨f4, mv, none, [], rfl, hm.fut stab_tri f4, nmv, upd_same, .nil⟩ (fun i σ H' h => h.1) (fun j x σ H5 hj h y => ?_) fun σ H5 h => ?_
  · obtain ⟨f5, mv, x0, xs, rfl, hm, nm, hx, ax⟩ := h
    have f35 : Fut T H H5 := f3.trans f5
    have hj' : j < m - l := by omega
    -- found.extend(behind(made, (0,)))
    have itj := pr.it j (by omega)
    have hml := ax.length
    have hlen : xs.length + (behT [0] (tupT (itT B (tpowM B [([], 1, [])] l) j))).length ≤ sizeLine := by
      have h1 := accT_le B (tpowM B [([], 1, [])] l) (show j + 1 ≤ m - l from hj')
      have h2 : (accT B (tpowM B [([], 1, [])] l) (j + 1)).length = (accT B (tpowM B [([], 1, [])] l) j).length + (behT [0] (itT B (tpowM B [([], 1, [])] l) j)).length := List.length_append
      have h3 := pr.acc
      rw [List.length_append] at h3
      rw [beh_tup]
      unfold tupT at hml ⊢
      rw [List.length_map] at hml ⊢
      exact line6 (by omega)
    refine S.seq (S.ext (R := fun t H v => Rp H (triD t) v) (bs := behT [0] (tupT (itT B (tpowM B [([], 1, [])] l) j))) rfl hx hlen (EV.fst (EV.fnL (z := (tupT (itT B (tpowM B [([], 1, [])] l) j), [0])) (EA.imp (EA.two (EV.var rfl fun H' f => hm.fut stab_tri f) mL (ED.tup (ds := [.num 0]) (EDs.cons (ED.int 0) EDs.nil) ln1)) fun H' vs f r => ?_))) f5.t fun zs H6 f6 az => ?_)
    · obtain ⟨a, b, rfl, r1, r2⟩ := r
      exact ⟨a, b, rfl, r1, r2, itj.1.tup, by show 1 ≤ 1000; decide⟩
    have hx6 := f6.lst hx
    have f7 : Fut T H3 (upd H6 p (.lst (xs ++ zs))) := (f5.trans f6).putL hp hx6
    have hm7 : LdT (tupT (itT B (tpowM B [([], 1, [])] l) j)) (upd H6 p (.lst (xs ++ zs))) mv := sep_lr triD (fun _ _ _ => Iff.rfl) _ _ _ _ _ _ hx6 nm (hm.fut stab_tri f6)
    -- made = multiplied(behind(made, (1,)), part)
    have itj1 := pr.it (j + 1) (by omega)
    refine S.set (EV.fnL (z := (behT [1] (itT B (tpowM B [([], 1, [])] l) j), B)) (EA.imp (EA.two (EV.fst (EV.fnL (z := (tupT (itT B (tpowM B [([], 1, [])] l) j), [1])) (EA.imp (EA.two (EV.var rfl fun H' f => hm7.fut stab_tri f) mL (ED.tup (ds := [.num 1]) (EDs.cons (ED.int 1) EDs.nil) ln1)) fun H' vs f r => ?_))) mL (EV.var rfl fun H' f => ((hB.fut stab_tri f3).fut stab_tri f7).fut stab_tri f)) fun H' vs f r => ?_)) f7.t fun mv' H8 f8 r => ⟨f7.trans f8, mv', some x, xs ++ zs, rfl, r.1, r.2.ne upd_same, f8.lst upd_same, ?_⟩
    · obtain ⟨a, b, rfl, r1, r2⟩ := r
      exact ⟨a, b, rfl, r1, r2, itj.1.tup, by show 1 ≤ 1000; decide⟩
    · obtain ⟨a, b, rfl, r1, r2⟩ := r
      refine ⟨a, b, rfl, by rw [← beh_tup]; exact r1, r2, pr.it1 j hj', fun t ht => ?_, pr.fB, ?_⟩
      · obtain ⟨t', ht', rfl⟩ := List.mem_map.mp ht
        exact itj.2 t' ht'
      · show (behT [1] _).length * _ ≤ _
        unfold behT
        rw [List.length_map]
        exact pr.mulI j hj'
    · have e : tupT (accT B (tpowM B [([], 1, [])] l) (j + 1)) = tupT (accT B (tpowM B [([], 1, [])] l) j) ++ behT [0] (tupT (itT B (tpowM B [([], 1, [])] l) j)) := by
        rw [beh_tup, ← tupT_app]
        rfl
      rw [e]
      exact all2_app (all2_imp (fun t x q => ((f6.rp q).tk (tk_lst hx6)).tk f8.tk) ax) (all2_imp (fun t x q => (q.tk (tk_lst hx6)).tk f8.tk) az)
  · obtain ⟨f5, mv, x0, xs, rfl, hm, nm, hx, ax⟩ := h
    have e : ((m : Int) - (l : Int)).toNat = m - l := by omega
    rw [e] at hm ax
    have hl := pr.acc
    refine S.ret (EV.catL (S := fun t H v => Rp H (triD t) v) stab_tri (EV.var rfl fun H' f => LR.fut stab_tri f ⟨p, xs, rfl, hx, ax⟩) (EV.var rfl fun H' f => hm.fut stab_tri f) (fun b H p o v h r => new_tri b H p o v h r) ?_) f5.t fun v' H6 f6 r => hq _ _ ((f3.trans f5).trans f6) ⟨?_, (r.2.back (f3.trans f5))⟩
    · rw [List.length_append] at hl
      unfold tupT
      rw [List.length_map, List.length_map]
      exact line6 (by omega)
    · show LdT (tupT (loopT B (m - l) (tpowM B [([], 1, [])] l))) H6 v'
      rw [loopT_eq, tupT_app]
      exact r.1
end
end CR

set_option Elab.async false
set_option linter.all false
set_option maxRecDepth 100000
set_option maxHeartbeats 4000000
namespace CR
open PySem PySem.Spec PyProof.Rows L2
theorem EV.nilL {T : Tbl} {σ : L2.St} {H : Hp} {β : Type} {S : β → Hp → V → Prop} : EV T (tLst tNil) σ H (fun H' v => LR S [] H' v ∧ NL H v) := fun H1 f1 Q q => ⟨Nat.zero_le _, fun p hp => q _ _ ((fr f1).new hp _) ⟨⟨p, [], rfl, upd_same, .nil⟩, (NL.new hp).back f1⟩⟩
def prodL (Ts : List (List (Tr Dt))) : Nat := Ts.foldl (fun n T => n * T.length) 1
theorem stab_ldt {T : Tbl} : Stab T (fun (L : List (Tr Dt)) H v => LdT L H v) := fun b H H1 v f h => h.fut stab_tri f
structure PreT (Ts : List (List (Tr Dt))) : Prop where
  n : Ts.length ≤ 1000
  fT : ∀ B ∈ Ts, FT B
  pr : (∀ B ∈ Ts, B ≠ []) → ∀ i, prodL (Ts.take i) ≤ 2000
  jn : (∀ B ∈ Ts, B ≠ []) → ∀ i, FT (joinT (Ts.take i)) ∧ FL (joinT (Ts.take i))
  mu : (∀ B ∈ Ts, B ≠ []) → ∀ (i : Nat) B, Ts[i]? = some B → (joinT (Ts.take i)).length * B.length ≤ 1000000
structure PreR (F B : List (Tr Dt)) : Prop where
  fF : FT F
  num : ∀ t ∈ F, ∃ n, t.1 = .num n
  fB : FT B
  n : B.length ≤ 2000
  sum : ((F.filter fun t => fit6 t.1).map fun t => ((B.length ^ (numD t.1).toNat : Nat) : Int)).sum ≤ 2000
  pw : ∀ t ∈ F, fit6 t.1 = true → ∀ k, k ≤ (numD t.1).toNat → FT (tpowM B [([], t.2.1, t.2.2)] k) ∧ FL (tpowM B [([], t.2.1, t.2.2)] k)
  mu : ∀ t ∈ F, fit6 t.1 = true → ∀ k, k < (numD t.1).toNat → (tpowM B [([], t.2.1, t.2.2)] k).length * B.length ≤ 1000000
  all : (repT F B).length ≤ 100000
def blkT (B : List (Tr Dt)) (t : Tr Dt) : List (Tr Dt) := tupT (tpowM B [([], t.2.1, t.2.2)] (numD t.1).toNat)
theorem fm_filter {α : Type} (p : α → Bool) (l : List α) : l.filterMap (fun t => if p t = true then some t else none) = l.filter p := by
  induction l with
  | nil => rfl
  | cons t F ih =>
    rw [List.filterMap_cons, List.filter_cons, ih]
    by_cases z : p t = true
    · rw [if_pos z, if_pos z]
    · rw [if_neg z, if_neg z]
theorem repT_eq (F B : List (Tr Dt)) : repT F B = (F.filter fun t => fit6 t.1).flatMap (blkT B) := by
  unfold repT
  induction F with
  | nil => rfl
  | cons t F ih =>
    rw [List.flatMap_cons, ih, List.filter_cons]
    by_cases h : fit6 t.1 = true
    · rw [if_pos h, if_pos h, List.flatMap_cons]
      congr 1
      unfold blkT tupT
      rw [tpow_first B t.2.1 t.2.2, List.map_map, List.map_map]
      rfl
    · rw [if_neg h, if_neg h]
      rfl
section
variable {P : Program} {w : World} {K : PySem.W.Frag} {mg : Str → Option Value} {base : Heap} {T : Tbl} (g : G K mg base T)
abbrev N_table_of_tuple : List Str := ["tables", "path", "many", "part", "made"]
theorem sc_table_of_tuple : FnScope N_table_of_tuple ["tables", "path"] (defScope s_table_of_tuple) := ⟨rfl, rfl, rfl, by decide +kernel, rfl, by decide +kernel, by decide +kernel⟩
theorem ok_table_of_tuple : FnOk P w K mg base CX0 3 g.table_of_tuple.a g.table_of_tuple.d ["tables", "path"] (PmL T (fun (z : List (List (Tr Dt))) H vs => ∃ u v, vs = [u, v] ∧ LR (fun L H v => LdT L H v) z H u ∧ PreT z) fun z H v => LdT (tupT (joinT z)) H v) := by
  have OK_check_many := ok_check_many (P := P) (w := w) g
  have OK_multiplied := ok_multiplied (P := P) (w := w) g
  refine pm_okCL g.c_table_of_tuple sc_table_of_tuple (fun z H vs h => by obtain ⟨u, v, rfl, _⟩ := h; rfl) fun cd P' A outer s H vs Q E z TB hmT hu hr h ht hq => ?_
  obtain ⟨u, v, rfl, hu', pr⟩ := h
  refine ⟨_, (pss_cons (ps_if (pt_val (pe_anyQ (k := 1) (("table_of_tuple" : Str) ++ (".<locals>." : Str)) rfl (hr.mono (by omega)) rfl g.n_any TB rfl hmT hu (gsc_by (i := 3) (N := N_table_of_tuple) (sc := defScope s_table_of_tuple) (by decide +kernel)) sc_table_of_tuple.nd (pi_listK K rfl (pv 0)) (fun _ _ _ _ _ _ hrG => (pe_cmpR op_eq (pe_callB (cr_lenK K rfl) rfl g.n_len boot_len (pa_cons (pv 3) pa_nil)) pe_int (nomark _))) (fun _ => rfl))) (pss_one (ps_ret (pe_lst pa_nil))) pss_nil) (pss_cons (ps_set (i := 2) sc_table_of_tuple.nd rfl (Or.inl rfl) pe_int) (pss_cons (ps_for PassesOwn.never rfl (pi_listK K rfl (pv 0)) (pg_name (i := 3) sc_table_of_tuple.nd rfl (Or.inl rfl)) (pss_cons (ps_set (i := 2) sc_table_of_tuple.nd rfl (Or.inl rfl) (pe_op op_mul (pv 2) (pe_callB (cr_lenK K rfl) rfl g.n_len boot_len (pa_cons (pv 3) pa_nil)))) (pss_one (ps_expr (pe_call OK_check_many (hr.mono (by omega)) rfl g.check_many.m g.check_many.F.kp (b_check_many g.check_many) .nil pass0 (pa_cons (pv 2) (pa_cons (pv 1) pa_nil))))))) (pss_cons (ps_set (i := 4) sc_table_of_tuple.nd rfl (Or.inl rfl) (pe_lst (pa_cons (pe_tup (pa_cons (pe_tup pa_nil) (pa_cons pe_int (pa_cons (pe_tup pa_nil) pa_nil)))) pa_nil))) (pss_cons (ps_for PassesOwn.never rfl (pi_listK K rfl (pv 0)) (pg_name (i := 3) sc_table_of_tuple.nd rfl (Or.inl rfl)) (pss_one (ps_set (i := 4) sc_table_of_tuple.nd rfl (Or.inl rfl) (pe_call OK_multiplied (hr.mono (by omega)) rfl g.multiplied.m g.multiplied.F.kp (b_multiplied g.multiplied) .nil pass0 (pa_cons (pv 4) (pa_cons (pv 3) pa_nil)))))) (pss_one (ps_ret (pv 4)))))))), ?_⟩
  refine Sq.if (ET.ofB (EB.genL (go := false) (IVn.list stab_ldt (EV.var rfl fun H' f => hu'.fut stab_ldt f)) (fun B => decide ((B.length : Int) = 0)) fun B x H1 hB f1 y => EB.eqI (ED.lenR (EV.var rfl fun H' f => y.fut stab_tri f)) (ED.int 0))) ht (fun he H1 f1 => ?_) fun he H1 f1 => ?_
  · refine S.ret (EV.nilL (S := fun t H v => Rp H (triD t) v)) f1.t fun v' H2 f2 r => hq _ _ (f1.trans f2) ⟨?_, r.2.back f1⟩
    rw [if_neg Bool.false_ne_true, List.any_eq_true] at he
    obtain ⟨B, hB, he⟩ := he
    have : B = [] := List.eq_nil_of_length_eq_zero (by have := of_decide_eq_true he; omega)
    rw [this] at hB
    rw [joinT_empty hB]
    exact r.1
  · have hne : ∀ B ∈ z, B ≠ [] := fun B hB e => by
      rw [if_neg Bool.false_ne_true, List.any_eq_false] at he
      exact he B hB (by rw [e]; rfl)
    refine Sq.set (ED.int 1) f1.t fun v1 H2 f2 r => ?_
    cases r
    have f12 := f1.trans f2
    refine Sq.for (B := H) (IV.list rfl hu' f12) (fun i σ H' => Fut T H H' ∧ ∃ x, σ = [some u, some v, some (.int (prodL (z.take i) : Nat)), x, none]) ⟨f12, none, rfl⟩ (fun i σ H' h => h.1) (fun i x σ H3 hi h y => ?_) fun σ H3 h => ?_
    · obtain ⟨f3, x', rfl⟩ := h
      obtain ⟨B, hB, y⟩ := y
      have fB := pr.fT B (List.mem_of_getElem? hB)
      have hp := pr.pr hne i
      have hp1 := pr.pr hne (i + 1)
      have e : prodL (z.take (i + 1)) = prodL (z.take i) * B.length := by
        unfold prodL
        rw [take_succ_of hB, List.foldl_append]
        rfl
      refine S.seq (S.set (ED.mul (i := (prodL (z.take i) : Nat)) (j := B.length) (ED.var rfl rfl) (ED.lenR (EV.var rfl fun H' f => (y.fut stab_tri f3).fut stab_tri f)) (.inl ⟨by omega, by omega⟩)) f3.t fun v4 H4 f4 r => ?_)
      cases r
      refine S.drop (EV.fn (z := (prodL (z.take (i + 1)) : Int)) (EA.imp (EA.two (R1 := fun _ v => v = .int (prodL (z.take (i + 1)) : Nat)) (EV.var rfl fun _ _ => ?_) mE (EV.any rfl)) fun H' vs f r => ?_)) f4.t fun v5 H5 f5 _ => ⟨(f3.trans f4).trans f5, some x, ?_⟩
      · rw [e, Int.natCast_mul]
      · obtain ⟨a, b, rfl, r1, r2⟩ := r
        exact ⟨by omega, b, by rw [r1]⟩
      · rw [e, Int.natCast_mul]
        rfl
    · obtain ⟨f3, x', rfl⟩ := h
      refine Sq.set (unit_tri (v := []) (c := 1) (r := []) (ED.tup EDs.nil (Nat.zero_le _)) (ED.int 1) (ED.tup (ds := []) EDs.nil (Nat.zero_le _))) f3.t fun mv H4 f4 hm => ?_
      have f34 := f3.trans f4
      refine Sq.for (B := H) (IV.list rfl hu' f34) (fun i σ H' => Fut T H H' ∧ ∃ mv b x, σ = [some u, some v, b, x, some mv] ∧ LdT (tupT (joinT (z.take i))) H' mv ∧ NL H mv) ⟨f34, mv, _, x', rfl, hm.1, hm.2.back f3⟩ (fun i σ H' h => h.1) (fun i x σ H5 hi h y => ?_) fun σ H5 h => ?_
      · obtain ⟨f5, mv, b, x', rfl, hm, nm⟩ := h
        obtain ⟨B, hB, y⟩ := y
        have e : joinT (z.take (i + 1)) = multM (joinT (z.take i)) B := by
          unfold joinT
          rw [take_succ_of hB, List.foldl_append]
          rfl
        refine S.set (EV.fnL (z := (joinT (z.take i), B)) (EA.imp (EA.two (EV.var rfl fun H' f => hm.fut stab_tri f) mL (EV.var rfl fun H' f => (y.fut stab_tri f5).fut stab_tri f)) fun H' vs f r => ?_)) f5.t fun mv' H6 f6 r => ⟨f5.trans f6, mv', b, some x, rfl, by rw [e]; exact r.1, r.2.back f5⟩
        obtain ⟨a, b, rfl, r1, r2⟩ := r
        have := pr.jn hne i
        exact ⟨a, b, rfl, r1, r2, this.1, this.2, pr.fT B (List.mem_of_getElem? hB), pr.mu hne i B hB⟩
      · obtain ⟨f5, mv, b, x', rfl, hm, nm⟩ := h
        rw [List.take_of_length_le (Nat.le_refl _)] at hm
        exact ⟨_, rfl, hq _ _ f5 ⟨hm, nm⟩⟩
abbrev N_table_of_repeat : List Str := ["first", "other", "path", "counts", "found", "value", "count", "row", "made", "_", "triple"]
theorem sc_table_of_repeat : FnScope N_table_of_repeat ["first", "other", "path"] (defScope s_table_of_repeat) := ⟨rfl, rfl, rfl, by decide +kernel, rfl, by decide +kernel, by decide +kernel⟩
theorem ok_table_of_repeat : FnOk P w K mg base CX0 2 g.table_of_repeat.a g.table_of_repeat.d ["first", "other", "path"] (PmL T (fun (z : List (Tr Dt) × List (Tr Dt)) H vs => ∃ u u' v, vs = [u, u', v] ∧ LdT z.1 H u ∧ LdT z.2 H u' ∧ PreR z.1 z.2) fun z H v => LdT (repT z.1 z.2) H v) := by
  have OK_check_many := ok_check_many (P := P) (w := w) g
  have OK_multiplied := ok_multiplied (P := P) (w := w) g
  have OK_power := ok_power (P := P) (w := w) g
  refine pm_okL g.table_of_repeat.F sc_table_of_repeat (fun z H vs h => by obtain ⟨u, u', v, rfl, _⟩ := h; rfl) fun cdv A outer s H vs Q E z hr h ht hq => ?_
  obtain ⟨F, B⟩ := z
  obtain ⟨u, u', v, rfl, hF, hB, pr⟩ := h
  have pr : PreR F B := pr
  have hF : LdT F H u := hF
  have hB : LdT B H u' := hB
  refine ⟨_, (pss_cons (ps_setLc (own := [("triple", 10)]) (i := 3) rfl sc_table_of_repeat.nd rfl rfl (by first | exact sw_true rfl rfl rfl (by decide +kernel) | rfl) (pi_listK K rfl (pv 0)) (blkOk_by (own := [("triple", 10)]) (N := N_table_of_repeat) (sc := defScope s_table_of_repeat) (by decide +kernel)) (fun _ _ _ _ _ => (pg_name (i := 10) sc_table_of_repeat.nd rfl (Or.inl rfl))) (fun _ _ _ _ _ => (pts_one (pt_chain op_le op_le pe_int (pe_ix (ix_tupK K rfl) (pv 10) pe_int (fun _ _ => rfl)) (pe_ig rfl g.i_LONG)))) (fun _ _ _ _ _ => (pv 10))) (pss_cons (ps_expr (pe_call OK_check_many (hr.mono (by omega)) rfl g.check_many.m g.check_many.F.kp (b_check_many g.check_many) .nil pass0 (pa_cons (pe_callB (cr_sumK K rfl rfl) rfl g.n_sum (by decide +kernel) (pa_cons (pe_lc (own := [("value", 5), ("count", 6), ("row", 7)]) rfl sc_table_of_repeat.nd (pi_listK K rfl (pv 3)) (blkOk_by (own := [("value", 5), ("count", 6), ("row", 7)]) (N := N_table_of_repeat) (sc := defScope s_table_of_repeat) (by decide +kernel)) (fun _ _ _ _ _ => (pg_tupK K rfl 3 rfl (pgs_cons (pg_name (i := 5) sc_table_of_repeat.nd rfl (Or.inl rfl)) (pgs_cons (pg_name (i := 6) sc_table_of_repeat.nd rfl (Or.inl rfl)) (pgs_cons (pg_name (i := 7) sc_table_of_repeat.nd rfl (Or.inl rfl)) pgs_nil))))) (fun _ _ _ _ _ => pts_nil) (fun _ _ _ _ _ => (pe_call OK_power (hr.mono (by omega)) rfl g.power.m g.power.F.kp (b_power g.power) .nil pass0 (pa_cons (pe_callB (cr_lenK K rfl) rfl g.n_len boot_len (pa_cons (pv 1) pa_nil)) (pa_cons (pv 5) pa_nil))))) pa_nil)) (pa_cons (pv 2) pa_nil)))) (pss_cons (ps_set (i := 4) sc_table_of_repeat.nd rfl (Or.inl rfl) (pe_lst pa_nil)) (pss_cons (ps_for PassesOwn.never rfl (pi_listK K rfl (pv 3)) (pg_tupK K rfl 3 rfl (pgs_cons (pg_name (i := 5) sc_table_of_repeat.nd rfl (Or.inl rfl)) (pgs_cons (pg_name (i := 6) sc_table_of_repeat.nd rfl (Or.inl rfl)) (pgs_cons (pg_name (i := 7) sc_table_of_repeat.nd rfl (Or.inl rfl)) pgs_nil)))) (pss_cons (ps_set (i := 8) sc_table_of_repeat.nd rfl (Or.inl rfl) (pe_lst (pa_cons (pe_tup (pa_cons (pe_tup pa_nil) (pa_cons (pv 6) (pa_cons (pv 7) pa_nil)))) pa_nil))) (pss_cons (ps_for PassesOwn.never rfl (pi_range1 rfl g.n_range (pa_cons (pv 5) pa_nil)) (pg_name (i := 9) sc_table_of_repeat.nd rfl (Or.inl rfl)) (pss_one (ps_set (i := 8) sc_table_of_repeat.nd rfl (Or.inl rfl) (pe_call OK_multiplied (hr.mono (by omega)) rfl g.multiplied.m g.multiplied.F.kp (b_multiplied g.multiplied) .nil pass0 (pa_cons (pv 8) (pa_cons (pv 1) pa_nil)))))) (pss_one (ps_expr (pe_bm PySem.F.plainAttrs_list PySem.F.slot_list_extend PySem.F.type_list_extend mt_extend (pv 4) (pa_cons (pv 8) pa_nil))))))) (pss_one (ps_ret (pv 4))))))), ?_⟩
  have hFn := pr.fF.n
  -- counts
  have hcl : (F.filter fun t => fit6 t.1).length ≤ F.length := List.length_filter_le _ _
  refine Sq.set (EV.fst (EV.lcL (F := fun t => if fit6 t.1 = true then some t else none) stab_tri sep_tri (IVn.list stab_tri (EV.var rfl fun H' f => hF.fut stab_tri f)) (line6 (by omega)) fun t x H1 mt f1 y => ?_)) ht fun cv H1 f1 hc => ?_
  · obtain ⟨n, en⟩ := pr.num t mt
    have key : ∀ σ : L2.St, σ[10]? = some (some x) → EB T (tChain (L2.rI0 fun i j => .bl (decide (i ≤ j))) (L2.rI0 fun i j => .bl (decide (i ≤ j))) (tC (.int 0)) (tOp (rIxT K) (tVar 10) (tC (.int 0))) (tC (.int 6))) σ H1 (decide ((0 : Int) ≤ n) && decide (n ≤ 6)) := fun σ hσ => EB.between (ED.int 0) (ED.ix (K := K) (i := 0) (ds := [t.1, .num t.2.1, rowD t.2.2]) (ED.var hσ y) (ED.int 0) (by rw [en]; rfl)) (ED.int 6)
    have ef : fit6 t.1 = (decide ((0 : Int) ≤ n) && decide (n ≤ 6)) := by rw [en]; rfl
    refine ⟨_, fun Q q => q, rfl, fun c hc => ?_, fun hc => ?_⟩
    · by_cases z : fit6 t.1 = true
      · rw [if_pos z] at hc
        cases hc
        exact ⟨ET.imp (ET.of (key _ rfl)) (by rw [← ef, z]), ED.nl (ED.var rfl y)⟩
      · rw [if_neg z] at hc
        cases hc
    · by_cases z : fit6 t.1 = true
      · rw [if_pos z] at hc
        cases hc
      · exact ET.imp (ET.of (key _ rfl)) (by rw [← ef]; simpa using z)
  have ecnt := fm_filter (fun t : Tr Dt => fit6 t.1) F
  rw [ecnt] at hc
  have hmem : ∀ t ∈ F.filter (fun t => fit6 t.1), t ∈ F ∧ fit6 t.1 = true := fun t h => List.mem_filter.mp h
  have hnum : ∀ t ∈ F.filter (fun t => fit6 t.1), ∃ n : Nat, t.1 = .num n ∧ n ≤ 6 := fun t h => by
    obtain ⟨h1, h2⟩ := hmem t h
    obtain ⟨n, en⟩ := pr.num t h1
    rw [en] at h2
    have h3 : (decide ((0 : Int) ≤ n) && decide (n ≤ 6)) = true := h2
    rw [Bool.and_eq_true, decide_eq_true_eq, decide_eq_true_eq] at h3
    exact ⟨n.toNat, by rw [en, show ((n.toNat : Nat) : Int) = n by omega], by omega⟩
  -- check_many(sum([..]), path)
  refine Sq.drop (EV.fn (z := ((F.filter fun t => fit6 t.1).map fun t => ((B.length ^ (numD t.1).toNat : Nat) : Int)).sum) (EA.imp (EA.two (ED.sum (EV.fst (EV.lcM (R := fun (n : Int) _ v => v = .int n) (F := fun t : Tr Dt => ((B.length ^ (numD t.1).toNat : Nat) : Int)) stab_int sep_int (IVn.list stab_tri (EV.var rfl fun H' f => hc.fut stab_tri f)) (line6 (by omega)) fun t x H2 mt f2 y => ?_))) mD (EV.any rfl)) fun H' vs f r => ?_)) f1.t fun _ H2 f2 _ => ?_
  · obtain ⟨n, en, hn⟩ := hnum t mt
    obtain ⟨x1, x2, x3, r1, r2, r3, hg⟩ := g3 (i := 5) (j := 6) (k := 7) y
    rw [en] at r1
    refine ⟨_, fun Q q => hg H2 (TK.refl _) _ _ q, rfl, EV.imp (EV.fn (z := (B.length, n)) (EA.imp (EA.two (ED.lenR (EV.var rfl fun H' f => (hB.fut stab_tri (f1.trans f2)).fut stab_tri f)) mD (ED.var (d := .num (n : Int)) rfl r1)) fun H' vs f r => ?_)) fun H' v f r => ⟨by rw [show v = _ from r, en]; rfl, by rw [show v = _ from r]; exact NL.int⟩⟩
    obtain ⟨a, b, rfl, r1, r2⟩ := r
    refine ⟨by rw [show a = _ from r1, show b = _ from r2], by show B.length ≤ _; have := pr.n; omega, by show n ≤ 10; omega⟩
  · obtain ⟨a, b, rfl, r1, r2⟩ := r
    exact ⟨pr.sum, b, by rw [show a = _ from r1]⟩
  -- found = []
  refine Sq.newl fun p hp => ?_
  have f12 := f1.trans f2
  have hc2 : LdT (F.filter fun t => fit6 t.1) H2 cv := hc.fut stab_tri f2
  have f3 := Fut.newR f2.t hp (.lst [])
  refine Sq.for (B := H2) (IV.list rfl hc2 f3) (fun i σ H' => Fut T H2 H' ∧ ∃ a b c d e xs, σ = [some u, some u', some v, some cv, some (.ref p), a, b, c, d, e, none] ∧ H' p = some (.lst xs) ∧ All2 (fun t x => Rp H' (triD t) x) (((F.filter fun t => fit6 t.1).take i).flatMap (blkT B)) xs) ⟨f3, none, none, none, none, none, [], rfl, upd_same, .nil⟩ (fun i σ H' h => h.1) (fun i x σ H4 hi h y => ?_) fun σ H4 h => ?_
  · obtain ⟨f4, a, b, c, d, e, xs, rfl, hx, ax⟩ := h
    obtain ⟨t, et, y⟩ := y
    have mt := List.mem_of_getElem? et
    obtain ⟨n, en, hn⟩ := hnum t mt
    have hmt := hmem t mt
    have enn : (numD t.1).toNat = n := by rw [en]; exact Int.toNat_natCast n
    have hpw := pr.pw t hmt.1 hmt.2
    have hmu := pr.mu t hmt.1 hmt.2
    rw [enn] at hpw hmu
    obtain ⟨x1, x2, x3, r1, r2, r3, hg⟩ := g3 (i := 5) (j := 6) (k := 7) y
    rw [en] at r1
    have r1 : x1 = .int n := r1
    refine hg _ f4.tk _ _ ?_
    -- made = [((), count, row)]
    refine Sq.set (unit_tri (v := []) (c := t.2.1) (r := t.2.2) (ED.tup EDs.nil (Nat.zero_le _)) (ED.var rfl (f4.rp r2)) (ED.var rfl (f4.rp r3))) f4.t fun mv H5 f5 hm => ?_
    have nm : mv ≠ .ref p := hm.2.ne hx
    have f45 := f4.trans f5
    have hx5 := f5.lst hx
    refine Sq.for (B := H4) (IV.rng1 (m := n) (fun Q q => ⟨_, rfl, by rw [r1]; exact q⟩) (by omega)) (fun j σ H' => Fut T H4 H' ∧ ∃ mv e, σ = [some u, some u', some v, some cv, some (.ref p), some x1, some x2, some x3, some mv, e, none] ∧ LdT (tupT (tpowM B [([], t.2.1, t.2.2)] j)) H' mv) ⟨f5, mv, e, rfl, hm.1⟩ (fun i σ H' h => h.1) (fun j x' σ H6 hj h y => ?_) fun σ H6 h => ?_
    · obtain ⟨f6, mv, e, rfl, hm⟩ := h
      refine S.set (EV.fst (EV.fnL (z := (tpowM B [([], t.2.1, t.2.2)] j, B)) (EA.imp (EA.two (EV.var rfl fun H' f => hm.fut stab_tri f) mL (EV.var rfl fun H' f => (hB.fut stab_tri ((f12.trans f4).trans f6)).fut stab_tri f)) fun H' vs f r => ?_))) f6.t fun mv' H7 f7 r => ⟨f6.trans f7, mv', some x', rfl, r⟩
      obtain ⟨a, b, rfl, r1, r2⟩ := r
      exact ⟨a, b, rfl, r1, r2, (hpw j (by omega)).1, (hpw j (by omega)).2, pr.fB, hmu j hj⟩
    · obtain ⟨f6, mv, e, rfl, hm⟩ := h
      have hx6 := f6.lst hx
      have esn : (((F.filter fun t => fit6 t.1).take (i + 1)).flatMap (blkT B)) = (((F.filter fun t => fit6 t.1).take i).flatMap (blkT B)) ++ tupT (tpowM B [([], t.2.1, t.2.2)] n) := by
        rw [take_succ_of et, List.flatMap_append, List.flatMap_singleton]
        unfold blkT
        rw [enn]
      have hle : (((F.filter fun t => fit6 t.1).take (i + 1)).flatMap (blkT B)).length ≤ 100000 := by
        have h1 := pr.all
        rw [repT_eq] at h1
        have h2 : (F.filter fun t => fit6 t.1) = (F.filter fun t => fit6 t.1).take (i + 1) ++ (F.filter fun t => fit6 t.1).drop (i + 1) := (List.take_append_drop _ _).symm
        rw [h2, List.flatMap_append, List.length_append] at h1
        omega
      rw [esn, List.length_append] at hle
      refine S.ext (R := fun t H v => Rp H (triD t) v) (bs := tupT (tpowM B [([], t.2.1, t.2.2)] n)) rfl hx6 (by rw [← ax.length]; exact line6 (by omega)) (EV.var rfl fun H' f => hm.fut stab_tri f) f6.t fun zs H7 f7 az => ?_
      have hx7 := f7.lst hx6
      refine ⟨((f4.trans f6).trans f7).putL hp hx7, _, _, _, _, _, xs ++ zs, rfl, upd_same, ?_⟩
      rw [esn]
      exact all2_app (all2_imp (fun t x q => ((f6.trans f7).rp q).tk (tk_lst hx7)) ax) (all2_imp (fun t x q => q.tk (tk_lst hx7)) az)
  · obtain ⟨f4, a, b, c, d, e, xs, rfl, hx, ax⟩ := h
    rw [List.take_of_length_le (Nat.le_refl _)] at ax
    refine ⟨_, rfl, hq _ _ (f12.trans f4) ⟨⟨p, xs, rfl, hx, ?_⟩, (NL.new hp).back f12⟩⟩
    show All2 _ (repT F B) xs
    rw [repT_eq]
    exact ax
end
end CR

set_option Elab.async false
set_option linter.all false
set_option maxRecDepth 100000
set_option maxHeartbeats 4000000
namespace CR
open PySem PySem.Spec PyProof.Rows L2
/-! ### sizes -/
def Sz : Dt → Prop
  | .tup ds => ds.length ≤ 10 ∧ SzA ds
  | _ => True
where SzA : List Dt → Prop
  | [] => True
  | d :: ds => Sz d ∧ SzA ds
theorem szA_iff : ∀ {ds : List Dt}, Sz.SzA ds ↔ ∀ d ∈ ds, Sz d
  | [] => ⟨fun _ _ h => (nomatch h), fun _ => trivial⟩
  | d :: ds => by
    constructor
    · rintro ⟨h1, h2⟩ e he
      rcases List.mem_cons.mp he with z | z
      · rw [z]; exact h1
      · exact szA_iff.mp h2 e z
    · exact fun h => ⟨h d List.mem_cons_self, szA_iff.mpr fun e he => h e (List.mem_cons_of_mem _ he)⟩
theorem sz_num (n : Int) : Sz (.num n) := trivial
/-! ### more -/
theorem getD_of {ds : List Dt} {k : Nat} (h : k < ds.length) : ds[k]? = some (ds.getD k .none) := by
  rw [List.getD_eq_getElem?_getD, List.getElem?_eq_getElem h]
  rfl
theorem nums_of : ∀ {ds : List Dt}, (∀ x ∈ ds, ∃ i, x = .num i) → ds = (ds.map numD).map .num
  | [], _ => rfl
  | d :: ds, h => by
    obtain ⟨i, rfl⟩ := h d List.mem_cons_self
    rw [List.map_cons, List.map_cons, ← nums_of fun x hx => h x (List.mem_cons_of_mem _ hx)]
    rfl
section
variable {T : Tbl} {σ : L2.St} {H : Hp} {D : Ends} {K : PySem.W.Frag} {te ta tb : TE}
theorem Sq.nmN {i : Nat} {s x : Str} {t u : TS} (h : σ[i]? = some (some (.str s))) (ne : decide (s = x) = false) (k : u D σ H) : tSeq (tIfS (tTest (tOp rEq (tVar i) (tC (.str x)))) t tNext) u D σ H := by
  refine ⟨_, h, rfl, _, rfl, iteN ?_ k⟩
  rw [← ne]
  exact decide_eq_decide.mpr ⟨fun z => by injection z, fun z => by rw [z]⟩
theorem Sq.nmY {i : Nat} {s x : Str} {t u : TS} (h : σ[i]? = some (some (.str s))) (ne : decide (s = x) = true) (k : t { D with nx := u D } σ H) : tSeq (tIfS (tTest (tOp rEq (tVar i) (tC (.str x)))) t tNext) u D σ H := by
  refine ⟨_, h, rfl, _, rfl, iteY ?_ k⟩
  rw [← ne]
  exact decide_eq_decide.mpr ⟨fun z => by injection z, fun z => by rw [z]⟩
/-- name = t[0] -/
theorem Sq.name {i j : Nat} {s : Str} {v : V} {ds : List Dt} {u : TS} (h : σ[j]? = some (some v)) (r : Rp H (.tup (.text s :: ds)) v) (k : u D (σ.set i (some (.str s))) H) : tSeq (tAsg (tOp (rIxT K) (tVar j) (tC (.int 0))) (gName i)) u D σ H := by
  obtain ⟨a, xs, rfl, h1, x, r', rfl, rx, _⟩ := r
  rw [show x = .str s from rx] at h1
  exact ⟨_, h, a, _, 0, .str s, rfl, rfl, SqT.of h1, (show atI _ ((0 : Nat) : Int) = _ from atI_nat rfl), k⟩
theorem IVn.rngI {j : Int} (h : ED T te σ H (.num j)) (h1 : -1000000 ≤ j) (h2 : j ≤ 1000000) : IVn T (iRng1 (tCons te tNil)) σ H j.toNat (fun i _ x => x = .int i) := fun H1 f1 Q q =>
  h H1 f1 _ fun v H2 f2 r => ⟨j, by rw [show v = .int j from r], by omega, by omega, q _ H2 f2 (walk_range.mono (fun _ _ => trivial) fun i H' x H'' hi f y => by
    obtain ⟨rfl, rfl⟩ := y
    exact ⟨⟨LamX.ExtN.refl _, f.t⟩, congrArg V.int (Int.zero_add _)⟩)⟩
theorem ED.cast {i j : Int} (h : ED T te σ H (.num i)) (e : i = j) : ED T te σ H (.num j) := e ▸ h
theorem EB.notIn {d : Dt} {ds : List Dt} (ha : ED T ta σ H d) (hb : ED T tb σ H (.tup ds)) (h1 : okD d) (h2 : ∀ e ∈ ds, okD e) : EB T (tOp rNotInR ta tb) σ H (!ds.any fun z => decide (z = d)) :=
  EV.op ha hb fun H1 x y Q f rx ry q => ⟨d, ds, rx, ry, h1, h2, q _ H1 (fr f) rfl⟩
theorem ED.sumT {ds : List Dt} (h : ED T te σ H (.tup ds)) (hn : ∀ x ∈ ds, ∃ i, x = .num i) : ED T (tCB (rSumT K) (tCons te tNil)) σ H (.num (sumD ds)) := fun H1 f1 Q q =>
  h H1 f1 _ fun v H2 f2 r => by
    obtain ⟨a, xs, rfl, h2, h3⟩ := r
    rw [nums_of hn] at h3
    rw [RpA.ints h3] at h2
    exact ⟨a, ds.map numD, rfl, SqT.of h2, q _ H2 f2 rfl⟩
theorem ED.rev {ds : List Dt} (h : ED T te σ H (.tup ds)) : ED T (tRevT K te) σ H (.tup ds.reverse) := fun H1 f1 Q q =>
  h H1 f1 _ fun v H2 f2 r => by
    obtain ⟨a, xs, rfl, h2, h3⟩ := r
    exact ⟨a, xs, rfl, SqT.of h2, fun p hp => q _ _ (f2.new hp _) (Rp.new h3.reverse hp)⟩
theorem EL.sortT {ds : List Dt} (h : ED T te σ H (.tup ds)) (hf : Flat ds) : EL T (tCB rSortT (tCons te tNil)) σ H (sortD ds) := fun H1 f1 Q q =>
  h H1 f1 _ fun v H2 f2 r => by
    obtain ⟨a, xs, rfl, h2, h3⟩ := r
    exact ⟨a, ds, xs, rfl, h2, h3, hf, fun ys p hy hp => q _ _ (f2.new hp _) ⟨p, ys, rfl, upd_same, hy.tk (TK.new hp _)⟩⟩
/-- tuple(list) -/
theorem ED.tupOf {ds : List Dt} (h : EL T te σ H ds) : ED T (tCB (rTupK K) (tCons te tNil)) σ H (.tup ds) := fun H1 f1 Q q =>
  h H1 f1 _ fun v H2 f2 r => by
    obtain ⟨a, xs, rfl, h2, h3⟩ := r
    exact ⟨a, xs, rfl, .inl ⟨SqL.of h2, fun p hp => q _ _ (f2.new hp _) (Rp.new h3 hp)⟩⟩
theorem ED.lenT {ds : List Dt} (h : ED T te σ H (.tup ds)) : ED T (tCB (rLenK K) (tCons te tNil)) σ H (.num ds.length) := ED.len h
end
theorem vac {P : Program} {w : World} {K : PySem.W.Frag} {mg : Str → Option Value} {base : Heap} {T : Tbl} {k : Nat} {f : Addr} {fd : FuncData} {ps : List Str} {α : Type} {pre : α → Hp → List V → Prop} {post : α → Hp → V → Prop} (no : ∀ z H vs, ¬ pre z H vs) : FnOk P w K mg base CX0 k f fd ps (Pm T pre post) :=
  ⟨fun vs H Q E ⟨z, h, _⟩ => absurd h (no z H vs), fun A outer s H args us vs Q E _ _ _ _ ⟨z, h, _⟩ => absurd h (no z H vs)⟩
theorem vacL {P : Program} {w : World} {K : PySem.W.Frag} {mg : Str → Option Value} {base : Heap} {T : Tbl} {k : Nat} {f : Addr} {fd : FuncData} {ps : List Str} {α : Type} {pre : α → Hp → List V → Prop} {post : α → Hp → V → Prop} (no : ∀ z H vs, ¬ pre z H vs) : FnOk P w K mg base CX0 k f fd ps (PmL T pre post) :=
  ⟨fun vs H Q E ⟨z, h, _⟩ => absurd h (no z H vs), fun A outer s H args us vs Q E _ _ _ _ ⟨z, h, _⟩ => absurd h (no z H vs)⟩
section
variable {P : Program} {w : World} {K : PySem.W.Frag} {mg : Str → Option Value} {base : Heap} {T : Tbl} (g : G K mg base T)
/-! ### rises, is_different -/
abbrev N_rises : List Str := ["value", "k"]
theorem sc_rises : FnScope N_rises ["value"] (defScope s_rises) := ⟨rfl, rfl, rfl, by decide +kernel, rfl, by decide +kernel, by decide +kernel⟩
theorem ok_rises : FnOk P w K mg base CX0 3 g.rises.a g.rises.d ["value"] (Pm T (fun (ds : List Dt) H vs => ∃ v, vs = [v] ∧ Rp H (.tup ds) v ∧ (∀ x ∈ ds, ∃ i, x = .num i) ∧ ds.length ≤ 10) fun ds H v => v = .bl (risesM ds)) := by
  refine pm_okC g.c_rises sc_rises (fun z H vs h => by obtain ⟨v, rfl, _⟩ := h; rfl) fun cd P' A outer s H vs Q E ds TB hmT hu hr h ht hq => ?_
  obtain ⟨v, rfl, hv, hn, hl⟩ := h
  refine ⟨_, (pss_one (ps_ret (pe_allQ (k := 1) (("rises" : Str) ++ (".<locals>." : Str)) rfl (hr.mono (by omega)) rfl g.n_all TB rfl hmT hu (gsc_by (i := 1) (N := N_rises) (sc := defScope s_rises) (by decide +kernel)) sc_rises.nd (pi_range1 rfl g.n_range (pa_cons (pe_op op_sub (pe_callB (cr_lenK K rfl) rfl g.n_len boot_len (pa_cons (pv 0) pa_nil)) pe_int) pa_nil)) (fun _ _ _ _ _ _ hrG => (pe_cmpR op_le (pe_ix (ix_tupK K rfl) (pv 0) (pv 1) (fun _ _ => rfl)) (pe_ix (ix_tupK K rfl) (pv 0) (pe_op op_add (pv 1) pe_int) (fun _ _ => rfl)) (nomark _))) (fun _ => rfl)))), ?_⟩
  refine S.ret (EB.imp (EB.gen (go := true) (IVn.rngI (j := (ds.length : Int) - 1) (ED.sub (ED.lenT (ED.var rfl hv)) (ED.int 1)) (by omega) (by omega)) (fun k => decide (numD (ds.getD k .none) ≤ numD (ds.getD (k + 1) .none))) fun k x H1 hk f1 y => ?_) ?_) ht fun v' H2 f r => hq _ _ f r
  · subst y
    obtain ⟨i, ei⟩ := hn _ (List.mem_of_getElem? (getD_of (show k < ds.length by omega)))
    obtain ⟨j, ej⟩ := hn _ (List.mem_of_getElem? (getD_of (show k + 1 < ds.length by omega)))
    rw [ei, ej]
    exact EB.le (ED.ix (ED.var rfl (f1.rp hv)) (ED.var rfl rfl) (by rw [getD_of (show k < ds.length by omega), ei]; rfl)) (ED.ix (i := k + 1) (ED.var rfl (f1.rp hv)) (ED.cast (ED.add (ED.var (d := .num k) rfl rfl) (ED.int 1)) (by omega)) (by rw [getD_of (show k + 1 < ds.length by omega), ej]; rfl))
  · rw [if_pos rfl]
    unfold risesM
    rw [show ((ds.length : Int) - 1).toNat = ds.length - 1 by omega]
abbrev N_is_different : List Str := ["value", "k"]
theorem sc_is_different : FnScope N_is_different ["value"] (defScope s_is_different) := ⟨rfl, rfl, rfl, by decide +kernel, rfl, by decide +kernel, by decide +kernel⟩
theorem ok_is_different : FnOk P w K mg base CX0 3 g.is_different.a g.is_different.d ["value"] (Pm T (fun (ds : List Dt) H vs => ∃ v, vs = [v] ∧ Rp H (.tup ds) v ∧ (∀ x ∈ ds, okD x) ∧ ds.length ≤ 10) fun ds H v => v = .bl (diffM ds)) := by
  refine pm_okC g.c_is_different sc_is_different (fun z H vs h => by obtain ⟨v, rfl, _⟩ := h; rfl) fun cd P' A outer s H vs Q E ds TB hmT hu hr h ht hq => ?_
  obtain ⟨v, rfl, hv, hn, hl⟩ := h
  refine ⟨_, (pss_one (ps_ret (pe_allQ (k := 1) (("is_different" : Str) ++ (".<locals>." : Str)) rfl (hr.mono (by omega)) rfl g.n_all TB rfl hmT hu (gsc_by (i := 1) (N := N_is_different) (sc := defScope s_is_different) (by decide +kernel)) sc_is_different.nd (pi_range1 rfl g.n_range (pa_cons (pe_callB (cr_lenK K rfl) rfl g.n_len boot_len (pa_cons (pv 0) pa_nil)) pa_nil)) (fun _ _ _ _ _ _ hrG => (pe_cmpR (op_notInR (hu65 hrG)) (pe_ix (ix_tupK K rfl) (pv 0) (pv 1) (fun _ _ => rfl)) (pe_slice (sl_tupK K rfl) (pv 0) po_none (po_some (pv 1))) (by rfl))) (fun _ => rfl)))), ?_⟩
  refine S.ret (EB.imp (EB.gen (go := true) (IVn.rng1 (ED.lenT (ED.var rfl hv)) (by omega)) (fun k => !((ds.take k).any fun y => decide (y = ds.getD k .none))) fun k x H1 hk f1 y => ?_) ?_) ht fun v' H2 f r => hq _ _ f r
  · subst y
    exact EB.notIn (ED.ix (ED.var rfl (f1.rp hv)) (ED.var rfl rfl) (getD_of hk)) (ED.upto (ED.var rfl (f1.rp hv)) (ED.var rfl rfl)) (hn _ (List.mem_of_getElem? (getD_of hk))) fun e he => hn e (List.mem_of_mem_take he)
  · rw [if_pos rfl]
    rfl
/-! ### holds, holds_list -/
structure PreH (n : Nat) (c : Cond) (d : Dt) (k : Kd) : Prop where
  dep : c.depth < n
  fits : Fits c k
  has : HasK k d
  kd : k.depth ≤ 8
  sz : Sz d
def preH (n : Nat) : Cond × Dt × Kd → Hp → List V → Prop := fun z H vs => ∃ a b, vs = [a, b] ∧ Rp H z.1.d a ∧ Rp H z.2.1 b ∧ PreH n z.1 z.2.1 z.2.2
def postH : Cond × Dt × Kd → Hp → V → Prop := fun z _ v => v = .bl (holdsM z.1 z.2.1)
def isL : Cond → Prop
  | .every _ | .some _ | .size _ | .sum _ | .rising | .different => True
  | _ => False
theorem EA.data2 {T : Tbl} {σ : L2.St} {H : Hp} {ta tb : TE} {d e : Dt} (ha : ED T ta σ H d) (hb : ED T tb σ H e) : EA T (tCons ta (tCons tb tNil)) σ H (fun H vs => ∃ u v, vs = [u, v] ∧ Rp H d u ∧ Rp H e v) := EA.two ha mD hb
theorem call_holds {T : Tbl} {σ : L2.St} {H : Hp} {ta tb : TE} {E : XK} {n : Nat} {c : Cond} {d : Dt} {k : Kd} (ha : ED T ta σ H c.d) (hb : ED T tb σ H d) (p : PreH n c d k) : EB T (tCall (Pm T (preH n) postH) [] E (tCons ta (tCons tb tNil))) σ H (holdsM c d) :=
  EV.fn (z := (c, d, k)) (EA.imp (EA.data2 ha hb) fun H' vs f r => by
    obtain ⟨u, v, rfl, r1, r2⟩ := r
    exact ⟨u, v, rfl, r1, r2, p⟩)
abbrev N_holds_list : List Str := ["condition", "value", "name", "part"]
theorem sc_holds_list : FnScope N_holds_list ["condition", "value"] (defScope s_holds_list) := ⟨rfl, rfl, rfl, by decide +kernel, rfl, by decide +kernel, by decide +kernel⟩
theorem ok_holds_list (n : Nat) (OK_holds : FnOk P w K mg base CX0 (3 * n + 5) g.holds.a g.holds.d ["condition", "value"] (Pm T (preH n) postH)) :
    FnOk P w K mg base CX0 (3 * n + 7) g.holds_list.a g.holds_list.d ["condition", "value"] (Pm T (fun z H vs => preH (n + 1) z H vs ∧ isL z.1) postH) := by
  have OK_rises := ok_rises (P := P) (w := w) g
  have OK_is_different := ok_is_different (P := P) (w := w) g
  refine pm_okC (k := 3 * n + 6) g.c_holds_list sc_holds_list (fun z H vs h => by obtain ⟨⟨a, b, rfl, _⟩, _⟩ := h; rfl) fun cd P' A outer s H vs Q E z TB hmT hu hr h ht hq => ?_
  obtain ⟨c, d, k⟩ := z
  obtain ⟨⟨a, b, rfl, ha, hb, pr⟩, hc⟩ := h
  have pr : PreH (n + 1) c d k := pr
  have hb : Rp H d b := hb
  refine ⟨_, (pss_cons (ps_set (i := 2) sc_holds_list.nd rfl (Or.inl rfl) (pe_ix (ix_tupK K rfl) (pv 0) pe_int (fun _ _ => rfl))) (pss_cons (ps_if (pt_cmpR op_eq (pv 2) pe_str (nomark _)) (pss_one (ps_ret (pe_allQ (k := 3 * n + 5) (("holds_list" : Str) ++ (".<locals>." : Str)) rfl (hr.mono (by omega)) rfl g.n_all TB rfl hmT hu (gsc_by (i := 3) (N := N_holds_list) (sc := defScope s_holds_list) (by decide +kernel)) sc_holds_list.nd (pi_tupK K rfl (pv 1)) (fun _ _ _ _ _ _ hrG => (pe_call OK_holds (hrG.mono (by omega)) rfl g.holds.m g.holds.F.kp (b_holds g.holds) .nil pass0 (pa_cons (pe_ix (ix_tupK K rfl) (pv 0) pe_int (fun _ _ => rfl)) (pa_cons (pv 3) pa_nil)))) (fun _ => rfl)))) pss_nil) (pss_cons (ps_if (pt_cmpR op_eq (pv 2) pe_str (nomark _)) (pss_one (ps_ret (pe_anyQ (k := 3 * n + 5) (("holds_list" : Str) ++ (".<locals>." : Str)) rfl (hr.mono (by omega)) rfl g.n_any TB rfl hmT hu (gsc_by (i := 3) (N := N_holds_list) (sc := defScope s_holds_list) (by decide +kernel)) sc_holds_list.nd (pi_tupK K rfl (pv 1)) (fun _ _ _ _ _ _ hrG => (pe_call OK_holds (hrG.mono (by omega)) rfl g.holds.m g.holds.F.kp (b_holds g.holds) .nil pass0 (pa_cons (pe_ix (ix_tupK K rfl) (pv 0) pe_int (fun _ _ => rfl)) (pa_cons (pv 3) pa_nil)))) (fun _ => rfl)))) pss_nil) (pss_cons (ps_if (pt_cmpR op_eq (pv 2) pe_str (nomark _)) (pss_one (ps_ret (pe_call OK_holds (hr.mono (by omega)) rfl g.holds.m g.holds.F.kp (b_holds g.holds) .nil pass0 (pa_cons (pe_ix (ix_tupK K rfl) (pv 0) pe_int (fun _ _ => rfl)) (pa_cons (pe_callB (cr_lenK K rfl) rfl g.n_len boot_len (pa_cons (pv 1) pa_nil)) pa_nil))))) pss_nil) (pss_cons (ps_if (pt_cmpR op_eq (pv 2) pe_str (nomark _)) (pss_one (ps_ret (pe_call OK_holds (hr.mono (by omega)) rfl g.holds.m g.holds.F.kp (b_holds g.holds) .nil pass0 (pa_cons (pe_ix (ix_tupK K rfl) (pv 0) pe_int (fun _ _ => rfl)) (pa_cons (pe_callB (cr_sumTK K rfl rfl) rfl g.n_sum (by decide +kernel) (pa_cons (pv 1) pa_nil)) pa_nil))))) pss_nil) (pss_cons (ps_if (pt_cmpR op_eq (pv 2) pe_str (nomark _)) (pss_one (ps_ret (pe_call OK_rises (hr.mono (by omega)) rfl g.rises.m g.rises.F.kp (b_rises g.rises) .nil pass0 (pa_cons (pv 1) pa_nil)))) pss_nil) (pss_one (ps_ret (pe_call OK_is_different (hr.mono (by omega)) rfl g.is_different.m g.is_different.F.kp (b_is_different g.is_different) .nil pass0 (pa_cons (pv 1) pa_nil)))))))))), ?_⟩
  cases c with
  | every c =>
    obtain ⟨k', rfl, hf⟩ := pr.fits
    obtain ⟨ds, rfl, hds⟩ := pr.has
    have kd := pr.kd
    refine Sq.name rfl ha ?_
    refine Sq.nmY rfl (by decide +kernel) ?_
    refine S.ret (EB.imp (EB.genL (go := true) (IVn.tup (ED.var rfl hb)) (holdsM c) fun e x H1 he f1 y => call_holds (ED.ix (ED.var rfl (f1.rp ha)) (ED.int 1) rfl) (ED.var rfl y) ⟨by have := pr.dep; exact Nat.lt_of_succ_lt_succ this, hf, hds e he, by unfold Kd.depth at kd; omega, szA_iff.mp pr.sz.2 e he⟩) (if_pos rfl)) ht fun v' H2 f r => hq _ _ f r
  | some c =>
    obtain ⟨k', rfl, hf⟩ := pr.fits
    obtain ⟨ds, rfl, hds⟩ := pr.has
    have kd := pr.kd
    refine Sq.name rfl ha ?_
    refine Sq.nmN rfl (by decide +kernel) ?_
    refine Sq.nmY rfl (by decide +kernel) ?_
    refine S.ret (EB.imp (EB.genL (go := false) (IVn.tup (ED.var rfl hb)) (holdsM c) fun e x H1 he f1 y => call_holds (ED.ix (ED.var rfl (f1.rp ha)) (ED.int 1) rfl) (ED.var rfl y) ⟨by have := pr.dep; exact Nat.lt_of_succ_lt_succ this, hf, hds e he, by unfold Kd.depth at kd; omega, szA_iff.mp pr.sz.2 e he⟩) (if_neg Bool.false_ne_true)) ht fun v' H2 f r => hq _ _ f r
  | size c =>
    obtain ⟨⟨k', rfl⟩, hf⟩ := pr.fits
    obtain ⟨ds, rfl, hds⟩ := pr.has
    refine Sq.name rfl ha ?_
    iterate 2 refine Sq.nmN rfl (by decide +kernel) ?_
    refine Sq.nmY rfl (by decide +kernel) ?_
    exact S.ret (call_holds (k := .b .int) (ED.ix (ED.var rfl ha) (ED.int 1) rfl) (ED.lenT (ED.var rfl hb)) ⟨by have := pr.dep; exact Nat.lt_of_succ_lt_succ this, hf, ⟨_, rfl⟩, by decide, trivial⟩) ht fun v' H2 f r => hq _ _ f r
  | sum c =>
    obtain ⟨rfl, hf⟩ := pr.fits
    obtain ⟨ds, rfl, hds⟩ := pr.has
    refine Sq.name rfl ha ?_
    iterate 3 refine Sq.nmN rfl (by decide +kernel) ?_
    refine Sq.nmY rfl (by decide +kernel) ?_
    exact S.ret (call_holds (k := .b .int) (ED.ix (ED.var rfl ha) (ED.int 1) rfl) (ED.sumT (ED.var rfl hb) fun x hx => hds x hx) ⟨by have := pr.dep; exact Nat.lt_of_succ_lt_succ this, hf, ⟨_, rfl⟩, by decide, trivial⟩) ht fun v' H2 f r => hq _ _ f r
  | rising =>
    have hf : k = .lst (.b .int) := pr.fits
    subst hf
    obtain ⟨ds, rfl, hds⟩ := pr.has
    refine Sq.name rfl ha ?_
    iterate 4 refine Sq.nmN rfl (by decide +kernel) ?_
    refine Sq.nmY rfl (by decide +kernel) ?_
    exact S.ret (EV.fn (z := ds) (EA.imp (EA.one (ED.var rfl hb)) fun H' vs f r => by
      obtain ⟨u, rfl, r⟩ := r
      exact ⟨u, rfl, r, fun x hx => hds x hx, pr.sz.1⟩)) ht fun v' H2 f r => hq _ _ f r
  | different =>
    obtain ⟨k', rfl⟩ := pr.fits
    obtain ⟨ds, rfl, hds⟩ := pr.has
    have kd := pr.kd
    refine Sq.name rfl ha ?_
    iterate 5 refine Sq.nmN rfl (by decide +kernel) ?_
    exact S.ret (EV.fn (z := ds) (EA.imp (EA.one (ED.var rfl hb)) fun H' vs f r => by
      obtain ⟨u, rfl, r⟩ := r
      exact ⟨u, rfl, r, fun x hx => hasK_ok (hds x hx) (by unfold Kd.depth at kd; omega), pr.sz.1⟩)) ht fun v' H2 f r => hq _ _ f r
  | _ => exact hc.elim
abbrev N_holds : List Str := ["condition", "value", "name"]
theorem sc_holds : FnScope N_holds ["condition", "value"] (defScope s_holds) := ⟨rfl, rfl, rfl, by decide +kernel, rfl, by decide +kernel, by decide +kernel⟩
theorem ok_holds_step (n : Nat) (OK_holds : FnOk P w K mg base CX0 (3 * n + 5) g.holds.a g.holds.d ["condition", "value"] (Pm T (preH n) postH)) :
    FnOk P w K mg base CX0 (3 * n + 8) g.holds.a g.holds.d ["condition", "value"] (Pm T (preH (n + 1)) postH) := by
  have OK_holds_list := ok_holds_list g n OK_holds
  refine pm_ok (k := 3 * n + 7) g.holds.F sc_holds (fun z H vs h => by obtain ⟨a, b, rfl, _⟩ := h; rfl) fun cdv A outer s H vs Q E z hr h ht hq => ?_
  obtain ⟨c, d, k⟩ := z
  obtain ⟨a, b, rfl, ha, hb, pr⟩ := h
  have pr : PreH (n + 1) c d k := pr
  have hb : Rp H d b := hb
  refine ⟨_, (pss_cons (ps_set (i := 2) sc_holds.nd rfl (Or.inl rfl) (pe_ix (ix_tupK K rfl) (pv 0) pe_int (fun _ _ => rfl))) (pss_cons (ps_if (pt_cmpR op_eq (pv 2) pe_str (nomark _)) (pss_one (ps_ret (pe_cmpR op_le (pv 1) (pe_ix (ix_tupK K rfl) (pv 0) pe_int (fun _ _ => rfl)) (nomark _)))) pss_nil) (pss_cons (ps_if (pt_cmpR op_eq (pv 2) pe_str (nomark _)) (pss_one (ps_ret (pe_cmpR op_eq (pe_op op_mod (pv 1) (pe_ix (ix_tupK K rfl) (pv 0) pe_int (fun _ _ => rfl))) pe_int (nomark _)))) pss_nil) (pss_cons (ps_if (pt_cmpR op_eq (pv 2) pe_str (nomark _)) (pss_one (ps_ret (pe_cmpR op_eq (pv 1) (pe_ix (ix_tupK K rfl) (pv 0) pe_int (fun _ _ => rfl)) (nomark _)))) pss_nil) (pss_cons (ps_if (pt_cmpR op_eq (pv 2) pe_str (nomark _)) (pss_one (ps_ret (pe_call OK_holds (hr.mono (by omega)) rfl g.holds.m g.holds.F.kp (b_holds g.holds) .nil pass0 (pa_cons (pe_ix (ix_tupK K rfl) (pv 0) pe_int (fun _ _ => rfl)) (pa_cons (pe_ix (ix_tupK K rfl) (pv 1) (pe_ix (ix_tupK K rfl) (pv 0) pe_int (fun _ _ => rfl)) (fun _ _ => rfl)) pa_nil))))) pss_nil) (pss_cons (ps_if (pt_cmpR op_eq (pv 2) pe_str (nomark _)) (pss_one (ps_ret (pe_not (pe_call OK_holds (hr.mono (by omega)) rfl g.holds.m g.holds.F.kp (b_holds g.holds) .nil pass0 (pa_cons (pe_ix (ix_tupK K rfl) (pv 0) pe_int (fun _ _ => rfl)) (pa_cons (pv 1) pa_nil)))))) pss_nil) (pss_cons (ps_if (pt_cmpR op_eq (pv 2) pe_str (nomark _)) (pss_one (ps_ret (pe_and (pe_call OK_holds (hr.mono (by omega)) rfl g.holds.m g.holds.F.kp (b_holds g.holds) .nil pass0 (pa_cons (pe_ix (ix_tupK K rfl) (pv 0) pe_int (fun _ _ => rfl)) (pa_cons (pv 1) pa_nil))) (pe_one (pe_call OK_holds (hr.mono (by omega)) rfl g.holds.m g.holds.F.kp (b_holds g.holds) .nil pass0 (pa_cons (pe_ix (ix_tupK K rfl) (pv 0) pe_int (fun _ _ => rfl)) (pa_cons (pv 1) pa_nil))))))) pss_nil) (pss_cons (ps_if (pt_cmpR op_eq (pv 2) pe_str (nomark _)) (pss_one (ps_ret (pe_or (pe_call OK_holds (hr.mono (by omega)) rfl g.holds.m g.holds.F.kp (b_holds g.holds) .nil pass0 (pa_cons (pe_ix (ix_tupK K rfl) (pv 0) pe_int (fun _ _ => rfl)) (pa_cons (pv 1) pa_nil))) (pe_one (pe_call OK_holds (hr.mono (by omega)) rfl g.holds.m g.holds.F.kp (b_holds g.holds) .nil pass0 (pa_cons (pe_ix (ix_tupK K rfl) (pv 0) pe_int (fun _ _ => rfl)) (pa_cons (pv 1) pa_nil))))))) pss_nil) (pss_one (ps_ret (pe_call OK_holds_list (hr.mono (by omega)) rfl g.holds_list.m g.holds_list.F.kp (b_holds_list g.holds_list) .nil pass0 (pa_cons (pv 0) (pa_cons (pv 1) pa_nil))))))))))))), ?_⟩
  have dn : ∀ {e : Cond}, e.depth + 1 < n + 1 → e.depth < n := fun h => Nat.lt_of_succ_lt_succ h
  have hl : isL c → ∀ {σ : L2.St} {ta tb : TE}, ED T ta σ H c.d → ED T tb σ H d → EB T (tCall (Pm T (fun z H vs => preH (n + 1) z H vs ∧ isL z.1) postH) [] E0 (tCons ta (tCons tb tNil))) σ H (holdsM c d) := fun hi σ ta tb h1 h2 =>
    EV.fn (z := (c, d, k)) (EA.imp (EA.data2 h1 h2) fun H' vs f r => by
      obtain ⟨u, v, rfl, r1, r2⟩ := r
      exact ⟨⟨u, v, rfl, r1, r2, pr⟩, hi⟩)
  cases c with
  | atmost m =>
    have hk : k = .b .int := pr.fits
    subst hk
    obtain ⟨i, rfl⟩ := pr.has
    refine Sq.name rfl ha ?_
    refine Sq.nmY rfl (by decide +kernel) ?_
    exact S.ret (EB.le (ED.var (d := .num i) rfl hb) (ED.ix (ED.var rfl ha) (ED.int 1) rfl)) ht fun v' H2 f r => hq _ _ f r
  | divides m =>
    obtain ⟨rfl, hm⟩ := pr.fits
    obtain ⟨i, rfl⟩ := pr.has
    refine Sq.name rfl ha ?_
    refine Sq.nmN rfl (by decide +kernel) ?_
    refine Sq.nmY rfl (by decide +kernel) ?_
    exact S.ret (EB.eqI (ED.rI (i := i) (j := m) (R := fun H v => Rp H (.num (i % m)) v) (ED.var rfl hb) (ED.ix (ED.var rfl ha) (ED.int 1) rfl) hm fun _ => rfl) (ED.int 0)) ht fun v' H2 f r => hq _ _ f r
  | isw x =>
    have hk : k = .b .word := pr.fits
    subst hk
    obtain ⟨y, rfl, _⟩ := pr.has
    refine Sq.name rfl ha ?_
    iterate 2 refine Sq.nmN rfl (by decide +kernel) ?_
    refine Sq.nmY rfl (by decide +kernel) ?_
    exact S.ret (EB.imp (EB.eqS (x := y) (y := x) (ED.var rfl hb) (ED.ix (ED.var rfl ha) (ED.int 1) rfl)) (decide_eq_decide.mpr ⟨fun z => by rw [z], fun z => by injection z⟩)) ht fun v' H2 f r => hq _ _ f r
  | item i c =>
    obtain ⟨bs, b', rfl, hi, hf⟩ := pr.fits
    obtain ⟨ds, rfl, hds⟩ := pr.has
    obtain ⟨e, he, hb'⟩ := all2_fwd hds hi
    have ee : ds.getD i .none = e := by rw [List.getD_eq_getElem?_getD, he]; rfl
    refine Sq.name rfl ha ?_
    iterate 3 refine Sq.nmN rfl (by decide +kernel) ?_
    refine Sq.nmY rfl (by decide +kernel) ?_
    refine S.ret (EB.imp (call_holds (k := .b b') (ED.ix (ED.var rfl ha) (ED.int 2) rfl) (ED.ix (ED.var rfl hb) (ED.ix (ED.var rfl ha) (ED.int 1) rfl) he) ⟨dn pr.dep, hf, hb', Nat.zero_le 8, szA_iff.mp pr.sz.2 e (List.mem_of_getElem? he)⟩) ?_) ht fun v' H2 f r => hq _ _ f r
    show holdsM c e = holdsM c (ds.getD i .none)
    rw [ee]
  | not c =>
    refine Sq.name rfl ha ?_
    iterate 4 refine Sq.nmN rfl (by decide +kernel) ?_
    refine Sq.nmY rfl (by decide +kernel) ?_
    exact S.ret (EB.not (call_holds (k := k) (ED.ix (ED.var rfl ha) (ED.int 1) rfl) (ED.var rfl hb) ⟨dn pr.dep, pr.fits, pr.has, pr.kd, pr.sz⟩)) ht fun v' H2 f r => hq _ _ f r
  | and c e =>
    have dp : max c.depth e.depth + 1 < n + 1 := pr.dep
    refine Sq.name rfl ha ?_
    iterate 5 refine Sq.nmN rfl (by decide +kernel) ?_
    refine Sq.nmY rfl (by decide +kernel) ?_
    exact S.ret (EB.and (call_holds (k := k) (ED.ix (ED.var rfl ha) (ED.int 1) rfl) (ED.var rfl hb) ⟨by omega, pr.fits.1, pr.has, pr.kd, pr.sz⟩) fun _ => call_holds (k := k) (ED.ix (ED.var rfl ha) (ED.int 2) rfl) (ED.var rfl hb) ⟨by omega, pr.fits.2, pr.has, pr.kd, pr.sz⟩) ht fun v' H2 f r => hq _ _ f r
  | or c e =>
    have dp : max c.depth e.depth + 1 < n + 1 := pr.dep
    refine Sq.name rfl ha ?_
    iterate 6 refine Sq.nmN rfl (by decide +kernel) ?_
    refine Sq.nmY rfl (by decide +kernel) ?_
    exact S.ret (EB.or (call_holds (k := k) (ED.ix (ED.var rfl ha) (ED.int 1) rfl) (ED.var rfl hb) ⟨by omega, pr.fits.1, pr.has, pr.kd, pr.sz⟩) fun _ => call_holds (k := k) (ED.ix (ED.var rfl ha) (ED.int 2) rfl) (ED.var rfl hb) ⟨by omega, pr.fits.2, pr.has, pr.kd, pr.sz⟩) ht fun v' H2 f r => hq _ _ f r
  | _ =>
    refine Sq.name rfl ha ?_
    iterate 7 refine Sq.nmN rfl (by decide +kernel) ?_
    exact S.ret (hl trivial (ED.var rfl ha) (ED.var rfl hb)) ht fun v' H2 f r => hq _ _ f r
theorem ok_holds : ∀ n, FnOk P w K mg base CX0 (3 * n + 5) g.holds.a g.holds.d ["condition", "value"] (Pm T (preH n) postH)
  | 0 => vac fun z H vs h => by
    obtain ⟨_, _, _, _, _, h⟩ := h
    exact absurd h.dep (Nat.not_lt_zero _)
  | n + 1 => ok_holds_step g n (ok_holds n)
end
end CR

set_option Elab.async false
set_option linter.all false
set_option maxRecDepth 100000
set_option maxHeartbeats 4000000
namespace CR
open PySem PySem.Spec PyProof.Rows L2
/-! ### a dict of values as data -/
theorem vo_code {P : Program} {w : World} {b : Bool} {d : Addr} {xs : List En} {q : Str} : VO P w b d xs ≠ LamX.CodeO d q := fun z => by
  unfold VO LamX.CodeO at z
  have z1 := HO.ext.inj z
  have hs : ({ objs := Array.replicate d { cls := .none, data := .fields #[.none, .str q 0] } } : Heap).objs.size = d := Array.size_replicate
  have hg : (({ objs := Array.replicate d { cls := .none, data := .fields #[.none, .str q 0] } } : Heap).push { cls := .none, data := .fields #[.none, .str q 0] }).get? d = some { cls := .none, data := .fields #[.none, .str q 0] } := by
    have := Heap.get?_push_size ({ objs := Array.replicate d { cls := .none, data := .fields #[.none, .str q 0] } } : Heap) (o := { cls := .none, data := .fields #[.none, .str q 0] }) rfl
    rw [hs] at this
    exact this
  have hv : VOk P w b d xs (({ objs := Array.replicate d { cls := .none, data := .fields #[.none, .str q 0] } } : Heap).push { cls := .none, data := .fields #[.none, .str q 0] }) := by
    rw [z1]
    exact ⟨_, _, 0, hg, rfl, rfl⟩
  obtain ⟨_, _, hv⟩ := hv
  cases b with
  | true =>
    obtain ⟨ys, _, o', es, ep, e, hx, _⟩ := (show VTup P w _ d xs from hv)
    rw [hg] at e
    cases e
    exact nomatch hx.1
  | false =>
    obtain ⟨vs, _, dd⟩ := (show VFlat P w _ d xs from hv)
    obtain ⟨o', e, hc⟩ := dd.typeIs (s := { heap := _ })
    have e2 := Option.some.inj (hg.symm.trans e)
    rw [← e2] at hc
    exact nomatch hc
theorem Fut.putV {T : Tbl} {H H1 : Hp} {P : Program} {w : World} {b : Bool} {xs : List En} (a : Fut T H H1) {p : Addr} {o : HO} (h0 : H p = none) (h : H1 p = some (VO P w b p xs)) : Fut T H (upd H1 p o) :=
  a.put h0 h (fun _ z => by unfold VO at z; cases z) fun _ => vo_code
def DE (H : Hp) (e : Dt × (Int × Row)) (x : En) : Prop := x.1 = e.1 ∧ Rp H (.tup [.num e.2.1, rowD e.2.2]) x.2.2
def DD (P : Program) (w : World) (b : Bool) (H : Hp) (d : Addr) (di : Di Dt) : Prop := ∃ xs, VD P w b H d xs ∧ All2 (DE H) di xs
theorem de_tk {H H' : Hp} (k : TK H H') {di : Di Dt} {xs : List En} (h : All2 (DE H) di xs) : All2 (DE H') di xs := all2_imp (fun _ _ q => ⟨q.1, q.2.tk k⟩) h
theorem dd_look {H : Hp} {k : Dt} : ∀ {di : Di Dt} {xs : List En}, All2 (DE H) di xs → match lookA di k, lookE xs k with
  | none, none => True
  | some b, some p => Rp H (.tup [.num b.1, rowD b.2]) p.2
  | _, _ => False := by
  intro di xs h
  induction h with
  | nil => exact trivial
  | @cons e x di xs a t ih =>
    unfold lookA lookE at ih ⊢
    rw [List.find?_cons, List.find?_cons, a.1]
    by_cases z : e.1 = k
    · rw [decide_eq_true z]
      exact a.2
    · rw [decide_eq_false z]
      exact ih
theorem dd_put {H : Hp} {k : Dt} {kv v : V} {c : Int} {r : Row} {di : Di Dt} {xs : List En} (h : All2 (DE H) di xs) (hv : Rp H (.tup [.num c, rowD r]) v) : All2 (DE H) (putA di k (c, r)) (putE xs k kv v) := by
  have hl := dd_look (k := k) h
  have hs : (lookE xs k).isSome = (lookA di k).isSome := by
    cases h1 : lookA di k <;> cases h2 : lookE xs k <;> rw [h1, h2] at hl <;> first | rfl | exact hl.elim
  have key : All2 (DE H) (di.map fun kv => if kv.1 = k then (kv.1, (c, r)) else kv) (xs.map (repE k v)) := by
    clear hl hs
    induction h with
    | nil => exact .nil
    | @cons e x di xs a t ih =>
      refine .cons ?_ ih
      unfold repE
      rw [a.1]
      show DE H (if e.1 = k then (e.1, (c, r)) else e) _
      by_cases z : e.1 = k
      · rw [if_pos z, if_pos z]
        exact ⟨rfl, hv⟩
      · rw [if_neg z, if_neg z]
        exact a
  have e : putA di k (c, r) = if (lookA di k).isSome then di.map fun kv => if kv.1 = k then (kv.1, (c, r)) else kv else di ++ [(k, (c, r))] := by
    unfold putA
    rw [any_look]
  rw [e]
  unfold putE
  rw [hs]
  by_cases z : (lookA di k).isSome = true
  · rw [if_pos z, if_pos z]
    exact key
  · rw [if_neg z, if_neg z]
    exact all2_app h (.cons ⟨rfl, hv⟩ .nil)
theorem put_len (d : Di Dt) (k : Dt) (b : Int × Row) : (putA d k b).length ≤ d.length + 1 := by
  unfold putA
  split
  · rw [List.length_map]; omega
  · rw [List.length_append]; exact Nat.le_refl _
theorem merge_len : ∀ T : List (Tr Dt), (mergeD T).length ≤ T.length := by
  have key : ∀ (T : List (Tr Dt)) (d : Di Dt), (T.foldl putStep d).length ≤ d.length + T.length := by
    intro T
    induction T with
    | nil => intro d; exact Nat.le_refl _
    | cons t T ih =>
      intro d
      have h1 := ih (putStep d t)
      have h2 : (putStep d t).length ≤ d.length + 1 := put_len _ _ _
      rw [List.foldl_cons, List.length_cons]
      omega
  intro T
  have := key T []
  rw [List.length_nil, Nat.zero_add] at this
  exact this
theorem vd_put {P : Program} {w : World} {b : Bool} {H : Hp} {d : Addr} {xs : List En} {k : Dt} {kv v : V} (h : VD P w b H d xs) (ko : KeyOk b k) (hk : Rp H k kv) : VD P w b (upd H d (VO P w b d (putE xs k kv v))) d (putE xs k kv v) := by
  have tk : TK H (upd H d (VO P w b d (putE xs k kv v))) := fun c ys e => by
    rw [upd_ne (fun z => by rw [z, h.1] at e; unfold VO at e; cases e)]
    exact e
  refine ⟨upd_same, fun x hx => ?_⟩
  unfold putE at hx
  split at hx
  · obtain ⟨y, hy, rfl⟩ := List.mem_map.mp hx
    obtain ⟨h1, h2⟩ := h.2 y hy
    unfold repE
    split
    · exact ⟨h1.tk tk, h2⟩
    · exact ⟨h1.tk tk, h2⟩
  · rcases List.mem_append.mp hx with hx | hx
    · obtain ⟨h1, h2⟩ := h.2 x hx
      exact ⟨h1.tk tk, h2⟩
    · rw [List.mem_singleton.mp hx]
      exact ⟨hk.tk tk, ko⟩
theorem tk_vo {P : Program} {w : World} {b : Bool} {H : Hp} {d : Addr} {xs : List En} {o : HO} (h : H d = some (VO P w b d xs)) : TK H (upd H d o) := fun c ys e => by
  rw [upd_ne (fun z => by rw [z, h] at e; unfold VO at e; cases e)]
  exact e
theorem DD.fut {T : Tbl} {P : Program} {w : World} {b : Bool} {H H1 : Hp} {d : Addr} {di : Di Dt} (f : Fut T H H1) (h : DD P w b H d di) : DD P w b H1 d di := by
  obtain ⟨xs, ⟨h1, h2⟩, h3⟩ := h
  exact ⟨xs, ⟨f.e _ _ h1 (fun _ z => by unfold VO at z; cases z), fun x hx => ⟨f.rp (h2 x hx).1, (h2 x hx).2⟩⟩, de_tk f.tk h3⟩
theorem all2_flip {α β : Type} {R : α → β → Prop} : ∀ {l : List α} {m : List β}, All2 R l m → All2 (fun b a => R a b) m l
  | _, _, .nil => .nil
  | _, _, .cons a t => .cons a (all2_flip t)
section
variable {T : Tbl} {σ : L2.St} {H : Hp} {K : PySem.W.Frag} {te : TE}
theorem EV.sort {β : Type} {bs : List β} (dOf : β → Dt) (row : β → Row) (j : Nat) (hit : ∀ b H x, Rp H (dOf b) x → ItemR H j x (row b)) (h : EV T te σ H (LR (fun b H v => Rp H (dOf b) v) bs)) : EV T (tSortR K T j te) σ H (fun H' v => LR (fun b H v => Rp H (dOf b) v) (byRow row bs) H' v ∧ NL H v) := fun H1 f1 Q q =>
  h H1 f1 _ fun v H2 f2 r => by
    obtain ⟨a, xs, rfl, h2, h3⟩ := r
    refine ⟨a, xs, β, bs, row, fun x b => Rp H2 (dOf b) x, rfl, SqL.of h2, all2_flip h3, fun x b hx => hit b H2 x hx, f2.t, fun H3 ys p e3 t3 hp hy => ?_⟩
    have f3 : Fut T H2 H3 := ⟨e3, t3⟩
    exact q _ _ ((f2.trans f3).new hp _) ⟨⟨p, ys, rfl, upd_same, all2_imp (fun b x r => (f3.rp r).tk (TK.new hp _)) (all2_flip hy)⟩, (NL.new hp).back ((f1.trans f2).trans f3)⟩
theorem item_tri (t : Tr Dt) (H : Hp) (x : V) (h : Rp H (triD t) x) : ItemR H 2 x t.2.2 := by
  obtain ⟨a, xs, rfl, h1, u, r, rfl, hu, v, r', rfl, hv, w, r'', rfl, hw, e'⟩ := h
  obtain ⟨b, rfl, hb⟩ := Rp.row.mp hw
  exact ⟨a, _, b, rfl, h1, rfl, hb⟩
def DI (e : Dt × (Int × Row)) : Dt := .tup [e.1, .tup [.num e.2.1, rowD e.2.2]]
theorem key_of {H : Hp} {x : V} {r : Row} (h : Rp H (.tup [.num r.length, rowD r]) x) : KeyAt H x r := by
  obtain ⟨t, xs, rfl, h1, u, r', rfl, hu, v, r'', rfl, hv, e⟩ := h
  obtain ⟨b, rfl, h2⟩ := Rp.row.mp hv
  rw [show r'' = [] from e, show u = .int r.length from hu] at h1
  exact ⟨t, b, rfl, h1, h2⟩
theorem ED.lenRow {r : Row} (h : ED T te σ H (rowD r)) : ED T (tCB (rLenK K) (tCons te tNil)) σ H (.num r.length) := ED.cast (ED.lenT h) (by rw [List.length_map])
theorem ED.keyRow {tl : TE} {r : Row} (h1 : ED T tl σ H (.num r.length)) (h : ED T te σ H (rowD r)) : ED T (tTup (tCons tl (tCons te tNil))) σ H (.tup [.num r.length, rowD r]) := ED.tup (EDs.cons h1 (EDs.cons h EDs.nil)) ln2
/-- min([key, key])[1] -/
theorem ED.minRow {ta tb : TE} {r l : Row} (ha : ED T ta σ H (.tup [.num r.length, rowD r])) (hb : ED T tb σ H (.tup [.num l.length, rowD l])) : ED T (tOp (rIxT K) (tCB (rMinK K) (tCons (tLst (tCons ta (tCons tb tNil))) tNil)) (tC (.int 1))) σ H (rowD (rmin r l)) := fun H1 f1 Q q =>
  show tLst (tCons ta (tCons tb tNil)) σ H1 (fun v H2 => rMinK K [v] H2 fun z H3 => rIxT K z (.int 1) H3 Q) from
  EL.lst (ds := [.tup [.num r.length, rowD r], .tup [.num l.length, rowD l]]) (EDs.cons ha (EDs.cons hb EDs.nil)) ln2 H1 f1 _ fun v H2 f2 h => by
    obtain ⟨p, xs, rfl, h2, x, r', rfl, rx, y, r'', rfl, ry, e⟩ := h
    rw [show r'' = [] from e] at h2
    refine ⟨p, x, y, r, l, rfl, SqL.of h2, key_of rx, key_of ry, fun z kz => ?_⟩
    obtain ⟨t, b, rfl, h3, h4⟩ := kz
    exact ⟨t, _, ((1 : Nat) : Int), .ref b, rfl, rfl, SqT.of h3, atI_nat rfl, q _ H2 f2 (Rp.row.mpr ⟨b, rfl, h4⟩)⟩
theorem g22 {a b c : Dt} {x : V} {i j k : Nat} (h : Rp H (.tup [a, .tup [b, c]]) x) : ∃ u v w, Rp H a u ∧ Rp H b v ∧ Rp H c w ∧ ∀ (σ : L2.St) (Q : L2.St → Hp → Prop), Q (((σ.set i (some u)).set j (some v)).set k (some w)) H → gTup K 2 (gCons (gName i) (gCons (gTup K 2 (gCons (gName j) (gCons (gName k) gNil))) gNil)) x σ H Q := by
  obtain ⟨p, xs, e, h1, u, r, rfl, hu, v, r', rfl, hv, e'⟩ := h
  rw [show r' = [] from e'] at h1
  obtain ⟨p', xs', rfl, h2, v, r, rfl, hv, w, r'', rfl, hw, e''⟩ := hv
  rw [show r'' = [] from e''] at h2
  exact ⟨u, v, w, hu, hv, hw, fun σ Q q => ⟨p, _, e, SqT.of h1, rfl, u, _, rfl, _, [], rfl, ⟨p', _, rfl, SqT.of h2, rfl, v, [w], rfl, w, [], rfl, rfl, rfl, q⟩⟩⟩
theorem IVn.items {P : Program} {w : World} {b : Bool} {i : Nat} {d : Addr} {o : Obj} {xs : List En} {di : Di Dt} (hi : σ[i]? = some (some (.ref d))) (hd : H d = some (.frz o (VO P w b d xs))) (hk : ∀ x ∈ xs, Rp H x.1 x.2.1) (h : All2 (DE H) di xs) :
    IVn T (iItemsV P w (tVar i)) σ H di.length (YL (fun e H x => Rp H (DI e) x) di) := fun H1 f1 Q q => by
  refine ⟨_, hi, b, d, o, xs, rfl, f1.frz hd, q _ H1 (fr f1) ?_⟩
  rw [h.length]
  refine ⟨fun i H' hi' f => ⟨f.frz (f1.frz hd), hi'⟩, fun H' f => ⟨f.frz (f1.frz hd), Nat.le_refl _⟩, fun i H' x H'' hi' f y => ?_⟩
  obtain ⟨t, e, he, rfl, ht, rfl⟩ := y
  obtain ⟨e', he', hde⟩ := all2_get h he
  have f0 := f1.trans f
  have k := hk e (List.mem_of_getElem? he)
  rw [hde.1] at k
  exact ⟨(fr f0).new ht _, e', he', Rp.new (ds := [e'.1, .tup [.num e'.2.1, rowD e'.2.2]]) ⟨_, _, rfl, f0.rp k, _, _, rfl, f0.rp hde.2, rfl⟩ ht⟩
end
section
variable {P : Program} {w : World} {K : PySem.W.Frag} {mg : Str → Option Value} {base : Heap} {T : Tbl} (g : G K mg base T)
/-- a table, sorted by its rows -/
def byT (T : List (Tr Dt)) : List (Tr Dt) := byRow (fun t => t.2.2) T
abbrev N_in_order : List Str := ["found", "triples", "value", "count", "row"]
theorem sc_in_order : FnScope N_in_order ["found"] (defScope s_in_order) := ⟨rfl, rfl, rfl, by decide +kernel, rfl, by decide +kernel, by decide +kernel⟩
theorem ok_in_order : FnOk P w K mg base CX0 3 g.in_order.a g.in_order.d ["found"] (PmL T (fun (z : Bool × Di Dt) H vs => ∃ d, vs = [.ref d] ∧ DD P w z.1 H d z.2 ∧ z.2.length ≤ 100000) fun z H v => LdT (byT (z.2.map trOf)) H v) := by
  refine pm_okCL g.c_in_order sc_in_order (fun z H vs h => by obtain ⟨v, rfl, _⟩ := h; rfl) fun cd P' A outer s H vs Q E z TB hmT hu hr h ht hq => ?_
  obtain ⟨b, di⟩ := z
  obtain ⟨d, rfl, hd, hl⟩ := h
  refine ⟨_, (pss_cons (ps_lock (ps_setLc (own := [("value", 2), ("count", 3), ("row", 4)]) (i := 1) rfl sc_in_order.nd rfl rfl (by first | exact sw_true rfl rfl rfl (by decide +kernel) | rfl) (pi_itemsV (pv 0)) (blkOk_by (own := [("value", 2), ("count", 3), ("row", 4)]) (N := N_in_order) (sc := defScope s_in_order) (by decide +kernel)) (fun _ _ _ _ _ => (pg_tupK K rfl 2 rfl (pgs_cons (pg_name (i := 2) sc_in_order.nd rfl (Or.inl rfl)) (pgs_cons (pg_tupK K rfl 2 rfl (pgs_cons (pg_name (i := 3) sc_in_order.nd rfl (Or.inl rfl)) (pgs_cons (pg_name (i := 4) sc_in_order.nd rfl (Or.inl rfl)) pgs_nil))) pgs_nil)))) (fun _ _ _ _ _ => pts_nil) (fun _ _ _ _ _ => (pe_tup (pa_cons (pv 2) (pa_cons (pv 3) (pa_cons (pv 4) pa_nil))))))) (pss_one (ps_ret (pe_sortQ (("in_order" : Str) ++ (".<locals>." : Str)) rfl (j := 2) (k := 1) (x := "triple") (pv 1) rfl g.n_sorted g.n_len (hr.mono (by omega)) TB rfl hmT hu rfl rfl (by decide) (fun _ _ _ _ _ => rfl) rfl rfl rfl (by decide) rfl rfl (by decide) (by decide))))), ?_⟩
  obtain ⟨xs, ⟨hx, hk⟩, hde⟩ := hd
  refine ⟨d, _, hx, trivial, fun od => ?_⟩
  have tk : TK H (upd H d (.frz od (VO P w b d xs))) := tk_vo hx
  have tl : LamX.Tabs T (upd H d (.frz od (VO P w b d xs))) := tabs_upd ht hx (fun _ z => by unfold VO at z; cases z) fun _ => vo_code
  refine S.set (EV.lcM (R := fun t H v => Rp H (triD t) v) (S := fun e H x => Rp H (DI e) x) stab_tri sep_tri (IVn.items rfl upd_same (fun x hx => ((hk x hx).1).tk tk) (de_tk tk hde)) (line6 (by have hl : di.length ≤ 100000 := hl; omega)) trOf fun e x H1 me f1 y => ?_) tl fun v H1 f1 r => ?_
  · obtain ⟨x1, x2, x3, r1, r2, r3, hg⟩ := g22 (K := K) (i := 2) (j := 3) (k := 4) y
    exact ⟨_, fun Q q => hg _ _ q, rfl, ED.nl (ED.tup (ds := [e.1, .num e.2.1, rowD e.2.2]) (EDs.cons (ED.var rfl r1) (EDs.cons (ED.var rfl r2) (EDs.cons (ED.var rfl r3) EDs.nil))) ln3)⟩
  · have fz : H1 d = some (.frz od (VO P w b d xs)) := f1.frz upd_same
    refine ⟨fz, ?_⟩
    have f2 : Fut T H (upd H1 d (VO P w b d xs)) := by
      refine ⟨fun c o e n => ?_, tabs_upd f1.t fz (fun _ z => by cases z) fun _ z => by unfold LamX.CodeO at z; cases z⟩
      by_cases z : c = d
      · rw [z, hx] at e
        cases e
        rw [z]
        exact upd_same
      · rw [upd_ne z]
        exact f1.e c o (by rw [upd_ne z]; exact e) n
    have r1 : LdT (di.map trOf) (upd H1 d (VO P w b d xs)) v := by
      obtain ⟨p, ys, rfl, h1, h2⟩ := r.1
      refine ⟨p, ys, rfl, ?_, all2_imp (fun t x q => q.tk fun c zs e => ?_) h2⟩
      · rw [upd_ne (fun z => by rw [z, fz] at h1; cases h1)]
        exact h1
      · rw [upd_ne (fun z => by rw [z, fz] at e; cases e)]
        exact e
    exact S.ret (EV.sort triD (fun t => t.2.2) 2 item_tri (EV.var rfl fun H' f => r1.fut stab_tri f)) f2.t fun v' H3 f3 r3 => hq _ _ (f2.trans f3) ⟨r3.1, r3.2.back f2⟩
abbrev N_put_together : List Str := ["triples", "found", "value", "count", "row", "many", "least"]
theorem sc_put_together : FnScope N_put_together ["triples"] (defScope s_put_together) := ⟨rfl, rfl, rfl, by decide +kernel, rfl, by decide +kernel, by decide +kernel⟩
theorem ok_put_together : FnOk P w K mg base CX0 4 g.put_together.a g.put_together.d ["triples"] (PmL T (fun (z : Bool × List (Tr Dt)) H vs => ∃ v, vs = [v] ∧ LdT z.2 H v ∧ (∀ t ∈ z.2, KeyOk z.1 t.1) ∧ z.2.length ≤ 100000) fun z H v => LdT (byT (mergeM z.2)) H v) := by
  have OK_in_order := ok_in_order (P := P) (w := w) g
  refine pm_okL g.put_together.F sc_put_together (fun z H vs h => by obtain ⟨v, rfl, _⟩ := h; rfl) fun cdv A outer s H vs Q E z hr h ht hq => ?_
  obtain ⟨b, L⟩ := z
  obtain ⟨u, rfl, hL, hk, hl⟩ := h
  have hk : ∀ t ∈ L, KeyOk b t.1 := hk
  have hl : L.length ≤ 100000 := hl
  have hL : LdT L H u := hL
  refine ⟨_, (pss_cons (ps_set (i := 1) sc_put_together.nd rfl (Or.inl rfl) pe_newV) (pss_cons (ps_for PassesOwn.never rfl (pi_listK K rfl (pv 0)) (pg_tupK K rfl 3 rfl (pgs_cons (pg_name (i := 2) sc_put_together.nd rfl (Or.inl rfl)) (pgs_cons (pg_name (i := 3) sc_put_together.nd rfl (Or.inl rfl)) (pgs_cons (pg_name (i := 4) sc_put_together.nd rfl (Or.inl rfl)) pgs_nil)))) (pss_cons (ps_if (pt_cmpR (op_inV (hu64 hr)) (pv 2) (pv 1) (by rfl)) (pss_cons (ps_asg (pe_getV (hu64 hr) (pv 1) (pv 2) (fun _ _ => rfl)) (pg_tupK K rfl 2 rfl (pgs_cons (pg_name (i := 5) sc_put_together.nd rfl (Or.inl rfl)) (pgs_cons (pg_name (i := 6) sc_put_together.nd rfl (Or.inl rfl)) pgs_nil)))) (pss_cons (ps_set (i := 3) sc_put_together.nd rfl (Or.inl rfl) (pe_op op_add (pv 3) (pv 5))) (pss_one (ps_set (i := 4) sc_put_together.nd rfl (Or.inl rfl) (pe_ix (ix_tupK K rfl) (pe_callB (cr_minKK K rfl rfl (hu64 hr)) rfl g.n_min (by decide +kernel) (pa_cons (pe_lst (pa_cons (pe_tup (pa_cons (pe_callB (cr_lenK K rfl) rfl g.n_len boot_len (pa_cons (pv 4) pa_nil)) (pa_cons (pv 4) pa_nil))) (pa_cons (pe_tup (pa_cons (pe_callB (cr_lenK K rfl) rfl g.n_len boot_len (pa_cons (pv 6) pa_nil)) (pa_cons (pv 6) pa_nil))) pa_nil))) pa_nil)) pe_int (fun _ _ => rfl)))))) pss_nil) (pss_one (ps_asg (pe_tup (pa_cons (pv 3) (pa_cons (pv 4) pa_nil))) (pg_sub (pv 1) (pv 2) (set_V (hu64 hr))))))) (pss_one (ps_ret (pe_call OK_in_order (hr.mono (by omega)) rfl g.in_order.m g.in_order.F.kp (b_in_order g.in_order) .nil pass0 (pa_cons (pv 1) pa_nil)))))), ?_⟩
  refine ⟨b, fun p hp => ?_⟩
  have f0 : Fut T H (upd H p (VO P w b p [])) := Fut.newR ht hp _
  refine Sq.for (B := H) (IV.list rfl hL f0) (fun i σ H' => Fut T H H' ∧ DD P w b H' p (mergeD (L.take i)) ∧ ∃ a c d e f, σ = [some u, some (.ref p), a, c, d, e, f]) ⟨f0, ⟨[], ⟨upd_same, fun x hx => (nomatch hx)⟩, .nil⟩, none, none, none, none, none, rfl⟩ (fun i σ H' h => h.1) (fun i x σ H1 hi h y => ?_) fun σ H1 h => ?_
  · obtain ⟨f1, ⟨xs, ⟨hx, hxk⟩, hde⟩, a, c, d, e, f, rfl⟩ := h
    obtain ⟨t, et, y⟩ := y
    have mt := List.mem_of_getElem? et
    have kt := hk t mt
    obtain ⟨x1, x2, x3, r1, r2, r3, hg⟩ := g3 (K := K) (i := 2) (j := 3) (k := 4) y
    refine hg _ f1.tk _ _ ?_
    have r1' := f1.rp r1
    have ex : mergeD (L.take (i + 1)) = putStep (mergeD (L.take i)) t := by rw [take_succ_of et, mergeD_snoc]
    have hlen : xs.length < sizeLine := by
      rw [← hde.length]
      have h1 := merge_len (L.take i)
      rw [List.length_take] at h1
      exact line6' (by omega)
    have hlk := dd_look (k := t.1) hde
    -- the store, from any heap that follows
    have store : ∀ (H2 : Hp), Fut T H1 H2 → ∀ (c' : Int) (r' : Row) (v3 v4 v5 v6 : V) (d5 d6 : Option V), Rp H2 (.num c') v3 → Rp H2 (rowD r') v4 → putStep (mergeD (L.take i)) t = putA (mergeD (L.take i)) t.1 (c', r') →
        ∀ D' : Ends, (∀ H3, Fut T H H3 → DD P w b H3 p (mergeD (L.take (i + 1))) → D'.nx [some u, some (.ref p), some x1, some v3, some v4, d5, d6] H3) →
        tAsg (tTup (tCons (tVar 3) (tCons (tVar 4) tNil))) (gSub (tVar 1) (tVar 2) (rSetV P w)) D' [some u, some (.ref p), some x1, some v3, some v4, d5, d6] H2 := fun H2 f2 c' r' v3 v4 v5 v6 d5 d6 q3 q4 es D' kD => by
      refine S.asg (ED.tup (ds := [.num c', rowD r']) (EDs.cons (ED.var rfl q3) (EDs.cons (ED.var rfl q4) EDs.nil)) ln2) f2.t fun v7 H3 f3 r7 => ?_
      have f13 := f2.trans f3
      have hx3 : H3 p = some (VO P w b p xs) := f13.e _ _ hx fun _ z => by unfold VO at z; cases z
      have vd3 : VD P w b H3 p xs := ⟨hx3, fun x hx' => ⟨f13.rp (hxk x hx').1, (hxk x hx').2⟩⟩
      refine ⟨_, rfl, _, rfl, b, p, xs, t.1, rfl, vd3, kt, f13.rp r1', hlen, ?_⟩
      refine kD _ ((f1.trans f13).putV hp hx3) ⟨putE xs t.1 x1 v7, vd_put vd3 kt (f13.rp r1'), ?_⟩
      rw [ex, es]
      exact de_tk (tk_vo hx3) (dd_put (de_tk f13.tk hde) r7)
    have inV : ∀ {σ : L2.St}, σ[2]? = some (some x1) → σ[1]? = some (some (.ref p)) → EB T (tOp (rInV P w) (tVar 2) (tVar 1)) σ H1 (lookE xs t.1).isSome := fun h2 h1 H2 f2 Q q => ⟨_, h2, _, h1, b, p, xs, t.1, rfl, ⟨f2.e _ _ hx (fun _ z => by unfold VO at z; cases z), fun x hx' => ⟨f2.rp (hxk x hx').1, (hxk x hx').2⟩⟩, kt, f2.rp r1', q _ _ (fr f2) rfl⟩
    cases hA : lookA (mergeD (L.take i)) t.1 with
    | none =>
      have hE : lookE xs t.1 = none := by
        rw [hA] at hlk
        cases q : lookE xs t.1 with
        | none => rfl
        | some _ => rw [q] at hlk; exact hlk.elim
      have es : putStep (mergeD (L.take i)) t = putA (mergeD (L.take i)) t.1 (t.2.1, t.2.2) := by
        unfold putStep
        rw [hA]
      refine Sq.no (ET.imp (.of (inV rfl rfl)) (by rw [hE]; rfl)) f1.t fun H2 f2 => ?_
      exact store H2 f2 t.2.1 t.2.2 x2 x3 x2 x3 _ _ ((f1.trans f2).rp r2) ((f1.trans f2).rp r3) es _ fun H3 f3 hd => ⟨f3, hd, _, _, _, _, _, rfl⟩
    | some bb =>
      obtain ⟨pp, hE, rpp⟩ : ∃ pp, lookE xs t.1 = some pp ∧ Rp H1 (.tup [.num bb.1, rowD bb.2]) pp.2 := by
        rw [hA] at hlk
        cases q : lookE xs t.1 with
        | none => rw [q] at hlk; exact hlk.elim
        | some pp => rw [q] at hlk; exact ⟨pp, rfl, hlk⟩
      have es : putStep (mergeD (L.take i)) t = putA (mergeD (L.take i)) t.1 (t.2.1 + bb.1, rmin t.2.2 bb.2) := by
        unfold putStep
        rw [hA]
      refine Sq.yes (ET.imp (.of (inV rfl rfl)) (by rw [hE]; rfl)) f1.t fun H2 f2 => ?_
      have f12 := f1.trans f2
      have hx2 : H2 p = some (VO P w b p xs) := f2.e _ _ hx fun _ z => by unfold VO at z; cases z
      have getV : EV T (tGetV P w (tVar 1) (tVar 2)) [some u, some (.ref p), some x1, some x2, some x3, e, f] H2 (fun H v => Rp H (.tup [.num bb.1, rowD bb.2]) v) := fun H3 f3 Q q => ⟨_, rfl, _, rfl, b, p, xs, t.1, pp, rfl, ⟨f3.e _ _ hx2 (fun _ z => by unfold VO at z; cases z), fun x hx' => ⟨(f2.trans f3).rp (hxk x hx').1, (hxk x hx').2⟩⟩, kt, (f2.trans f3).rp r1', hE, q _ _ (fr f3) ((f2.trans f3).rp rpp)⟩
      refine Sq.asg getV f2.t fun v3 H3 f3 r3' => ?_
      obtain ⟨y1, y2, q1, q2, hg'⟩ := g2 (K := K) (i := 5) (j := 6) r3'
      refine hg' _ (TK.refl _) _ _ ?_
      have f13 := f12.trans f3
      refine Sq.set (ED.add (i := t.2.1) (j := bb.1) (ED.var rfl (f13.rp r2)) (ED.var rfl q1)) f3.t fun v4 H4 f4 r4 => ?_
      have f14 := f13.trans f4
      refine S.set (ED.minRow (r := t.2.2) (l := bb.2) (ED.keyRow (ED.lenRow (ED.var rfl (f14.rp r3))) (ED.var rfl (f14.rp r3))) (ED.keyRow (ED.lenRow (ED.var rfl (f4.rp q2))) (ED.var rfl (f4.rp q2)))) f4.t fun v5 H5 f5 r5 => ?_
      exact store H5 (((f2.trans f3).trans f4).trans f5) (t.2.1 + bb.1) (rmin t.2.2 bb.2) v4 v5 v4 v5 _ _ (f5.rp r4) r5 es _ fun H6 f6 hd => ⟨f6, hd, _, _, _, _, _, rfl⟩
  · obtain ⟨f1, hd, a, c, d, e, f, rfl⟩ := h
    rw [List.take_of_length_le (Nat.le_refl _)] at hd
    refine S.ret (EV.fnL (z := (b, mergeD L)) (EA.imp (EA.one (EV.var (R := fun H' v => v = .ref p ∧ DD P w b H' p (mergeD L)) rfl fun H' f => ⟨rfl, hd.fut f⟩)) fun H' vs f r => ?_)) f1.t fun v' H2 f2 r => hq _ _ (f1.trans f2) ⟨r.1, r.2.back f1⟩
    obtain ⟨v, rfl, rfl, r⟩ := r
    exact ⟨p, rfl, r, Nat.le_trans (merge_len L) hl⟩
end
end CR

set_option Elab.async false
set_option linter.all false
set_option maxRecDepth 100000
set_option maxHeartbeats 4000000
namespace CR
open PySem PySem.Spec PyProof.Rows L2
section
variable {T : Tbl} {σ : L2.St} {H : Hp} {K : PySem.W.Frag} {D : Ends} {te ta tb : TE}
/-- l[i] -/
theorem EV.ixL {β : Type} {R : β → Hp → V → Prop} {bs : List β} {i : Nat} {b : β} (s : Stab T R) (ha : EV T ta σ H (LR R bs)) (hb : ED T tb σ H (.num (i : Nat))) (hi : bs[i]? = some b) : EV T (tOp (rIxL K) ta tb) σ H (R b) := fun H1 f1 Q q =>
  ha H1 f1 _ fun x H2 f2 rx => hb H2 (f1.trans f2) _ fun y H3 f3 ry => by
    obtain ⟨p, xs, rfl, h1, h2⟩ := rx
    obtain ⟨z, hz, rz⟩ := all2_fwd h2 hi
    exact ⟨p, xs, (i : Int), z, rfl, ry, SqL.of (f3.lst h1), atI_nat hz, q z H3 (f2.trans f3) (s b _ _ z f3 rz)⟩
/-- name in (a, b, ..), texts -/
theorem EA.strs : ∀ {ws : List Str} {ta : TA}, (∀ Q : List V → Hp → Prop, ∀ H1, Q (ws.map V.str) H1 → ta σ H1 Q) → EA T ta σ H (fun _ vs => vs = ws.map V.str) := fun h H1 f1 Q q => h Q H1 (q _ H1 (fr f1) rfl)
theorem EB.inStr {i : Nat} {s : Str} {ws : List Str} {t : TA} (h : σ[i]? = some (some (.str s))) (ht : ∀ Q : List V → Hp → Prop, ∀ H1, Q (ws.map V.str) H1 → t σ H1 Q) (hl : ws.length ≤ 1000) : EB T (tOp (rIn K false) (tVar i) (tTup t)) σ H (inV (.str s) (ws.map V.str)) := fun H1 f1 Q q =>
  ⟨_, h, ht _ H1 ⟨by rw [List.length_map]; exact line6 (by omega), fun p hp => ⟨p, _, rfl, .inr (SqT.of upd_same), rfl, List.all_eq_true.mpr fun v hv => by
    obtain ⟨w', _, rfl⟩ := List.mem_map.mp hv
    rfl, q _ _ ((fr f1).new hp _) rfl⟩⟩⟩
/-- list(t) -/
theorem EL.listOf {ds : List Dt} (h : ED T te σ H (.tup ds)) : EV T (tCB (rListK K) (tCons te tNil)) σ H (fun H' v => Ld H' ds v ∧ NL H v) := fun H1 f1 Q q =>
  h H1 f1 _ fun v H2 f2 r => by
    obtain ⟨a, xs, rfl, h2, h3⟩ := r
    exact ⟨a, xs, rfl, .inr (SqT.of h2), fun p hp => q _ _ (f2.new hp _) ⟨⟨p, xs, rfl, upd_same, h3.tk (TK.new hp _)⟩, (NL.new hp).back (f1.trans f2)⟩⟩
theorem EL.lstN {ds : List Dt} {tr : TA} (h : EDs T tr σ H ds) (hl : ds.length ≤ sizeLine) : EV T (tLst tr) σ H (fun H' v => Ld H' ds v ∧ NL H v) := fun H1 f1 Q q =>
  h H1 f1 _ fun vs H2 f2 rs => ⟨by rw [rs.length]; exact hl, fun p hp => q _ _ (f2.new hp _) ⟨⟨p, vs, rfl, upd_same, rs.tk (TK.new hp _)⟩, (NL.new hp).back (f1.trans f2)⟩⟩
end
structure PreM (m : Mp) (v : Dt) (k k' : Kd) : Prop where
  fits : MFits m k k'
  has : HasK k v
  sz : Sz v
abbrev LdG (gs : List Gen) (H : Hp) (v : V) : Prop := LR (fun (g : Gen) H v => Rp H g.d v) gs H v
theorem ldg {gs : List Gen} {H : Hp} {v : V} (h : Ld H (gs.map Gen.d) v) : LdG gs H v := lr_map.mp (ld_lr.mp h)
section
variable {P : Program} {w : World} {K : PySem.W.Frag} {mg : Str → Option Value} {base : Heap} {T : Tbl} (g : G K mg base T)
theorem flat_of {b : Bs} {ds : List Dt} (h : ∀ x ∈ ds, HasB b x) : Flat ds := by
  cases b with
  | int => exact .inl ⟨ds.map numD, nums_of h⟩
  | word =>
    refine .inr ⟨ds.map strD, ?_⟩
    induction ds with
    | nil => rfl
    | cons d ds ih =>
      obtain ⟨x, rfl, _⟩ := h d List.mem_cons_self
      rw [List.map_cons, List.map_cons, ← ih fun e he => h e (List.mem_cons_of_mem _ he)]
      rfl
abbrev N_turn : List Str := ["some_map", "value", "name"]
theorem sc_turn : FnScope N_turn ["some_map", "value"] (defScope s_turn) := ⟨rfl, rfl, rfl, by decide +kernel, rfl, by decide +kernel, by decide +kernel⟩
theorem ok_turn : FnOk P w K mg base CX0 1 g.turn.a g.turn.d ["some_map", "value"] (Pm T (fun (z : Mp × Dt × Kd × Kd) H vs => ∃ a b, vs = [a, b] ∧ Rp H z.1.d a ∧ Rp H z.2.1 b ∧ PreM z.1 z.2.1 z.2.2.1 z.2.2.2) fun z H v => Rp H (turnM z.1 z.2.1) v) := by
  refine pm_ok g.turn.F sc_turn (fun z H vs h => by obtain ⟨a, b, rfl, _⟩ := h; rfl) fun cdv A outer s H vs Q E z hr h ht hq => ?_
  obtain ⟨m, d, k, k'⟩ := z
  obtain ⟨a, b, rfl, ha, hb, pr⟩ := h
  have pr : PreM m d k k' := pr
  have hb : Rp H d b := hb
  refine ⟨_, (pss_cons (ps_set (i := 2) sc_turn.nd rfl (Or.inl rfl) (pe_ix (ix_tupK K rfl) (pv 0) pe_int (fun _ _ => rfl))) (pss_cons (ps_if (pt_cmpR op_eq (pv 2) pe_str (nomark _)) (pss_one (ps_ret (pe_op op_add (pv 1) (pe_ix (ix_tupK K rfl) (pv 0) pe_int (fun _ _ => rfl))))) pss_nil) (pss_cons (ps_if (pt_cmpR op_eq (pv 2) pe_str (nomark _)) (pss_one (ps_ret (pe_op op_mul (pv 1) (pe_ix (ix_tupK K rfl) (pv 0) pe_int (fun _ _ => rfl))))) pss_nil) (pss_cons (ps_if (pt_cmpR op_eq (pv 2) pe_str (nomark _)) (pss_one (ps_ret (pe_ix (ix_tupK K rfl) (pv 1) (pe_ix (ix_tupK K rfl) (pv 0) pe_int (fun _ _ => rfl)) (fun _ _ => rfl)))) pss_nil) (pss_cons (ps_if (pt_cmpR op_eq (pv 2) pe_str (nomark _)) (pss_one (ps_ret (pe_callB (cr_lenK K rfl) rfl g.n_len boot_len (pa_cons (pv 1) pa_nil)))) pss_nil) (pss_cons (ps_if (pt_cmpR op_eq (pv 2) pe_str (nomark _)) (pss_one (ps_ret (pe_callB (cr_sumTK K rfl rfl) rfl g.n_sum (by decide +kernel) (pa_cons (pv 1) pa_nil)))) pss_nil) (pss_cons (ps_if (pt_cmpR op_eq (pv 2) pe_str (nomark _)) (pss_one (ps_ret (pe_callTy (cr_tupleK K rfl) rfl g.n_tuple (by decide +kernel) (pa_cons (pe_callB (cr_sortT (hu64 hr)) rfl g.n_sorted (by decide +kernel) (pa_cons (pv 1) pa_nil)) pa_nil)))) pss_nil) (pss_one (ps_ret (pe_revT (pv 1))))))))))), ?_⟩
  cases m with
  | plus n =>
    obtain ⟨rfl, rfl⟩ := pr.fits
    obtain ⟨i, rfl⟩ := pr.has
    refine Sq.name rfl ha ?_
    refine Sq.nmY rfl (by decide +kernel) ?_
    exact S.ret (ED.add (ED.var (d := .num i) rfl hb) (ED.ix (ED.var rfl ha) (ED.int 1) rfl)) ht fun v' H2 f r => hq _ _ f r
  | times n =>
    obtain ⟨rfl, rfl, n1, n2⟩ := pr.fits
    obtain ⟨i, rfl⟩ := pr.has
    refine Sq.name rfl ha ?_
    iterate 1 refine Sq.nmN rfl (by decide +kernel) ?_
    refine Sq.nmY rfl (by decide +kernel) ?_
    exact S.ret (ED.mul (ED.var (d := .num i) rfl hb) (ED.ix (d := .num n) (ED.var rfl ha) (ED.int 1) rfl) (.inr ⟨by omega, by omega⟩)) ht fun v' H2 f r => hq _ _ f r
  | length =>
    obtain ⟨⟨j, rfl⟩, rfl⟩ := pr.fits
    obtain ⟨ds, rfl, hds⟩ := pr.has
    refine Sq.name rfl ha ?_
    iterate 3 refine Sq.nmN rfl (by decide +kernel) ?_
    refine Sq.nmY rfl (by decide +kernel) ?_
    exact S.ret (ED.lenT (ED.var rfl hb)) ht fun v' H2 f r => hq _ _ f r
  | sum =>
    obtain ⟨rfl, rfl⟩ := pr.fits
    obtain ⟨ds, rfl, hds⟩ := pr.has
    refine Sq.name rfl ha ?_
    iterate 4 refine Sq.nmN rfl (by decide +kernel) ?_
    refine Sq.nmY rfl (by decide +kernel) ?_
    exact S.ret (ED.sumT (ED.var rfl hb) fun x hx => hds x hx) ht fun v' H2 f r => hq _ _ f r
  | sorted =>
    obtain ⟨b', rfl, rfl⟩ := pr.fits
    obtain ⟨ds, rfl, hds⟩ := pr.has
    refine Sq.name rfl ha ?_
    iterate 5 refine Sq.nmN rfl (by decide +kernel) ?_
    refine Sq.nmY rfl (by decide +kernel) ?_
    exact S.ret (ED.tupOf (EL.sortT (ED.var rfl hb) (flat_of hds))) ht fun v' H2 f r => hq _ _ f r
  | reversed =>
    obtain ⟨⟨j, rfl⟩, rfl⟩ := pr.fits
    obtain ⟨ds, rfl, hds⟩ := pr.has
    refine Sq.name rfl ha ?_
    iterate 6 refine Sq.nmN rfl (by decide +kernel) ?_
    exact S.ret (ED.rev (ED.var rfl hb)) ht fun v' H2 f r => hq _ _ f r
abbrev N_parts_of : List Str := ["generator", "name"]
theorem sc_parts_of : FnScope N_parts_of ["generator"] (defScope s_parts_of) := ⟨rfl, rfl, rfl, by decide +kernel, rfl, by decide +kernel, by decide +kernel⟩
theorem ok_parts_of : FnOk P w K mg base CX0 1 g.parts_of.a g.parts_of.d ["generator"] (PmL T (fun (z : Gen) H vs => ∃ a, vs = [a] ∧ Rp H z.d a ∧ z.parts.length ≤ 1000) fun z H v => LdG z.parts H v) := by
  refine pm_okL g.parts_of.F sc_parts_of (fun z H vs h => by obtain ⟨a, rfl, _⟩ := h; rfl) fun cdv A outer s H vs Q E z hr h ht hq => ?_
  obtain ⟨a, rfl, ha, hl⟩ := h
  refine ⟨_, (pss_cons (ps_set (i := 1) sc_parts_of.nd rfl (Or.inl rfl) (pe_ix (ix_tupK K rfl) (pv 0) pe_int (fun _ _ => rfl))) (pss_cons (ps_if (pt_cmpR (op_inK K rfl) (pv 1) (pe_tup (pa_cons pe_str (pa_cons pe_str pa_nil))) (by rfl)) (pss_one (ps_ret (pe_callTy (cr_listK K rfl) rfl g.n_list (by decide +kernel) (pa_cons (pe_ix (ix_tupK K rfl) (pv 0) pe_int (fun _ _ => rfl)) pa_nil)))) pss_nil) (pss_cons (ps_if (pt_cmpR (op_inK K rfl) (pv 1) (pe_tup (pa_cons pe_str (pa_cons pe_str (pa_cons pe_str pa_nil)))) (by rfl)) (pss_one (ps_ret (pe_lst (pa_cons (pe_ix (ix_tupK K rfl) (pv 0) pe_int (fun _ _ => rfl)) pa_nil)))) pss_nil) (pss_cons (ps_if (pt_cmpR op_eq (pv 1) pe_str (nomark _)) (pss_one (ps_ret (pe_lst (pa_cons (pe_ix (ix_tupK K rfl) (pv 0) pe_int (fun _ _ => rfl)) (pa_cons (pe_ix (ix_tupK K rfl) (pv 0) pe_int (fun _ _ => rfl)) pa_nil))))) pss_nil) (pss_one (ps_ret (pe_lst pa_nil))))))), ?_⟩
  cases z with
  | leaf l =>
    cases l with
    | int lo hi =>
      refine Sq.name rfl ha ?_
      refine Sq.no (ET.imp (.of (EB.inStr (ws := ["tuple", "one"]) rfl (fun Q H q => q) (by decide))) (b := inV _ _) (c := false) (by decide +kernel)) ht fun H1 f1 => ?_
      refine Sq.no (ET.imp (.of (EB.inStr (ws := ["list", "kept", "turned"]) rfl (fun Q H q => q) (by decide))) (b := inV _ _) (c := false) (by decide +kernel)) f1.t fun H2 f2 => ?_
      have f12 := f1.trans f2
      refine Sq.nmN rfl (by decide +kernel) ?_
      exact S.ret (EV.nilL (S := fun (g : Gen) H v => Rp H g.d v)) f12.t fun v' H3 f r => hq _ _ (f12.trans f) ⟨r.1, r.2.back f12⟩
    | pick ws =>
      refine Sq.name rfl ha ?_
      refine Sq.no (ET.imp (.of (EB.inStr (ws := ["tuple", "one"]) rfl (fun Q H q => q) (by decide))) (b := inV _ _) (c := false) (by decide +kernel)) ht fun H1 f1 => ?_
      refine Sq.no (ET.imp (.of (EB.inStr (ws := ["list", "kept", "turned"]) rfl (fun Q H q => q) (by decide))) (b := inV _ _) (c := false) (by decide +kernel)) f1.t fun H2 f2 => ?_
      have f12 := f1.trans f2
      refine Sq.nmN rfl (by decide +kernel) ?_
      exact S.ret (EV.nilL (S := fun (g : Gen) H v => Rp H g.d v)) f12.t fun v' H3 f r => hq _ _ (f12.trans f) ⟨r.1, r.2.back f12⟩
  | tuple ls =>
    refine Sq.name rfl ha ?_
    refine Sq.yes (ET.imp (.of (EB.inStr (ws := ["tuple", "one"]) rfl (fun Q H q => q) (by decide))) (b := inV _ _) (c := true) (by decide +kernel)) ht fun H1 f1 => ?_
    exact S.ret (EL.listOf (ds := ls.map Lf.d) (ED.ix (ED.var rfl (f1.rp ha)) (ED.int 1) rfl)) f1.t fun v' H3 f r => hq _ _ (f1.trans f) ⟨ldg (gs := ls.map Gen.leaf) (by rw [List.map_map]; exact r.1), r.2.back f1⟩
  | list p l m =>
    refine Sq.name rfl ha ?_
    refine Sq.no (ET.imp (.of (EB.inStr (ws := ["tuple", "one"]) rfl (fun Q H q => q) (by decide))) (b := inV _ _) (c := false) (by decide +kernel)) ht fun H1 f1 => ?_
    refine Sq.yes (ET.imp (.of (EB.inStr (ws := ["list", "kept", "turned"]) rfl (fun Q H q => q) (by decide))) (b := inV _ _) (c := true) (by decide +kernel)) f1.t fun H2 f2 => ?_
    have f12 := f1.trans f2
    exact S.ret (EL.lstN (ds := [p.d]) (EDs.cons (ED.ix (ED.var rfl (f12.rp ha)) (ED.int 1) rfl) EDs.nil) ln1) f12.t fun v' H3 f r => hq _ _ (f12.trans f) ⟨ldg (gs := [p]) r.1, r.2.back f12⟩
  | one p =>
    refine Sq.name rfl ha ?_
    refine Sq.yes (ET.imp (.of (EB.inStr (ws := ["tuple", "one"]) rfl (fun Q H q => q) (by decide))) (b := inV _ _) (c := true) (by decide +kernel)) ht fun H1 f1 => ?_
    exact S.ret (EL.listOf (ds := [p.d]) (ED.ix (ED.var rfl (f1.rp ha)) (ED.int 1) rfl)) f1.t fun v' H3 f r => hq _ _ (f1.trans f) ⟨ldg (gs := [p]) r.1, r.2.back f1⟩
  | two p q =>
    refine Sq.name rfl ha ?_
    refine Sq.yes (ET.imp (.of (EB.inStr (ws := ["tuple", "one"]) rfl (fun Q H q => q) (by decide))) (b := inV _ _) (c := true) (by decide +kernel)) ht fun H1 f1 => ?_
    exact S.ret (EL.listOf (ds := [p.d, q.d]) (ED.ix (ED.var rfl (f1.rp ha)) (ED.int 1) rfl)) f1.t fun v' H3 f r => hq _ _ (f1.trans f) ⟨ldg (gs := [p, q]) r.1, r.2.back f1⟩
  | kept p c =>
    refine Sq.name rfl ha ?_
    refine Sq.no (ET.imp (.of (EB.inStr (ws := ["tuple", "one"]) rfl (fun Q H q => q) (by decide))) (b := inV _ _) (c := false) (by decide +kernel)) ht fun H1 f1 => ?_
    refine Sq.yes (ET.imp (.of (EB.inStr (ws := ["list", "kept", "turned"]) rfl (fun Q H q => q) (by decide))) (b := inV _ _) (c := true) (by decide +kernel)) f1.t fun H2 f2 => ?_
    have f12 := f1.trans f2
    exact S.ret (EL.lstN (ds := [p.d]) (EDs.cons (ED.ix (ED.var rfl (f12.rp ha)) (ED.int 1) rfl) EDs.nil) ln1) f12.t fun v' H3 f r => hq _ _ (f12.trans f) ⟨ldg (gs := [p]) r.1, r.2.back f12⟩
  | turned p m =>
    refine Sq.name rfl ha ?_
    refine Sq.no (ET.imp (.of (EB.inStr (ws := ["tuple", "one"]) rfl (fun Q H q => q) (by decide))) (b := inV _ _) (c := false) (by decide +kernel)) ht fun H1 f1 => ?_
    refine Sq.yes (ET.imp (.of (EB.inStr (ws := ["list", "kept", "turned"]) rfl (fun Q H q => q) (by decide))) (b := inV _ _) (c := true) (by decide +kernel)) f1.t fun H2 f2 => ?_
    have f12 := f1.trans f2
    exact S.ret (EL.lstN (ds := [p.d]) (EDs.cons (ED.ix (ED.var rfl (f12.rp ha)) (ED.int 1) rfl) EDs.nil) ln1) f12.t fun v' H3 f r => hq _ _ (f12.trans f) ⟨ldg (gs := [p]) r.1, r.2.back f12⟩
  | rep lo hi p =>
    refine Sq.name rfl ha ?_
    refine Sq.no (ET.imp (.of (EB.inStr (ws := ["tuple", "one"]) rfl (fun Q H q => q) (by decide))) (b := inV _ _) (c := false) (by decide +kernel)) ht fun H1 f1 => ?_
    refine Sq.no (ET.imp (.of (EB.inStr (ws := ["list", "kept", "turned"]) rfl (fun Q H q => q) (by decide))) (b := inV _ _) (c := false) (by decide +kernel)) f1.t fun H2 f2 => ?_
    have f12 := f1.trans f2
    refine Sq.nmY rfl (by decide +kernel) ?_
    exact S.ret (EL.lstN (ds := [Gen.d (.leaf (.int lo hi)), p.d]) (EDs.cons (ED.ix (ED.var rfl (f12.rp ha)) (ED.int 1) rfl) (EDs.cons (ED.ix (ED.var rfl (f12.rp ha)) (ED.int 2) rfl) EDs.nil)) ln2) f12.t fun v' H3 f r => hq _ _ (f12.trans f) ⟨ldg (gs := [.leaf (.int lo hi), p]) r.1, r.2.back f12⟩
end
end CR

set_option Elab.async false
set_option linter.all false
set_option maxRecDepth 100000
set_option maxHeartbeats 4000000
namespace CR
open PySem PySem.Spec PyProof.Rows L2
def PreG : Gen → List (List (Tr Dt)) → Prop
  | .leaf (.int lo hi), _ => -1000000 ≤ hi - lo + 1 ∧ hi - lo + 1 ≤ 2000
  | .leaf (.pick ws), _ => ws.length ≤ 2000
  | .tuple _, Ts => PreT Ts
  | .list _ l m, [B] => PreL B l m
  | .one _, [A] => FT A
  | .two _ _, [A, B] => FT A ∧ FT B
  | .kept _ c, [A] => FT A ∧ ∃ k, ∀ t ∈ A, PreH 7 c t.1 k
  | .turned _ m, [A] => FT A ∧ ∃ k k', ∀ t ∈ A, PreM m t.1 k k'
  | .rep _ _ _, [F, B] => PreR F B
  | _, _ => False
abbrev LdTs (Ts : List (List (Tr Dt))) (H : Hp) (v : V) : Prop := LR (fun L H v => LdT L H v) Ts H v
theorem pre_app {k : Int} {A : List (Tr Dt)} : preT k A = A.map fun t => (t.1, t.2.1, k :: t.2.2) := rfl
def oneT : Nat → List (List (Tr Dt)) → List (Tr Dt)
  | _, [] => []
  | k, A :: Ts => preT k A ++ oneT (k + 1) Ts
theorem oneT_snoc : ∀ (k : Nat) (Ts : List (List (Tr Dt))) (A : List (Tr Dt)), oneT k (Ts ++ [A]) = oneT k Ts ++ preT (k + Ts.length : Nat) A
  | k, [], A => by simp [oneT]
  | k, B :: Ts, A => by
    show preT k B ++ oneT (k + 1) (Ts ++ [A]) = (preT k B ++ oneT (k + 1) Ts) ++ _
    rw [oneT_snoc (k + 1) Ts A, List.append_assoc]
    congr 3
    rw [List.length_cons]
    congr 1
    omega
theorem oneT_len : ∀ (k : Nat) (Ts : List (List (Tr Dt))), (∀ A ∈ Ts, FT A) → (oneT k Ts).length ≤ 100000 * Ts.length
  | k, [], _ => Nat.zero_le _
  | k, A :: Ts, h => by
    have h1 := oneT_len (k + 1) Ts fun B hB => h B (List.mem_cons_of_mem _ hB)
    have h2 := (h A List.mem_cons_self).n
    show (preT k A ++ oneT (k + 1) Ts).length ≤ _
    unfold preT
    rw [List.length_append, List.length_map, List.length_cons]
    omega
theorem PV.len {β : Type} {R : β → Hp → V → Prop} {bs : List β} {K : PySem.W.Frag} {σ : L2.St} {H : Hp} {i : Nat} {v : V} (hs : σ[i]? = some (some v)) (h : LR R bs H v) : ∀ Q : VK, Q (.int bs.length) H → tCB (rLenK K) (tCons (tVar i) tNil) σ H Q := fun Q q => by
  obtain ⟨p, xs, rfl, h1, h2⟩ := h
  exact ⟨_, hs, p, xs, rfl, .inl (SqL.of h1), by rw [← h2.length]; exact q⟩
section
variable {P : Program} {w : World} {K : PySem.W.Frag} {mg : Str → Option Value} {base : Heap} {T : Tbl} (g : G K mg base T)
abbrev N_triples_of : List Str := ["generator", "tables", "path", "name", "many", "found", "k", "triple", "value", "count", "row"]
theorem sc_triples_of : FnScope N_triples_of ["generator", "tables", "path"] (defScope s_triples_of) := ⟨rfl, rfl, rfl, by decide +kernel, rfl, by decide +kernel, by decide +kernel⟩
theorem ok_triples_of : FnOk P w K mg base CX0 27 g.triples_of.a g.triples_of.d ["generator", "tables", "path"] (PmL T (fun (z : Gen × List (List (Tr Dt))) H vs => ∃ a u v, vs = [a, u, v] ∧ Rp H z.1.d a ∧ LdTs z.2 H u ∧ PreG z.1 z.2) fun z H v => LdT (trisOf z.1 z.2) H v) := by
  have OK_check_many := ok_check_many (P := P) (w := w) g
  have OK_table_of_tuple := ok_table_of_tuple (P := P) (w := w) g
  have OK_table_of_list := ok_table_of_list (P := P) (w := w) g
  have OK_table_of_repeat := ok_table_of_repeat (P := P) (w := w) g
  have OK_holds := ok_holds (P := P) (w := w) g 7
  have OK_turn := ok_turn (P := P) (w := w) g
  refine pm_okL g.triples_of.F sc_triples_of (fun z H vs h => by obtain ⟨a, u, v, rfl, _⟩ := h; rfl) fun cdv A outer s H vs Q E z hr h ht hq => ?_
  obtain ⟨z, Ts⟩ := z
  obtain ⟨a, u, v, rfl, ha, hu, pr⟩ := h
  have pr : PreG z Ts := pr
  have ha : Rp H z.d a := ha
  have hu : LdTs Ts H u := hu
  refine ⟨_, (pss_cons (ps_set (i := 3) sc_triples_of.nd rfl (Or.inl rfl) (pe_ix (ix_tupK K rfl) (pv 0) pe_int (fun _ _ => rfl))) (pss_cons (ps_if (pt_cmpR op_eq (pv 3) pe_str (nomark _)) (pss_cons (ps_set (i := 4) sc_triples_of.nd rfl (Or.inl rfl) (pe_op op_add (pe_op op_sub (pe_ix (ix_tupK K rfl) (pv 0) pe_int (fun _ _ => rfl)) (pe_ix (ix_tupK K rfl) (pv 0) pe_int (fun _ _ => rfl))) pe_int)) (pss_cons (ps_expr (pe_call OK_check_many (hr.mono (by omega)) rfl g.check_many.m g.check_many.F.kp (b_check_many g.check_many) .nil pass0 (pa_cons (pv 4) (pa_cons (pv 2) pa_nil)))) (pss_one (ps_ret (pe_lc (own := [("k", 6)]) rfl sc_triples_of.nd (pi_range1 rfl g.n_range (pa_cons (pv 4) pa_nil)) (blkOk_by (own := [("k", 6)]) (N := N_triples_of) (sc := defScope s_triples_of) (by decide +kernel)) (fun _ _ _ _ _ => (pg_name (i := 6) sc_triples_of.nd rfl (Or.inl rfl))) (fun _ _ _ _ _ => pts_nil) (fun _ _ _ _ _ => (pe_tup (pa_cons (pe_op op_add (pe_ix (ix_tupK K rfl) (pv 0) pe_int (fun _ _ => rfl)) (pv 6)) (pa_cons pe_int (pa_cons (pe_tup (pa_cons (pv 6) pa_nil)) pa_nil)))))))))) pss_nil) (pss_cons (ps_if (pt_cmpR op_eq (pv 3) pe_str (nomark _)) (pss_one (ps_ret (pe_lc (own := [("k", 6)]) rfl sc_triples_of.nd (pi_range1 rfl g.n_range (pa_cons (pe_callB (cr_lenK K rfl) rfl g.n_len boot_len (pa_cons (pe_ix (ix_tupK K rfl) (pv 0) pe_int (fun _ _ => rfl)) pa_nil)) pa_nil)) (blkOk_by (own := [("k", 6)]) (N := N_triples_of) (sc := defScope s_triples_of) (by decide +kernel)) (fun _ _ _ _ _ => (pg_name (i := 6) sc_triples_of.nd rfl (Or.inl rfl))) (fun _ _ _ _ _ => pts_nil) (fun _ _ _ _ _ => (pe_tup (pa_cons (pe_ix (ix_tupK K rfl) (pe_ix (ix_tupK K rfl) (pv 0) pe_int (fun _ _ => rfl)) (pv 6) (fun _ _ => rfl)) (pa_cons pe_int (pa_cons (pe_tup (pa_cons (pv 6) pa_nil)) pa_nil)))))))) pss_nil) (pss_cons (ps_if (pt_cmpR op_eq (pv 3) pe_str (nomark _)) (pss_one (ps_ret (pe_call OK_table_of_tuple (hr.mono (by omega)) rfl g.table_of_tuple.m g.table_of_tuple.F.kp (b_table_of_tuple g.table_of_tuple) .nil pass0 (pa_cons (pv 1) (pa_cons (pv 2) pa_nil))))) pss_nil) (pss_cons (ps_if (pt_cmpR op_eq (pv 3) pe_str (nomark _)) (pss_one (ps_ret (pe_call OK_table_of_list (hr.mono (by omega)) rfl g.table_of_list.m g.table_of_list.F.kp (b_table_of_list g.table_of_list) .nil pass0 (pa_cons (pe_ix (ix_listK K rfl) (pv 1) pe_int (fun _ _ => rfl)) (pa_cons (pe_ix (ix_tupK K rfl) (pv 0) pe_int (fun _ _ => rfl)) (pa_cons (pe_ix (ix_tupK K rfl) (pv 0) pe_int (fun _ _ => rfl)) (pa_cons (pv 2) pa_nil))))))) pss_nil) (pss_cons (ps_if (pt_cmpR op_eq (pv 3) pe_str (nomark _)) (pss_one (ps_ret (pe_call OK_table_of_repeat (hr.mono (by omega)) rfl g.table_of_repeat.m g.table_of_repeat.F.kp (b_table_of_repeat g.table_of_repeat) .nil pass0 (pa_cons (pe_ix (ix_listK K rfl) (pv 1) pe_int (fun _ _ => rfl)) (pa_cons (pe_ix (ix_listK K rfl) (pv 1) pe_int (fun _ _ => rfl)) (pa_cons (pv 2) pa_nil)))))) pss_nil) (pss_cons (ps_if (pt_cmpR op_eq (pv 3) pe_str (nomark _)) (pss_one (ps_ret (pe_lc (own := [("triple", 7)]) rfl sc_triples_of.nd (pi_listK K rfl (pe_ix (ix_listK K rfl) (pv 1) pe_int (fun _ _ => rfl))) (blkOk_by (own := [("triple", 7)]) (N := N_triples_of) (sc := defScope s_triples_of) (by decide +kernel)) (fun _ _ _ _ _ => (pg_name (i := 7) sc_triples_of.nd rfl (Or.inl rfl))) (fun _ _ _ _ _ => (pts_one (pt_val (pe_call OK_holds (hr.mono (by omega)) rfl g.holds.m g.holds.F.kp (b_holds g.holds) .nil pass0 (pa_cons (pe_ix (ix_tupK K rfl) (pv 0) pe_int (fun _ _ => rfl)) (pa_cons (pe_ix (ix_tupK K rfl) (pv 7) pe_int (fun _ _ => rfl)) pa_nil)))))) (fun _ _ _ _ _ => (pv 7))))) pss_nil) (pss_cons (ps_if (pt_cmpR op_eq (pv 3) pe_str (nomark _)) (pss_one (ps_ret (pe_lc (own := [("value", 8), ("count", 9), ("row", 10)]) rfl sc_triples_of.nd (pi_listK K rfl (pe_ix (ix_listK K rfl) (pv 1) pe_int (fun _ _ => rfl))) (blkOk_by (own := [("value", 8), ("count", 9), ("row", 10)]) (N := N_triples_of) (sc := defScope s_triples_of) (by decide +kernel)) (fun _ _ _ _ _ => (pg_tupK K rfl 3 rfl (pgs_cons (pg_name (i := 8) sc_triples_of.nd rfl (Or.inl rfl)) (pgs_cons (pg_name (i := 9) sc_triples_of.nd rfl (Or.inl rfl)) (pgs_cons (pg_name (i := 10) sc_triples_of.nd rfl (Or.inl rfl)) pgs_nil))))) (fun _ _ _ _ _ => pts_nil) (fun _ _ _ _ _ => (pe_tup (pa_cons (pe_call OK_turn (hr.mono (by omega)) rfl g.turn.m g.turn.F.kp (b_turn g.turn) .nil pass0 (pa_cons (pe_ix (ix_tupK K rfl) (pv 0) pe_int (fun _ _ => rfl)) (pa_cons (pv 8) pa_nil))) (pa_cons (pv 9) (pa_cons (pv 10) pa_nil)))))))) pss_nil) (pss_cons (ps_set (i := 5) sc_triples_of.nd rfl (Or.inl rfl) (pe_lst pa_nil)) (pss_cons (ps_for PassesOwn.never rfl (pi_range1 rfl g.n_range (pa_cons (pe_callB (cr_lenK K rfl) rfl g.n_len boot_len (pa_cons (pv 1) pa_nil)) pa_nil)) (pg_name (i := 6) sc_triples_of.nd rfl (Or.inr rfl)) (pss_one (ps_expr (pe_bm PySem.F.plainAttrs_list PySem.F.slot_list_extend PySem.F.type_list_extend mt_extend (pv 5) (pa_cons (pe_lc (own := [("value", 8), ("count", 9), ("row", 10)]) rfl sc_triples_of.nd (pi_listK K rfl (pe_ix (ix_listK K rfl) (pv 1) (pv 6) (fun _ _ => rfl))) (blkOk_by (own := [("value", 8), ("count", 9), ("row", 10)]) (N := N_triples_of) (sc := defScope s_triples_of) (by decide +kernel)) (fun _ _ _ _ _ => (pg_tupK K rfl 3 rfl (pgs_cons (pg_name (i := 8) sc_triples_of.nd rfl (Or.inl rfl)) (pgs_cons (pg_name (i := 9) sc_triples_of.nd rfl (Or.inl rfl)) (pgs_cons (pg_name (i := 10) sc_triples_of.nd rfl (Or.inl rfl)) pgs_nil))))) (fun _ _ _ _ _ => pts_nil) (fun _ _ _ _ _ => (pe_tup (pa_cons (pv 8) (pa_cons (pv 9) (pa_cons (pe_op (op_catK K rfl) (pe_tup (pa_cons (pv 6) pa_nil)) (pv 10)) pa_nil)))))) pa_nil))))) (pss_one (ps_ret (pv 5))))))))))))), ?_⟩
  have hT : ∀ {H' : Hp}, Fut T H H' → LdTs Ts H' u := fun f => hu.fut stab_ldt f
  cases z with
  | leaf l =>
    cases l with
    | int lo hi =>
      obtain ⟨p1, p2⟩ := (show -1000000 ≤ hi - lo + 1 ∧ hi - lo + 1 ≤ 2000 from pr)
      refine Sq.name rfl ha ?_
      refine Sq.nmY rfl (by decide +kernel) ?_
      refine Sq.set (ED.add (i := hi - lo) (j := 1) (ED.sub (ED.ix (d := .num hi) (ED.var rfl ha) (ED.int 2) rfl) (ED.ix (d := .num lo) (ED.var rfl ha) (ED.int 1) rfl)) (ED.int 1)) ht fun v1 H1 f1 r1 => ?_
      cases r1
      refine Sq.drop (EV.fn (z := hi - lo + 1) (EA.imp (EA.two (ED.var (d := .num (hi - lo + 1)) rfl rfl) mD (EV.any rfl)) fun H' vs f r => ?_)) f1.t fun _ H2 f2 _ => ?_
      · obtain ⟨a, b, rfl, r1, r2⟩ := r
        exact ⟨p2, b, by rw [show a = _ from r1]⟩
      · have f12 := f1.trans f2
        refine S.ret (EV.lc (R := fun t H v => Rp H (triD t) v) stab_tri sep_tri (IVn.rngI (j := hi - lo + 1) (ED.var rfl rfl) p1 (by omega)) (line6 (by omega)) (fun i => some ((.num (lo + i), 1, [(i : Int)]) : Tr Dt)) fun i x H3 hi' f3 y => ?_) f2.t fun v' H3 f r => hq _ _ (f12.trans f) ⟨?_, r.2.back f12⟩
        · subst y
          refine ⟨_, fun Q q => q, rfl, fun c hc => ⟨ET.yes, ?_⟩, fun hc => by cases hc⟩
          cases hc
          exact ED.nl (ED.tup (ds := [.num (lo + i), .num 1, rowD [(i : Int)]]) (EDs.cons (ED.add (ED.ix (d := .num lo) (ED.var rfl ((f12.trans f3).rp ha)) (ED.int 1) rfl) (ED.var rfl rfl)) (EDs.cons (ED.int 1) (EDs.cons (ED.tup (ds := [.num (i : Int)]) (EDs.cons (ED.var rfl rfl) EDs.nil) ln1) EDs.nil))) ln3)
        · have r1 := r.1
          rw [fm_some] at r1
          show LdT ((lfR (.int lo hi)).map fun p => (p.2, 1, p.1)) H3 v'
          unfold lfR
          rw [List.map_map]
          exact r1
    | pick ws =>
      have p1 : ws.length ≤ 2000 := pr
      refine Sq.name rfl ha ?_
      refine Sq.nmN rfl (by decide +kernel) ?_
      refine Sq.nmY rfl (by decide +kernel) ?_
      refine S.ret (EV.lc (n := ws.length) (R := fun t H v => Rp H (triD t) v) stab_tri sep_tri (cast (by rw [List.length_map]) (IVn.rng1 (T := T) (m := (ws.map NestedKey.text).length) (ED.lenT (K := K) (ED.ix (K := K) (i := 1) (ds := [tx "pick", .tup (ws.map .text)]) (ED.var rfl ha) (ED.int 1) rfl)) (by rw [List.length_map]; omega))) (line6 (by omega)) (fun i => some ((.text (ws.getD i (Str.ofString "")), 1, [(i : Int)]) : Tr Dt)) fun i x H3 hi' f3 y => ?_) ht fun v' H3 f r => hq _ _ f ⟨?_, r.2⟩
      · subst y
        refine ⟨_, fun Q q => q, rfl, fun c hc => ⟨ET.yes, ?_⟩, fun hc => by cases hc⟩
        cases hc
        exact ED.nl (ED.tup (ds := [.text (ws.getD i (Str.ofString "")), .num 1, rowD [(i : Int)]]) (EDs.cons (ED.ix (ds := ws.map .text) (ED.ix (ED.var rfl (f3.rp ha)) (ED.int 1) rfl) (ED.var rfl rfl) (by rw [List.getElem?_map, List.getD_eq_getElem?_getD, List.getElem?_eq_getElem hi']; rfl)) (EDs.cons (ED.int 1) (EDs.cons (ED.tup (ds := [.num (i : Int)]) (EDs.cons (ED.var rfl rfl) EDs.nil) ln1) EDs.nil))) ln3)
      · have r1 := r.1
        rw [fm_some] at r1
        show LdT ((lfR (.pick ws)).map fun p => (p.2, 1, p.1)) H3 v'
        unfold lfR
        rw [List.map_map]
        exact r1
  | tuple ls =>
    refine Sq.name rfl ha ?_
    iterate 2 refine Sq.nmN rfl (by decide +kernel) ?_
    refine Sq.nmY rfl (by decide +kernel) ?_
    refine S.ret (EV.fnL (z := Ts) (EA.imp (EA.two (EV.var (R := LdTs Ts) rfl fun H' f => hT f) (fun _ _ _ f h => h.fut stab_ldt f) (EV.any rfl)) fun H' vs f r => ?_)) ht fun v' H2 f r => hq _ _ f r
    obtain ⟨a, b, rfl, r1, r2⟩ := r
    exact ⟨a, b, rfl, r1, pr⟩
  | list p l m =>
    match Ts, pr with
    | [B], pr =>
      refine Sq.name rfl ha ?_
      iterate 3 refine Sq.nmN rfl (by decide +kernel) ?_
      refine Sq.nmY rfl (by decide +kernel) ?_
      refine S.ret (EV.fnL (z := (B, l, m)) (EA.imp (EA.four (EV.ixL (i := 0) stab_ldt (EV.var rfl fun H' f => hT f) (ED.int 0) rfl) mL (ED.ix (d := .num l) (ED.var rfl ha) (ED.int 2) rfl) mD (ED.ix (d := .num m) (ED.var rfl ha) (ED.int 3) rfl) mD (EV.any rfl)) fun H' vs f r => ?_)) ht fun v' H2 f r => hq _ _ f r
      obtain ⟨a, b, c, d, rfl, r1, r2, r3, r4⟩ := r
      exact ⟨a, d, by rw [show b = _ from r2, show c = _ from r3], r1, pr⟩
  | one p =>
    match Ts, pr with
    | [A], pr =>
      have fA : ∀ C ∈ [A], FT C := fun C hC => by rw [List.mem_singleton.mp hC]; exact pr
      have et : trisOf (.one p) [A] = oneT 0 [A] := by show preT 0 A = preT 0 A ++ []; rw [List.append_nil]
      revert hu hT hq pr fA et
      generalize hTs : [A] = Us
      have hle : Us.length ≤ 2 := by rw [← hTs]; show 1 ≤ 2; decide
      clear hTs
      intro hu hT hq pr fA et
      refine Sq.name rfl ha ?_
      iterate 7 refine Sq.nmN rfl (by decide +kernel) ?_
      refine Sq.newl fun p0 hp => ?_
      have f0 := Fut.newR ht hp (.lst [])
      refine Sq.for (B := H) (IV.rng1 (m := Us.length) (PV.len rfl (hT f0)) (by omega)) (fun i σ H' => Fut T H H' ∧ ∃ x xs, σ = [some a, some u, some v, some (.str "one"), none, some (.ref p0), x, none, none, none, none] ∧ H' p0 = some (.lst xs) ∧ All2 (fun t x => Rp H' (triD t) x) (oneT 0 (Us.take i)) xs) ⟨f0, none, [], rfl, upd_same, .nil⟩ (fun i σ H' h => h.1) (fun i x σ H1 hi h y => ?_) fun σ H1 h => ?_
      · obtain ⟨f1, x', xs, rfl, hx, ax⟩ := h
        subst y
        have hA : Us[i]? = some Us[i] := List.getElem?_eq_getElem hi
        have fAi := fA _ (List.getElem_mem hi)
        have hn := fAi.n
        have hl := oneT_len 0 (Us.take i) fun B hB => fA B (List.mem_of_mem_take hB)
        rw [List.length_take] at hl
        have e : oneT 0 (Us.take (i + 1)) = oneT 0 (Us.take i) ++ preT (i : Nat) Us[i] := by
          rw [take_succ_of hA, oneT_snoc, List.length_take, Nat.min_eq_left (Nat.le_of_lt hi), Nat.zero_add]
        refine S.ext (R := fun t H v => Rp H (triD t) v) (bs := preT (i : Nat) Us[i]) rfl hx (by rw [← ax.length]; unfold preT; rw [List.length_map]; exact line6 (by omega)) (EV.fst (EV.lcM (R := fun t H v => Rp H (triD t) v) (F := fun t : Tr Dt => ((t.1, t.2.1, (i : Int) :: t.2.2) : Tr Dt)) stab_tri sep_tri (IVn.list stab_tri (EV.ixL (i := i) stab_ldt (EV.var rfl fun H' f => hT (f1.trans f)) (ED.var rfl rfl) hA)) (line6 (by omega)) fun t x mt2 mt f2 y => ?_)) f1.t fun zs H7 f7 az => ?_
        · obtain ⟨x1, x2, x3, r1, r2, r3, hg⟩ := g3 (K := K) (i := 8) (j := 9) (k := 10) y
          have ft := fAi.t t mt
          exact ⟨_, fun Q q => hg _ (TK.refl _) _ _ q, rfl, ED.nl (ED.tup (ds := [t.1, .num t.2.1, rowD ([(i : Int)] ++ t.2.2)]) (EDs.cons (ED.var rfl r1) (EDs.cons (ED.var rfl r2) (EDs.cons (ED.catR (ED.tup (ds := [.num (i : Int)]) (EDs.cons (ED.var rfl rfl) EDs.nil) ln1) (ED.var rfl r3) (line6 (by show 1 + t.2.2.length ≤ _; omega))) EDs.nil))) ln3)⟩
        · have hx7 := f7.lst hx
          refine ⟨(f1.trans f7).putL hp hx7, some (.int i), xs ++ zs, rfl, upd_same, ?_⟩
          rw [e]
          exact all2_app (all2_imp (fun t x q => (f7.rp q).tk (tk_lst hx7)) ax) (all2_imp (fun t x q => q.tk (tk_lst hx7)) az)
      · obtain ⟨f1, x', xs, rfl, hx, ax⟩ := h
        rw [List.take_of_length_le (Nat.le_refl _)] at ax
        refine ⟨_, rfl, hq _ _ f1 ⟨⟨p0, xs, rfl, hx, ?_⟩, NL.new hp⟩⟩
        show All2 _ (trisOf (.one p) Us) xs
        rw [et]
        exact ax
  | two p q =>
    match Ts, pr with
    | [A, B], pr =>
      have fA : ∀ C ∈ [A, B], FT C := fun B' hB => by
        have hB : B' ∈ [A, B] := hB
        simp only [List.mem_cons, List.not_mem_nil, or_false] at hB
        rcases hB with z | z
        · rw [z]; exact (show FT A ∧ FT B from pr).1
        · rw [z]; exact (show FT A ∧ FT B from pr).2
      have et : trisOf (.two p q) [A, B] = oneT 0 [A, B] := by show preT 0 A ++ preT 1 B = preT 0 A ++ (preT 1 B ++ []); rw [List.append_nil]
      revert hu hT hq pr fA et
      generalize hTs : [A, B] = Us
      have hle : Us.length ≤ 2 := by rw [← hTs]; show 2 ≤ 2; decide
      clear hTs
      intro hu hT hq pr fA et
      refine Sq.name rfl ha ?_
      iterate 7 refine Sq.nmN rfl (by decide +kernel) ?_
      refine Sq.newl fun p0 hp => ?_
      have f0 := Fut.newR ht hp (.lst [])
      refine Sq.for (B := H) (IV.rng1 (m := Us.length) (PV.len rfl (hT f0)) (by omega)) (fun i σ H' => Fut T H H' ∧ ∃ x xs, σ = [some a, some u, some v, some (.str "one"), none, some (.ref p0), x, none, none, none, none] ∧ H' p0 = some (.lst xs) ∧ All2 (fun t x => Rp H' (triD t) x) (oneT 0 (Us.take i)) xs) ⟨f0, none, [], rfl, upd_same, .nil⟩ (fun i σ H' h => h.1) (fun i x σ H1 hi h y => ?_) fun σ H1 h => ?_
      · obtain ⟨f1, x', xs, rfl, hx, ax⟩ := h
        subst y
        have hA : Us[i]? = some Us[i] := List.getElem?_eq_getElem hi
        have fAi := fA _ (List.getElem_mem hi)
        have hn := fAi.n
        have hl := oneT_len 0 (Us.take i) fun B hB => fA B (List.mem_of_mem_take hB)
        rw [List.length_take] at hl
        have e : oneT 0 (Us.take (i + 1)) = oneT 0 (Us.take i) ++ preT (i : Nat) Us[i] := by
          rw [take_succ_of hA, oneT_snoc, List.length_take, Nat.min_eq_left (Nat.le_of_lt hi), Nat.zero_add]
        refine S.ext (R := fun t H v => Rp H (triD t) v) (bs := preT (i : Nat) Us[i]) rfl hx (by rw [← ax.length]; unfold preT; rw [List.length_map]; exact line6 (by omega)) (EV.fst (EV.lcM (R := fun t H v => Rp H (triD t) v) (F := fun t : Tr Dt => ((t.1, t.2.1, (i : Int) :: t.2.2) : Tr Dt)) stab_tri sep_tri (IVn.list stab_tri (EV.ixL (i := i) stab_ldt (EV.var rfl fun H' f => hT (f1.trans f)) (ED.var rfl rfl) hA)) (line6 (by omega)) fun t x mt2 mt f2 y => ?_)) f1.t fun zs H7 f7 az => ?_
        · obtain ⟨x1, x2, x3, r1, r2, r3, hg⟩ := g3 (K := K) (i := 8) (j := 9) (k := 10) y
          have ft := fAi.t t mt
          exact ⟨_, fun Q q => hg _ (TK.refl _) _ _ q, rfl, ED.nl (ED.tup (ds := [t.1, .num t.2.1, rowD ([(i : Int)] ++ t.2.2)]) (EDs.cons (ED.var rfl r1) (EDs.cons (ED.var rfl r2) (EDs.cons (ED.catR (ED.tup (ds := [.num (i : Int)]) (EDs.cons (ED.var rfl rfl) EDs.nil) ln1) (ED.var rfl r3) (line6 (by show 1 + t.2.2.length ≤ _; omega))) EDs.nil))) ln3)⟩
        · have hx7 := f7.lst hx
          refine ⟨(f1.trans f7).putL hp hx7, some (.int i), xs ++ zs, rfl, upd_same, ?_⟩
          rw [e]
          exact all2_app (all2_imp (fun t x q => (f7.rp q).tk (tk_lst hx7)) ax) (all2_imp (fun t x q => q.tk (tk_lst hx7)) az)
      · obtain ⟨f1, x', xs, rfl, hx, ax⟩ := h
        rw [List.take_of_length_le (Nat.le_refl _)] at ax
        refine ⟨_, rfl, hq _ _ f1 ⟨⟨p0, xs, rfl, hx, ?_⟩, NL.new hp⟩⟩
        show All2 _ (trisOf (.two p q) Us) xs
        rw [et]
        exact ax
  | kept p c =>
    match Ts, pr with
    | [A], pr =>
      obtain ⟨fA, k, hk⟩ := (show FT A ∧ ∃ k, ∀ t ∈ A, PreH 7 c t.1 k from pr)
      have hn := fA.n
      refine Sq.name rfl ha ?_
      iterate 5 refine Sq.nmN rfl (by decide +kernel) ?_
      refine Sq.nmY rfl (by decide +kernel) ?_
      refine S.ret (EV.lcL (F := fun t => if holdsM c t.1 = true then some t else none) stab_tri sep_tri (IVn.list stab_tri (EV.ixL (i := 0) stab_ldt (EV.var rfl fun H' f => hT f) (ED.int 0) rfl)) (line6 (by omega)) fun t x H1 mt f1 y => ?_) ht fun v' H2 f r => hq _ _ f ⟨?_, r.2⟩
      · have key : ∀ σ : L2.St, σ[0]? = some (some a) → σ[7]? = some (some x) → EB T (tCall (Pm T (preH 7) postH) [] E0 (tCons (tOp (rIxT K) (tVar 0) (tC (.int 2))) (tCons (tOp (rIxT K) (tVar 7) (tC (.int 0))) tNil))) σ H1 (holdsM c t.1) := fun σ h0 h7 => call_holds (ED.ix (ED.var h0 (f1.rp ha)) (ED.int 2) rfl) (ED.ix (ds := [t.1, .num t.2.1, rowD t.2.2]) (ED.var h7 y) (ED.int 0) rfl) (hk t mt)
        refine ⟨_, fun Q q => q, rfl, fun e he => ?_, fun he => ?_⟩
        · by_cases z : holdsM c t.1 = true
          · rw [if_pos z] at he
            cases he
            exact ⟨ET.imp (ET.ofB (key _ rfl rfl)) z, ED.nl (ED.var rfl y)⟩
          · rw [if_neg z] at he
            cases he
        · by_cases z : holdsM c t.1 = true
          · rw [if_pos z] at he
            cases he
          · exact ET.imp (ET.ofB (key _ rfl rfl)) (by simpa using z)
      · have r1 := r.1
        rw [fm_filter fun t : Tr Dt => holdsM c t.1] at r1
        exact r1
  | turned p m =>
    match Ts, pr with
    | [A], pr =>
      obtain ⟨fA, k, k', hk⟩ := (show FT A ∧ ∃ k k', ∀ t ∈ A, PreM m t.1 k k' from pr)
      have hn := fA.n
      refine Sq.name rfl ha ?_
      iterate 6 refine Sq.nmN rfl (by decide +kernel) ?_
      refine Sq.nmY rfl (by decide +kernel) ?_
      refine S.ret (EV.lcM (R := fun t H v => Rp H (triD t) v) (F := fun t : Tr Dt => ((turnM m t.1, t.2.1, t.2.2) : Tr Dt)) stab_tri sep_tri (IVn.list stab_tri (EV.ixL (i := 0) stab_ldt (EV.var rfl fun H' f => hT f) (ED.int 0) rfl)) (line6 (by omega)) fun t x H1 mt f1 y => ?_) ht fun v' H2 f r => hq _ _ f r
      obtain ⟨x1, x2, x3, r1, r2, r3, hg⟩ := g3 (K := K) (i := 8) (j := 9) (k := 10) y
      refine ⟨_, fun Q q => hg H1 (TK.refl _) _ _ q, rfl, ED.nl (ED.tup (ds := [turnM m t.1, .num t.2.1, rowD t.2.2]) (EDs.cons (EV.fn (z := (m, t.1, k, k')) (EA.imp (EA.data2 (ED.ix (d := m.d) (ED.var rfl (f1.rp ha)) (ED.int 2) rfl) (ED.var rfl r1)) fun H' vs f r => ?_)) (EDs.cons (ED.var rfl r2) (EDs.cons (ED.var rfl r3) EDs.nil))) ln3)⟩
      obtain ⟨a, b, rfl, q1, q2⟩ := r
      exact ⟨a, b, rfl, q1, q2, hk t mt⟩
  | rep lo hi p =>
    match Ts, pr with
    | [F, B], pr =>
      refine Sq.name rfl ha ?_
      iterate 4 refine Sq.nmN rfl (by decide +kernel) ?_
      refine Sq.nmY rfl (by decide +kernel) ?_
      refine S.ret (EV.fnL (z := (F, B)) (EA.imp (EA.three (EV.ixL (i := 0) stab_ldt (EV.var rfl fun H' f => hT f) (ED.int 0) rfl) mL (EV.ixL (i := 1) stab_ldt (EV.var rfl fun H' f => hT f) (ED.int 1) rfl) mL (EV.any rfl)) fun H' vs f r => ?_)) ht fun v' H2 f r => hq _ _ f r
      obtain ⟨a, b, c, rfl, r1, r2, r3⟩ := r
      exact ⟨a, b, c, rfl, r1, r2, pr⟩
end
end CR

set_option Elab.async false
set_option linter.all false
set_option maxRecDepth 100000
set_option maxHeartbeats 4000000
namespace CR
open PySem PySem.Spec PyProof.Rows L2
/-! ### a generator's table -/
def tabO (g : Gen) (Ts : List (List (Tr Dt))) : List (Tr Dt) := byT (mergeM (trisOf g Ts))
def tableM : Gen → List (Tr Dt)
  | .leaf l => tabO (.leaf l) []
  | .tuple ls => tabO (.tuple ls) (ls.map fun l => tabO (.leaf l) [])
  | .list g l m => tabO (.list g l m) [tableM g]
  | .one g => tabO (.one g) [tableM g]
  | .two g h => tabO (.two g h) [tableM g, tableM h]
  | .kept g c => tabO (.kept g c) [tableM g]
  | .turned g m => tabO (.turned g m) [tableM g]
  | .rep lo hi g => tabO (.rep lo hi g) [tabO (.leaf (.int lo hi)) [], tableM g]
theorem tableM_eq (g : Gen) : tableM g = tabO g (g.parts.map tableM) := by
  cases g with
  | tuple ls =>
    show tabO (.tuple ls) _ = tabO (.tuple ls) ((ls.map Gen.leaf).map tableM)
    rw [List.map_map]
    rfl
  | _ => rfl
/-- what the walk asks of a generator, and of its parts -/
inductive TOk : Gen → Prop
  | mk (g : Gen) (pre : PreG g (g.parts.map tableM)) (key : ∃ b, ∀ t ∈ trisOf g (g.parts.map tableM), KeyOk b t.1) (n : (trisOf g (g.parts.map tableM)).length ≤ 100000) (l : (tableM g).length ≤ 2000) (ps : g.parts.length ≤ 1000) (parts : ∀ p ∈ g.parts, TOk p) : TOk g
section
variable {T : Tbl} {σ : L2.St} {H : Hp} {wi : TI} {n : Nat} {Y : Nat → Hp → V → Prop}
theorem for_ivn {gt : TG} {tb : TS} {D : Ends} (h : IVn T wi σ H n Y) (ht : LamX.Tabs T H) (Pv : Hp → Nat → L2.St → Hp → Prop) (h0 : ∀ B, Fut T H B → Pv B 0 σ B) (hG : ∀ B i σ H', Pv B i σ H' → Fut T B H')
    (hs : ∀ B, Fut T H B → ∀ i x σ H3 H4, i < n → Pv B i σ H3 → Fut T H3 H4 → Y i H4 x → gt x σ H4 fun σ2 H5 => tb { D with nx := Pv B (i + 1), ct := Pv B (i + 1), bk := D.nx } σ2 H5) (hd : ∀ B, Fut T H B → ∀ σ H', Pv B n σ H' → D.nx σ H') : tFor wi gt tb D σ H :=
  h H (Fut.refl ht) _ fun J H2 f2 w => for_it w (Pv H2) (h0 H2 f2) (fun i σ H _ p => hG H2 i σ H p) (fun i x σ H3 H4 hi p y => hs H2 f2 i x σ H3 H4 hi p y.1 y.2) (hd H2 f2)
theorem Sq.forN {gt : TG} {tb u : TS} {D : Ends} (h : IVn T wi σ H n Y) (ht : LamX.Tabs T H) (Pv : Hp → Nat → L2.St → Hp → Prop) (h0 : ∀ B, Fut T H B → Pv B 0 σ B) (hG : ∀ B i σ H', Pv B i σ H' → Fut T B H')
    (hs : ∀ B, Fut T H B → ∀ i x σ H3 H4, i < n → Pv B i σ H3 → Fut T H3 H4 → Y i H4 x → gt x σ H4 fun σ2 H5 => tb { nx := Pv B (i + 1), ct := Pv B (i + 1), bk := u D, rt := D.rt } σ2 H5) (hd : ∀ B, Fut T H B → ∀ σ H', Pv B n σ H' → u D σ H') : tSeq (tFor wi gt tb) u D σ H :=
  for_ivn (D := { D with nx := u D }) h ht Pv h0 hG hs hd
theorem sep_ldt : Sep (fun (L : List (Tr Dt)) H v => LdT L H v) := sep_lr triD fun _ _ _ => Iff.rfl
theorem stab_gen : Stab T (fun (g : Gen) H v => Rp H g.d v) := fun b H H1 v f h => f.rp h
theorem mLs {L : List (List (Tr Dt))} : Mono T (LdTs L) := fun _ _ _ f h => h.fut stab_ldt f
end
section
variable {P : Program} {w : World} {K : PySem.W.Frag} {mg : Str → Option Value} {base : Heap} {T : Tbl} (g : G K mg base T)
def preT' (n : Nat) : Gen × Row → Hp → List V → Prop := fun z H vs => ∃ a b, vs = [a, b] ∧ Rp H z.1.d a ∧ Rp H (rowD z.2) b ∧ z.1.depth < n ∧ TOk z.1 ∧ z.2.length + n ≤ 1000
def postT' : Gen × Row → Hp → V → Prop := fun z H v => LdT (tableM z.1) H v
abbrev N_table_at : List Str := ["generator", "path", "parts", "tables", "found", "k"]
theorem sc_table_at : FnScope N_table_at ["generator", "path"] (defScope s_table_at) := ⟨rfl, rfl, rfl, by decide +kernel, rfl, by decide +kernel, by decide +kernel⟩
theorem ok_table_at_step (n : Nat) (OK_table_at : FnOk P w K mg base CX0 (n + 28) g.table_at.a g.table_at.d ["generator", "path"] (PmL T (preT' n) postT')) : FnOk P w K mg base CX0 (n + 29) g.table_at.a g.table_at.d ["generator", "path"] (PmL T (preT' (n + 1)) postT') := by
  have OK_parts_of := ok_parts_of (P := P) (w := w) g
  have OK_triples_of := ok_triples_of (P := P) (w := w) g
  have OK_put_together := ok_put_together (P := P) (w := w) g
  have OK_check_many := ok_check_many (P := P) (w := w) g
  refine pm_okL (k := n + 28) g.table_at.F sc_table_at (fun z H vs h => by obtain ⟨a, b, rfl, _⟩ := h; rfl) fun cdv A outer s H vs Q E z hr h ht hq => ?_
  obtain ⟨z, path⟩ := z
  obtain ⟨a, b, rfl, ha, hb, hd, ok, hp⟩ := h
  have ha : Rp H z.d a := ha
  have hb : Rp H (rowD path) b := hb
  have hd : z.depth < n + 1 := hd
  have hp : path.length + (n + 1) ≤ 1000 := hp
  have ok : TOk z := ok
  obtain ⟨_, pre, ⟨kb, key⟩, hn, hl, ps, parts⟩ := ok
  refine ⟨_, (pss_cons (ps_set (i := 2) sc_table_at.nd rfl (Or.inr rfl) (pe_call OK_parts_of (hr.mono (by omega)) rfl g.parts_of.m g.parts_of.F.kp (b_parts_of g.parts_of) .nil pass0 (pa_cons (pv 0) pa_nil))) (pss_cons (ps_setLc (own := [("k", 5)]) (i := 3) rfl sc_table_at.nd rfl rfl (by first | exact sw_true rfl rfl rfl (by decide +kernel) | rfl) (pi_range1 rfl g.n_range (pa_cons (pe_callB (cr_lenK K rfl) rfl g.n_len boot_len (pa_cons (pv 2) pa_nil)) pa_nil)) (blkOk_by (own := [("k", 5)]) (N := N_table_at) (sc := defScope s_table_at) (by decide +kernel)) (fun _ _ _ _ _ => (pg_name (i := 5) sc_table_at.nd rfl (Or.inl rfl))) (fun _ _ _ _ _ => pts_nil) (fun _ _ _ _ _ => (pe_call OK_table_at (hr.mono (by omega)) rfl g.table_at.m g.table_at.F.kp (b_table_at g.table_at) .nil pass0 (pa_cons (pe_ix (ix_listK K rfl) (pv 2) (pv 5) (fun _ _ => rfl)) (pa_cons (pe_op (op_catK K rfl) (pv 1) (pe_tup (pa_cons (pv 5) pa_nil))) pa_nil))))) (pss_cons (ps_set (i := 4) sc_table_at.nd rfl (Or.inl rfl) (pe_call OK_put_together (hr.mono (by omega)) rfl g.put_together.m g.put_together.F.kp (b_put_together g.put_together) .nil pass0 (pa_cons (pe_call OK_triples_of (hr.mono (by omega)) rfl g.triples_of.m g.triples_of.F.kp (b_triples_of g.triples_of) .nil pass0 (pa_cons (pv 0) (pa_cons (pv 3) (pa_cons (pv 1) pa_nil)))) pa_nil))) (pss_cons (ps_expr (pe_call OK_check_many (hr.mono (by omega)) rfl g.check_many.m g.check_many.F.kp (b_check_many g.check_many) .nil pass0 (pa_cons (pe_callB (cr_lenK K rfl) rfl g.n_len boot_len (pa_cons (pv 4) pa_nil)) (pa_cons (pv 1) pa_nil)))) (pss_one (ps_ret (pv 4))))))), ?_⟩
  refine Sq.set (EV.fst (EV.fnL (z := z) (EA.imp (EA.one (ED.var rfl ha)) fun H' vs f r => ?_))) ht fun pv H1 f1 hpv => ?_
  · obtain ⟨u, rfl, r⟩ := r
    exact ⟨u, rfl, r, ps⟩
  have hpv : LdG z.parts H1 pv := hpv
  refine Sq.set (EV.lc (R := fun L H v => LdT L H v) stab_ldt sep_ldt (IVn.rng1 (ED.lenR (EV.var rfl fun H' f => hpv.fut stab_gen f)) (by omega)) (line6 (by omega)) (fun i => z.parts[i]?.bind fun p => some (tableM p)) fun i x H2 hi f2 y => ?_) f1.t fun tv H2 f2 r2 => ?_
  · subst y
    have hpi : z.parts[i]? = some z.parts[i] := List.getElem?_eq_getElem hi
    refine ⟨_, fun Q q => q, rfl, fun c hc => ⟨ET.yes, ?_⟩, fun hc => ?_⟩
    · rw [hpi] at hc
      cases hc
      refine EV.fnL (z := (z.parts[i], path ++ [(i : Int)])) (EA.imp (EA.two (EV.ixL (i := i) stab_gen (EV.var rfl fun H' f => (hpv.fut stab_gen f2).fut stab_gen f) (ED.var rfl rfl) hpi) (fun _ _ _ f h => f.rp h) (ED.catR (a := path) (b := [(i : Int)]) (ED.var rfl ((f1.trans f2).rp hb)) (ED.tup (ds := [.num (i : Int)]) (EDs.cons (ED.var rfl rfl) EDs.nil) ln1) (line6 (by show path.length + 1 ≤ _; omega)))) fun H' vs f r => ?_)
      obtain ⟨a, b, rfl, r1, r2⟩ := r
      refine ⟨a, b, rfl, r1, r2, ?_, parts _ (List.getElem_mem hi), ?_⟩
      · have := depth_part (List.getElem_mem hi)
        show z.parts[i].depth < n
        omega
      · show (path ++ [(i : Int)]).length + n ≤ 1000
        rw [List.length_append, List.length_singleton]
        omega
    · rw [hpi] at hc
      cases hc
  rw [range_get, fm_some] at r2
  have f12 := f1.trans f2
  have r2 : LdTs (z.parts.map tableM) H2 tv := r2.1
  refine Sq.set (EV.fnL (z := (kb, trisOf z (z.parts.map tableM))) (EA.imp (EA.one (EV.fst (EV.fnL (z := (z, z.parts.map tableM)) (EA.imp (EA.three (ED.var rfl (f12.rp ha)) mD (EV.var (R := LdTs _) rfl fun H' f => r2.fut stab_ldt f) mLs (EV.any rfl)) fun H' vs f r => ?_)))) fun H' vs f r => ?_)) f12.t fun fv H3 f3 r3 => ?_
  · obtain ⟨a, b, c, rfl, r1, r2, r3⟩ := r
    exact ⟨a, b, c, rfl, r1, r2, pre⟩
  · obtain ⟨u, rfl, r⟩ := r
    exact ⟨u, rfl, r, key, hn⟩
  have ef : byT (mergeM (trisOf z (z.parts.map tableM))) = tableM z := by rw [tableM_eq z]; rfl
  have r31 : LdT (tableM z) H3 fv := by rw [← ef]; exact r3.1
  have f13 := f12.trans f3
  refine Sq.drop (EV.fn (z := ((tableM z).length : Int)) (EA.imp (EA.two (ED.lenR (EV.var rfl fun H' f => r31.fut stab_tri f)) mD (EV.any rfl)) fun H' vs f r => ?_)) f3.t fun _ H4 f4 _ => ?_
  · obtain ⟨a, b, rfl, r1, r2⟩ := r
    exact ⟨by omega, b, by rw [show a = _ from r1]⟩
  · exact ⟨_, rfl, hq _ _ (f13.trans f4) ⟨r31.fut stab_tri f4, r3.2.back f12⟩⟩
theorem ok_table_at : ∀ n, FnOk P w K mg base CX0 (n + 28) g.table_at.a g.table_at.d ["generator", "path"] (PmL T (preT' n) postT')
  | 0 => vacL fun z H vs h => by
    obtain ⟨_, _, _, _, _, h, _⟩ := h
    exact absurd h (Nat.not_lt_zero _)
  | n + 1 => ok_table_at_step g n (ok_table_at n)
end
end CR

set_option Elab.async false
set_option linter.all false
set_option maxRecDepth 100000
set_option maxHeartbeats 4000000
namespace CR
open PySem PySem.Spec PyProof.Rows L2
section
variable {P : Program} {w : World} {K : PySem.W.Frag} {mg : Str → Option Value} {base : Heap} {T : Tbl} (g : G K mg base T)
def preTb : Gen → Hp → List V → Prop := fun z H vs => ∃ a, vs = [a] ∧ Rp H z.d a ∧ z.depth < 12 ∧ TOk z
theorem call_tb {σ : L2.St} {H : Hp} {te : TE} {E : XK} {z : Gen} (h : ED T te σ H z.d) (hd : z.depth < 12) (ok : TOk z) : EV T (tCall (PmL T preTb fun z H v => LdT (tableM z) H v) [] E (tCons te tNil)) σ H (fun H' v => LdT (tableM z) H' v ∧ NL H v) :=
  EV.fnL (z := z) (EA.imp (EA.one h) fun H' vs f r => by
    obtain ⟨u, rfl, r⟩ := r
    exact ⟨u, rfl, r, hd, ok⟩)
abbrev N_table : List Str := ["generator"]
theorem sc_table : FnScope N_table ["generator"] (defScope s_table) := ⟨rfl, rfl, rfl, by decide +kernel, rfl, by decide +kernel, by decide +kernel⟩
theorem ok_table : FnOk P w K mg base CX0 41 g.table.a g.table.d ["generator"] (PmL T preTb fun z H v => LdT (tableM z) H v) := by
  have OK_table_at := ok_table_at (P := P) (w := w) g 12
  refine pm_okL g.table.F sc_table (fun z H vs h => by obtain ⟨a, rfl, _⟩ := h; rfl) fun cdv A outer s H vs Q E z hr h ht hq => ?_
  obtain ⟨a, rfl, ha, hd, ok⟩ := h
  refine ⟨_, (pss_one (ps_ret (pe_call OK_table_at (hr.mono (by omega)) rfl g.table_at.m g.table_at.F.kp (b_table_at g.table_at) .nil pass0 (pa_cons (pv 0) (pa_cons (pe_tup pa_nil) pa_nil))))), ?_⟩
  refine S.ret (EV.fnL (z := (z, [])) (EA.imp (EA.two (ED.var rfl ha) mD (ED.tup (ds := []) EDs.nil (Nat.zero_le _))) fun H' vs f r => ?_)) ht fun v' H2 f r => hq _ _ f r
  obtain ⟨a, b, rfl, r1, r2⟩ := r
  exact ⟨a, b, rfl, r1, r2, hd, ok, by show 0 + 12 ≤ 1000; decide⟩
abbrev N_count_rows : List Str := ["generator", "value", "count", "row"]
theorem sc_count_rows : FnScope N_count_rows ["generator"] (defScope s_count_rows) := ⟨rfl, rfl, rfl, by decide +kernel, rfl, by decide +kernel, by decide +kernel⟩
theorem ok_count_rows : FnOk P w K mg base CX0 42 g.count_rows.a g.count_rows.d ["generator"] (Pm T preTb fun z H v => v = .int ((tableM z).map fun t => t.2.1).sum) := by
  have OK_table := ok_table (P := P) (w := w) g
  refine pm_ok g.count_rows.F sc_count_rows (fun z H vs h => by obtain ⟨a, rfl, _⟩ := h; rfl) fun cdv A outer s H vs Q E z hr h ht hq => ?_
  obtain ⟨a, rfl, ha, hd, ok⟩ := h
  refine ⟨_, (pss_one (ps_ret (pe_callB (cr_sumK K rfl rfl) rfl g.n_sum (by decide +kernel) (pa_cons (pe_lc (own := [("value", 1), ("count", 2), ("row", 3)]) rfl sc_count_rows.nd (pi_listK K rfl (pe_call OK_table (hr.mono (by omega)) rfl g.table.m g.table.F.kp (b_table g.table) .nil pass0 (pa_cons (pv 0) pa_nil))) (blkOk_by (own := [("value", 1), ("count", 2), ("row", 3)]) (N := N_count_rows) (sc := defScope s_count_rows) (by decide +kernel)) (fun _ _ _ _ _ => (pg_tupK K rfl 3 rfl (pgs_cons (pg_name (i := 1) sc_count_rows.nd rfl (Or.inl rfl)) (pgs_cons (pg_name (i := 2) sc_count_rows.nd rfl (Or.inl rfl)) (pgs_cons (pg_name (i := 3) sc_count_rows.nd rfl (Or.inl rfl)) pgs_nil))))) (fun _ _ _ _ _ => pts_nil) (fun _ _ _ _ _ => (pv 2))) pa_nil)))), ?_⟩
  have hl : (tableM z).length ≤ 2000 := by cases ok; assumption
  refine S.ret (ED.sum (EV.fst (EV.lcM (R := fun (n : Int) _ v => v = .int n) (F := fun t : Tr Dt => t.2.1) stab_int sep_int (IVn.list stab_tri (EV.fst (call_tb (ED.var rfl ha) hd ok))) (line6 (by omega)) fun t x H1 mt f1 y => ?_))) ht fun v' H2 f r => hq _ _ f r
  obtain ⟨x1, x2, x3, r1, r2, r3, hg⟩ := g3 (K := K) (i := 1) (j := 2) (k := 3) y
  exact ⟨_, fun Q q => hg H1 (TK.refl _) _ _ q, rfl, EV.var rfl fun H' f => ⟨r2, by rw [show x2 = _ from r2]; exact NL.int⟩⟩
def leastM (L : List (Tr Dt)) (d : Dt) : Option Row := (L.find? fun t => decide (t.1 = d)).map fun t => t.2.2
abbrev N_least_row : List Str := ["generator", "value", "other", "count", "row"]
theorem sc_least_row : FnScope N_least_row ["generator", "value"] (defScope s_least_row) := ⟨rfl, rfl, rfl, by decide +kernel, rfl, by decide +kernel, by decide +kernel⟩
theorem ok_least_row : FnOk P w K mg base CX0 42 g.least_row.a g.least_row.d ["generator", "value"] (Pm T (fun (z : Gen × Dt) H vs => ∃ a b, vs = [a, b] ∧ Rp H z.1.d a ∧ Rp H z.2 b ∧ z.1.depth < 12 ∧ TOk z.1 ∧ okD z.2 ∧ ∀ t ∈ tableM z.1, okD t.1) fun z H v => ∀ r, leastM (tableM z.1) z.2 = some r → Rp H (rowD r) v) := by
  have OK_table := ok_table (P := P) (w := w) g
  refine pm_ok g.least_row.F sc_least_row (fun z H vs h => by obtain ⟨a, b, rfl, _⟩ := h; rfl) fun cdv A outer s H vs Q E z hr h ht hq => ?_
  obtain ⟨z, d⟩ := z
  obtain ⟨a, b, rfl, ha, hb, hd, ok, od, ot⟩ := h
  have hb : Rp H d b := hb
  have ot : ∀ t ∈ tableM z, okD t.1 := ot
  refine ⟨_, (pss_cons (ps_for PassesOwn.never rfl (pi_listK K rfl (pe_call OK_table (hr.mono (by omega)) rfl g.table.m g.table.F.kp (b_table g.table) .nil pass0 (pa_cons (pv 0) pa_nil))) (pg_tupK K rfl 3 rfl (pgs_cons (pg_name (i := 2) sc_least_row.nd rfl (Or.inl rfl)) (pgs_cons (pg_name (i := 3) sc_least_row.nd rfl (Or.inl rfl)) (pgs_cons (pg_name (i := 4) sc_least_row.nd rfl (Or.inl rfl)) pgs_nil)))) (pss_one (ps_if (pt_cmpR (op_eqR (hu64 hr)) (pv 2) (pv 1) (nomark _)) (pss_one (ps_ret (pv 4))) pss_nil))) (pss_one (ps_ret pe_non))), ?_⟩
  refine Sq.forN (IVn.list stab_tri (EV.fst (call_tb (ED.var rfl ha) hd ok))) ht (fun B i σ H' => Fut T B H' ∧ (∀ t ∈ (tableM z).take i, t.1 ≠ d) ∧ ∃ c e f, σ = [some a, some b, c, e, f]) (fun B f => ⟨fr f, fun t h => (nomatch h), none, none, none, rfl⟩) (fun B i σ H' h => h.1) (fun B fB i x σ H3 H4 hi h f4 y => ?_) fun B fB σ H' h => ?_
  · obtain ⟨f3, hno, c, e, f, rfl⟩ := h
    obtain ⟨t, et, y⟩ := y
    have mt := List.mem_of_getElem? et
    obtain ⟨x1, x2, x3, r1, r2, r3, hg⟩ := g3 (K := K) (i := 2) (j := 3) (k := 4) y
    refine hg H4 (TK.refl _) _ _ ?_
    have f04 := (fB.trans f3).trans f4
    refine S.if (.of (EB.eq (d := t.1) (e := d) (ED.var rfl r1) (ED.var rfl (f04.rp hb)) (ot t mt) od)) f04.t (fun e H5 f5 => ?_) fun e H5 f5 => ?_
    · have e : t.1 = d := of_decide_eq_true e
      refine ⟨_, rfl, hq _ _ (f04.trans f5) fun r hr => ?_⟩
      have : leastM (tableM z) d = some t.2.2 := by
        unfold leastM
        have h1 : tableM z = (tableM z).take i ++ (tableM z).drop i := (List.take_append_drop _ _).symm
        rw [h1, List.find?_append]
        have h2 : (tableM z).drop i = t :: (tableM z).drop (i + 1) := by
          rw [← List.getElem_cons_drop (h := hi)]
          congr 1
          rw [List.getElem?_eq_getElem hi] at et
          exact Option.some.inj et
        rw [List.find?_eq_none.mpr fun u hu => by simpa using hno u hu, h2, List.find?_cons_of_pos (by simpa using e)]
        rfl
      have hr : leastM (tableM z) d = some r := hr
      rw [this] at hr
      cases hr
      exact f5.rp r3
    · refine ⟨(f3.trans f4).trans f5, fun u hu => ?_, _, _, _, rfl⟩
      rw [take_succ_of et] at hu
      rcases List.mem_append.mp hu with q | q
      · exact hno u q
      · rw [List.mem_singleton.mp q]
        exact of_decide_eq_false e
  · obtain ⟨f3, hno, c, e, f, rfl⟩ := h
    rw [List.take_of_length_le (Nat.le_refl _)] at hno
    refine hq _ _ (fB.trans f3) fun r hr => ?_
    have hr : leastM (tableM z) d = some r := hr
    unfold leastM at hr
    rw [List.find?_eq_none.mpr fun u hu => by simpa using hno u hu] at hr
    cases hr
end
end CR

set_option Elab.async false
set_option linter.all false
set_option maxRecDepth 100000
set_option maxHeartbeats 4000000
namespace CR
open PySem PySem.Spec PyProof.Rows L2
section
variable {T : Tbl} {σ : L2.St} {H B : Hp} {K : PySem.W.Frag} {wi wi1 : TI} {n : Nat} {Y : Nat → Hp → V → Prop}
theorem yesI {A B : Hp → Prop} (h : A H) : tYes σ H fun b H' => if b = true then A H' else B H' := by
  show if true = true then A H else B H
  rw [if_pos rfl]
  exact h
theorem EV.lc2 {gt gt1 : TG} {te : TE} {vs vs1 : List Nat} {β δ γ : Type} {S : β → Hp → V → Prop} {S1 : δ → Hp → V → Prop} {R : γ → Hp → V → Prop} {bs : List β} {cs : List δ} (s : Stab T R) (sp : Sep R) (hi : IVn T wi σ H bs.length (YL S bs)) (hn : bs.length * cs.length ≤ sizeLine) (F : β → δ → γ)
    (hb : ∀ b x H1, b ∈ bs → Fut T H H1 → S b H1 x → ∃ σ2, (∀ Q : L2.St → Hp → Prop, Q σ2 H1 → gt x (wipe σ vs) H1 Q) ∧ wipe σ2 vs = wipe σ vs ∧ IV T H wi1 σ2 H1 cs.length (fun i _ y => YL S1 cs i H y) ∧
      ∀ c y H2, c ∈ cs → Fut T H H2 → TK H1 H2 → S1 c H y → ∃ σ3, (∀ Q : L2.St → Hp → Prop, Q σ3 H2 → gt1 y (wipe σ2 vs1) H2 Q) ∧ wipe σ3 vs1 = wipe σ2 vs1 ∧ EV T te σ3 H2 fun H3 v => R (F b c) H3 v ∧ NL H2 v) :
    EV T (tLc2 wi gt tYes wi1 gt1 tYes te vs vs1) σ H (fun H' v => LR R (bs.flatMap fun b => cs.map (F b)) H' v ∧ NL H v) := fun H1 f1 Q q =>
  hi H1 f1 _ fun J H2 f2 w D hD => by
    have f12 := f1.trans f2
    have hDH : ∀ l, H D ≠ some (.lst l) := fun l z => by rw [f12.lst z] at hD; cases hD
    refine ⟨fun i m H' => m = bs.length - i ∧ i ≤ bs.length ∧ ∃ xs, H' D = some (.lst xs) ∧ Fut T H2 H' ∧ All2 (fun c x => R c H' x ∧ x ≠ .ref D) ((bs.take i).flatMap fun b => cs.map (F b)) xs, ⟨bs.length, by simp, Nat.zero_le _, [], upd_same, Fut.newR f2.t hD _, .nil⟩, ?_⟩
    rintro i m H' ⟨rfl, hi', xs, hx, f3, ax⟩
    by_cases hlt : i < bs.length
    · refine .inr ⟨w.goes i H' hlt f3, fun H'' => i + 1 ≤ bs.length ∧ ∃ xs, H'' D = some (.lst xs) ∧ Fut T H2 H'' ∧ All2 (fun c x => R c H'' x ∧ x ≠ .ref D) ((bs.take (i + 1)).flatMap fun b => cs.map (F b)) xs, fun H'' h => ⟨_, by omega, rfl, h.1, h.2⟩, fun x H4 y => ?_⟩
      obtain ⟨f4, b, eb, y⟩ := w.yields i H' x H4 hlt f3 y
      have mb := List.mem_of_getElem? eb
      have f24 := f3.trans f4
      have f04 := f12.trans f24
      obtain ⟨σ2, hg, hw, hin, hel⟩ := hb b x H4 mb f04 y
      have hx4 := f4.lst hx
      refine hg _ ⟨hw, ?_⟩
      refine yesI ?_
      refine hin _ fun J1 w1 => ?_
      have ex : (bs.take (i + 1)).flatMap (fun b => cs.map (F b)) = (bs.take i).flatMap (fun b => cs.map (F b)) ++ cs.map (F b) := by
        rw [take_succ_of eb, List.flatMap_append, List.flatMap_singleton]
      refine ⟨fun j k H5 => k = cs.length - j ∧ j ≤ cs.length ∧ ∃ ys, H5 D = some (.lst ys) ∧ Fut T H2 H5 ∧ TK H4 H5 ∧ All2 (fun c x => R c H5 x ∧ x ≠ .ref D) ((bs.take i).flatMap (fun b => cs.map (F b)) ++ (cs.take j).map (F b)) ys, ⟨cs.length, by simp, Nat.zero_le _, xs, hx4, f24, TK.refl _, by rw [List.take_zero, List.map_nil, List.append_nil]; exact all2_imp (fun c x z => ⟨s c _ _ x f4 z.1, z.2⟩) ax⟩, ?_⟩
      rintro j k H5 ⟨rfl, hj', ys, hy, f5, sb, ay⟩
      have f05 := f12.trans f5
      by_cases hjlt : j < cs.length
      · refine .inr ⟨w1.goes j H5 hjlt f05, fun H'' => j + 1 ≤ cs.length ∧ ∃ ys, H'' D = some (.lst ys) ∧ Fut T H2 H'' ∧ TK H4 H'' ∧ All2 (fun c x => R c H'' x ∧ x ≠ .ref D) ((bs.take i).flatMap (fun b => cs.map (F b)) ++ (cs.take (j + 1)).map (F b)) ys, fun H'' h => ⟨_, by omega, rfl, h.1, h.2⟩, fun x1 H6 y1 => ?_⟩
        obtain ⟨rfl, c, ec, y1⟩ := w1.yields j H5 x1 H6 hjlt f05 y1
        have mc := List.mem_of_getElem? ec
        obtain ⟨σ3, hg1, hw1, hv⟩ := hel c x1 H6 mc f05 sb y1
        refine hg1 _ ⟨hw1, ?_⟩
        refine yesI ?_
        refine hv H6 (fr f05) _ fun v H7 f7 rv => ?_
        have hy7 := f7.lst hy
        have nv : v ≠ .ref D := fun z => rv.2 D ys z hy
        refine ⟨ys, hy7, ?_, hjlt, ys ++ [v], upd_same, (f5.trans f7).putL hD hy7, (sb.trans f7.tk).trans (tk_lst hy7), ?_⟩
        · have h1 := ay.length
          rw [List.length_append, List.length_map, List.length_take, Nat.min_eq_left (Nat.le_of_lt hjlt)] at h1
          have h2 : ((bs.take i).flatMap fun b => cs.map (F b)).length = i * cs.length := by
            rw [List.length_flatMap]
            have : ((bs.take i).map fun b => (cs.map (F b)).length) = List.replicate i cs.length := by
              rw [List.eq_replicate_iff]
              refine ⟨by rw [List.length_map, List.length_take, Nat.min_eq_left hi'], fun z hz => ?_⟩
              obtain ⟨b, _, rfl⟩ := List.mem_map.mp hz
              rw [List.length_map]
            rw [this, List.sum_replicate_nat]
          rw [h2] at h1
          have h3 : (i + 1) * cs.length ≤ bs.length * cs.length := Nat.mul_le_mul_right _ hlt
          rw [Nat.succ_mul] at h3
          omega
        · rw [take_succ_of ec, List.map_append, ← List.append_assoc]
          exact all2_app (all2_imp (fun c x z => ⟨sp c _ D _ _ x hy7 z.2 (s c _ _ x f7 z.1), z.2⟩) ay) (.cons ⟨sp _ _ D _ _ v hy7 nv rv.1, nv⟩ .nil)
      · have e : j = cs.length := by omega
        subst e
        refine .inl ⟨w1.stops H5 f05, hlt, ys, hy, f5, ?_⟩
        rw [List.take_of_length_le (Nat.le_refl _)] at ay
        rw [ex]
        exact ay
    · have e : i = bs.length := by omega
      subst e
      rw [List.take_of_length_le (Nat.le_refl _)] at ax
      exact .inl ⟨w.stops H' f3, q _ _ (f2.trans f3) ⟨⟨D, xs, rfl, hx, all2_imp (fun _ _ z => z.1) ax⟩, (NL.new hD).back f12⟩⟩
end
/-! ### pairs -/
abbrev LdP (L : List (Row × Dt)) (H : Hp) (v : V) : Prop := LR (fun (p : Row × Dt) H v => Rp H (prD p) v) L H v
theorem stab_pr {T : Tbl} : Stab T (fun (p : Row × Dt) H v => Rp H (prD p) v) := fun b H H1 v f h => f.rp h
theorem sep_pr : Sep (fun (p : Row × Dt) H v => Rp H (prD p) v) := fun b H D xs xs' v h _ r => r.tk (tk_lst h)
theorem nl_rp {d : Dt} {H : Hp} {x : V} {D : Addr} (h : Rp H d x) (xs : List V) (hD : H D = some (.lst xs)) : x ≠ .ref D := fun e => by
  subst e
  cases d with
  | none => cases h
  | num i => cases h
  | text x => cases h
  | tup ds =>
    obtain ⟨a, xs, e, h1, _⟩ := h
    cases e
    rw [hD] at h1
    cases h1
structure FR {α : Type} (L : List (Row × α)) : Prop where
  n : L.length ≤ 100000
  r : ∀ p ∈ L, p.1.length ≤ 1000000
def FLr (L : List (Row × List Dt)) : Prop := ∀ p ∈ L, p.2.length ≤ 1000
theorem step_tup (A : List (Row × List Dt)) (B : List (Row × Dt)) : tupR (stepM A B) = A.flatMap fun p => B.map fun q => (p.1 ++ q.1, NestedKey.tup (p.2 ++ [q.2])) := by
  unfold tupR stepM
  rw [List.map_flatMap]
  congr 1
  funext p
  rw [List.map_map]
  rfl
theorem step_len (A : List (Row × List Dt)) (B : List (Row × Dt)) : (stepM A B).length = A.length * B.length := len_step A B
/-- [(row + other, values + (value,)) for row, values in made for other, value in part], of tuples -/
theorem tupR_len (A : List (Row × List Dt)) : (tupR A).length = A.length := List.length_map _
theorem joinR_snoc (Ls : List (List (Row × Dt))) (L : List (Row × Dt)) : joinR (Ls ++ [L]) = stepM (joinR Ls) L := by
  unfold joinR
  rw [List.foldl_append]
  rfl
/-- the tuples of made, told one by one -/
theorem ldp_tup {A : List (Row × List Dt)} {H : Hp} {v : V} : LdP (tupR A) H v ↔ LR (fun (b : Row × List Dt) H v => Rp H (prD (b.1, .tup b.2)) v) A H v := lr_map
theorem stab_b {T : Tbl} : Stab T (fun (b : Row × List Dt) H v => Rp H (prD (b.1, .tup b.2)) v) := fun b H H1 v f h => f.rp h
theorem sep_b : Sep (fun (b : Row × List Dt) H v => Rp H (prD (b.1, .tup b.2)) v) := fun b H D xs xs' v h _ r => r.tk (tk_lst h)
theorem unit_pr {T : Tbl} {σ : L2.St} {H : Hp} {t1 t2 : TE} {v : List Dt} {r : Row} (h1 : ED T t1 σ H (rowD r)) (h2 : ED T t2 σ H (.tup v)) : EV T (tLst (tCons (tTup (tCons t1 (tCons t2 tNil))) tNil)) σ H (fun H' v' => LdP (tupR [(r, v)]) H' v' ∧ NL H v') :=
  EV.imp (EL.lstN (ds := [.tup [rowD r, .tup v]]) (EDs.cons (ED.tup (ds := [rowD r, .tup v]) (EDs.cons h1 (EDs.cons h2 EDs.nil)) ln2) EDs.nil) ln1) fun H' v' f q => ⟨lr_map.mp (ld_lr.mp q.1), q.2⟩
structure PreJ (Ls : List (List (Row × Dt))) : Prop where
  n : Ls.length ≤ 1000
  fL : ∀ L ∈ Ls, FR L
  jn : (∀ L ∈ Ls, L ≠ []) → ∀ i, FR (joinR (Ls.take i)) ∧ FLr (joinR (Ls.take i))
  mu : (∀ L ∈ Ls, L ≠ []) → ∀ (i : Nat) L, Ls[i]? = some L → (joinR (Ls.take i)).length * L.length ≤ 1000000
abbrev LdPs (Ls : List (List (Row × Dt))) (H : Hp) (v : V) : Prop := LR (fun L H v => LdP L H v) Ls H v
theorem stab_ldp {T : Tbl} : Stab T (fun (L : List (Row × Dt)) H v => LdP L H v) := fun b H H1 v f h => h.fut stab_pr f
theorem sep_ldp : Sep (fun (L : List (Row × Dt)) H v => LdP L H v) := sep_lr prD fun _ _ _ => Iff.rfl
theorem mP {T : Tbl} {L : List (Row × Dt)} : Mono T (LdP L) := fun _ _ _ f h => h.fut stab_pr f
section
variable {P : Program} {w : World} {K : PySem.W.Frag} {mg : Str → Option Value} {base : Heap} {T : Tbl} (g : G K mg base T)
abbrev N_joined_rows : List Str := ["parts", "made", "part", "row", "values", "other", "value"]
theorem sc_joined_rows : FnScope N_joined_rows ["parts"] (defScope s_joined_rows) := ⟨rfl, rfl, rfl, by decide +kernel, rfl, by decide +kernel, by decide +kernel⟩
theorem ok_joined_rows : FnOk P w K mg base CX0 3 g.joined_rows.a g.joined_rows.d ["parts"] (PmL T (fun (z : List (List (Row × Dt))) H vs => ∃ u, vs = [u] ∧ LdPs z H u ∧ PreJ z) fun z H v => LdP (tupR (joinR z)) H v) := by
  refine pm_okCL g.c_joined_rows sc_joined_rows (fun z H vs h => by obtain ⟨u, rfl, _⟩ := h; rfl) fun cd P' A outer s H vs Q E z TB hmT hu hr h ht hq => ?_
  obtain ⟨u, rfl, hu', pr⟩ := h
  refine ⟨_, (pss_cons (ps_if (pt_val (pe_anyQ (k := 1) (("joined_rows" : Str) ++ (".<locals>." : Str)) rfl (hr.mono (by omega)) rfl g.n_any TB rfl hmT hu (gsc_by (i := 2) (N := N_joined_rows) (sc := defScope s_joined_rows) (by decide +kernel)) sc_joined_rows.nd (pi_listK K rfl (pv 0)) (fun _ _ _ _ _ _ hrG => (pe_cmpR op_eq (pe_callB (cr_lenK K rfl) rfl g.n_len boot_len (pa_cons (pv 2) pa_nil)) pe_int (nomark _))) (fun _ => rfl))) (pss_one (ps_ret (pe_lst pa_nil))) pss_nil) (pss_cons (ps_set (i := 1) sc_joined_rows.nd rfl (Or.inl rfl) (pe_lst (pa_cons (pe_tup (pa_cons (pe_tup pa_nil) (pa_cons (pe_tup pa_nil) pa_nil))) pa_nil))) (pss_cons (ps_for PassesOwn.never rfl (pi_listK K rfl (pv 0)) (pg_name (i := 2) sc_joined_rows.nd rfl (Or.inr rfl)) (pss_one (ps_setLc2 (own := [("row", 3), ("values", 4), ("other", 5), ("value", 6)]) (vs1 := [5, 6]) (i := 1) rfl sc_joined_rows.nd rfl rfl (by first | exact sw_true rfl rfl rfl (by decide +kernel) | rfl) (pi_listK K rfl (pv 1)) (blkOk_by (own := [("row", 3), ("values", 4), ("other", 5), ("value", 6)]) (N := N_joined_rows) (sc := defScope s_joined_rows) (by decide +kernel)) (by decide) (fun _ _ _ _ _ => (pg_tupK K rfl 2 rfl (pgs_cons (pg_name (i := 3) sc_joined_rows.nd rfl (Or.inl rfl)) (pgs_cons (pg_name (i := 4) sc_joined_rows.nd rfl (Or.inl rfl)) pgs_nil)))) (fun _ _ _ _ _ => pts_nil) (fun _ _ _ _ _ => (pi_listK K rfl (pv 2))) (fun _ _ _ _ _ => (pg_tupK K rfl 2 rfl (pgs_cons (pg_name (i := 5) sc_joined_rows.nd rfl (Or.inl rfl)) (pgs_cons (pg_name (i := 6) sc_joined_rows.nd rfl (Or.inl rfl)) pgs_nil)))) (fun _ _ _ _ _ => pts_nil) (fun _ _ _ _ _ => (pe_tup (pa_cons (pe_op (op_catK K rfl) (pv 3) (pv 5)) (pa_cons (pe_op (op_catK K rfl) (pv 4) (pe_tup (pa_cons (pv 6) pa_nil))) pa_nil))))))) (pss_one (ps_ret (pv 1)))))), ?_⟩
  refine Sq.if (ET.ofB (EB.genL (go := false) (IVn.list stab_ldp (EV.var rfl fun H' f => hu'.fut stab_ldp f)) (fun B => decide ((B.length : Int) = 0)) fun B x H1 hB f1 y => EB.eqI (ED.lenR (EV.var rfl fun H' f => y.fut stab_pr f)) (ED.int 0))) ht (fun he H1 f1 => ?_) fun he H1 f1 => ?_
  · refine S.ret (EV.nilL (S := fun (p : Row × Dt) H v => Rp H (prD p) v)) f1.t fun v' H2 f2 r => hq _ _ (f1.trans f2) ⟨?_, r.2.back f1⟩
    rw [if_neg Bool.false_ne_true, List.any_eq_true] at he
    obtain ⟨B, hB, he⟩ := he
    have : B = [] := List.eq_nil_of_length_eq_zero (by have := of_decide_eq_true he; omega)
    rw [this] at hB
    rw [join_empty hB]
    exact r.1
  · have hne : ∀ B ∈ z, B ≠ [] := fun B hB e => by
      rw [if_neg Bool.false_ne_true, List.any_eq_false] at he
      exact he B hB (by rw [e]; rfl)
    refine Sq.set (unit_pr (v := []) (r := []) (ED.tup (ds := []) EDs.nil (Nat.zero_le _)) (ED.tup EDs.nil (Nat.zero_le _))) f1.t fun mv H4 f4 hm => ?_
    have f34 := f1.trans f4
    refine Sq.for (B := H) (IV.list rfl hu' f34) (fun i σ H' => Fut T H H' ∧ ∃ mv b, σ = [some u, some mv, b, none, none, none, none] ∧ LdP (tupR (joinR (z.take i))) H' mv ∧ NL H mv) ⟨f34, mv, none, rfl, hm.1, hm.2.back f1⟩ (fun i σ H' h => h.1) (fun i x σ H5 hi h y => ?_) fun σ H5 h => ?_
    · obtain ⟨f5, mv, b, rfl, hm, nm⟩ := h
      obtain ⟨L, hL, y⟩ := y
      have fL := pr.fL L (List.mem_of_getElem? hL)
      have jn := pr.jn hne i
      have mu := pr.mu hne i L hL
      have y5 : LdP L H5 x := y.fut stab_pr f5
      have e : tupR (joinR (z.take (i + 1))) = (joinR (z.take i)).flatMap fun p => L.map fun q => (p.1 ++ q.1, NestedKey.tup (p.2 ++ [q.2])) := by
        rw [take_succ_of hL, joinR_snoc, step_tup]
      refine S.set (EV.lc2 (R := fun (p : Row × Dt) H v => Rp H (prD p) v) (S := fun (b : Row × List Dt) H v => Rp H (prD (b.1, .tup b.2)) v) (S1 := fun (p : Row × Dt) H v => Rp H (prD p) v) (bs := joinR (z.take i)) (cs := L) stab_pr sep_pr (IVn.list stab_b (EV.var rfl fun H' f => (ldp_tup.mp hm).fut stab_b f)) (line6 (by omega)) (fun p q => (p.1 ++ q.1, NestedKey.tup (p.2 ++ [q.2]))) (fun p xb H1 mb f1 yb => ?_)) f5.t fun mv' H6 f6 r => ⟨f5.trans f6, mv', some x, rfl, by rw [e]; exact r.1, r.2.back f5⟩
      obtain ⟨x1, x2, r1, r2, hg⟩ := g2 (K := K) (i := 3) (j := 4) yb
      refine ⟨_, fun Q q => hg H1 (TK.refl _) _ _ q, rfl, IV.list rfl y5 f1, fun c xc H2 mc f2 sb yc => ?_⟩
      obtain ⟨z1, z2, q1, q2, hg'⟩ := g2 (K := K) (i := 5) (j := 6) yc
      have lp := jn.1.r p mb
      have lq := fL.r c mc
      have lv := jn.2 p mb
      refine ⟨_, fun Q q => hg' H2 f2.tk _ _ q, rfl, ED.nl (ED.tup (ds := [rowD (p.1 ++ c.1), .tup (p.2 ++ [c.2])]) (EDs.cons (ED.catR (ED.var rfl (r1.tk sb)) (ED.var rfl (f2.rp q1)) (line6 (by omega))) (EDs.cons (ED.cat (ED.var rfl (r2.tk sb)) (ED.tup (EDs.cons (ED.var rfl (f2.rp q2)) EDs.nil) ln1) (line6 (by show p.2.length + 1 ≤ _; omega))) EDs.nil)) ln2)⟩
    · obtain ⟨f5, mv, b, rfl, hm, nm⟩ := h
      rw [List.take_of_length_le (Nat.le_refl _)] at hm
      exact ⟨_, rfl, hq _ _ f5 ⟨hm, nm⟩⟩
end
end CR

set_option Elab.async false
set_option linter.all false
set_option maxRecDepth 100000
set_option maxHeartbeats 4000000
namespace CR
open PySem PySem.Spec PyProof.Rows L2
def itR (M : List (Row × Dt)) (A : List (Row × List Dt)) : Nat → List (Row × List Dt)
  | 0 => A
  | j + 1 => stepM (behR [1] (itR M A j)) M
def accR (M : List (Row × Dt)) (A : List (Row × List Dt)) : Nat → List (Row × List Dt)
  | 0 => []
  | j + 1 => accR M A j ++ behR [0] (itR M A j)
theorem itR_shift (B : List (Row × Dt)) (A : List (Row × List Dt)) : ∀ j, itR B (stepM (behR [1] A) B) j = itR B A (j + 1)
  | 0 => rfl
  | j + 1 => by
    show stepM (behR [1] (itR B (stepM (behR [1] A) B) j)) B = stepM (behR [1] (itR B A (j + 1))) B
    rw [itR_shift B A j]
theorem accR_shift (B : List (Row × Dt)) (A : List (Row × List Dt)) : ∀ j, behR [0] A ++ accR B (stepM (behR [1] A) B) j = accR B A (j + 1)
  | 0 => by simp [accR, itR]
  | j + 1 => by
    show behR [0] A ++ (accR B (stepM (behR [1] A) B) j ++ behR [0] (itR B (stepM (behR [1] A) B) j)) = accR B A (j + 1) ++ behR [0] (itR B A (j + 1))
    rw [← List.append_assoc, accR_shift B A j, itR_shift]
theorem accR_le (B : List (Row × Dt)) (A : List (Row × List Dt)) {i j : Nat} (h : i ≤ j) : (accR B A i).length ≤ (accR B A j).length := by
  induction h with
  | refl => exact Nat.le_refl _
  | step _ ih => exact Nat.le_trans ih (by show _ ≤ (accR B A _ ++ _).length; rw [List.length_append]; omega)
theorem loopR_eq (B : List (Row × Dt)) : ∀ (n : Nat) (A : List (Row × List Dt)), loopR B n A = accR B A n ++ itR B A n
  | 0, A => rfl
  | n + 1, A => by
    show behR [0] A ++ loopR B n (stepM (behR [1] A) B) = _
    rw [loopR_eq B n, ← List.append_assoc, accR_shift, itR_shift]
theorem behR_tup (ch : Row) (A : List (Row × List Dt)) : behR ch (tupR A) = tupR (behR ch A) := by
  unfold behR tupR
  rw [List.map_map, List.map_map]
  rfl
theorem tupR_app (A B : List (Row × List Dt)) : tupR (A ++ B) = tupR A ++ tupR B := List.map_append
structure PreLr (M : List (Row × Dt)) (l m : Nat) : Prop where
  lm : l ≤ m
  m6 : m ≤ 6
  fM : FR M
  pw : ∀ k, k ≤ l → FR (powM M k) ∧ FLr (powM M k)
  it : ∀ j, j ≤ m - l → FR (itR M (powM M l) j) ∧ FLr (itR M (powM M l) j)
  acc : (accR M (powM M l) (m - l) ++ itR M (powM M l) (m - l)).length ≤ 100000
  mulP : ∀ k, k < l → (powM M k).length * M.length ≤ 1000000
  mulI : ∀ j, j < m - l → (itR M (powM M l) j).length * M.length ≤ 1000000
theorem new_pr (b : Row × Dt) (H : Hp) (p : Addr) (o : HO) (v : V) (h : H p = none) (r : Rp H (prD b) v) : Rp (upd H p o) (prD b) v := r.tk (TK.new h o)
section
variable {P : Program} {w : World} {K : PySem.W.Frag} {mg : Str → Option Value} {base : Heap} {T : Tbl} (g : G K mg base T)
abbrev N_listed_rows : List Str := ["part", "least", "most", "made", "_", "found", "row", "values", "other", "value"]
theorem sc_listed_rows : FnScope N_listed_rows ["part", "least", "most"] (defScope s_listed_rows) := ⟨rfl, rfl, rfl, by decide +kernel, rfl, by decide +kernel, by decide +kernel⟩
theorem ok_listed_rows : FnOk P w K mg base CX0 2 g.listed_rows.a g.listed_rows.d ["part", "least", "most"] (PmL T (fun (z : List (Row × Dt) × Nat × Nat) H vs => ∃ u, vs = [u, .int z.2.1, .int z.2.2] ∧ LdP z.1 H u ∧ PreLr z.1 z.2.1 z.2.2) fun z H v => LdP (tupR (loopR z.1 (z.2.2 - z.2.1) (powM z.1 z.2.1))) H v) := by
  refine pm_okL g.listed_rows.F sc_listed_rows (fun z H vs h => by obtain ⟨u, rfl, _⟩ := h; rfl) fun cdv A outer s H vs Q E z hr h ht hq => ?_
  obtain ⟨M, l, m⟩ := z
  obtain ⟨u, rfl, hM, pr⟩ := h
  have pr : PreLr M l m := pr
  have hM : LdP M H u := hM
  have hlm := pr.lm
  have hm6 := pr.m6
  refine ⟨_, (pss_cons (ps_set (i := 3) sc_listed_rows.nd rfl (Or.inl rfl) (pe_lst (pa_cons (pe_tup (pa_cons (pe_tup pa_nil) (pa_cons (pe_tup pa_nil) pa_nil))) pa_nil))) (pss_cons (ps_for PassesOwn.never rfl (pi_range1 rfl g.n_range (pa_cons (pv 1) pa_nil)) (pg_name (i := 4) sc_listed_rows.nd rfl (Or.inl rfl)) (pss_one (ps_setLc2 (own := [("row", 6), ("values", 7), ("other", 8), ("value", 9)]) (vs1 := [8, 9]) (i := 3) rfl sc_listed_rows.nd rfl rfl (by first | exact sw_true rfl rfl rfl (by decide +kernel) | rfl) (pi_listK K rfl (pv 3)) (blkOk_by (own := [("row", 6), ("values", 7), ("other", 8), ("value", 9)]) (N := N_listed_rows) (sc := defScope s_listed_rows) (by decide +kernel)) (by decide) (fun _ _ _ _ _ => (pg_tupK K rfl 2 rfl (pgs_cons (pg_name (i := 6) sc_listed_rows.nd rfl (Or.inl rfl)) (pgs_cons (pg_name (i := 7) sc_listed_rows.nd rfl (Or.inl rfl)) pgs_nil)))) (fun _ _ _ _ _ => pts_nil) (fun _ _ _ _ _ => (pi_listK K rfl (pv 0))) (fun _ _ _ _ _ => (pg_tupK K rfl 2 rfl (pgs_cons (pg_name (i := 8) sc_listed_rows.nd rfl (Or.inl rfl)) (pgs_cons (pg_name (i := 9) sc_listed_rows.nd rfl (Or.inl rfl)) pgs_nil)))) (fun _ _ _ _ _ => pts_nil) (fun _ _ _ _ _ => (pe_tup (pa_cons (pe_op (op_catK K rfl) (pv 6) (pv 8)) (pa_cons (pe_op (op_catK K rfl) (pv 7) (pe_tup (pa_cons (pv 9) pa_nil))) pa_nil))))))) (pss_cons (ps_set (i := 5) sc_listed_rows.nd rfl (Or.inl rfl) (pe_lst pa_nil)) (pss_cons (ps_for PassesOwn.never rfl (pi_range2 rfl g.n_range (pa_cons (pv 1) (pa_cons (pv 2) pa_nil))) (pg_name (i := 4) sc_listed_rows.nd rfl (Or.inl rfl)) (pss_cons (ps_expr (pe_bm PySem.F.plainAttrs_list PySem.F.slot_list_extend PySem.F.type_list_extend mt_extend (pv 5) (pa_cons (pe_lc (own := [("row", 6), ("values", 7)]) rfl sc_listed_rows.nd (pi_listK K rfl (pv 3)) (blkOk_by (own := [("row", 6), ("values", 7)]) (N := N_listed_rows) (sc := defScope s_listed_rows) (by decide +kernel)) (fun _ _ _ _ _ => (pg_tupK K rfl 2 rfl (pgs_cons (pg_name (i := 6) sc_listed_rows.nd rfl (Or.inl rfl)) (pgs_cons (pg_name (i := 7) sc_listed_rows.nd rfl (Or.inl rfl)) pgs_nil)))) (fun _ _ _ _ _ => pts_nil) (fun _ _ _ _ _ => (pe_tup (pa_cons (pe_op (op_catK K rfl) (pv 6) (pe_tup (pa_cons pe_int pa_nil))) (pa_cons (pv 7) pa_nil))))) pa_nil))) (pss_one (ps_setLc2 (own := [("row", 6), ("values", 7), ("other", 8), ("value", 9)]) (vs1 := [8, 9]) (i := 3) rfl sc_listed_rows.nd rfl rfl (by first | exact sw_true rfl rfl rfl (by decide +kernel) | rfl) (pi_listK K rfl (pv 3)) (blkOk_by (own := [("row", 6), ("values", 7), ("other", 8), ("value", 9)]) (N := N_listed_rows) (sc := defScope s_listed_rows) (by decide +kernel)) (by decide) (fun _ _ _ _ _ => (pg_tupK K rfl 2 rfl (pgs_cons (pg_name (i := 6) sc_listed_rows.nd rfl (Or.inl rfl)) (pgs_cons (pg_name (i := 7) sc_listed_rows.nd rfl (Or.inl rfl)) pgs_nil)))) (fun _ _ _ _ _ => pts_nil) (fun _ _ _ _ _ => (pi_listK K rfl (pv 0))) (fun _ _ _ _ _ => (pg_tupK K rfl 2 rfl (pgs_cons (pg_name (i := 8) sc_listed_rows.nd rfl (Or.inl rfl)) (pgs_cons (pg_name (i := 9) sc_listed_rows.nd rfl (Or.inl rfl)) pgs_nil)))) (fun _ _ _ _ _ => pts_nil) (fun _ _ _ _ _ => (pe_tup (pa_cons (pe_op (op_catK K rfl) (pe_op (op_catK K rfl) (pv 6) (pe_tup (pa_cons pe_int pa_nil))) (pv 8)) (pa_cons (pe_op (op_catK K rfl) (pv 7) (pe_tup (pa_cons (pv 9) pa_nil))) pa_nil)))))))) (pss_one (ps_ret (pe_op op_cat (pv 5) (pv 3)))))))), ?_⟩
  refine Sq.set (EV.fst (unit_pr (v := []) (r := []) (ED.tup (ds := []) EDs.nil (Nat.zero_le _)) (ED.tup EDs.nil (Nat.zero_le _)))) ht fun mv H2 f2 hm => ?_
  -- for _ in range(least)
  refine Sq.for (B := H) (IV.rng1 (m := l) (fun Q q => ⟨_, rfl, q⟩) (by omega)) (fun i σ H' => Fut T H H' ∧ ∃ mv x, σ = [some u, some (.int l), some (.int m), some mv, x, none, none, none, none, none] ∧ LdP (tupR (powM M i)) H' mv) ⟨f2, mv, none, rfl, hm⟩ (fun i σ H' h => h.1) (fun i x σ H3 hi h y => ?_) fun σ H3 h => ?_
  · obtain ⟨f3, mv, x', rfl, hm⟩ := h
    have pw := pr.pw i (by omega)
    have e : tupR (powM M (i + 1)) = (powM M i).flatMap fun p => M.map fun q => (p.1 ++ q.1, NestedKey.tup (p.2 ++ [q.2])) := by
      show tupR (stepM (powM M i) M) = _
      rw [step_tup]
    have hM3 : LdP M H3 u := hM.fut stab_pr f3
    refine S.set (EV.fst (EV.lc2 (R := fun (p : Row × Dt) H v => Rp H (prD p) v) (S := fun (b : Row × List Dt) H v => Rp H (prD (b.1, .tup b.2)) v) (S1 := fun (p : Row × Dt) H v => Rp H (prD p) v) (bs := powM M i) (cs := M) stab_pr sep_pr (IVn.list stab_b (EV.var rfl fun H' f => (ldp_tup.mp hm).fut stab_b f)) (line6 (by have := pr.mulP i hi; omega)) (fun p q => (p.1 ++ q.1, NestedKey.tup (p.2 ++ [q.2]))) (fun p xb H1 mb f1 yb => ?_))) f3.t fun mv' H6 f6 r => ⟨f3.trans f6, mv', some x, rfl, by rw [e]; exact r⟩
    obtain ⟨x1, x2, r1, r2, hg⟩ := g2 (K := K) (i := 6) (j := 7) yb
    refine ⟨_, fun Q q => hg H1 (TK.refl _) _ _ q, rfl, IV.list rfl hM3 f1, fun c xc H2 mc f2 sb yc => ?_⟩
    obtain ⟨z1, z2, q1, q2, hg'⟩ := g2 (K := K) (i := 8) (j := 9) yc
    have lp := pw.1.r p mb
    have lq := pr.fM.r c mc
    have lv := pw.2 p mb
    exact ⟨_, fun Q q => hg' H2 f2.tk _ _ q, rfl, ED.nl (ED.tup (ds := [rowD (p.1 ++ c.1), .tup (p.2 ++ [c.2])]) (EDs.cons (ED.catR (ED.var rfl (r1.tk sb)) (ED.var rfl (f2.rp q1)) (line6 (by omega))) (EDs.cons (ED.cat (ED.var rfl (r2.tk sb)) (ED.tup (EDs.cons (ED.var rfl (f2.rp q2)) EDs.nil) ln1) (line6 (by show p.2.length + 1 ≤ _; omega))) EDs.nil)) ln2)⟩
  obtain ⟨f3, mv, x', rfl, hm⟩ := h
  refine Sq.newl fun p hp => ?_
  have f4 := Fut.newR f3.t hp (.lst [])
  have nmv : mv ≠ .ref p := by
    obtain ⟨q, xs, rfl, h2, _⟩ := hm
    intro e
    cases e
    rw [hp] at h2
    cases h2
  refine Sq.for (B := H3) (IV.rng2 (l := l) (m := m) (fun Q q => ⟨_, rfl, q⟩) (fun Q q => ⟨_, rfl, q⟩) (by omega) (by omega) (by omega) (by omega)) (fun j σ H' => Fut T H3 H' ∧ ∃ mv x xs, σ = [some u, some (.int l), some (.int m), some mv, x, some (.ref p), none, none, none, none] ∧ LdP (tupR (itR M (powM M l) j)) H' mv ∧ mv ≠ .ref p ∧ H' p = some (.lst xs) ∧ All2 (fun t x => Rp H' (prD t) x) (tupR (accR M (powM M l) j)) xs) ⟨f4, mv, x', [], rfl, hm.fut stab_pr f4, nmv, upd_same, .nil⟩ (fun i σ H' h => h.1) (fun j x σ H5 hj h y => ?_) fun σ H5 h => ?_
  · obtain ⟨f5, mv, x0, xs, rfl, hm, nm, hx, ax⟩ := h
    have hj' : j < m - l := by omega
    have itj := pr.it j (by omega)
    have hml := ax.length
    have itn := itj.1.n
    have hlen : xs.length + (tupR (behR [0] (itR M (powM M l) j))).length ≤ sizeLine := by
      have h1 := accR_le M (powM M l) (show j + 1 ≤ m - l from hj')
      have h2 : (accR M (powM M l) (j + 1)).length = (accR M (powM M l) j).length + (behR [0] (itR M (powM M l) j)).length := List.length_append
      have h3 := pr.acc
      rw [List.length_append] at h3
      rw [tupR_len] at hml ⊢
      exact line6 (by omega)
    have e0 : tupR (behR [0] (itR M (powM M l) j)) = (itR M (powM M l) j).map fun b => (b.1 ++ [0], NestedKey.tup b.2) := by
      unfold tupR behR
      rw [List.map_map]
      rfl
    refine S.seq (S.ext (R := fun (t : Row × Dt) H v => Rp H (prD t) v) (bs := tupR (behR [0] (itR M (powM M l) j))) rfl hx hlen (by
      rw [e0]
      exact EV.fst (EV.lcM (R := fun (p : Row × Dt) H v => Rp H (prD p) v) (F := fun b : Row × List Dt => (b.1 ++ [0], NestedKey.tup b.2)) stab_pr sep_pr (IVn.list stab_b (EV.var rfl fun H' f => (ldp_tup.mp hm).fut stab_b f)) (line6 (by omega)) fun b xb H1 mb f1 yb => by
        obtain ⟨x1, x2, r1, r2, hg⟩ := g2 (K := K) (i := 6) (j := 7) yb
        have lp := itj.1.r b mb
        exact ⟨_, fun Q q => hg H1 (TK.refl _) _ _ q, rfl, ED.nl (ED.tup (ds := [rowD (b.1 ++ [0]), .tup b.2]) (EDs.cons (ED.catR (b := [0]) (ED.var rfl r1) (ED.tup (ds := [.num 0]) (EDs.cons (ED.int 0) EDs.nil) ln1) (line6 (by show b.1.length + 1 ≤ _; omega))) (EDs.cons (ED.var rfl r2) EDs.nil)) ln2)⟩)) f5.t fun zs H6 f6 az => ?_)
    have hx6 := f6.lst hx
    have f7 : Fut T H3 (upd H6 p (.lst (xs ++ zs))) := (f5.trans f6).putL hp hx6
    have hm7 : LdP (tupR (itR M (powM M l) j)) (upd H6 p (.lst (xs ++ zs))) mv := sep_lr prD (fun _ _ _ => Iff.rfl) _ _ _ _ _ _ hx6 nm (hm.fut stab_pr f6)
    have itj1 := pr.it (j + 1) (by omega)
    have hM7 : LdP M (upd H6 p (.lst (xs ++ zs))) u := (hM.fut stab_pr f3).fut stab_pr f7
    have e : tupR (itR M (powM M l) (j + 1)) = (itR M (powM M l) j).flatMap fun p => M.map fun q => (p.1 ++ [1] ++ q.1, NestedKey.tup (p.2 ++ [q.2])) := by
      show tupR (stepM (behR [1] (itR M (powM M l) j)) M) = _
      rw [step_tup]
      unfold behR
      rw [List.flatMap_map]
    refine S.set (EV.lc2 (R := fun (p : Row × Dt) H v => Rp H (prD p) v) (S := fun (b : Row × List Dt) H v => Rp H (prD (b.1, .tup b.2)) v) (S1 := fun (p : Row × Dt) H v => Rp H (prD p) v) (bs := itR M (powM M l) j) (cs := M) stab_pr sep_pr (IVn.list stab_b (EV.var rfl fun H' f => (ldp_tup.mp hm7).fut stab_b f)) (line6 (by have := pr.mulI j hj'; omega)) (fun p q => (p.1 ++ [1] ++ q.1, NestedKey.tup (p.2 ++ [q.2]))) (fun p xb H1 mb f1 yb => ?_)) f7.t fun mv' H8 f8 r => ⟨f7.trans f8, mv', some x, xs ++ zs, rfl, by rw [e]; exact r.1, r.2.ne upd_same, f8.lst upd_same, ?_⟩
    · obtain ⟨x1, x2, r1, r2, hg⟩ := g2 (K := K) (i := 6) (j := 7) yb
      refine ⟨_, fun Q q => hg H1 (TK.refl _) _ _ q, rfl, IV.list rfl hM7 f1, fun c xc H2 mc f2 sb yc => ?_⟩
      obtain ⟨z1, z2, q1, q2, hg'⟩ := g2 (K := K) (i := 8) (j := 9) yc
      have lp := itj.1.r p mb
      have lq := pr.fM.r c mc
      have lv := itj.2 p mb
      exact ⟨_, fun Q q => hg' H2 f2.tk _ _ q, rfl, ED.nl (ED.tup (ds := [rowD (p.1 ++ [1] ++ c.1), .tup (p.2 ++ [c.2])]) (EDs.cons (ED.catR (ED.catR (b := [1]) (ED.var rfl (r1.tk sb)) (ED.tup (ds := [.num 1]) (EDs.cons (ED.int 1) EDs.nil) ln1) (line6 (by show p.1.length + 1 ≤ _; omega))) (ED.var rfl (f2.rp q1)) (line6 (by rw [List.length_append]; show p.1.length + 1 + c.1.length ≤ _; omega))) (EDs.cons (ED.cat (ED.var rfl (r2.tk sb)) (ED.tup (EDs.cons (ED.var rfl (f2.rp q2)) EDs.nil) ln1) (line6 (by show p.2.length + 1 ≤ _; omega))) EDs.nil)) ln2)⟩
    · have e2 : tupR (accR M (powM M l) (j + 1)) = tupR (accR M (powM M l) j) ++ tupR (behR [0] (itR M (powM M l) j)) := by
        rw [← tupR_app]
        rfl
      rw [e2]
      exact all2_app (all2_imp (fun t x q => ((f6.rp q).tk (tk_lst hx6)).tk f8.tk) ax) (all2_imp (fun t x q => (q.tk (tk_lst hx6)).tk f8.tk) az)
  · obtain ⟨f5, mv, x0, xs, rfl, hm, nm, hx, ax⟩ := h
    have e : ((m : Int) - (l : Int)).toNat = m - l := by omega
    rw [e] at hm ax
    have hl := pr.acc
    refine S.ret (EV.catL (S := fun t H v => Rp H (prD t) v) stab_pr (EV.var rfl fun H' f => LR.fut stab_pr f ⟨p, xs, rfl, hx, ax⟩) (EV.var rfl fun H' f => hm.fut stab_pr f) (fun b H p o v h r => new_pr b H p o v h r) ?_) f5.t fun v' H6 f6 r => hq _ _ ((f3.trans f5).trans f6) ⟨?_, (r.2.back (f3.trans f5))⟩
    · rw [List.length_append] at hl
      rw [tupR_len, tupR_len]
      exact line6 (by omega)
    · show LdP (tupR (loopR M (m - l) (powM M l))) H6 v'
      rw [loopR_eq, tupR_app]
      exact r.1
end
end CR

set_option Elab.async false
set_option linter.all false
set_option maxRecDepth 100000
set_option maxHeartbeats 4000000
namespace CR
open PySem PySem.Spec PyProof.Rows L2
structure PreRr (L M : List (Row × Dt)) : Prop where
  fL : FR L
  fM : FR M
  num : ∀ p ∈ L, ∃ n, p.2 = .num n
  jn : ∀ p ∈ L, fit6 p.2 = true → PreJ (List.replicate (numD p.2).toNat M) ∧ FR (powM M (numD p.2).toNat)
  all : (repR L M).length ≤ 100000
def PreP : Gen → List (List (Row × Dt)) → Prop
  | .leaf _, _ => False
  | .tuple _, Ps => PreJ Ps
  | .list _ l m, [M] => PreLr M l m
  | .one _, [A] => FR A
  | .two _ _, [A, B] => FR A ∧ FR B
  | .kept _ c, [A] => FR A ∧ ∃ k, ∀ p ∈ A, PreH 7 c p.2 k
  | .turned _ m, [A] => FR A ∧ ∃ k k', ∀ p ∈ A, PreM m p.2 k k'
  | .rep _ _ _, [L, M] => PreRr L M
  | _, _ => False
def oneR : Nat → List (List (Row × Dt)) → List (Row × Dt)
  | _, [] => []
  | k, A :: Ts => preR k A ++ oneR (k + 1) Ts
theorem oneR_snoc : ∀ (k : Nat) (Ts : List (List (Row × Dt))) (A : List (Row × Dt)), oneR k (Ts ++ [A]) = oneR k Ts ++ preR (k + Ts.length : Nat) A
  | k, [], A => by simp [oneR]
  | k, B :: Ts, A => by
    show preR k B ++ oneR (k + 1) (Ts ++ [A]) = (preR k B ++ oneR (k + 1) Ts) ++ _
    rw [oneR_snoc (k + 1) Ts A, List.append_assoc]
    congr 3
    rw [List.length_cons]
    congr 1
    omega
theorem oneR_len : ∀ (k : Nat) (Ts : List (List (Row × Dt))), (∀ A ∈ Ts, FR A) → (oneR k Ts).length ≤ 100000 * Ts.length
  | k, [], _ => Nat.zero_le _
  | k, A :: Ts, h => by
    have h1 := oneR_len (k + 1) Ts fun B hB => h B (List.mem_cons_of_mem _ hB)
    have h2 := (h A List.mem_cons_self).n
    show (preR k A ++ oneR (k + 1) Ts).length ≤ _
    unfold preR
    rw [List.length_append, List.length_map, List.length_cons]
    omega
def blkR (M : List (Row × Dt)) (p : Row × Dt) : List (Row × Dt) := (if fit6 p.2 = true then tupR (powM M (numD p.2).toNat) else []).map fun q => (p.1 ++ q.1, q.2)
theorem repR_eq (L M : List (Row × Dt)) : repR L M = L.flatMap (blkR M) := rfl
section
variable {T : Tbl} {σ : L2.St} {H : Hp} {K : PySem.W.Frag} {ta tb : TE}
/-- [x] * n, lists -/
theorem all2_rep {α β : Type} {R : α → β → Prop} {a : α} {b : β} (h : R a b) : ∀ n : Nat, All2 R (List.replicate n a) (List.replicate n b)
  | 0 => .nil
  | n + 1 => .cons h (all2_rep h n)
theorem flat_rep {α : Type} (x : α) : ∀ n : Nat, (List.replicate n [x]).flatten = List.replicate n x
  | 0 => rfl
  | n + 1 => by rw [List.replicate_succ, List.flatten_cons, flat_rep x n, List.replicate_succ]; rfl
theorem EV.rep1 {β : Type} {S : β → Hp → V → Prop} {b : β} {n : Nat} (s : Stab T S) (ha : EV T ta σ H (LR S [b])) (hb : ED T tb σ H (.num (n : Nat))) (sp : ∀ b H p o v, H p = none → S b H v → S b (upd H p o) v) (hn : n ≤ 1000) : EV T (tOp rRep ta tb) σ H (LR S (List.replicate n b)) := fun H1 f1 Q q =>
  ha H1 f1 _ fun u H2 f2 r1 => hb H2 (f1.trans f2) _ fun v H3 f3 r2 => by
    obtain ⟨p, xs, rfl, h1, h2⟩ := r1.fut s f3
    cases h2 with
    | @cons _ x _ _ rx t =>
      cases t
      refine ⟨p, (n : Int), [x], rfl, r2, h1, by omega, by omega, by rw [Int.toNat_natCast]; exact line6 (by show 1 * n ≤ _; omega), fun t ht => q _ _ ((f2.trans f3).new ht _) ⟨t, _, rfl, upd_same, ?_⟩⟩
      rw [Int.toNat_natCast, flat_rep]
      exact all2_imp (fun b x r => sp b _ t _ x ht r) (all2_rep (R := fun b x => S b H3 x) rx n)
theorem EV.lst1 {β : Type} {S : β → Hp → V → Prop} {b : β} (h : EV T ta σ H (S b)) (sp : ∀ b H p o v, H p = none → S b H v → S b (upd H p o) v) : EV T (tLst (tCons ta tNil)) σ H (LR S [b]) := fun H1 f1 Q q =>
  h H1 f1 _ fun v H2 f2 r => ⟨ln1, fun p hp => q _ _ (f2.new hp _) ⟨p, [v], rfl, upd_same, .cons (sp b _ _ _ v hp r) .nil⟩⟩
theorem IV.ixL {B : Hp} {β : Type} {R : β → Hp → V → Prop} {Ls : List (List β)} {L : List β} {i k : Nat} {v : V} (hi : σ[i]? = some (some v)) (h : LR (fun L H v => LR R L H v) Ls B v) (f : Fut T B H) (hk : Ls[k]? = some L) : IV T B (iList K (tOp (rIxL K) (tVar i) (tC (.int k)))) σ H L.length (fun i _ x => YL R L i B x) := fun Q q => by
  obtain ⟨p, xs, rfl, h2, h3⟩ := h
  obtain ⟨z, hz, p', ys, rfl, h4, h5⟩ := all2_fwd h3 hk
  refine ⟨_, hi, p, xs, (k : Int), _, rfl, rfl, SqL.of (f.lst h2), atI_nat hz, p', rfl, ⟨ys, SqL.of (f.lst h4)⟩, q _ ?_⟩
  rw [h5.length]
  refine (walk_list (K := K) (a := p') (xs := ys)).mono (fun H' f => SqL.of (f.lst h4)) fun i H' x H'' hi f y => ?_
  obtain ⟨rfl, hx⟩ := y
  obtain ⟨b, hb, rb⟩ := all2_get h5 hx
  exact ⟨rfl, b, hb, rb⟩
theorem new_ldp (L : List (Row × Dt)) (H : Hp) (p : Addr) (o : HO) (v : V) (h : H p = none) (r : LdP L H v) : LdP L (upd H p o) v := by
  obtain ⟨q, xs, rfl, h1, h2⟩ := r
  exact ⟨q, xs, rfl, by rw [upd_ne (ne_of_none h1 h)]; exact h1, all2_imp (fun b x r => new_pr b H p o x h r) h2⟩
end
section
variable {P : Program} {w : World} {K : PySem.W.Frag} {mg : Str → Option Value} {base : Heap} {T : Tbl} (g : G K mg base T)
abbrev N_rows_of_parts : List Str := ["generator", "parts", "name", "found", "k", "row", "value", "other", "values"]
theorem sc_rows_of_parts : FnScope N_rows_of_parts ["generator", "parts"] (defScope s_rows_of_parts) := ⟨rfl, rfl, rfl, by decide +kernel, rfl, by decide +kernel, by decide +kernel⟩
theorem ok_rows_of_parts : FnOk P w K mg base CX0 27 g.rows_of_parts.a g.rows_of_parts.d ["generator", "parts"] (PmL T (fun (z : Gen × List (List (Row × Dt))) H vs => ∃ a u, vs = [a, u] ∧ Rp H z.1.d a ∧ LdPs z.2 H u ∧ PreP z.1 z.2) fun z H v => LdP (rowsOf z.1 z.2) H v) := by
  have OK_joined_rows := ok_joined_rows (P := P) (w := w) g
  have OK_listed_rows := ok_listed_rows (P := P) (w := w) g
  have OK_holds := ok_holds (P := P) (w := w) g 7
  have OK_turn := ok_turn (P := P) (w := w) g
  refine pm_okL g.rows_of_parts.F sc_rows_of_parts (fun z H vs h => by obtain ⟨a, u, rfl, _⟩ := h; rfl) fun cdv A outer s H vs Q E z hr h ht hq => ?_
  obtain ⟨z, Ps⟩ := z
  obtain ⟨a, u, rfl, ha, hu, pr⟩ := h
  have pr : PreP z Ps := pr
  have ha : Rp H z.d a := ha
  have hu : LdPs Ps H u := hu
  refine ⟨_, (pss_cons (ps_set (i := 2) sc_rows_of_parts.nd rfl (Or.inl rfl) (pe_ix (ix_tupK K rfl) (pv 0) pe_int (fun _ _ => rfl))) (pss_cons (ps_if (pt_cmpR op_eq (pv 2) pe_str (nomark _)) (pss_one (ps_ret (pe_call OK_joined_rows (hr.mono (by omega)) rfl g.joined_rows.m g.joined_rows.F.kp (b_joined_rows g.joined_rows) .nil pass0 (pa_cons (pv 1) pa_nil)))) pss_nil) (pss_cons (ps_if (pt_cmpR op_eq (pv 2) pe_str (nomark _)) (pss_one (ps_ret (pe_call OK_listed_rows (hr.mono (by omega)) rfl g.listed_rows.m g.listed_rows.F.kp (b_listed_rows g.listed_rows) .nil pass0 (pa_cons (pe_ix (ix_listK K rfl) (pv 1) pe_int (fun _ _ => rfl)) (pa_cons (pe_ix (ix_tupK K rfl) (pv 0) pe_int (fun _ _ => rfl)) (pa_cons (pe_ix (ix_tupK K rfl) (pv 0) pe_int (fun _ _ => rfl)) pa_nil)))))) pss_nil) (pss_cons (ps_if (pt_cmpR op_eq (pv 2) pe_str (nomark _)) (pss_one (ps_ret (pe_lc (own := [("row", 5), ("value", 6)]) rfl sc_rows_of_parts.nd (pi_listK K rfl (pe_ix (ix_listK K rfl) (pv 1) pe_int (fun _ _ => rfl))) (blkOk_by (own := [("row", 5), ("value", 6)]) (N := N_rows_of_parts) (sc := defScope s_rows_of_parts) (by decide +kernel)) (fun _ _ _ _ _ => (pg_tupK K rfl 2 rfl (pgs_cons (pg_name (i := 5) sc_rows_of_parts.nd rfl (Or.inl rfl)) (pgs_cons (pg_name (i := 6) sc_rows_of_parts.nd rfl (Or.inl rfl)) pgs_nil)))) (fun _ _ _ _ _ => (pts_one (pt_val (pe_call OK_holds (hr.mono (by omega)) rfl g.holds.m g.holds.F.kp (b_holds g.holds) .nil pass0 (pa_cons (pe_ix (ix_tupK K rfl) (pv 0) pe_int (fun _ _ => rfl)) (pa_cons (pv 6) pa_nil)))))) (fun _ _ _ _ _ => (pe_tup (pa_cons (pv 5) (pa_cons (pv 6) pa_nil))))))) pss_nil) (pss_cons (ps_if (pt_cmpR op_eq (pv 2) pe_str (nomark _)) (pss_one (ps_ret (pe_lc (own := [("row", 5), ("value", 6)]) rfl sc_rows_of_parts.nd (pi_listK K rfl (pe_ix (ix_listK K rfl) (pv 1) pe_int (fun _ _ => rfl))) (blkOk_by (own := [("row", 5), ("value", 6)]) (N := N_rows_of_parts) (sc := defScope s_rows_of_parts) (by decide +kernel)) (fun _ _ _ _ _ => (pg_tupK K rfl 2 rfl (pgs_cons (pg_name (i := 5) sc_rows_of_parts.nd rfl (Or.inl rfl)) (pgs_cons (pg_name (i := 6) sc_rows_of_parts.nd rfl (Or.inl rfl)) pgs_nil)))) (fun _ _ _ _ _ => pts_nil) (fun _ _ _ _ _ => (pe_tup (pa_cons (pv 5) (pa_cons (pe_call OK_turn (hr.mono (by omega)) rfl g.turn.m g.turn.F.kp (b_turn g.turn) .nil pass0 (pa_cons (pe_ix (ix_tupK K rfl) (pv 0) pe_int (fun _ _ => rfl)) (pa_cons (pv 6) pa_nil))) pa_nil))))))) pss_nil) (pss_cons (ps_set (i := 3) sc_rows_of_parts.nd rfl (Or.inl rfl) (pe_lst pa_nil)) (pss_cons (ps_if (pt_cmpR op_eq (pv 2) pe_str (nomark _)) (pss_cons (ps_for PassesOwn.never rfl (pi_range1 rfl g.n_range (pa_cons (pe_callB (cr_lenK K rfl) rfl g.n_len boot_len (pa_cons (pv 1) pa_nil)) pa_nil)) (pg_name (i := 4) sc_rows_of_parts.nd rfl (Or.inr rfl)) (pss_one (ps_expr (pe_bm PySem.F.plainAttrs_list PySem.F.slot_list_extend PySem.F.type_list_extend mt_extend (pv 3) (pa_cons (pe_lc (own := [("row", 5), ("value", 6)]) rfl sc_rows_of_parts.nd (pi_listK K rfl (pe_ix (ix_listK K rfl) (pv 1) (pv 4) (fun _ _ => rfl))) (blkOk_by (own := [("row", 5), ("value", 6)]) (N := N_rows_of_parts) (sc := defScope s_rows_of_parts) (by decide +kernel)) (fun _ _ _ _ _ => (pg_tupK K rfl 2 rfl (pgs_cons (pg_name (i := 5) sc_rows_of_parts.nd rfl (Or.inl rfl)) (pgs_cons (pg_name (i := 6) sc_rows_of_parts.nd rfl (Or.inl rfl)) pgs_nil)))) (fun _ _ _ _ _ => pts_nil) (fun _ _ _ _ _ => (pe_tup (pa_cons (pe_op (op_catK K rfl) (pe_tup (pa_cons (pv 4) pa_nil)) (pv 5)) (pa_cons (pv 6) pa_nil))))) pa_nil))))) (pss_one (ps_ret (pv 3)))) pss_nil) (pss_cons (ps_for PassesOwn.never rfl (pi_listK K rfl (pe_ix (ix_listK K rfl) (pv 1) pe_int (fun _ _ => rfl))) (pg_tupK K rfl 2 rfl (pgs_cons (pg_name (i := 5) sc_rows_of_parts.nd rfl (Or.inr rfl)) (pgs_cons (pg_name (i := 6) sc_rows_of_parts.nd rfl (Or.inl rfl)) pgs_nil))) (pss_one (ps_if (pt_chain op_le op_le pe_int (pv 6) (pe_ig rfl g.i_LONG)) (pss_one (ps_expr (pe_bm PySem.F.plainAttrs_list PySem.F.slot_list_extend PySem.F.type_list_extend mt_extend (pv 3) (pa_cons (pe_lc (own := [("other", 7), ("values", 8)]) rfl sc_rows_of_parts.nd (pi_listK K rfl (pe_call OK_joined_rows (hr.mono (by omega)) rfl g.joined_rows.m g.joined_rows.F.kp (b_joined_rows g.joined_rows) .nil pass0 (pa_cons (pe_op op_rep (pe_lst (pa_cons (pe_ix (ix_listK K rfl) (pv 1) pe_int (fun _ _ => rfl)) pa_nil)) (pv 6)) pa_nil))) (blkOk_by (own := [("other", 7), ("values", 8)]) (N := N_rows_of_parts) (sc := defScope s_rows_of_parts) (by decide +kernel)) (fun _ _ _ _ _ => (pg_tupK K rfl 2 rfl (pgs_cons (pg_name (i := 7) sc_rows_of_parts.nd rfl (Or.inl rfl)) (pgs_cons (pg_name (i := 8) sc_rows_of_parts.nd rfl (Or.inl rfl)) pgs_nil)))) (fun _ _ _ _ _ => pts_nil) (fun _ _ _ _ _ => (pe_tup (pa_cons (pe_op (op_catK K rfl) (pv 5) (pv 7)) (pa_cons (pv 8) pa_nil))))) pa_nil)))) pss_nil))) (pss_one (ps_ret (pv 3))))))))))), ?_⟩
  have hT : ∀ {H' : Hp}, Fut T H H' → LdPs Ps H' u := fun f => hu.fut stab_ldp f
  cases z with
  | leaf l => exact (show False from pr).elim
  | tuple ls =>
    refine Sq.name rfl ha ?_
    refine Sq.nmY rfl (by decide +kernel) ?_
    refine S.ret (EV.fnL (z := Ps) (EA.imp (EA.one (EV.var (R := LdPs Ps) rfl fun H' f => hT f)) fun H' vs f r => ?_)) ht fun v' H2 f r => hq _ _ f r
    obtain ⟨a, rfl, r1⟩ := r
    exact ⟨a, rfl, r1, pr⟩
  | list p l m =>
    match Ps, pr with
    | [M], pr =>
      refine Sq.name rfl ha ?_
      iterate 1 refine Sq.nmN rfl (by decide +kernel) ?_
      refine Sq.nmY rfl (by decide +kernel) ?_
      refine S.ret (EV.fnL (z := (M, l, m)) (EA.imp (EA.three (EV.ixL (i := 0) stab_ldp (EV.var rfl fun H' f => hT f) (ED.int 0) rfl) mP (ED.ix (d := .num l) (ED.var rfl ha) (ED.int 2) rfl) mD (ED.ix (d := .num m) (ED.var rfl ha) (ED.int 3) rfl)) fun H' vs f r => ?_)) ht fun v' H2 f r => hq _ _ f r
      obtain ⟨a, b, c, rfl, r1, r2, r3⟩ := r
      exact ⟨a, by rw [show b = _ from r2, show c = _ from r3], r1, pr⟩
  | one p =>
    match Ps, pr with
    | [C1], pr =>
      have fA : ∀ C ∈ [C1], FR C := fun C hC => by rw [List.mem_singleton.mp hC]; exact pr
      have et : rowsOf (.one p) [C1] = oneR 0 [C1] := by show preR 0 C1 = preR 0 C1 ++ []; rw [List.append_nil]
      revert hu hT hq pr fA et
      generalize hTs : [C1] = Us
      have hle : Us.length ≤ 2 := by rw [← hTs]; show 1 ≤ 2; decide
      clear hTs
      intro hu hT hq pr fA et
      refine Sq.name rfl ha ?_
      iterate 4 refine Sq.nmN rfl (by decide +kernel) ?_
      refine Sq.newl fun p0 hp => ?_
      have f0 := Fut.newR ht hp (.lst [])
      refine Sq.nmY rfl (by decide +kernel) ?_
      refine Sq.for (B := H) (IV.rng1 (m := Us.length) (PV.len rfl (hT f0)) (by omega)) (fun i σ H' => Fut T H H' ∧ ∃ x xs, σ = [some a, some u, some (.str "one"), some (.ref p0), x, none, none, none, none] ∧ H' p0 = some (.lst xs) ∧ All2 (fun t x => Rp H' (prD t) x) (oneR 0 (Us.take i)) xs) ⟨f0, none, [], rfl, upd_same, .nil⟩ (fun i σ H' h => h.1) (fun i x σ H1 hi h y => ?_) fun σ H1 h => ?_
      · obtain ⟨f1, x', xs, rfl, hx, ax⟩ := h
        subst y
        have hA : Us[i]? = some Us[i] := List.getElem?_eq_getElem hi
        have fAi := fA _ (List.getElem_mem hi)
        have hn := fAi.n
        have hl := oneR_len 0 (Us.take i) fun B hB => fA B (List.mem_of_mem_take hB)
        rw [List.length_take] at hl
        have e : oneR 0 (Us.take (i + 1)) = oneR 0 (Us.take i) ++ preR (i : Nat) Us[i] := by
          rw [take_succ_of hA, oneR_snoc, List.length_take, Nat.min_eq_left (Nat.le_of_lt hi), Nat.zero_add]
        refine S.ext (R := fun t H v => Rp H (prD t) v) (bs := preR (i : Nat) Us[i]) rfl hx (by rw [← ax.length]; unfold preR; rw [List.length_map]; exact line6 (by omega)) (EV.fst (EV.lcM (R := fun t H v => Rp H (prD t) v) (F := fun t : Row × Dt => (((i : Int) :: t.1, t.2) : Row × Dt)) stab_pr sep_pr (IVn.list stab_pr (EV.ixL (i := i) stab_ldp (EV.var rfl fun H' f => hT (f1.trans f)) (ED.var rfl rfl) hA)) (line6 (by omega)) fun t x mt2 mt f2 y => ?_)) f1.t fun zs H7 f7 az => ?_
        · obtain ⟨x1, x2, r1, r2, hg⟩ := g2 (K := K) (i := 5) (j := 6) y
          have ft := fAi.r t mt
          exact ⟨_, fun Q q => hg _ (TK.refl _) _ _ q, rfl, ED.nl (ED.tup (ds := [rowD ([(i : Int)] ++ t.1), t.2]) (EDs.cons (ED.catR (ED.tup (ds := [.num (i : Int)]) (EDs.cons (ED.var rfl rfl) EDs.nil) ln1) (ED.var rfl r1) (line6 (by show 1 + t.1.length ≤ _; omega))) (EDs.cons (ED.var rfl r2) EDs.nil)) ln2)⟩
        · have hx7 := f7.lst hx
          refine ⟨(f1.trans f7).putL hp hx7, some (.int i), xs ++ zs, rfl, upd_same, ?_⟩
          rw [e]
          exact all2_app (all2_imp (fun t x q => (f7.rp q).tk (tk_lst hx7)) ax) (all2_imp (fun t x q => q.tk (tk_lst hx7)) az)
      · obtain ⟨f1, x', xs, rfl, hx, ax⟩ := h
        rw [List.take_of_length_le (Nat.le_refl _)] at ax
        refine ⟨_, rfl, hq _ _ f1 ⟨⟨p0, xs, rfl, hx, ?_⟩, NL.new hp⟩⟩
        show All2 _ (rowsOf (.one p) Us) xs
        rw [et]
        exact ax
  | two p q =>
    match Ps, pr with
    | [C1, C2], pr =>
      have fA : ∀ C ∈ [C1, C2], FR C := fun C hC => by
        have hB : C ∈ [C1, C2] := hC
        simp only [List.mem_cons, List.not_mem_nil, or_false] at hB
        rcases hB with z | z
        · rw [z]; exact (show FR C1 ∧ FR C2 from pr).1
        · rw [z]; exact (show FR C1 ∧ FR C2 from pr).2
      have et : rowsOf (.two p q) [C1, C2] = oneR 0 [C1, C2] := by show preR 0 C1 ++ preR 1 C2 = preR 0 C1 ++ (preR 1 C2 ++ []); rw [List.append_nil]
      revert hu hT hq pr fA et
      generalize hTs : [C1, C2] = Us
      have hle : Us.length ≤ 2 := by rw [← hTs]; show 2 ≤ 2; decide
      clear hTs
      intro hu hT hq pr fA et
      refine Sq.name rfl ha ?_
      iterate 4 refine Sq.nmN rfl (by decide +kernel) ?_
      refine Sq.newl fun p0 hp => ?_
      have f0 := Fut.newR ht hp (.lst [])
      refine Sq.nmY rfl (by decide +kernel) ?_
      refine Sq.for (B := H) (IV.rng1 (m := Us.length) (PV.len rfl (hT f0)) (by omega)) (fun i σ H' => Fut T H H' ∧ ∃ x xs, σ = [some a, some u, some (.str "one"), some (.ref p0), x, none, none, none, none] ∧ H' p0 = some (.lst xs) ∧ All2 (fun t x => Rp H' (prD t) x) (oneR 0 (Us.take i)) xs) ⟨f0, none, [], rfl, upd_same, .nil⟩ (fun i σ H' h => h.1) (fun i x σ H1 hi h y => ?_) fun σ H1 h => ?_
      · obtain ⟨f1, x', xs, rfl, hx, ax⟩ := h
        subst y
        have hA : Us[i]? = some Us[i] := List.getElem?_eq_getElem hi
        have fAi := fA _ (List.getElem_mem hi)
        have hn := fAi.n
        have hl := oneR_len 0 (Us.take i) fun B hB => fA B (List.mem_of_mem_take hB)
        rw [List.length_take] at hl
        have e : oneR 0 (Us.take (i + 1)) = oneR 0 (Us.take i) ++ preR (i : Nat) Us[i] := by
          rw [take_succ_of hA, oneR_snoc, List.length_take, Nat.min_eq_left (Nat.le_of_lt hi), Nat.zero_add]
        refine S.ext (R := fun t H v => Rp H (prD t) v) (bs := preR (i : Nat) Us[i]) rfl hx (by rw [← ax.length]; unfold preR; rw [List.length_map]; exact line6 (by omega)) (EV.fst (EV.lcM (R := fun t H v => Rp H (prD t) v) (F := fun t : Row × Dt => (((i : Int) :: t.1, t.2) : Row × Dt)) stab_pr sep_pr (IVn.list stab_pr (EV.ixL (i := i) stab_ldp (EV.var rfl fun H' f => hT (f1.trans f)) (ED.var rfl rfl) hA)) (line6 (by omega)) fun t x mt2 mt f2 y => ?_)) f1.t fun zs H7 f7 az => ?_
        · obtain ⟨x1, x2, r1, r2, hg⟩ := g2 (K := K) (i := 5) (j := 6) y
          have ft := fAi.r t mt
          exact ⟨_, fun Q q => hg _ (TK.refl _) _ _ q, rfl, ED.nl (ED.tup (ds := [rowD ([(i : Int)] ++ t.1), t.2]) (EDs.cons (ED.catR (ED.tup (ds := [.num (i : Int)]) (EDs.cons (ED.var rfl rfl) EDs.nil) ln1) (ED.var rfl r1) (line6 (by show 1 + t.1.length ≤ _; omega))) (EDs.cons (ED.var rfl r2) EDs.nil)) ln2)⟩
        · have hx7 := f7.lst hx
          refine ⟨(f1.trans f7).putL hp hx7, some (.int i), xs ++ zs, rfl, upd_same, ?_⟩
          rw [e]
          exact all2_app (all2_imp (fun t x q => (f7.rp q).tk (tk_lst hx7)) ax) (all2_imp (fun t x q => q.tk (tk_lst hx7)) az)
      · obtain ⟨f1, x', xs, rfl, hx, ax⟩ := h
        rw [List.take_of_length_le (Nat.le_refl _)] at ax
        refine ⟨_, rfl, hq _ _ f1 ⟨⟨p0, xs, rfl, hx, ?_⟩, NL.new hp⟩⟩
        show All2 _ (rowsOf (.two p q) Us) xs
        rw [et]
        exact ax
  | kept p c =>
    match Ps, pr with
    | [C], pr =>
      obtain ⟨fA, k, hk⟩ := (show FR C ∧ ∃ k, ∀ t ∈ C, PreH 7 c t.2 k from pr)
      have hn := fA.n
      refine Sq.name rfl ha ?_
      iterate 2 refine Sq.nmN rfl (by decide +kernel) ?_
      refine Sq.nmY rfl (by decide +kernel) ?_
      refine S.ret (EV.lcL (R := fun (t : Row × Dt) H v => Rp H (prD t) v) (F := fun t : Row × Dt => if holdsM c t.2 = true then some t else none) stab_pr sep_pr (IVn.list stab_pr (EV.ixL (i := 0) stab_ldp (EV.var rfl fun H' f => hT f) (ED.int 0) rfl)) (line6 (by omega)) fun t x H1 mt f1 y => ?_) ht fun v' H2 f r => hq _ _ f ⟨?_, r.2⟩
      · obtain ⟨x1, x2, r1, r2, hg⟩ := g2 (K := K) (i := 5) (j := 6) y
        have key : ∀ σ : L2.St, σ[0]? = some (some a) → σ[6]? = some (some x2) → EB T (tCall (Pm T (preH 7) postH) [] E0 (tCons (tOp (rIxT K) (tVar 0) (tC (.int 2))) (tCons (tVar 6) tNil))) σ H1 (holdsM c t.2) := fun σ h0 h7 => call_holds (ED.ix (ED.var h0 (f1.rp ha)) (ED.int 2) rfl) (ED.var h7 r2) (hk t mt)
        refine ⟨_, fun Q q => hg _ (TK.refl _) _ _ q, rfl, fun e he => ?_, fun he => ?_⟩
        · by_cases z : holdsM c t.2 = true
          · rw [if_pos z] at he
            cases he
            exact ⟨ET.imp (ET.ofB (key _ rfl rfl)) z, ED.nl (ED.tup (ds := [rowD t.1, t.2]) (EDs.cons (ED.var rfl r1) (EDs.cons (ED.var rfl r2) EDs.nil)) ln2)⟩
          · rw [if_neg z] at he
            cases he
        · by_cases z : holdsM c t.2 = true
          · rw [if_pos z] at he
            cases he
          · exact ET.imp (ET.ofB (key _ rfl rfl)) (by simpa using z)
      · have r1 := r.1
        rw [fm_filter fun t : Row × Dt => holdsM c t.2] at r1
        exact r1
  | turned p m =>
    match Ps, pr with
    | [C], pr =>
      obtain ⟨fA, k, k', hk⟩ := (show FR C ∧ ∃ k k', ∀ t ∈ C, PreM m t.2 k k' from pr)
      have hn := fA.n
      refine Sq.name rfl ha ?_
      iterate 3 refine Sq.nmN rfl (by decide +kernel) ?_
      refine Sq.nmY rfl (by decide +kernel) ?_
      refine S.ret (EV.lcM (R := fun (t : Row × Dt) H v => Rp H (prD t) v) (F := fun t : Row × Dt => ((t.1, turnM m t.2) : Row × Dt)) stab_pr sep_pr (IVn.list stab_pr (EV.ixL (i := 0) stab_ldp (EV.var rfl fun H' f => hT f) (ED.int 0) rfl)) (line6 (by omega)) fun t x H1 mt f1 y => ?_) ht fun v' H2 f r => hq _ _ f r
      obtain ⟨x1, x2, r1, r2, hg⟩ := g2 (K := K) (i := 5) (j := 6) y
      refine ⟨_, fun Q q => hg H1 (TK.refl _) _ _ q, rfl, ED.nl (ED.tup (ds := [rowD t.1, turnM m t.2]) (EDs.cons (ED.var rfl r1) (EDs.cons (EV.fn (z := (m, t.2, k, k')) (EA.imp (EA.data2 (ED.ix (d := m.d) (ED.var rfl (f1.rp ha)) (ED.int 2) rfl) (ED.var rfl r2)) fun H' vs f r => ?_)) EDs.nil)) ln2)⟩
      obtain ⟨a, b, rfl, q1, q2⟩ := r
      exact ⟨a, b, rfl, q1, q2, hk t mt⟩
  | rep lo hi p =>
    match Ps, pr with
    | [L, M], pr =>
      have pr : PreRr L M := pr
      refine Sq.name rfl ha ?_
      iterate 4 refine Sq.nmN rfl (by decide +kernel) ?_
      refine Sq.newl fun p0 hp => ?_
      have f0 := Fut.newR ht hp (.lst [])
      refine Sq.nmN rfl (by decide +kernel) ?_
      refine Sq.for (B := H) (IV.ixL (k := 0) rfl hu f0 rfl) (fun i σ H' => Fut T H H' ∧ ∃ b c xs, σ = [some a, some u, some (.str "repeat"), some (.ref p0), none, b, c, none, none] ∧ H' p0 = some (.lst xs) ∧ All2 (fun t x => Rp H' (prD t) x) ((L.take i).flatMap (blkR M)) xs) ⟨f0, none, none, [], rfl, upd_same, .nil⟩ (fun i σ H' h => h.1) (fun i x σ H1 hi h y => ?_) fun σ H1 h => ?_
      · obtain ⟨f1, b, c, xs, rfl, hx, ax⟩ := h
        obtain ⟨t, et, y⟩ := y
        have mt := List.mem_of_getElem? et
        obtain ⟨n, en⟩ := pr.num t mt
        obtain ⟨x1, x2, r1, r2, hg⟩ := g2 (K := K) (i := 5) (j := 6) y
        refine hg _ f1.tk _ _ ?_
        have esn : (L.take (i + 1)).flatMap (blkR M) = (L.take i).flatMap (blkR M) ++ blkR M t := by
          rw [take_succ_of et, List.flatMap_append, List.flatMap_singleton]
        have ef : fit6 t.2 = (decide ((0 : Int) ≤ n) && decide (n ≤ 6)) := by rw [en]; rfl
        have r2n : Rp H (.num n) x2 := by rw [← en]; exact r2
        refine S.if (ET.of (EB.between (i := 0) (j := n) (k := 6) (ED.int 0) (ED.var rfl (f1.rp r2n)) (ED.int 6))) f1.t (fun hy H2 f2 => ?_) fun hno H2 f2 => ?_
        · rw [← ef] at hy
          have jn := pr.jn t mt hy
          have h3 := ef
          rw [hy] at h3
          have h3 := h3.symm
          rw [Bool.and_eq_true, decide_eq_true_eq, decide_eq_true_eq] at h3
          have enn : (numD t.2).toNat = n.toNat := by rw [en]; rfl
          rw [enn] at jn
          have hle : ((L.take (i + 1)).flatMap (blkR M)).length ≤ 100000 := by
            have h1 := pr.all
            rw [repR_eq] at h1
            have h2 : L = L.take (i + 1) ++ L.drop (i + 1) := (List.take_append_drop _ _).symm
            rw [h2, List.flatMap_append, List.length_append] at h1
            omega
          rw [esn, List.length_append] at hle
          have hfn := jn.2.n
          have hft := pr.fL.r t mt
          have eb : blkR M t = (tupR (powM M n.toNat)).map fun q => (t.1 ++ q.1, q.2) := by
            unfold blkR
            rw [if_pos hy, enn]
          have f12 := f1.trans f2
          refine S.ext (R := fun t H v => Rp H (prD t) v) (bs := blkR M t) rfl (f2.lst hx) (by rw [← ax.length]; exact line6 (by omega)) (by
            rw [eb]
            refine EV.fst (EV.lcM (R := fun t H v => Rp H (prD t) v) (F := fun q : Row × Dt => ((t.1 ++ q.1, q.2) : Row × Dt)) (bs := tupR (powM M n.toNat)) stab_pr sep_pr (IVn.list stab_pr (EV.fst (EV.imp (EV.fnL (z := List.replicate n.toNat M) (EA.imp (EA.one (EV.rep1 (b := M) (n := n.toNat) stab_ldp (EV.lst1 (EV.ixL (i := 1) stab_ldp (EV.var rfl fun H' f => hT (f12.trans f)) (ED.int 1) rfl) new_ldp) (ED.cast (ED.var (d := .num n) rfl (f12.rp r2n)) (by omega)) new_ldp (by omega))) fun H' vs f r => ?_)) fun H' v f r => ⟨?_, r.2⟩))) (by rw [tupR_len]; exact line6 (by omega)) fun q xq H3 mq f3 yq => ?_)
            · obtain ⟨v, rfl, r⟩ := r
              exact ⟨v, rfl, r, jn.1⟩
            · have r1 := r.1
              rw [joinR_rep] at r1
              exact r1
            · obtain ⟨z1, z2, q1, q2, hg'⟩ := g2 (K := K) (i := 7) (j := 8) yq
              have hq6 : q.1.length ≤ 1000000 := by
                obtain ⟨q', hq', rfl⟩ := List.mem_map.mp mq
                exact jn.2.r q' hq'
              exact ⟨_, fun Q q => hg' _ (TK.refl _) _ _ q, rfl, ED.nl (ED.tup (ds := [rowD (t.1 ++ q.1), q.2]) (EDs.cons (ED.catR (ED.var rfl ((f12.trans f3).rp r1)) (ED.var rfl q1) (line6 (by omega))) (EDs.cons (ED.var rfl q2) EDs.nil)) ln2)⟩) f2.t fun zs H7 f7 az => ?_
          have hx7 := f7.lst (f2.lst hx)
          refine ⟨(f12.trans f7).putL hp hx7, some x1, some x2, xs ++ zs, rfl, upd_same, ?_⟩
          rw [esn]
          exact all2_app (all2_imp (fun t x q => ((f2.trans f7).rp q).tk (tk_lst hx7)) ax) (all2_imp (fun t x q => q.tk (tk_lst hx7)) az)
        · rw [← ef] at hno
          refine ⟨f1.trans f2, some x1, some x2, xs, rfl, f2.lst hx, ?_⟩
          rw [esn]
          have eb : blkR M t = [] := by
            unfold blkR
            rw [if_neg (by rw [hno]; exact Bool.false_ne_true)]
            rfl
          rw [eb, List.append_nil]
          exact all2_imp (fun t x q => f2.rp q) ax
      · obtain ⟨f1, b, c, xs, rfl, hx, ax⟩ := h
        rw [List.take_of_length_le (Nat.le_refl _)] at ax
        exact ⟨_, rfl, hq _ _ f1 ⟨⟨p0, xs, rfl, hx, ax⟩, NL.new hp⟩⟩
end
end CR

set_option Elab.async false
set_option linter.all false
set_option maxRecDepth 100000
set_option maxHeartbeats 4000000
namespace CR
open PySem PySem.Spec PyProof.Rows L2
def leafR (l : Lf) : List (Row × Dt) := (tableM (.leaf l)).map fun t => (t.2.2, t.1)
/-- the exact rows as the program lists them -/
def exactM : Gen → List (Row × Dt)
  | .leaf l => leafR l
  | .tuple ls => rowsOf (.tuple ls) (ls.map leafR)
  | .list g l m => rowsOf (.list g l m) [exactM g]
  | .one g => rowsOf (.one g) [exactM g]
  | .two g h => rowsOf (.two g h) [exactM g, exactM h]
  | .kept g c => rowsOf (.kept g c) [exactM g]
  | .turned g m => rowsOf (.turned g m) [exactM g]
  | .rep lo hi g => rowsOf (.rep lo hi g) [leafR (.int lo hi), exactM g]
theorem exactM_eq (g : Gen) (h : ∀ l, g ≠ .leaf l) : exactM g = rowsOf g (g.parts.map exactM) := by
  cases g with
  | leaf l => exact absurd rfl (h l)
  | tuple ls =>
    show rowsOf _ _ = rowsOf (.tuple ls) ((ls.map Gen.leaf).map exactM)
    rw [List.map_map]
    rfl
  | _ => rfl
inductive ROk : Gen → Prop
  | mk (g : Gen) (t : TOk g) (cnt : ((tableM g).map fun t => t.2.1).sum ≤ 5000) (pre : g.parts ≠ [] → (∀ l, g ≠ .leaf l) ∧ PreP g (g.parts.map exactM)) (leaf : g.parts = [] → ∃ l, g = .leaf l) (ps : ∀ p ∈ g.parts, ROk p) : ROk g
theorem item_pr (t : Row × Dt) (H : Hp) (x : V) (h : Rp H (prD t) x) : ItemR H 0 x t.1 := by
  obtain ⟨a, xs, rfl, h1, u, r, rfl, hu, _⟩ := h
  obtain ⟨b, rfl, hb⟩ := Rp.row.mp hu
  exact ⟨a, _, b, rfl, h1, rfl, hb⟩
abbrev LdR (rs : List Row) (H : Hp) (v : V) : Prop := LR (fun (r : Row) H v => Rp H (rowD r) v) rs H v
theorem stab_row {T : Tbl} : Stab T (fun (r : Row) H v => Rp H (rowD r) v) := fun b H H1 v f h => f.rp h
theorem sep_row : Sep (fun (r : Row) H v => Rp H (rowD r) v) := fun b H D xs xs' v h _ r => r.tk (tk_lst h)
theorem mLP {T : Tbl} {L : List (List (Row × Dt))} : Mono T (LdPs L) := fun _ _ _ f h => h.fut stab_ldp f
theorem all2_take {α β : Type} {R : α → β → Prop} : ∀ {l : List α} {m : List β} (n : Nat), All2 R l m → All2 R (l.take n) (m.take n)
  | _, _, 0, _ => .nil
  | _, _, n + 1, .nil => .nil
  | _, _, n + 1, .cons a t => .cons a (all2_take n t)
section
variable {T : Tbl} {σ : L2.St} {H : Hp} {K : PySem.W.Frag} {te tb : TE}
/-- l[:n] -/
theorem EV.uptoL {β : Type} {S : β → Hp → V → Prop} {bs : List β} {n : Nat} (s : Stab T S) (h : EV T te σ H (LR S bs)) (hb : ED T tb σ H (.num (n : Nat))) (sp : ∀ b H p o v, H p = none → S b H v → S b (upd H p o) v) : EV T (tSl (rSlL K) te tNoPart (tPart tb)) σ H (fun H' v => LR S (bs.take n) H' v ∧ NL H v) := fun H1 f1 Q q =>
  h H1 f1 _ fun x H2 f2 rx => hb H2 (f1.trans f2) _ fun y H3 f3 ry => by
    obtain ⟨p, xs, rfl, h1, h2⟩ := rx.fut s f3
    refine ⟨(n : Int), ry, p, xs, rfl, SqL.of h1, fun t ht => q _ _ ((f2.trans f3).new ht _) ⟨⟨t, _, rfl, upd_same, ?_⟩, (NL.new ht).back ((f1.trans f2).trans f3)⟩⟩
    have hc : cutV xs none (some (n : Int)) = xs.take n := by
      unfold cutV
      rw [HT.sIx_none, HT.sIx_nat, List.drop_zero, Nat.sub_zero]
      by_cases h : n ≤ xs.length
      · rw [Nat.min_eq_left h]
      · rw [Nat.min_eq_right (by omega), List.take_of_length_le (Nat.le_refl _), List.take_of_length_le (by omega)]
    rw [hc]
    exact all2_imp (fun b x r => sp b _ t _ x ht r) (all2_take n h2)
end
section
variable {P : Program} {w : World} {K : PySem.W.Frag} {mg : Str → Option Value} {base : Heap} {T : Tbl} (g : G K mg base T)
def preRa (n : Nat) : Gen × Row → Hp → List V → Prop := fun z H vs => ∃ a b, vs = [a, b] ∧ Rp H z.1.d a ∧ Rp H (rowD z.2) b ∧ z.1.depth < n ∧ n ≤ 12 ∧ ROk z.1 ∧ z.2.length + n ≤ 1000
def postRa : Gen × Row → Hp → V → Prop := fun z H v => LdP (exactM z.1) H v
abbrev N_rows_at : List Str := ["generator", "path", "parts", "rows", "k", "value", "count", "row"]
theorem sc_rows_at : FnScope N_rows_at ["generator", "path"] (defScope s_rows_at) := ⟨rfl, rfl, rfl, by decide +kernel, rfl, by decide +kernel, by decide +kernel⟩
theorem ok_rows_at_step (n : Nat) (OK_rows_at : FnOk P w K mg base CX0 (n + 42) g.rows_at.a g.rows_at.d ["generator", "path"] (PmL T (preRa n) postRa)) : FnOk P w K mg base CX0 (n + 43) g.rows_at.a g.rows_at.d ["generator", "path"] (PmL T (preRa (n + 1)) postRa) := by
  have OK_parts_of := ok_parts_of (P := P) (w := w) g
  have OK_rows_of_parts := ok_rows_of_parts (P := P) (w := w) g
  have OK_count_rows := ok_count_rows (P := P) (w := w) g
  have OK_table := ok_table (P := P) (w := w) g
  refine pm_okL (k := n + 42) g.rows_at.F sc_rows_at (fun z H vs h => by obtain ⟨a, b, rfl, _⟩ := h; rfl) fun cdv A outer s H vs Q E z hr h ht hq => ?_
  obtain ⟨z, path⟩ := z
  obtain ⟨a, b, rfl, ha, hb, hd, h12, ok, hp⟩ := h
  have ha : Rp H z.d a := ha
  have hb : Rp H (rowD path) b := hb
  have hd : z.depth < n + 1 := hd
  have hp : path.length + (n + 1) ≤ 1000 := hp
  have ok : ROk z := ok
  obtain ⟨_, tok, cnt, pre, leaf, parts⟩ := ok
  have ps : z.parts.length ≤ 1000 := by cases tok; assumption
  have hd12 : z.depth < 12 := by omega
  refine ⟨_, (pss_cons (ps_set (i := 2) sc_rows_at.nd rfl (Or.inr rfl) (pe_call OK_parts_of (hr.mono (by omega)) rfl g.parts_of.m g.parts_of.F.kp (b_parts_of g.parts_of) .nil pass0 (pa_cons (pv 0) pa_nil))) (pss_cons (ps_setLc (own := [("k", 4)]) (i := 3) rfl sc_rows_at.nd rfl rfl (by first | exact sw_true rfl rfl rfl (by decide +kernel) | rfl) (pi_range1 rfl g.n_range (pa_cons (pe_callB (cr_lenK K rfl) rfl g.n_len boot_len (pa_cons (pv 2) pa_nil)) pa_nil)) (blkOk_by (own := [("k", 4)]) (N := N_rows_at) (sc := defScope s_rows_at) (by decide +kernel)) (fun _ _ _ _ _ => (pg_name (i := 4) sc_rows_at.nd rfl (Or.inl rfl))) (fun _ _ _ _ _ => pts_nil) (fun _ _ _ _ _ => (pe_call OK_rows_at (hr.mono (by omega)) rfl g.rows_at.m g.rows_at.F.kp (b_rows_at g.rows_at) .nil pass0 (pa_cons (pe_ix (ix_listK K rfl) (pv 2) (pv 4) (fun _ _ => rfl)) (pa_cons (pe_op (op_catK K rfl) (pv 1) (pe_tup (pa_cons (pv 4) pa_nil))) pa_nil))))) (pss_cons (ps_if (pt_cmpR op_gt (pe_call OK_count_rows (hr.mono (by omega)) rfl g.count_rows.m g.count_rows.F.kp (b_count_rows g.count_rows) .nil pass0 (pa_cons (pv 0) pa_nil)) (pe_ig rfl g.i_EXACT) (nomark _)) (pss_one ps_never) pss_nil) (pss_cons (ps_if (pt_cmpR op_eq (pe_callB (cr_lenK K rfl) rfl g.n_len boot_len (pa_cons (pv 2) pa_nil)) pe_int (nomark _)) (pss_one (ps_ret (pe_lc (own := [("value", 5), ("count", 6), ("row", 7)]) rfl sc_rows_at.nd (pi_listK K rfl (pe_call OK_table (hr.mono (by omega)) rfl g.table.m g.table.F.kp (b_table g.table) .nil pass0 (pa_cons (pv 0) pa_nil))) (blkOk_by (own := [("value", 5), ("count", 6), ("row", 7)]) (N := N_rows_at) (sc := defScope s_rows_at) (by decide +kernel)) (fun _ _ _ _ _ => (pg_tupK K rfl 3 rfl (pgs_cons (pg_name (i := 5) sc_rows_at.nd rfl (Or.inl rfl)) (pgs_cons (pg_name (i := 6) sc_rows_at.nd rfl (Or.inl rfl)) (pgs_cons (pg_name (i := 7) sc_rows_at.nd rfl (Or.inl rfl)) pgs_nil))))) (fun _ _ _ _ _ => pts_nil) (fun _ _ _ _ _ => (pe_tup (pa_cons (pv 7) (pa_cons (pv 5) pa_nil))))))) pss_nil) (pss_one (ps_ret (pe_call OK_rows_of_parts (hr.mono (by omega)) rfl g.rows_of_parts.m g.rows_of_parts.F.kp (b_rows_of_parts g.rows_of_parts) .nil pass0 (pa_cons (pv 0) (pa_cons (pv 3) pa_nil))))))))), ?_⟩
  refine Sq.set (EV.fst (EV.fnL (z := z) (EA.imp (EA.one (ED.var rfl ha)) fun H' vs f r => ?_))) ht fun pv H1 f1 hpv => ?_
  · obtain ⟨u, rfl, r⟩ := r
    exact ⟨u, rfl, r, ps⟩
  have hpv : LdG z.parts H1 pv := hpv
  refine Sq.set (EV.lc (R := fun L H v => LdP L H v) stab_ldp sep_ldp (IVn.rng1 (ED.lenR (EV.var rfl fun H' f => hpv.fut stab_gen f)) (by omega)) (line6 (by omega)) (fun i => z.parts[i]?.bind fun p => some (exactM p)) fun i x H2 hi f2 y => ?_) f1.t fun tv H2 f2 r2 => ?_
  · subst y
    have hpi : z.parts[i]? = some z.parts[i] := List.getElem?_eq_getElem hi
    refine ⟨_, fun Q q => q, rfl, fun c hc => ⟨ET.yes, ?_⟩, fun hc => ?_⟩
    · rw [hpi] at hc
      cases hc
      refine EV.fnL (z := (z.parts[i], path ++ [(i : Int)])) (EA.imp (EA.two (EV.ixL (i := i) stab_gen (EV.var rfl fun H' f => (hpv.fut stab_gen f2).fut stab_gen f) (ED.var rfl rfl) hpi) (fun _ _ _ f h => f.rp h) (ED.catR (a := path) (b := [(i : Int)]) (ED.var rfl ((f1.trans f2).rp hb)) (ED.tup (ds := [.num (i : Int)]) (EDs.cons (ED.var rfl rfl) EDs.nil) ln1) (line6 (by show path.length + 1 ≤ _; omega)))) fun H' vs f r => ?_)
      obtain ⟨a, b, rfl, r1, r2⟩ := r
      refine ⟨a, b, rfl, r1, r2, ?_, by omega, parts _ (List.getElem_mem hi), ?_⟩
      · have := depth_part (List.getElem_mem hi)
        show z.parts[i].depth < n
        omega
      · show (path ++ [(i : Int)]).length + n ≤ 1000
        rw [List.length_append, List.length_singleton]
        omega
    · rw [hpi] at hc
      cases hc
  rw [range_get, fm_some] at r2
  have f12 := f1.trans f2
  have r2 : LdPs (z.parts.map exactM) H2 tv := r2.1
  have ctb : ∀ {σ : L2.St} {H' : Hp}, Fut T H H' → σ[0]? = some (some a) → EA T (tCons (tVar 0) tNil) σ H' (preTb z) := fun f hσ => EA.imp (EA.one (ED.var hσ (f.rp ha))) fun H' vs f r => by
    obtain ⟨u, rfl, r⟩ := r
    exact ⟨u, rfl, r, hd12, tok⟩
  refine Sq.no (ET.imp (.of (EB.gt (i := ((tableM z).map fun t => t.2.1).sum) (j := 5000) (EV.fn (z := z) (ctb f12 rfl)) (ED.int 5000))) (decide_eq_false (by omega))) f12.t fun H3 f3 => ?_
  have f13 := f12.trans f3
  have hpv3 : LdG z.parts H3 pv := hpv.fut stab_gen (f2.trans f3)
  refine Sq.if (.of (EB.eqI (ED.lenR (EV.var rfl fun H' f => hpv3.fut stab_gen f)) (ED.int 0))) f3.t (fun he H4 f4 => ?_) fun he H4 f4 => ?_
  · have he := of_decide_eq_true he
    have e0 : z.parts = [] := List.eq_nil_of_length_eq_zero (by omega)
    obtain ⟨l, rfl⟩ := leaf e0
    have f14 := f13.trans f4
    have hl : (tableM (.leaf l)).length ≤ 2000 := by cases tok; assumption
    refine S.ret (EV.lcM (R := fun (p : Row × Dt) H v => Rp H (prD p) v) (F := fun t : Tr Dt => ((t.2.2, t.1) : Row × Dt)) stab_pr sep_pr (IVn.list stab_tri (EV.fst (EV.fnL (z := Gen.leaf l) (ctb f14 rfl)))) (line6 (by omega)) fun t x H5 mt f5 y => ?_) f4.t fun v' H5 f5 r => hq _ _ (f14.trans f5) ⟨r.1, r.2.back f14⟩
    obtain ⟨x1, x2, x3, q1, q2, q3, hg⟩ := g3 (K := K) (i := 5) (j := 6) (k := 7) y
    exact ⟨_, fun Q q => hg _ (TK.refl _) _ _ q, rfl, ED.nl (ED.tup (ds := [rowD t.2.2, t.1]) (EDs.cons (ED.var rfl q3) (EDs.cons (ED.var rfl q1) EDs.nil)) ln2)⟩
  · have he := of_decide_eq_false he
    have e0 : z.parts ≠ [] := fun e => he (by rw [e]; rfl)
    obtain ⟨nl, pp⟩ := pre e0
    have f14 := f13.trans f4
    refine S.ret (EV.fnL (z := (z, z.parts.map exactM)) (EA.imp (EA.two (ED.var rfl (f14.rp ha)) mD (EV.var (R := LdPs _) rfl fun H' f => r2.fut stab_ldp ((f3.trans f4).trans f))) fun H' vs f r => ?_)) f4.t fun v' H5 f5 r => hq _ _ (f14.trans f5) ⟨?_, r.2.back f14⟩
    · obtain ⟨u, v, rfl, q1, q2⟩ := r
      exact ⟨u, v, rfl, q1, q2, pp⟩
    · show LdP (exactM z) H5 v'
      rw [exactM_eq z nl]
      exact r.1
theorem ok_rows_at : ∀ n, FnOk P w K mg base CX0 (n + 42) g.rows_at.a g.rows_at.d ["generator", "path"] (PmL T (preRa n) postRa)
  | 0 => vacL fun z H vs h => by
    obtain ⟨_, _, _, _, _, h, _⟩ := h
    exact absurd h (Nat.not_lt_zero _)
  | n + 1 => ok_rows_at_step g n (ok_rows_at n)
/-- all rows, sorted -/
def allM (z : Gen) : List (Row × Dt) := byRow (fun p => p.1) (exactM z)
def preAr : Gen → Hp → List V → Prop := fun z H vs => ∃ a, vs = [a] ∧ Rp H z.d a ∧ z.depth < 12 ∧ ROk z
abbrev N_all_rows : List Str := ["generator"]
theorem sc_all_rows : FnScope N_all_rows ["generator"] (defScope s_all_rows) := ⟨rfl, rfl, rfl, by decide +kernel, rfl, by decide +kernel, by decide +kernel⟩
theorem ok_all_rows : FnOk P w K mg base CX0 55 g.all_rows.a g.all_rows.d ["generator"] (PmL T preAr fun z H v => LdP (allM z) H v) := by
  have OK_table := ok_table (P := P) (w := w) g
  have OK_rows_at := ok_rows_at (P := P) (w := w) g 12
  refine pm_okCL g.c_all_rows sc_all_rows (fun z H vs h => by obtain ⟨u, rfl, _⟩ := h; rfl) fun cd P' A outer s H vs Q E z TB hmT hu hr h ht hq => ?_
  obtain ⟨a, rfl, ha, hd, ok⟩ := h
  have tok : TOk z := by cases ok; assumption
  refine ⟨_, (pss_cons (ps_expr (pe_call OK_table (hr.mono (by omega)) rfl g.table.m g.table.F.kp (b_table g.table) .nil pass0 (pa_cons (pv 0) pa_nil))) (pss_one (ps_ret (pe_sortQ (("all_rows" : Str) ++ (".<locals>." : Str)) rfl (j := 0) (k := 1) (x := "pair") (pe_call OK_rows_at (hr.mono (by omega)) rfl g.rows_at.m g.rows_at.F.kp (b_rows_at g.rows_at) .nil pass0 (pa_cons (pv 0) (pa_cons (pe_tup pa_nil) pa_nil))) rfl g.n_sorted g.n_len (hr.mono (by omega)) TB rfl hmT hu rfl rfl (by decide) (fun _ _ _ _ _ => rfl) rfl rfl rfl (by decide) rfl rfl (by decide) (by decide))))), ?_⟩
  refine Sq.drop (EV.fnL (z := z) (EA.imp (EA.one (ED.var rfl ha)) fun H' vs f r => ?_)) ht fun _ H1 f1 _ => ?_
  · obtain ⟨u, rfl, r⟩ := r
    exact ⟨u, rfl, r, hd, tok⟩
  · refine S.ret (EV.sort prD (fun p => p.1) 0 item_pr (EV.fst (EV.fnL (z := (z, [])) (EA.imp (EA.two (ED.var rfl (f1.rp ha)) mD (ED.tup (ds := []) EDs.nil (Nat.zero_le _))) fun H' vs f r => ?_)))) f1.t fun v' H2 f r => hq _ _ (f1.trans f) ⟨r.1, r.2.back f1⟩
    obtain ⟨a, b, rfl, r1, r2⟩ := r
    exact ⟨a, b, rfl, r1, r2, hd, Nat.le_refl _, ok, by show 0 + 12 ≤ 1000; decide⟩
abbrev N_first_rows : List Str := ["generator", "many", "row", "value"]
theorem sc_first_rows : FnScope N_first_rows ["generator", "many"] (defScope s_first_rows) := ⟨rfl, rfl, rfl, by decide +kernel, rfl, by decide +kernel, by decide +kernel⟩
theorem ok_first_rows : FnOk P w K mg base CX0 56 g.first_rows.a g.first_rows.d ["generator", "many"] (PmL T (fun (z : Gen × Nat) H vs => ∃ a, vs = [a, .int z.2] ∧ Rp H z.1.d a ∧ z.1.depth < 12 ∧ ROk z.1 ∧ (allM z.1).length ≤ 100000) fun z H v => LdR (((allM z.1).map fun p => p.1).take z.2) H v) := by
  have OK_all_rows := ok_all_rows (P := P) (w := w) g
  refine pm_okL g.first_rows.F sc_first_rows (fun z H vs h => by obtain ⟨u, rfl, _⟩ := h; rfl) fun cdv A outer s H vs Q E z hr h ht hq => ?_
  obtain ⟨z, m⟩ := z
  obtain ⟨a, rfl, ha, hd, ok, hl⟩ := h
  have hl : (allM z).length ≤ 100000 := hl
  refine ⟨_, (pss_one (ps_ret (pe_slice (sl_listK K rfl) (pe_lc (own := [("row", 2), ("value", 3)]) rfl sc_first_rows.nd (pi_listK K rfl (pe_call OK_all_rows (hr.mono (by omega)) rfl g.all_rows.m g.all_rows.F.kp (b_all_rows g.all_rows) .nil pass0 (pa_cons (pv 0) pa_nil))) (blkOk_by (own := [("row", 2), ("value", 3)]) (N := N_first_rows) (sc := defScope s_first_rows) (by decide +kernel)) (fun _ _ _ _ _ => (pg_tupK K rfl 2 rfl (pgs_cons (pg_name (i := 2) sc_first_rows.nd rfl (Or.inl rfl)) (pgs_cons (pg_name (i := 3) sc_first_rows.nd rfl (Or.inl rfl)) pgs_nil)))) (fun _ _ _ _ _ => pts_nil) (fun _ _ _ _ _ => (pv 2))) po_none (po_some (pv 1))))), ?_⟩
  refine S.ret (EV.uptoL stab_row (EV.fst (EV.lcM (R := fun (r : Row) H v => Rp H (rowD r) v) (F := fun p : Row × Dt => p.1) stab_row sep_row (IVn.list stab_pr (EV.fst (EV.fnL (z := z) (EA.imp (EA.one (ED.var rfl ha)) fun H' vs f r => ?_)))) (line6 (by omega)) fun t x H1 mt f1 y => ?_)) (ED.var rfl rfl) (fun b H p o v h r => r.tk (TK.new h o))) ht fun v' H2 f r => hq _ _ f r
  · obtain ⟨u, rfl, r⟩ := r
    exact ⟨u, rfl, r, hd, ok⟩
  · obtain ⟨x1, x2, r1, r2, hg⟩ := g2 (K := K) (i := 2) (j := 3) y
    exact ⟨_, fun Q q => hg _ (TK.refl _) _ _ q, rfl, ED.nl (ED.var rfl r1)⟩
end
end CR

set_option Elab.async false
set_option linter.all false
set_option maxRecDepth 100000
set_option maxHeartbeats 4000000
namespace CR
open PySem PySem.Spec PyProof.Rows L2
/-! ### an object that draws -/
def df (rv : V) (u : Int) : List (Str × V) := putF "used" (.int u) (putF "row" rv [])
theorem ru_ne : ¬ (("row" : Str) = "used") := by decide +kernel
theorem df_eq (rv : V) (u : Int) : df rv u = ([("row", rv), ("used", V.int u)] : List (Str × V)) := by
  show (if ("row" : Str) = "used" then [(("row" : Str), V.int u)] else (("row" : Str), rv) :: putF "used" (V.int u) []) = ([("row", rv), ("used", V.int u)] : List (Str × V))
  rw [if_neg ru_ne]
  all_goals rfl
theorem df_row (rv : V) (u : Int) : (df rv u).lookup ("row" : Str) = some rv := by
  unfold df
  rw [lookup_putF, if_neg ru_ne, lookup_putF, if_pos rfl]
theorem df_used (rv : V) (u : Int) : (df rv u).lookup ("used" : Str) = some (.int u) := by
  unfold df
  rw [lookup_putF, if_pos rfl]
theorem df_no (rv : V) (u : Int) {m : Str} (h1 : ¬ m = "used") (h2 : ¬ m = "row") : (df rv u).lookup m = none := by
  unfold df
  rw [lookup_putF, if_neg h1, lookup_putF, if_neg h2]
  rfl
theorem df_put (rv : V) (u x : Int) : putF "used" (.int x) (df rv u) = df rv x := by
  rw [df_eq, df_eq]
  show (if ("row" : Str) = "used" then [(("row" : Str), V.int x), ("used", V.int u)] else (("row" : Str), rv) :: (if ("used" : Str) = "used" then [(("used" : Str), V.int x)] else [(("used" : Str), V.int u)])) = ([("row", rv), ("used", V.int x)] : List (Str × V))
  rw [if_neg ru_ne, if_pos rfl]
def DA (C : Addr) (H : Hp) (s : Addr) (rv : V) (u : Nat) : Prop := ∃ dx, H s = some (.ins C dx (df rv u))
/-- all but s stands -/
structure KD (T : Tbl) (s : Addr) (H H' : Hp) : Prop where
  e : ∀ b o, b ≠ s → H b = some o → (∀ ps, o ≠ .tbl ps) → H' b = some o
  t : LamX.Tabs T H'
  tk : TK H H'
section
variable {T : Tbl} {s : Addr} {H H1 H2 : Hp} {C : Addr} {rv : V} {u : Nat}
theorem KD.refl (h : LamX.Tabs T H) : KD T s H H := ⟨fun _ _ _ e _ => e, h, TK.refl _⟩
theorem KD.trans (a : KD T s H H1) (b : KD T s H1 H2) : KD T s H H2 := ⟨fun c o n e z => b.e c o n (a.e c o n e z) z, b.t, a.tk.trans b.tk⟩
theorem Fut.kd (a : Fut T H H1) : KD T s H H1 := ⟨fun b o _ e n => a.e b o e n, a.t, a.tk⟩
theorem KD.rp {d : Dt} {v : V} (a : KD T s H H1) (h : Rp H d v) : Rp H1 d v := h.tk a.tk
theorem DA.fut (a : Fut T H H1) (h : DA C H s rv u) : DA C H1 s rv u := by
  obtain ⟨dx, h⟩ := h
  exact ⟨dx, a.ins h⟩
theorem DA.ne_new (h : DA C H s rv u) {p : Addr} (hp : H p = none) : p ≠ s := fun e => by
  obtain ⟨dx, h⟩ := h
  rw [e, h] at hp
  cases hp
theorem KD.lst {p : Addr} {xs : List V} (a : KD T s H H1) (n : p ≠ s) (h : H p = some (.lst xs)) : H1 p = some (.lst xs) := a.e p _ n h fun _ z => by cases z
/-- a list of ours is written -/
theorem KD.putL (a : KD T s H H1) {p : Addr} {xs : List V} {o : HO} (h0 : H p = none) (h : H1 p = some (.lst xs)) : KD T s H (upd H1 p o) :=
  ⟨fun b x n e z => by rw [upd_ne (ne_of_none e h0)]; exact a.e b x n e z, tabs_upd a.t h (fun _ z => by cases z) (fun _ z => by unfold LamX.CodeO at z; cases z), fun b ys e => by rw [upd_ne (ne_of_none e h0)]; exact a.tk b ys e⟩
theorem KD.set (ht : LamX.Tabs T H) {dx : Addr} {fs fs' : List (Str × V)} (h : H s = some (.ins C dx fs)) : KD T s H (upd H s (.ins C dx fs')) :=
  ⟨fun b x n e z => by rw [upd_ne n]; exact e, tabs_upd ht h (fun _ z => by cases z) (fun _ z => by unfold LamX.CodeO at z; cases z), fun b ys e => by rw [upd_ne (fun z => by rw [z, h] at e; cases e)]; exact e⟩
end
/-! ### promises -/
def spInit (T : Tbl) (C : Addr) : Sp := fun vs H Q _ => ∃ (s dx : Addr) (rv : V), vs = [.ref s, rv] ∧ H s = some (.ins C dx []) ∧ LamX.Tabs T H ∧ ∀ H', KD T s H H' → DA C H' s rv 0 → Q .non H'
def spChoice (T : Tbl) (C : Addr) : Sp := fun vs H Q _ => ∃ (s : Addr) (rv : V) (row : Row) (u : Nat) (b c : Int), vs = [.ref s, .int b] ∧ DA C H s rv u ∧ Rp H (rowD row) rv ∧ row[u]? = some c ∧ 0 ≤ c ∧ c ≤ b ∧ LamX.Tabs T H ∧ ∀ H', KD T s H H' → DA C H' s rv (u + 1) → Q (.int c) H'
/-- what drawing asks of a generator, and of its parts -/
def PreD : Gen → Prop
  | .kept g c => ∃ k, ∀ p ∈ rowsM g, PreH 7 c p.2 k
  | .turned g m => ∃ k k', ∀ p ∈ rowsM g, PreM m p.2 k k'
  | .list _ l m => l ≤ m ∧ m ≤ 6
  | .tuple ls => ls.length ≤ 1000
  | _ => True
inductive DOk : Gen → Prop
  | mk (g : Gen) (pre : PreD g) (ps : ∀ p ∈ g.parts, DOk p) : DOk g
def spVal (T : Tbl) (C : Addr) (n : Nat) (sh : Gen → Prop) : Sp := fun vs H Q _ => ∃ (s : Addr) (gv rv : V) (z : Gen) (row : Row) (u : Nat) (r suf : Row) (d : Dt), vs = [.ref s, gv] ∧ Rp H z.d gv ∧ sh z ∧ z.depth < n ∧ DOk z ∧ DA C H s rv u ∧ Rp H (rowD row) rv ∧ (r, d) ∈ rowsM z ∧ row.drop u = r ++ suf ∧ LamX.Tabs T H ∧ ∀ v H', KD T s H H' → DA C H' s rv (u + r.length) → Rp H' d v → Q v H'
section
variable {T : Tbl} {σ : L2.St} {H : Hp} {K : PySem.W.Frag} {C s : Addr} {rv : V} {u : Nat} {te : TE} {Q : VK}
theorem do_fld (cls : Cls K C) (nu : NoAttr K C "used") {i : Nat} (hi : σ[i]? = some (some (.ref s))) (da : DA C H s rv u) (q : Q (.int u) H) : tFld K (tVar i) "used" σ H Q := by
  obtain ⟨dx, h⟩ := da
  exact ⟨_, hi, s, C, dx, _, _, rfl, h, cls, nu, df_used _ _, q⟩
theorem do_row (cls : Cls K C) (nr : NoAttr K C "row") {i : Nat} (hi : σ[i]? = some (some (.ref s))) (da : DA C H s rv u) (q : Q rv H) : tFld K (tVar i) "row" σ H Q := by
  obtain ⟨dx, h⟩ := da
  exact ⟨_, hi, s, C, dx, _, _, rfl, h, cls, nr, df_row _ _, q⟩
theorem EV.used (cls : Cls K C) (nu : NoAttr K C "used") {i : Nat} (hi : σ[i]? = some (some (.ref s))) (da : DA C H s rv u) : ED T (tFld K (tVar i) "used") σ H (.num u) := fun H1 f1 Q q => do_fld cls nu hi (da.fut f1) (q _ H1 (fr f1) rfl)
theorem EV.row (cls : Cls K C) (nr : NoAttr K C "row") {i : Nat} (hi : σ[i]? = some (some (.ref s))) (da : DA C H s rv u) {row : Row} (hr : Rp H (rowD row) rv) : ED T (tFld K (tVar i) "row") σ H (rowD row) := fun H1 f1 Q q => do_row cls nr hi (da.fut f1) (q _ H1 (fr f1) (f1.rp hr))
theorem Sq.used (cls : Cls K C) (nu : NoAttr K C "used") {i : Nat} {tv : TE} {x : Int} {D : Ends} {t : TS} (hi : σ[i]? = some (some (.ref s))) (da : DA C H s rv u) (he : ED T tv σ H (.num x)) (ht : LamX.Tabs T H) (q : ∀ H', KD T s H H' → (∃ dx, H' s = some (.ins C dx (df rv x))) → t D σ H') : tSeq (sFld K (tVar i) tv "used") t D σ H :=
  he.at ht fun v H2 f r => by
    obtain ⟨dx, h⟩ := da.fut f
    refine ⟨_, hi, s, C, dx, _, rfl, h, cls, nu, by rw [df_eq]; show 2 < 1000; decide, ?_⟩
    refine q _ (f.kd.trans (KD.set f.t h)) ⟨dx, ?_⟩
    rw [upd_same, show v = .int x from r, df_put]
theorem do_choice {i : Nat} {row : Row} {b c : Int} (hi : σ[i]? = some (some (.ref s))) (da : DA C H s rv u) (hr : Rp H (rowD row) rv) (ht : LamX.Tabs T H) (he : ED T te σ H (.num b)) (hc : row[u]? = some c) (c0 : 0 ≤ c) (cb : c ≤ b) (q : ∀ H', KD T s H H' → DA C H' s rv (u + 1) → Q (.int c) H') :
    tMeth C "choice" (spChoice T C) [] E0 (tVar i) (tCons te tNil) σ H Q := by
  obtain ⟨dx, h⟩ := id da
  refine ⟨_, hi, s, dx, _, rfl, h, df_no _ _ (by decide +kernel) (by decide +kernel), he.at ht fun v H2 f r => ?_⟩
  exact ⟨s, rv, row, u, b, c, by rw [show v = _ from r]; rfl, da.fut f, f.rp hr, hc, c0, cb, f.t, fun H' k d => q H' (f.kd.trans k) d⟩
theorem do_vals {i n : Nat} {m : Str} {sh : Gen → Prop} {row r suf : Row} {z : Gen} {d : Dt} (m1 : ¬ m = "used") (m2 : ¬ m = "row") (hi : σ[i]? = some (some (.ref s))) (da : DA C H s rv u) (hr : Rp H (rowD row) rv) (ht : LamX.Tabs T H) (he : ED T te σ H z.d) (hsh : sh z) (hd : z.depth < n) (ok : DOk z) (hm : (r, d) ∈ rowsM z) (hs : row.drop u = r ++ suf) (q : ∀ v H', KD T s H H' → DA C H' s rv (u + r.length) → Rp H' d v → Q v H') :
    tMeth C m (spVal T C n sh) [] E0 (tVar i) (tCons te tNil) σ H Q := by
  obtain ⟨dx, h⟩ := id da
  refine ⟨_, hi, s, dx, _, rfl, h, df_no _ _ m1 m2, he.at ht fun v H2 f rz => ?_⟩
  exact ⟨s, v, rv, z, row, u, r, suf, d, rfl, rz, hsh, hd, ok, da.fut f, f.rp hr, hm, hs, f.t, fun v H' k da' rd => q v H' (f.kd.trans k) da' rd⟩
theorem drop_at {row suf : Row} {u : Nat} {ps : List (Row × Dt)} (h : row.drop u = ps.flatMap (fun q => q.1) ++ suf) {i : Nat} {p : Row × Dt} (hp : ps[i]? = some p) : row.drop (u + ((ps.take i).flatMap fun q => q.1).length) = p.1 ++ ((ps.drop (i + 1)).flatMap (fun q => q.1) ++ suf) := by
  have e : ps = ps.take i ++ p :: ps.drop (i + 1) := by
    obtain ⟨hi, e⟩ := List.getElem?_eq_some_iff.mp hp
    rw [← e, List.getElem_cons_drop, List.take_append_drop]
  have e2 : ps.flatMap (fun q => q.1) = (ps.take i).flatMap (fun q => q.1) ++ (p.1 ++ (ps.drop (i + 1)).flatMap fun q => q.1) := by
    conv => lhs; rw [e]
    rw [List.flatMap_append, List.flatMap_cons]
  rw [← List.drop_drop, h, e2, List.append_assoc, List.drop_left, List.append_assoc]
/-- [self.value(..) for ..] -/
theorem lc_vals {wi : TI} {j n : Nat} {row suf : Row} {zs : List Gen} {ps : List (Row × Dt)} {Y : Nat → V → Prop} (hz : All2 (fun z p => p ∈ rowsM z) zs ps) (da : DA C H s rv u) (hr : Rp H (rowD row) rv) (ht : LamX.Tabs T H) (hn : zs.length ≤ 1000) (hd : ∀ z ∈ zs, z.depth < n) (ok : ∀ z ∈ zs, DOk z) (hs : row.drop u = ps.flatMap (fun q => q.1) ++ suf)
    (hwi : ∀ R : It → Hp → Prop, (∀ J, Walk J zs.length (fun H' => KD T s H H') (fun i H3 x H4 => H4 = H3 ∧ Y i x) → R J H) → wi σ H R) (h0 : ∀ x, ((wipe σ [j]).set j (some x))[0]? = some (some (.ref s))) (hw : ∀ x, wipe ((wipe σ [j]).set j (some x)) [j] = wipe σ [j])
    (hte : ∀ i x H' z, Y i x → KD T s H H' → zs[i]? = some z → ED T te ((wipe σ [j]).set j (some x)) H' z.d)
    (q : ∀ D xs H', H D = none → KD T s H H' → H' D = some (.lst xs) → RpA H' (ps.map fun q => q.2) xs → DA C H' s rv (u + (ps.flatMap fun q => q.1).length) → Q (.ref D) H') :
    tLc wi (gName j) tYes (tMeth C "value" (spVal T C n fun _ => True) [] E0 (tVar 0) (tCons te tNil)) [j] σ H Q :=
  hwi _ fun J w D hD => by
    have nD : D ≠ s := da.ne_new hD
    refine lc_it w (fun i H' => ∃ xs, H' D = some (.lst xs) ∧ KD T s H H' ∧ xs.length ≤ i ∧ RpA H' ((ps.take i).map fun q => q.2) xs ∧ DA C H' s rv (u + ((ps.take i).flatMap fun q => q.1).length)) ⟨[], upd_same, (Fut.newR ht hD _).kd, Nat.le_refl _, rfl, da.fut (Fut.newR ht hD _)⟩ (fun i H' _ ⟨_, _, h, _⟩ => h) (fun i x H3 H4 hi ⟨xs, hx, k3, hl, ha, da3⟩ y => ?_) fun H' ⟨xs, hx, k3, hl, ha, da3⟩ => ?_
    · obtain ⟨rfl, y⟩ := y
      have hzi : zs[i]? = some zs[i] := List.getElem?_eq_getElem hi
      obtain ⟨p, hp, hpm⟩ := all2_fwd hz hzi
      refine ⟨hw x, yesI ?_⟩
      refine do_vals (by decide +kernel) (by decide +kernel) (h0 x) da3 (k3.rp hr) k3.t (hte i x _ _ y k3 hzi) trivial (hd _ (List.getElem_mem hi)) (ok _ (List.getElem_mem hi)) (r := p.1) (d := p.2) hpm (drop_at hs hp) fun v H5 k5 da5 rd => ?_
      have hx5 := k5.lst nD hx
      have nv : RpA (upd H5 D (.lst (xs ++ [v]))) ((ps.take (i + 1)).map fun q => q.2) (xs ++ [v]) := by
        rw [take_succ_of hp, List.map_append]
        exact rpA_put hx5 ((ha.tk k5.tk).snoc rd)
      refine ⟨xs, hx5, line6' (by omega), xs ++ [v], upd_same, (k3.trans k5).putL hD hx5, by rw [List.length_append, List.length_singleton]; omega, nv, ?_⟩
      obtain ⟨dx, h5⟩ := da5
      refine ⟨dx, ?_⟩
      rw [upd_ne nD.symm, h5, take_succ_of hp, List.flatMap_append, List.flatMap_singleton, List.length_append, Nat.add_assoc]
    · have el : ps.length = zs.length := hz.length.symm
      rw [← el, List.take_of_length_le (Nat.le_refl _)] at ha da3
      exact q D xs H' hD k3 hx ha da3
end
section
variable {P : Program} {w : World} {K : PySem.W.Frag} {mg : Str → Option Value} {base : Heap} {T : Tbl} (g : G K mg base T)
abbrev N_D_init : List Str := ["self", "row"]
theorem sc_D_init : FnScope N_D_init ["self", "row"] (defScope s_D_init) := ⟨rfl, rfl, rfl, by decide +kernel, rfl, by decide +kernel, by decide +kernel⟩
theorem ok_init : FnOk P w K mg base CX0 1 g.aI g.dI ["self", "row"] (spInit T g.C) := by
  refine g.FI.ok sc_D_init (fun vs H Q E h => by obtain ⟨s, dx, rv, rfl, _⟩ := h; rfl) fun cdv A outer st H vs Q E hr h => ?_
  obtain ⟨s, dx, rv, rfl, hs, ht, q⟩ := h
  refine ⟨_, PSs.nox (pss_cons (ps_fld (pv 0) (pv 1) rfl) (pss_one (ps_fld (pv 0) pe_int rfl))), ?_⟩
  refine ⟨_, rfl, _, rfl, s, g.C, dx, [], rfl, hs, g.cls, g.nrow, (by show 0 < 1000; decide), _, rfl, s, g.C, dx, _, rfl, upd_same, g.cls, g.nused, (by show 1 < 1000; decide), ?_⟩
  have k1 : KD T s H (upd H s (.ins g.C dx (putF "row" rv []))) := KD.set ht hs
  exact q _ (k1.trans (KD.set k1.t upd_same)) ⟨dx, upd_same⟩
abbrev N_D_choice : List Str := ["self", "bound", "found"]
theorem sc_D_choice : FnScope N_D_choice ["self", "bound"] (defScope s_D_choice) := ⟨rfl, rfl, rfl, by decide +kernel, rfl, by decide +kernel, by decide +kernel⟩
theorem ok_choice : FnOk P w K mg base CX0 1 g.D_choice.a g.D_choice.d ["self", "bound"] (spChoice T g.C) := by
  refine g.D_choice.F.ok sc_D_choice (fun vs H Q E h => by obtain ⟨s, rv, row, u, b, c, rfl, _⟩ := h; rfl) fun cdv A outer st H vs Q E hr h => ?_
  obtain ⟨s, rv, row, u, b, c, rfl, da, hrow, hc, c0, cb, ht, q⟩ := h
  refine ⟨_, PSs.nox (pss_cons (ps_if (pt_cmpR op_ge (pe_fld (pv 0) rfl) (pe_callB (cr_lenK K rfl) rfl g.n_len boot_len (pa_cons (pe_fld (pv 0) rfl) pa_nil)) (nomark _)) (pss_one ps_never) pss_nil) (pss_cons (ps_set (i := 2) sc_D_choice.nd rfl (Or.inl rfl) (pe_ix (ix_tupK K rfl) (pe_fld (pv 0) rfl) (pe_fld (pv 0) rfl) (fun _ _ => rfl))) (pss_cons (ps_if (pt_not (pt_chain op_le op_le pe_int (pv 2) (pv 1))) (pss_one ps_never) pss_nil) (pss_cons (ps_fld (pv 0) (pe_op op_add (pe_fld (pv 0) rfl) pe_int) rfl) (pss_one (ps_ret (pv 2))))))), ?_⟩
  have hu : u < row.length := (List.getElem?_eq_some_iff.mp hc).1
  refine Sq.no (T := T) (ET.imp (.of (EB.ge (i := u) (j := row.length) (EV.used g.cls g.nused rfl da) (ED.lenRow (EV.row g.cls g.nrow rfl da hrow)))) (decide_eq_false (by omega))) ht fun H1 f1 => ?_
  refine Sq.set (R := fun H v => v = .int c) (EV.imp (ED.ix (d := .num c) (EV.row g.cls g.nrow rfl (da.fut f1) (f1.rp hrow)) (EV.used g.cls g.nused rfl (da.fut f1)) (by rw [List.getElem?_map, hc]; rfl)) fun _ _ _ r => r) f1.t fun v H2 f2 rv' => ?_
  cases rv'
  refine Sq.no (ET.imp (ET.not (.of (EB.between (i := 0) (j := c) (k := b) (ED.int 0) (ED.var rfl rfl) (ED.var rfl rfl)))) (by rw [decide_eq_true c0, decide_eq_true cb]; rfl)) f2.t fun H3 f3 => ?_
  have f13 := (f1.trans f2).trans f3
  have da3 := da.fut f13
  have e : (u : Int) + 1 = ((u + 1 : Nat) : Int) := by omega
  refine Sq.used g.cls g.nused rfl da3 (ED.add (i := u) (j := 1) (EV.used g.cls g.nused rfl da3) (ED.int 1)) f13.t fun H4 k4 d4 => ?_
  exact ⟨_, rfl, q _ (f13.kd.trans k4) (by rw [e] at d4; exact d4)⟩
end
end CR

set_option Elab.async false
set_option linter.all false
set_option maxRecDepth 100000
set_option maxHeartbeats 4000000
namespace CR
open PySem PySem.Spec PyProof.Rows L2
theorem drop_cons {row : Row} {k : Nat} {c : Int} {t : Row} (h : row.drop k = c :: t) : row[k]? = some c ∧ row.drop (k + 1) = t := by
  constructor
  · have := List.getElem?_drop (xs := row) (i := k) (j := 0)
    rw [h] at this
    exact this.symm
  · rw [← List.drop_drop, h]
    rfl
def shL (z : Gen) : Prop := ∃ p l m, z = .list p l m
def shR (z : Gen) : Prop := ∃ lo hi p, z = .rep lo hi p
def shK (z : Gen) : Prop := ∃ p c, z = .kept p c
def shA (_ : Gen) : Prop := True
section
variable {T : Tbl} {σ : L2.St} {H : Hp} {K : PySem.W.Frag}
theorem Sq.raw {te : TE} {i : Nat} {u : TS} {D : Ends} (h : te σ H fun v H1 => u D (σ.set i (some v)) H1) : tSeq (tAsg te (gName i)) u D σ H := h
theorem Sq.asgR {te : TE} {gt : TG} {u : TS} {D : Ends} (h : te σ H fun x H1 => gt x σ H1 (u D)) : tSeq (tAsg te gt) u D σ H := h
theorem g4 {a b c d : Dt} {x : V} {i j k l : Nat} (h : Rp H (.tup [a, b, c, d]) x) : ∃ u v w y, Rp H a u ∧ Rp H b v ∧ Rp H c w ∧ Rp H d y ∧ ∀ (σ : L2.St) (Q : L2.St → Hp → Prop), Q ((((σ.set i (some u)).set j (some v)).set k (some w)).set l (some y)) H → gTup K 4 (gCons (gName i) (gCons (gName j) (gCons (gName k) (gCons (gName l) gNil)))) x σ H Q := by
  obtain ⟨p, xs, e, h1, u, r, rfl, hu, v, r', rfl, hv, w, r'', rfl, hw, y, r3, rfl, hy, e'⟩ := h
  rw [show r3 = [] from e'] at h1
  exact ⟨u, v, w, y, hu, hv, hw, hy, fun σ Q q => ⟨p, [u, v, w, y], e, SqT.of h1, rfl, u, _, rfl, v, _, rfl, w, _, rfl, y, _, rfl, rfl, q⟩⟩
end
section
variable {P : Program} {w : World} {K : PySem.W.Frag} {mg : Str → Option Value} {base : Heap} {T : Tbl} (g : G K mg base T)
abbrev N_D_listed : List Str := ["self", "generator", "_", "part", "least", "most", "found"]
theorem sc_D_listed : FnScope N_D_listed ["self", "generator"] (defScope s_D_listed) := ⟨rfl, rfl, rfl, by decide +kernel, rfl, by decide +kernel, by decide +kernel⟩
theorem ok_listed (n : Nat) (OK_D_value : FnOk P w K mg base CX0 (2 * n + 27) g.D_value.a g.D_value.d ["self", "generator"] (spVal T g.C n fun _ => True)) : FnOk P w K mg base CX0 (2 * n + 28) g.D_listed.a g.D_listed.d ["self", "generator"] (spVal T g.C (n + 1) shL) := by
  have OK_D_choice := ok_choice (P := P) (w := w) g
  refine g.D_listed.F.ok (k := 2 * n + 27) sc_D_listed (fun vs H Q E h => by obtain ⟨s, gv, rv, z, row, u, r, suf, d, rfl, _⟩ := h; rfl) fun cdv A outer st H vs Q E hr h => ?_
  obtain ⟨s, gv, rv, z, row, u, r, suf, d, rfl, hg, ⟨p, l, m, rfl⟩, hd, ok, da, hrow, hm, hs, ht, q⟩ := h
  refine ⟨_, PSs.nox (pss_cons (ps_asg (pv 1) (pg_tupK K rfl 4 rfl (pgs_cons (pg_name (i := 2) sc_D_listed.nd rfl (Or.inl rfl)) (pgs_cons (pg_name (i := 3) sc_D_listed.nd rfl (Or.inr rfl)) (pgs_cons (pg_name (i := 4) sc_D_listed.nd rfl (Or.inl rfl)) (pgs_cons (pg_name (i := 5) sc_D_listed.nd rfl (Or.inl rfl)) pgs_nil)))))) (pss_cons (ps_setLc (own := [("_", 2)]) (i := 6) rfl sc_D_listed.nd rfl rfl (by first | exact sw_true rfl rfl rfl (by decide +kernel) | rfl) (pi_range1 rfl g.n_range (pa_cons (pv 4) pa_nil)) (blkOk_by (own := [("_", 2)]) (N := N_D_listed) (sc := defScope s_D_listed) (by decide +kernel)) (fun _ _ _ _ _ => (pg_name (i := 2) sc_D_listed.nd rfl (Or.inl rfl))) (fun _ _ _ _ _ => pts_nil) (fun _ _ _ _ _ => (pe_meth (pv 0) g.cls g.D_value.m OK_D_value (hr.mono (by omega)) (b_D_value g.D_value) .nil pass0 (pa_cons (pv 3) pa_nil)))) (pss_cons (ps_while PassesOwn.never (PW.pt (pw_and (pt_cmpR op_lt (pe_callB (cr_lenK K rfl) rfl g.n_len boot_len (pa_cons (pv 6) pa_nil)) (pv 5) (nomark _)) (pw_and1 (pt_cmpR op_eq (pe_meth (pv 0) g.cls g.D_choice.m OK_D_choice (hr.mono (by omega)) (b_D_choice g.D_choice) .nil pass0 (pa_cons pe_int pa_nil)) pe_int (nomark _))))) (pss_one (ps_expr (pe_bm PySem.F.plainAttrs_list PySem.F.slot_list_append PySem.F.type_list_append mt_append (pv 6) (pa_cons (pe_meth (pv 0) g.cls g.D_value.m OK_D_value (hr.mono (by omega)) (b_D_value g.D_value) .nil pass0 (pa_cons (pv 3) pa_nil)) pa_nil))))) (pss_one (ps_ret (pe_callTy (cr_tupleK K rfl) rfl g.n_tuple (by decide +kernel) (pa_cons (pv 6) pa_nil))))))), ?_⟩
  have hd : p.depth + 1 < n + 1 := hd
  cases ok with
  | mk _ pre ps =>
  obtain ⟨plm, pm6⟩ := (show l ≤ m ∧ m ≤ 6 from pre)
  have okp := ps p (List.mem_singleton.mpr rfl)
  obtain ⟨q0, hq0, e0⟩ := List.mem_map.mp (show (r, d) ∈ tupR (loopR (rowsM p) (m - l) (powM (rowsM p) l)) from hm)
  obtain ⟨a0, ha0, ps2, hl2, hm2, rfl⟩ := mem_loop hq0
  obtain ⟨ps1, hl1, hm1, rfl⟩ := mem_pow ha0
  cases e0
  -- _, part, least, most = generator
  obtain ⟨y1, y2, y3, y4, t1, t2, t3, t4, hgt⟩ := g4 (K := K) (i := 2) (j := 3) (k := 4) (l := 5) hg
  have t3 : y3 = .int l := t3
  have t4 : y4 = .int m := t4
  subst t3 t4
  refine Sq.asgR ⟨_, rfl, hgt _ _ ?_⟩
  have hrow1 : row.drop u = ps1.flatMap (fun q => q.1) ++ (ps2.flatMap (fun q => 1 :: q.1) ++ (if ps2.length < m - l then [0] else []) ++ suf) := by
    rw [hs]
    simp only [List.append_assoc]
  -- found = [self.value(part) for _ in range(least)]
  refine Sq.raw (lc_vals (zs := List.replicate l p) (ps := ps1) (n := n) (Y := fun _ _ => True) ?_ da hrow ht (by rw [List.length_replicate]; omega) (fun z hz => by rw [List.eq_of_mem_replicate hz]; omega) (fun z hz => by rw [List.eq_of_mem_replicate hz]; exact okp) hrow1 (fun R k => ⟨_, rfl, (l : Int), rfl, by omega, by omega, k _ (by
    rw [List.length_replicate]
    exact walk_range.mono (fun _ _ => trivial) fun i H' x H'' hi f y => ⟨y.1, trivial⟩)⟩) (fun x => rfl) (fun x => rfl) (fun i x H' z _ k hz => by
    have : z = p := List.eq_of_mem_replicate (List.mem_of_getElem? hz)
    subst this
    exact ED.var rfl (k.rp t2)) fun D xs H1 hD k1 hx1 ax1 da1 => ?_)
  · have key : ∀ {k : Nat} {ps : List (Row × Dt)}, ps.length = k → (∀ q ∈ ps, q ∈ rowsM p) → All2 (fun z q => q ∈ rowsM z) (List.replicate k p) ps := by
      intro k ps hk hp
      subst hk
      induction ps with
      | nil => exact .nil
      | cons a t ih => exact .cons (hp a List.mem_cons_self) (ih fun q hq => hp q (List.mem_cons_of_mem _ hq))
    exact key hl1 hm1
  have nD : D ≠ s := da.ne_new hD
  -- while ..
  have hrow2 : row.drop (u + (ps1.flatMap fun q => q.1).length) = (ps2.map fun q => ((1 : Int) :: q.1, q.2)).flatMap (fun q => q.1) ++ ((if ps2.length < m - l then [0] else []) ++ suf) := by
    rw [← List.drop_drop, hrow1, List.drop_left, List.flatMap_map, List.append_assoc]
  refine ⟨fun k σ' H' => ∃ j ys, j ≤ ps2.length ∧ k = ps2.length - j ∧ σ' = [some (.ref s), some gv, some y1, some y2, some (.int l), some (.int m), some (.ref D)] ∧ KD T s H H' ∧ H' D = some (.lst ys) ∧ RpA H' (ps1.map (fun q => q.2) ++ (ps2.take j).map fun q => q.2) ys ∧ DA g.C H' s rv (u + (ps1.flatMap fun q => q.1).length + (((ps2.map fun q => ((1 : Int) :: q.1, q.2)).take j).flatMap fun q => q.1).length), ⟨ps2.length, 0, xs, Nat.zero_le _, rfl, rfl, k1, hx1, by rw [List.take_zero, List.map_nil, List.append_nil]; exact ax1, da1⟩, ?_⟩
  rintro k σ' H' ⟨j, ys, hj, rfl, rfl, k2, hy, ay, da2⟩
  have hlen : ys.length = l + j := by
    rw [ay.length, List.length_append, List.length_map, List.length_map, List.length_take, Nat.min_eq_left hj, hl1]
  -- len(found) < most and self.choice(1) == 1
  have dl : (ps1.map (fun q => q.2) ++ (ps2.take j).map fun q => q.2).length = l + j := by rw [← ay.length, hlen]
  have ltest : ∀ b, decide (((l : Int) + j) < m) = b → ET T (tTest (tOp (L2.rI0 fun i j => .bl (decide (i < j))) (tCB (rLenK K) (tCons (tVar 6) tNil)) (tVar 5))) [some (.ref s), some gv, some y1, some y2, some (.int l), some (.int m), some (.ref D)] H' b := fun b hb =>
    ET.imp (ET.of (EB.lt (i := (l : Int) + j) (j := m) (ED.cast (ED.lenL (EL.var rfl ⟨D, ys, rfl, hy, ay⟩)) (by rw [dl]; omega)) (ED.var rfl rfl))) hb
  have fin : ∀ Hx, KD T s H Hx → DA g.C Hx s rv (u + ((ps1.flatMap fun q : Row × Dt => q.1) ++ (ps2.flatMap (fun q : Row × Dt => (1 : Int) :: q.1) ++ (if ps2.length < m - l then [(0 : Int)] else []))).length) → ∀ v Hy, Fut T Hx Hy → Rp Hy (.tup (ps1.map (fun q => q.2) ++ ps2.map fun q => q.2)) v → Q v Hy := fun Hx kx dx v Hy fy rv' => q v Hy (kx.trans fy.kd) (dx.fut fy) rv'
  by_cases hjl : j < ps2.length
  · obtain ⟨pj, hpj⟩ : ∃ pj, ps2[j]? = some pj := ⟨_, List.getElem?_eq_getElem hjl⟩
    have hpj' : (ps2.map fun q => ((1 : Int) :: q.1, q.2))[j]? = some ((1 : Int) :: pj.1, pj.2) := by rw [List.getElem?_map, hpj]; rfl
    have hd3 := drop_at hrow2 hpj'
    obtain ⟨c1, c2⟩ := drop_cons hd3
    refine (ltest true (decide_eq_true (by omega))).at k2.t fun H2 f2 => iteY rfl ?_
    refine do_choice rfl (da2.fut f2) ((k2.trans f2.kd).rp hrow) f2.t (ED.int 1) c1 (by decide) (by decide) fun H3 k3 da3 => ⟨rfl, _, rfl, iteY (decide_eq_true rfl) ?_⟩
    have hy3 := k3.lst nD (f2.lst hy)
    have k23 := (k2.trans f2.kd).trans k3
    refine ⟨fun σ'' H'' => ∃ ys', σ'' = [some (.ref s), some gv, some y1, some y2, some (.int l), some (.int m), some (.ref D)] ∧ KD T s H H'' ∧ H'' D = some (.lst ys') ∧ RpA H'' (ps1.map (fun q => q.2) ++ (ps2.take (j + 1)).map fun q => q.2) ys' ∧ DA g.C H'' s rv (u + (ps1.flatMap fun q => q.1).length + (((ps2.map fun q => ((1 : Int) :: q.1, q.2)).take (j + 1)).flatMap fun q => q.1).length), fun σ'' H'' ⟨ys', h1, h2, h3, h4, h5⟩ => ⟨ps2.length - (j + 1), by omega, j + 1, ys', hjl, rfl, h1, h2, h3, h4, h5⟩, ?_⟩
    refine ⟨_, rfl, .inl ⟨rfl, _, .inl (.inl hy3)⟩, ?_⟩
    refine do_vals (by decide +kernel) (by decide +kernel) rfl da3 (k23.rp hrow) k3.t (ED.var rfl (k23.rp t2)) trivial (by omega) okp (r := pj.1) (d := pj.2) (hm2 pj (List.mem_of_getElem? hpj)) c2 fun v H5 k5 da5 rd => ?_
    have hy5 := k5.lst nD hy3
    refine ⟨D, ys, v, rfl, rfl, hy5, line6' (by omega), ys ++ [v], rfl, (k23.trans k5).putL hD hy5, upd_same, ?_, ?_⟩
    · rw [take_succ_of hpj, List.map_append, ← List.append_assoc]
      exact rpA_put hy5 ((ay.tk ((f2.tk.trans k3.tk).trans k5.tk)).snoc rd)
    · obtain ⟨dx, h5⟩ := da5
      refine ⟨dx, ?_⟩
      rw [upd_ne nD.symm, h5, take_succ_of hpj', List.flatMap_append, List.flatMap_singleton, List.length_append, List.length_cons]
      congr 4
      omega
  · have ej : j = ps2.length := by omega
    subst ej
    rw [List.take_of_length_le (Nat.le_refl _)] at ay
    rw [List.take_of_length_le (by rw [List.length_map]; exact Nat.le_refl _)] at da2
    have hrow3 : row.drop (u + (ps1.flatMap fun q => q.1).length + ((ps2.map fun q => ((1 : Int) :: q.1, q.2)).flatMap fun q => q.1).length) = (if ps2.length < m - l then [0] else []) ++ suf := by
      rw [← List.drop_drop, hrow2, List.drop_left]
    have e1 : ((ps2.map fun q => ((1 : Int) :: q.1, q.2)).flatMap fun q => q.1) = ps2.flatMap fun q => 1 :: q.1 := by rw [List.flatMap_map]
    rw [e1] at da2 hrow3
    by_cases hlt : ps2.length < m - l
    · rw [if_pos hlt] at hrow3 fin
      obtain ⟨c1, c2⟩ := drop_cons (t := suf) hrow3
      refine (ltest true (decide_eq_true (by omega))).at k2.t fun H2 f2 => iteY rfl ?_
      refine do_choice rfl (da2.fut f2) ((k2.trans f2.kd).rp hrow) f2.t (ED.int 1) c1 (by decide) (by decide) fun H3 k3 da3 => ⟨rfl, _, rfl, iteN (decide_eq_false (fun z => by cases z)) ?_⟩
      have hy3 := k3.lst nD (f2.lst hy)
      have k23 := (k2.trans f2.kd).trans k3
      refine (ED.tupOf (K := K) (EL.var rfl ⟨D, ys, rfl, hy3, ay.tk (f2.tk.trans k3.tk)⟩)).at k3.t (fin H3 k23 ?_)
      rw [List.length_append, List.length_append, ← Nat.add_assoc, ← Nat.add_assoc]
      exact da3
    · rw [if_neg hlt] at fin
      refine (ltest false (decide_eq_false (by omega))).at k2.t fun H2 f2 => iteN rfl (iteN rfl ?_)
      refine (ED.tupOf (K := K) (EL.var rfl ⟨D, ys, rfl, f2.lst hy, ay.tk f2.tk⟩)).at f2.t (fin H2 (k2.trans f2.kd) ?_)
      rw [List.append_nil, List.length_append, ← Nat.add_assoc]
      exact da2.fut f2
end
end CR

set_option Elab.async false
set_option linter.all false
set_option maxRecDepth 100000
set_option maxHeartbeats 4000000
namespace CR
open PySem PySem.Spec PyProof.Rows L2
theorem S.retT {K : PySem.W.Frag} {te : TE} {D : Ends} {σ : L2.St} {H : Hp} (h : te σ H fun v H1 => rTupK K [v] H1 D.rt) : tRet (tCB (rTupK K) (tCons te tNil)) D σ H := h
theorem all2_repz {p : Gen} : ∀ {k : Nat} {ps : List (Row × Dt)}, ps.length = k → (∀ q ∈ ps, q ∈ rowsM p) → All2 (fun z q => q ∈ rowsM z) (List.replicate k p) ps := by
  intro k ps hk hp
  subst hk
  induction ps with
  | nil => exact .nil
  | cons a t ih => exact .cons (hp a List.mem_cons_self) (ih fun q hq => hp q (List.mem_cons_of_mem _ hq))
theorem mem_join' : ∀ {ls : List Lf} {A : List (Row × List Dt)} {p : Row × List Dt}, p ∈ (ls.map lfR).foldl stepM A → ∃ a ∈ A, ∃ ps : List (Row × Dt), All2 (fun z q => q ∈ rowsM z) (ls.map Gen.leaf) ps ∧ p = (a.1 ++ ps.flatMap (fun q => q.1), a.2 ++ ps.map fun q => q.2)
  | [], A, p, h => ⟨p, h, [], .nil, by simp⟩
  | l :: ls, A, p, h => by
    obtain ⟨a, ha, ps, h1, rfl⟩ := mem_join' (ls := ls) (A := stepM A (lfR l)) h
    obtain ⟨b, hb, c, hc, rfl⟩ := mem_stepM.mp ha
    exact ⟨b, hb, c :: ps, .cons hc h1, by simp⟩
section
variable {P : Program} {w : World} {K : PySem.W.Frag} {mg : Str → Option Value} {base : Heap} {T : Tbl} (g : G K mg base T)
def spNo : Sp := fun _ _ _ _ => False
theorem ok_refuse {k : Nat} : FnOk P w K mg base CX0 k g.D_refuse.a g.D_refuse.d ["self"] spNo := ⟨fun _ _ _ _ h => h.elim, fun _ _ _ _ _ _ _ _ _ _ _ _ _ h => h.elim⟩
abbrev N_D_kept : List Str := ["self", "generator", "found"]
theorem sc_D_kept : FnScope N_D_kept ["self", "generator"] (defScope s_D_kept) := ⟨rfl, rfl, rfl, by decide +kernel, rfl, by decide +kernel, by decide +kernel⟩
theorem ok_kept (n : Nat) (OK_D_value : FnOk P w K mg base CX0 (2 * n + 27) g.D_value.a g.D_value.d ["self", "generator"] (spVal T g.C n fun _ => True)) : FnOk P w K mg base CX0 (2 * n + 28) g.D_kept.a g.D_kept.d ["self", "generator"] (spVal T g.C (n + 1) shK) := by
  have OK_D_refuse := ok_refuse (P := P) (w := w) g (k := 0)
  have OK_holds := ok_holds (P := P) (w := w) g 7
  refine g.D_kept.F.ok (k := 2 * n + 27) sc_D_kept (fun vs H Q E h => by obtain ⟨s, gv, rv, z, row, u, r, suf, d, rfl, _⟩ := h; rfl) fun cdv A outer st H vs Q E hr h => ?_
  obtain ⟨s, gv, rv, z, row, u, r, suf, d, rfl, hg, ⟨p, c, rfl⟩, hd, ok, da, hrow, hm, hs, ht, q⟩ := h
  refine ⟨_, PSs.nox (pss_cons (ps_set (i := 2) sc_D_kept.nd rfl (Or.inl rfl) (pe_meth (pv 0) g.cls g.D_value.m OK_D_value (hr.mono (by omega)) (b_D_value g.D_value) .nil pass0 (pa_cons (pe_ix (ix_tupK K rfl) (pv 1) pe_int (fun _ _ => rfl)) pa_nil))) (pss_cons (ps_if (pt_not (pt_val (pe_call OK_holds (hr.mono (by omega)) rfl g.holds.m g.holds.F.kp (b_holds g.holds) .nil pass0 (pa_cons (pe_ix (ix_tupK K rfl) (pv 1) pe_int (fun _ _ => rfl)) (pa_cons (pv 2) pa_nil))))) (pss_one (ps_expr (pe_meth0 (pv 0) g.cls g.D_refuse.m OK_D_refuse (hr.mono (by omega)) (b_D_refuse g.D_refuse) .nil pass0))) pss_nil) (pss_one (ps_ret (pv 2))))), ?_⟩
  have hd : p.depth + 1 < n + 1 := hd
  cases ok with
  | mk _ pre ps =>
  obtain ⟨k, hk⟩ := (show ∃ k, ∀ p' ∈ rowsM p, PreH 7 c p'.2 k from pre)
  have okp := ps p (List.mem_singleton.mpr rfl)
  obtain ⟨hm1, hm2⟩ := List.mem_filter.mp (show (r, d) ∈ (rowsM p).filter fun p => holdsM c p.2 from hm)
  refine Sq.raw (do_vals (by decide +kernel) (by decide +kernel) rfl da hrow ht (ED.ix (K := K) (i := 1) (ds := [tx "kept", p.d, c.d]) (ED.var rfl hg) (ED.int 1) rfl) trivial (by omega) okp hm1 hs fun v H1 k1 da1 rd => ?_)
  have hm2 : holdsM c d = true := hm2
  refine Sq.no (ET.imp (ET.not (ET.ofB (call_holds (n := 7) (c := c) (d := d) (k := k) (ED.ix (K := K) (ED.var rfl (k1.rp hg)) (ED.int 2) rfl) (ED.var rfl rd) (hk _ hm1)))) (by rw [hm2]; rfl)) k1.t fun H2 f2 => ?_
  exact ⟨_, rfl, q _ _ (k1.trans f2.kd) (da1.fut f2) (f2.rp rd)⟩
abbrev N_D_repeated : List Str := ["self", "generator", "many", "_"]
theorem sc_D_repeated : FnScope N_D_repeated ["self", "generator"] (defScope s_D_repeated) := ⟨rfl, rfl, rfl, by decide +kernel, rfl, by decide +kernel, by decide +kernel⟩
theorem ok_repeated (n : Nat) (OK_D_value : FnOk P w K mg base CX0 (2 * n + 27) g.D_value.a g.D_value.d ["self", "generator"] (spVal T g.C n fun _ => True)) : FnOk P w K mg base CX0 (2 * n + 28) g.D_repeated.a g.D_repeated.d ["self", "generator"] (spVal T g.C (n + 1) shR) := by
  have OK_D_refuse := ok_refuse (P := P) (w := w) g (k := 0)
  refine g.D_repeated.F.ok (k := 2 * n + 27) sc_D_repeated (fun vs H Q E h => by obtain ⟨s, gv, rv, z, row, u, r, suf, d, rfl, _⟩ := h; rfl) fun cdv A outer st H vs Q E hr h => ?_
  obtain ⟨s, gv, rv, z, row, u, r, suf, d, rfl, hg, ⟨lo, hi, p, rfl⟩, hd, ok, da, hrow, hm, hs, ht, q⟩ := h
  refine ⟨_, PSs.nox (pss_cons (ps_set (i := 2) sc_D_repeated.nd rfl (Or.inl rfl) (pe_meth (pv 0) g.cls g.D_value.m OK_D_value (hr.mono (by omega)) (b_D_value g.D_value) .nil pass0 (pa_cons (pe_ix (ix_tupK K rfl) (pv 1) pe_int (fun _ _ => rfl)) pa_nil))) (pss_cons (ps_if (pt_not (pt_chain op_le op_le pe_int (pv 2) (pe_ig rfl g.i_LONG))) (pss_one (ps_expr (pe_meth0 (pv 0) g.cls g.D_refuse.m OK_D_refuse (hr.mono (by omega)) (b_D_refuse g.D_refuse) .nil pass0))) pss_nil) (pss_one (ps_ret (pe_callTy (cr_tupleK K rfl) rfl g.n_tuple (by decide +kernel) (pa_cons (pe_lc (own := [("_", 3)]) rfl sc_D_repeated.nd (pi_range1 rfl g.n_range (pa_cons (pv 2) pa_nil)) (blkOk_by (own := [("_", 3)]) (N := N_D_repeated) (sc := defScope s_D_repeated) (by decide +kernel)) (fun _ _ _ _ _ => (pg_name (i := 3) sc_D_repeated.nd rfl (Or.inl rfl))) (fun _ _ _ _ _ => pts_nil) (fun _ _ _ _ _ => (pe_meth (pv 0) g.cls g.D_value.m OK_D_value (hr.mono (by omega)) (b_D_value g.D_value) .nil pass0 (pa_cons (pe_ix (ix_tupK K rfl) (pv 1) pe_int (fun _ _ => rfl)) pa_nil)))) pa_nil)))))), ?_⟩
  have hd : p.depth + 1 < n + 1 := hd
  cases ok with
  | mk _ pre ps =>
  have okl := ps (.leaf (.int lo hi)) List.mem_cons_self
  have okp := ps p (List.mem_cons_of_mem _ (List.mem_singleton.mpr rfl))
  obtain ⟨a, ha, hb⟩ := List.mem_flatMap.mp (show (r, d) ∈ repR (lfR (.int lo hi)) (rowsM p) from hm)
  obtain ⟨b, hb, e⟩ := List.mem_map.mp hb
  obtain ⟨i, hi', ea⟩ := List.mem_map.mp (show a ∈ (List.range (hi - lo + 1).toNat).map fun (k : Nat) => ([(k : Int)], NestedKey.num (lo + k)) from ha)
  have ea2 : a.2 = .num (lo + i) := by rw [← ea]
  by_cases hf : fit6 a.2 = true
  · rw [if_pos hf] at hb
    obtain ⟨b0, hb0, eb⟩ := List.mem_map.mp hb
    obtain ⟨ps1, hl1, hm1, rfl⟩ := mem_pow hb0
    have h3 : (decide ((0 : Int) ≤ lo + i) && decide (lo + i ≤ 6)) = true := by rw [ea2] at hf; exact hf
    have h3' := h3
    rw [Bool.and_eq_true, decide_eq_true_eq, decide_eq_true_eq] at h3
    have hn : (numD a.2).toNat = (lo + i).toNat := by rw [ea2]; rfl
    rw [hn] at hl1
    cases e
    cases eb
    have hs1 : row.drop u = a.1 ++ (ps1.flatMap (fun q => q.1) ++ suf) := by rw [hs, List.append_assoc]
    refine Sq.raw (do_vals (z := Gen.leaf (.int lo hi)) (by decide +kernel) (by decide +kernel) rfl da hrow ht (ED.ix (K := K) (i := 1) (ds := [tx "repeat", .tup [tx "int", .num lo, .num hi], p.d]) (ED.var rfl hg) (ED.int 1) rfl) trivial (by show 0 < n; omega) okl (r := a.1) (d := a.2) ha hs1 fun v H1 k1 da1 rd => ?_)
    rw [ea2] at rd
    have rd : v = .int (lo + i) := rd
    subst rd
    refine Sq.no (ET.imp (ET.not (.of (EB.between (i := 0) (j := lo + i) (k := 6) (ED.int 0) (ED.var rfl rfl) (ED.int 6)))) (by rw [h3']; rfl)) k1.t fun H2 f2 => ?_
    have k12 := k1.trans f2.kd
    have hs2 : row.drop (u + a.1.length) = ps1.flatMap (fun q => q.1) ++ suf := by rw [← List.drop_drop, hs1, List.drop_left]
    refine S.retT (lc_vals (zs := List.replicate (lo + i).toNat p) (ps := ps1) (n := n) (Y := fun _ _ => True) (all2_repz hl1 hm1) (da1.fut f2) (k12.rp hrow) f2.t (by rw [List.length_replicate]; omega) (fun z hz => by rw [List.eq_of_mem_replicate hz]; omega) (fun z hz => by rw [List.eq_of_mem_replicate hz]; exact okp) hs2 (fun R k => ⟨_, rfl, (lo + i : Int), rfl, by omega, by omega, k _ (by
      rw [List.length_replicate]
      exact walk_range.mono (fun _ _ => trivial) fun i H' x H'' hi f y => ⟨y.1, trivial⟩)⟩) (fun x => rfl) (fun x => rfl) (fun i x H' z _ k hz => by
      have : z = p := List.eq_of_mem_replicate (List.mem_of_getElem? hz)
      subst this
      exact ED.ix (K := K) (i := 2) (ds := [tx "repeat", .tup [tx "int", .num lo, .num hi], z.d]) (ED.var rfl ((k12.trans k).rp hg)) (ED.int 2) rfl) fun D xs H3 hD k3 hx ax da3 => ?_)
    refine ⟨D, xs, rfl, .inl ⟨SqL.of hx, fun t ht' => ?_⟩⟩
    have fn := (fr (⟨LamX.ExtN.refl _, k3.t⟩ : Fut T H3 H3)).new ht' (.tup xs)
    refine q _ _ ((k12.trans k3).trans fn.kd) ?_ (Rp.new ax ht')
    have := da3.fut fn
    rw [List.length_append, ← Nat.add_assoc]
    exact this
  · rw [if_neg hf] at hb
    cases hb
end
end CR

set_option Elab.async false
set_option linter.all false
set_option maxRecDepth 100000
set_option maxHeartbeats 4000000
namespace CR
open PySem PySem.Spec PyProof.Rows L2
section
variable {T : Tbl} {σ : L2.St} {H : Hp} {K : PySem.W.Frag} {C s : Addr} {rv : V} {u : Nat} {te : TE} {Q : VK}
theorem do_raw {i n : Nat} {m : Str} {sh : Gen → Prop} (m1 : ¬ m = "used") (m2 : ¬ m = "row") (hi : σ[i]? = some (some (.ref s))) (da : DA C H s rv u) (h : te σ H fun v H2 => spVal T C n sh [.ref s, v] H2 Q E0) : tMeth C m (spVal T C n sh) [] E0 (tVar i) (tCons te tNil) σ H Q := by
  obtain ⟨dx, h1⟩ := da
  exact ⟨_, hi, s, dx, _, rfl, h1, df_no _ _ m1 m2, h⟩
theorem S.retR {te : TE} {D : Ends} (h : te σ H D.rt) : tRet te D σ H := h
end
section
variable {P : Program} {w : World} {K : PySem.W.Frag} {mg : Str → Option Value} {base : Heap} {T : Tbl} (g : G K mg base T)
abbrev N_D_value : List Str := ["self", "generator", "name", "part"]
theorem sc_D_value : FnScope N_D_value ["self", "generator"] (defScope s_D_value) := ⟨rfl, rfl, rfl, by decide +kernel, rfl, by decide +kernel, by decide +kernel⟩
theorem ok_value_step (n : Nat) (OK_D_value : FnOk P w K mg base CX0 (2 * n + 27) g.D_value.a g.D_value.d ["self", "generator"] (spVal T g.C n fun _ => True)) : FnOk P w K mg base CX0 (2 * n + 29) g.D_value.a g.D_value.d ["self", "generator"] (spVal T g.C (n + 1) fun _ => True) := by
  have OK_D_choice := ok_choice (P := P) (w := w) g
  have OK_D_listed := ok_listed g n OK_D_value
  have OK_D_kept := ok_kept g n OK_D_value
  have OK_D_repeated := ok_repeated g n OK_D_value
  have OK_turn := ok_turn (P := P) (w := w) g
  refine g.D_value.F.ok (k := 2 * n + 28) sc_D_value (fun vs H Q E h => by obtain ⟨s, gv, rv, z, row, u, r, suf, d, rfl, _⟩ := h; rfl) fun cdv A outer st H vs Q E hr h => ?_
  obtain ⟨s, gv, rv, z, row, u, r, suf, d, rfl, hg, _, hd, ok, da, hrow, hm, hs, ht, q⟩ := h
  refine ⟨_, PSs.nox (pss_cons (ps_set (i := 2) sc_D_value.nd rfl (Or.inl rfl) (pe_ix (ix_tupK K rfl) (pv 1) pe_int (fun _ _ => rfl))) (pss_cons (ps_if (pt_cmpR op_eq (pv 2) pe_str (nomark _)) (pss_one (ps_ret (pe_op op_add (pe_ix (ix_tupK K rfl) (pv 1) pe_int (fun _ _ => rfl)) (pe_meth (pv 0) g.cls g.D_choice.m OK_D_choice (hr.mono (by omega)) (b_D_choice g.D_choice) .nil pass0 (pa_cons (pe_op op_sub (pe_ix (ix_tupK K rfl) (pv 1) pe_int (fun _ _ => rfl)) (pe_ix (ix_tupK K rfl) (pv 1) pe_int (fun _ _ => rfl))) pa_nil))))) pss_nil) (pss_cons (ps_if (pt_cmpR op_eq (pv 2) pe_str (nomark _)) (pss_one (ps_ret (pe_ix (ix_tupK K rfl) (pe_ix (ix_tupK K rfl) (pv 1) pe_int (fun _ _ => rfl)) (pe_meth (pv 0) g.cls g.D_choice.m OK_D_choice (hr.mono (by omega)) (b_D_choice g.D_choice) .nil pass0 (pa_cons (pe_op op_sub (pe_callB (cr_lenK K rfl) rfl g.n_len boot_len (pa_cons (pe_ix (ix_tupK K rfl) (pv 1) pe_int (fun _ _ => rfl)) pa_nil)) pe_int) pa_nil)) (fun _ _ => rfl)))) pss_nil) (pss_cons (ps_if (pt_cmpR op_eq (pv 2) pe_str (nomark _)) (pss_one (ps_ret (pe_callTy (cr_tupleK K rfl) rfl g.n_tuple (by decide +kernel) (pa_cons (pe_lc (own := [("part", 3)]) rfl sc_D_value.nd (pi_tupK K rfl (pe_ix (ix_tupK K rfl) (pv 1) pe_int (fun _ _ => rfl))) (blkOk_by (own := [("part", 3)]) (N := N_D_value) (sc := defScope s_D_value) (by decide +kernel)) (fun _ _ _ _ _ => (pg_name (i := 3) sc_D_value.nd rfl (Or.inl rfl))) (fun _ _ _ _ _ => pts_nil) (fun _ _ _ _ _ => (pe_meth (pv 0) g.cls g.D_value.m OK_D_value (hr.mono (by omega)) (b_D_value g.D_value) .nil pass0 (pa_cons (pv 3) pa_nil)))) pa_nil)))) pss_nil) (pss_cons (ps_if (pt_cmpR op_eq (pv 2) pe_str (nomark _)) (pss_one (ps_ret (pe_meth (pv 0) g.cls g.D_listed.m OK_D_listed (hr.mono (by omega)) (b_D_listed g.D_listed) .nil pass0 (pa_cons (pv 1) pa_nil)))) pss_nil) (pss_cons (ps_if (pt_cmpR op_eq (pv 2) pe_str (nomark _)) (pss_one (ps_ret (pe_meth (pv 0) g.cls g.D_value.m OK_D_value (hr.mono (by omega)) (b_D_value g.D_value) .nil pass0 (pa_cons (pe_ix (ix_tupK K rfl) (pe_ix (ix_tupK K rfl) (pv 1) pe_int (fun _ _ => rfl)) (pe_meth (pv 0) g.cls g.D_choice.m OK_D_choice (hr.mono (by omega)) (b_D_choice g.D_choice) .nil pass0 (pa_cons (pe_op op_sub (pe_callB (cr_lenK K rfl) rfl g.n_len boot_len (pa_cons (pe_ix (ix_tupK K rfl) (pv 1) pe_int (fun _ _ => rfl)) pa_nil)) pe_int) pa_nil)) (fun _ _ => rfl)) pa_nil)))) pss_nil) (pss_cons (ps_if (pt_cmpR op_eq (pv 2) pe_str (nomark _)) (pss_one (ps_ret (pe_meth (pv 0) g.cls g.D_kept.m OK_D_kept (hr.mono (by omega)) (b_D_kept g.D_kept) .nil pass0 (pa_cons (pv 1) pa_nil)))) pss_nil) (pss_cons (ps_if (pt_cmpR op_eq (pv 2) pe_str (nomark _)) (pss_one (ps_ret (pe_call OK_turn (hr.mono (by omega)) rfl g.turn.m g.turn.F.kp (b_turn g.turn) .nil pass0 (pa_cons (pe_ix (ix_tupK K rfl) (pv 1) pe_int (fun _ _ => rfl)) (pa_cons (pe_meth (pv 0) g.cls g.D_value.m OK_D_value (hr.mono (by omega)) (b_D_value g.D_value) .nil pass0 (pa_cons (pe_ix (ix_tupK K rfl) (pv 1) pe_int (fun _ _ => rfl)) pa_nil)) pa_nil))))) pss_nil) (pss_one (ps_ret (pe_meth (pv 0) g.cls g.D_repeated.m OK_D_repeated (hr.mono (by omega)) (b_D_repeated g.D_repeated) .nil pass0 (pa_cons (pv 1) pa_nil)))))))))))), ?_⟩
  cases z with
  | leaf l =>
    cases l with
    | int lo hi =>
      obtain ⟨i, hi', e⟩ := List.mem_map.mp (show (r, d) ∈ (List.range (hi - lo + 1).toNat).map fun (k : Nat) => ([(k : Int)], NestedKey.num (lo + k)) from hm)
      cases e
      have hi' := List.mem_range.mp hi'
      obtain ⟨c1, c2⟩ := drop_cons (t := suf) hs
      refine Sq.name rfl hg ?_
      refine Sq.nmY rfl (by decide +kernel) ?_
      refine S.retR ((ED.ix (K := K) (i := 1) (d := .num lo) (ds := [tx "int", .num lo, .num hi]) (ED.var rfl hg) (ED.int 1) rfl).at ht fun v H1 f1 r1 => ?_)
      refine do_choice rfl (da.fut f1) (f1.rp hrow) f1.t (ED.sub (i := hi) (j := lo) (ED.ix (K := K) (i := 2) (ds := [tx "int", .num lo, .num hi]) (ED.var rfl (f1.rp hg)) (ED.int 2) rfl) (ED.ix (K := K) (i := 1) (ds := [tx "int", .num lo, .num hi]) (ED.var rfl (f1.rp hg)) (ED.int 1) rfl)) c1 (by omega) (by omega) fun H2 k2 da2 => ?_
      exact ⟨lo, i, r1, rfl, q _ _ (f1.kd.trans k2) da2 rfl⟩
    | pick ws =>
      obtain ⟨i, hi', e⟩ := List.mem_map.mp (show (r, d) ∈ (List.range ws.length).map fun (k : Nat) => ([(k : Int)], NestedKey.text (ws.getD k (Str.ofString ""))) from hm)
      cases e
      have hi' := List.mem_range.mp hi'
      obtain ⟨c1, c2⟩ := drop_cons (t := suf) hs
      refine Sq.name rfl hg ?_
      iterate 1 refine Sq.nmN rfl (by decide +kernel) ?_
      refine Sq.nmY rfl (by decide +kernel) ?_
      refine S.retR ((ED.ix (K := K) (i := 1) (d := .tup (ws.map .text)) (ds := [tx "pick", .tup (ws.map .text)]) (ED.var rfl hg) (ED.int 1) rfl).at ht fun v H1 f1 r1 => ?_)
      refine do_choice (b := (ws.length : Int) - 1) rfl (da.fut f1) (f1.rp hrow) f1.t (ED.sub (j := 1) (ED.cast (ED.lenT (K := K) (ED.ix (K := K) (i := 1) (ds := [tx "pick", .tup (ws.map .text)]) (ED.var rfl (f1.rp hg)) (ED.int 1) rfl)) (by rw [List.length_map])) (ED.int 1)) c1 (by omega) (by omega) fun H2 k2 da2 => ?_
      obtain ⟨b, xs, rfl, h1, h2⟩ := k2.rp r1
      obtain ⟨x, hx, rx⟩ := h2.get (i := i) (d := .text (ws.getD i (Str.ofString ""))) (by rw [List.getElem?_map, List.getD_eq_getElem?_getD, List.getElem?_eq_getElem hi']; rfl)
      exact ⟨b, xs, (i : Int), x, rfl, rfl, SqT.of h1, atI_nat hx, q _ _ (f1.kd.trans k2) da2 rx⟩
  | tuple ls =>
    cases ok with
    | mk _ pre ps =>
    have hl : ls.length ≤ 1000 := pre
    obtain ⟨q0, hq0, e0⟩ := List.mem_map.mp (show (r, d) ∈ tupR (joinR (ls.map lfR)) from hm)
    obtain ⟨a0, ha0, ps1, hz, rfl⟩ := mem_join' (ls := ls) (A := [([], [])]) hq0
    rw [List.mem_singleton.mp ha0] at e0
    cases e0
    refine Sq.name rfl hg ?_
    iterate 2 refine Sq.nmN rfl (by decide +kernel) ?_
    refine Sq.nmY rfl (by decide +kernel) ?_
    obtain ⟨ga, gxs, rfl, gh1, x0, r0, rfl, _, x1, r1, rfl, hx1, _⟩ := id hg
    obtain ⟨pa, pxs, rfl, ph1, ph2⟩ := hx1
    refine S.retT (lc_vals (zs := ls.map .leaf) (ps := ps1) (n := n) (Y := fun i x => ∃ l, ls[i]? = some l ∧ Rp H l.d x) hz da hrow ht (by rw [List.length_map]; exact hl) (fun z hz => by
      obtain ⟨l, _, rfl⟩ := List.mem_map.mp hz
      show 0 < n
      have : 1 < n + 1 := hd
      omega) (fun z hz => ps z hz) hs (fun R k => ⟨_, rfl, ga, _, ((1 : Nat) : Int), .ref pa, rfl, rfl, SqT.of gh1, atI_nat rfl, pa, rfl, ⟨_, SqT.of ph1⟩, k _ (by
        have el : (ls.map Gen.leaf).length = pxs.length := by rw [List.length_map, ph2.length, List.length_map]
        rw [el]
        exact walk_tup.mono (fun H' kd => SqT.of (kd.tk _ _ ph1)) fun i H' x H'' hi f y => ⟨y.1, by
          obtain ⟨l, hl, rl⟩ := RpA.back ph2 y.2
          rw [List.getElem?_map] at hl
          cases q : ls[i]? with
          | none => rw [q] at hl; cases hl
          | some l' => rw [q] at hl; cases hl; exact ⟨l', rfl, rl⟩⟩)⟩) (fun x => rfl) (fun x => rfl) (fun i x H' z ⟨l, hl, rl⟩ k hz => by
        rw [List.getElem?_map, hl] at hz
        cases hz
        exact ED.var rfl (k.rp rl)) fun D xs H3 hD k3 hx ax da3 => ?_)
    refine ⟨D, xs, rfl, .inl ⟨SqL.of hx, fun t ht' => ?_⟩⟩
    have fn := (fr (⟨LamX.ExtN.refl _, k3.t⟩ : Fut T H3 H3)).new ht' (.tup xs)
    exact q _ _ (k3.trans fn.kd) (da3.fut fn) (Rp.new ax ht')
  | list p l m =>
    refine Sq.name rfl hg ?_
    iterate 3 refine Sq.nmN rfl (by decide +kernel) ?_
    refine Sq.nmY rfl (by decide +kernel) ?_
    exact S.retR (do_vals (sh := shL) (n := n + 1) (by decide +kernel) (by decide +kernel) rfl da hrow ht (ED.var rfl hg) ⟨p, l, m, rfl⟩ hd ok hm hs q)
  | one p =>
    cases ok with
    | mk _ pre ps =>
    have hd : p.depth + 1 < n + 1 := hd
    obtain ⟨b, hb, e⟩ := List.mem_map.mp (show (r, d) ∈ preR 0 (rowsM p) from hm)
    cases e
    obtain ⟨c1, c2⟩ := drop_cons (t := b.1 ++ suf) hs
    refine Sq.name rfl hg ?_
    iterate 4 refine Sq.nmN rfl (by decide +kernel) ?_
    refine Sq.nmY rfl (by decide +kernel) ?_
    refine S.retR (do_raw (by decide +kernel) (by decide +kernel) rfl da ?_)
    refine (ED.ix (K := K) (i := 1) (d := .tup [p.d]) (ds := [tx "one", .tup [p.d]]) (ED.var rfl hg) (ED.int 1) rfl).at ht fun v H1 f1 r1 => ?_
    refine do_choice (b := 0) rfl (da.fut f1) (f1.rp hrow) f1.t (ED.sub (i := 1) (j := 1) (ED.lenT (K := K) (ED.ix (K := K) (i := 1) (ds := [tx "one", .tup [p.d]]) (ED.var rfl (f1.rp hg)) (ED.int 1) rfl)) (ED.int 1)) c1 (by decide) (by decide) fun H2 k2 da2 => ?_
    obtain ⟨ga, xs, rfl, h1, h2⟩ := k2.rp r1
    obtain ⟨x, hx, rx⟩ := h2.get (i := 0) (d := p.d) rfl
    refine ⟨ga, xs, ((0 : Nat) : Int), x, rfl, rfl, SqT.of h1, atI_nat hx, s, x, rv, p, row, u + 1, b.1, suf, b.2, rfl, rx, trivial, by omega, ps p (List.mem_singleton.mpr rfl), da2, (f1.kd.trans k2).rp hrow, hb, c2, k2.t, fun v3 H3 k3 da3 rd => q _ _ ((f1.kd.trans k2).trans k3) ?_ rd⟩
    have e : u + ((0 : Int) :: b.1).length = u + 1 + b.1.length := by rw [List.length_cons]; omega
    show DA g.C H3 s rv (u + ((0 : Int) :: b.1).length)
    rw [e]
    exact da3
  | two p p2 =>
    cases ok with
    | mk _ pre ps =>
    have hd : max p.depth p2.depth + 1 < n + 1 := hd
    refine Sq.name rfl hg ?_
    iterate 4 refine Sq.nmN rfl (by decide +kernel) ?_
    refine Sq.nmY rfl (by decide +kernel) ?_
    rcases List.mem_append.mp (show (r, d) ∈ preR 0 (rowsM p) ++ preR 1 (rowsM p2) from hm) with hm | hm
    · obtain ⟨b, hb, e⟩ := List.mem_map.mp hm
      cases e
      obtain ⟨c1, c2⟩ := drop_cons (t := b.1 ++ suf) hs
      refine S.retR (do_raw (by decide +kernel) (by decide +kernel) rfl da ?_)
      refine (ED.ix (K := K) (i := 1) (d := .tup [p.d, p2.d]) (ds := [tx "one", .tup [p.d, p2.d]]) (ED.var rfl hg) (ED.int 1) rfl).at ht fun v H1 f1 r1 => ?_
      refine do_choice (b := 1) rfl (da.fut f1) (f1.rp hrow) f1.t (ED.sub (i := 2) (j := 1) (ED.lenT (K := K) (ED.ix (K := K) (i := 1) (ds := [tx "one", .tup [p.d, p2.d]]) (ED.var rfl (f1.rp hg)) (ED.int 1) rfl)) (ED.int 1)) c1 (by decide) (by decide) fun H2 k2 da2 => ?_
      obtain ⟨ga, xs, rfl, h1, h2⟩ := k2.rp r1
      obtain ⟨x, hx, rx⟩ := h2.get (i := 0) (d := p.d) rfl
      refine ⟨ga, xs, ((0 : Nat) : Int), x, rfl, rfl, SqT.of h1, atI_nat hx, s, x, rv, p, row, u + 1, b.1, suf, b.2, rfl, rx, trivial, by omega, ps p List.mem_cons_self, da2, (f1.kd.trans k2).rp hrow, hb, c2, k2.t, fun v3 H3 k3 da3 rd => q _ _ ((f1.kd.trans k2).trans k3) ?_ rd⟩
      have e : u + ((0 : Int) :: b.1).length = u + 1 + b.1.length := by rw [List.length_cons]; omega
      show DA g.C H3 s rv (u + ((0 : Int) :: b.1).length)
      rw [e]
      exact da3
    · obtain ⟨b, hb, e⟩ := List.mem_map.mp hm
      cases e
      obtain ⟨c1, c2⟩ := drop_cons (t := b.1 ++ suf) hs
      refine S.retR (do_raw (by decide +kernel) (by decide +kernel) rfl da ?_)
      refine (ED.ix (K := K) (i := 1) (d := .tup [p.d, p2.d]) (ds := [tx "one", .tup [p.d, p2.d]]) (ED.var rfl hg) (ED.int 1) rfl).at ht fun v H1 f1 r1 => ?_
      refine do_choice (b := 1) rfl (da.fut f1) (f1.rp hrow) f1.t (ED.sub (i := 2) (j := 1) (ED.lenT (K := K) (ED.ix (K := K) (i := 1) (ds := [tx "one", .tup [p.d, p2.d]]) (ED.var rfl (f1.rp hg)) (ED.int 1) rfl)) (ED.int 1)) c1 (by decide) (by decide) fun H2 k2 da2 => ?_
      obtain ⟨ga, xs, rfl, h1, h2⟩ := k2.rp r1
      obtain ⟨x, hx, rx⟩ := h2.get (i := 1) (d := p2.d) rfl
      refine ⟨ga, xs, ((1 : Nat) : Int), x, rfl, rfl, SqT.of h1, atI_nat hx, s, x, rv, p2, row, u + 1, b.1, suf, b.2, rfl, rx, trivial, by omega, ps p2 (List.mem_cons_of_mem _ (List.mem_singleton.mpr rfl)), da2, (f1.kd.trans k2).rp hrow, hb, c2, k2.t, fun v3 H3 k3 da3 rd => q _ _ ((f1.kd.trans k2).trans k3) ?_ rd⟩
      have e : u + ((1 : Int) :: b.1).length = u + 1 + b.1.length := by rw [List.length_cons]; omega
      show DA g.C H3 s rv (u + ((1 : Int) :: b.1).length)
      rw [e]
      exact da3
  | kept p c =>
    refine Sq.name rfl hg ?_
    iterate 5 refine Sq.nmN rfl (by decide +kernel) ?_
    refine Sq.nmY rfl (by decide +kernel) ?_
    exact S.retR (do_vals (sh := shK) (n := n + 1) (by decide +kernel) (by decide +kernel) rfl da hrow ht (ED.var rfl hg) ⟨p, c, rfl⟩ hd ok hm hs q)
  | turned p m =>
    cases ok with
    | mk _ pre ps =>
    obtain ⟨k, k', hk⟩ := (show ∃ k k', ∀ p' ∈ rowsM p, PreM m p'.2 k k' from pre)
    have hd : p.depth + 1 < n + 1 := hd
    obtain ⟨b, hb, e⟩ := List.mem_map.mp (show (r, d) ∈ (rowsM p).map fun p => (p.1, turnM m p.2) from hm)
    cases e
    refine Sq.name rfl hg ?_
    iterate 6 refine Sq.nmN rfl (by decide +kernel) ?_
    refine Sq.nmY rfl (by decide +kernel) ?_
    refine S.retR ((ED.ix (K := K) (i := 2) (d := m.d) (ds := [tx "turned", p.d, m.d]) (ED.var rfl hg) (ED.int 2) rfl).at ht fun v H1 f1 r1 => ?_)
    refine do_vals (by decide +kernel) (by decide +kernel) rfl (da.fut f1) (f1.rp hrow) f1.t (ED.ix (K := K) (i := 1) (ds := [tx "turned", p.d, m.d]) (ED.var rfl (f1.rp hg)) (ED.int 1) rfl) trivial (by omega) (ps p (List.mem_singleton.mpr rfl)) (r := b.1) (d := b.2) hb hs fun v2 H2 k2 da2 rd => ?_
    exact ⟨(m, b.2, k, k'), ⟨v, v2, rfl, k2.rp r1, rd, hk b hb⟩, k2.t, fun v3 H3 f3 r3 => q _ _ ((f1.kd.trans k2).trans f3.kd) (da2.fut f3) r3⟩
  | rep lo hi p =>
    refine Sq.name rfl hg ?_
    iterate 7 refine Sq.nmN rfl (by decide +kernel) ?_
    exact S.retR (do_vals (sh := shR) (n := n + 1) (by decide +kernel) (by decide +kernel) rfl da hrow ht (ED.var rfl hg) ⟨lo, hi, p, rfl⟩ hd ok hm hs q)
theorem ok_value : ∀ n, FnOk P w K mg base CX0 (2 * n + 27) g.D_value.a g.D_value.d ["self", "generator"] (spVal T g.C n fun _ => True)
  | 0 => ⟨fun vs H Q E ⟨s, gv, rv, z, row, u, r, suf, d, e, _⟩ => by rw [e]; rfl, fun A outer s H args us vs Q E _ _ _ _ ⟨_, _, _, _, _, _, _, _, _, _, _, _, h, _⟩ => absurd h (Nat.not_lt_zero _)⟩
  | n + 1 => ok_value_step g n (ok_value n)
theorem Fut.ofKD {H H1 H2 : Hp} {s : Addr} (f : Fut T H H1) (k : KD T s H1 H2) (hs : H s = none) : Fut T H H2 := ⟨fun b o e n => k.e b o (fun z => by rw [z, hs] at e; cases e) (f.e b o e n) n, k.t⟩
def preDr : Gen × Row × Dt → Hp → List V → Prop := fun z H vs => ∃ a b, vs = [a, b] ∧ Rp H z.1.d a ∧ Rp H (rowD z.2.1) b ∧ z.1.depth < 12 ∧ DOk z.1 ∧ (z.2.1, z.2.2) ∈ rowsM z.1
abbrev N_draw : List Str := ["generator", "row", "some", "found"]
theorem sc_draw : FnScope N_draw ["generator", "row"] (defScope s_draw) := ⟨rfl, rfl, rfl, by decide +kernel, rfl, by decide +kernel, by decide +kernel⟩
theorem ok_draw : FnOk P w K mg base CX0 53 g.draw.a g.draw.d ["generator", "row"] (Pm T preDr fun z H v => Rp H (.tup [tx "value", z.2.2, .num z.2.1.length]) v) := by
  have OK_init := ok_init (P := P) (w := w) g
  have OK_D_value := ok_value (P := P) (w := w) g 12
  refine pm_ok g.draw.F sc_draw (fun z H vs h => by obtain ⟨a, b, rfl, _⟩ := h; rfl) fun cdv A outer st H vs Q E z hr h ht hq => ?_
  obtain ⟨z, row, d⟩ := z
  obtain ⟨a, b, rfl, ha, hb, hd, ok, hm⟩ := h
  have ha : Rp H z.d a := ha
  have hb : Rp H (rowD row) b := hb
  refine ⟨_, (pss_cons (ps_set (i := 2) sc_draw.nd rfl (Or.inl rfl) (pe_make g.mkI OK_init (hr.mono (by omega)) rfl g.mC (b_init g) .nil pass0 (pa_cons (pv 1) pa_nil))) (pss_cons (ps_try_thru0 (pss_one (ps_set (i := 3) sc_draw.nd rfl (Or.inl rfl) (pe_meth (pv 2) g.cls g.D_value.m OK_D_value (hr.mono (by omega)) (b_D_value g.D_value) .nil pass0 (pa_cons (pv 0) pa_nil))))) (pss_one (ps_ret (pe_tup (pa_cons pe_str (pa_cons (pv 3) (pa_cons (pe_fld (pv 2) rfl) pa_nil)))))))), ?_⟩
  refine Sq.raw ⟨_, rfl, fun x dx hx hdx nx => ?_⟩
  have f1 : Fut T H (upd H dx (.own x)) := Fut.newR ht hdx _
  have hx1 : upd H dx (.own x) x = none := by rw [upd_ne nx.symm]; exact hx
  have f2 := f1.new hx1 (.ins g.C dx [])
  refine ⟨x, dx, b, rfl, upd_same, f2.t, fun H1 k1 da1 => ⟨rfl, ?_⟩⟩
  have f3 := f2.ofKD k1 hx
  refine Sq.raw (do_vals (r := row) (d := d) (suf := []) (by decide +kernel) (by decide +kernel) rfl da1 (f3.rp hb) f3.t (ED.var rfl (f3.rp ha)) trivial hd ok hm (by rw [List.append_nil]; rfl) fun v H4 k4 da4 rd => ?_)
  have f4 := f3.ofKD k4 hx
  rw [Nat.zero_add] at da4
  exact S.ret (ED.tup (ds := [tx "value", d, .num row.length]) (EDs.cons (ED.str _) (EDs.cons (ED.var rfl rd) (EDs.cons (EV.used g.cls g.nused rfl da4) EDs.nil))) ln3) f4.t fun v' H5 f5 r => hq _ _ (f4.trans f5) r
theorem call_draw {σ : L2.St} {H : Hp} {ta tb : TE} {E : XK} {z : Gen} {row : Row} {d : Dt} (ha : ED T ta σ H z.d) (hb : ED T tb σ H (rowD row)) (hd : z.depth < 12) (ok : DOk z) (hm : (row, d) ∈ rowsM z) : ED T (tCall (Pm T preDr fun z H v => Rp H (.tup [tx "value", z.2.2, .num z.2.1.length]) v) [] E (tCons ta (tCons tb tNil))) σ H (.tup [tx "value", d, .num row.length]) :=
  EV.fn (z := (z, row, d)) (EA.imp (EA.data2 ha hb) fun H' vs f r => by
    obtain ⟨u, v, rfl, r1, r2⟩ := r
    exact ⟨u, v, rfl, r1, r2, hd, ok, hm⟩)
abbrev N_is_exact : List Str := ["generator", "row", "found"]
theorem sc_is_exact : FnScope N_is_exact ["generator", "row"] (defScope s_is_exact) := ⟨rfl, rfl, rfl, by decide +kernel, rfl, by decide +kernel, by decide +kernel⟩
theorem ok_is_exact : FnOk P w K mg base CX0 54 g.is_exact.a g.is_exact.d ["generator", "row"] (Pm T preDr fun z H v => v = .bl true) := by
  have OK_draw := ok_draw (P := P) (w := w) g
  refine pm_ok g.is_exact.F sc_is_exact (fun z H vs h => by obtain ⟨a, b, rfl, _⟩ := h; rfl) fun cdv A outer st H vs Q E z hr h ht hq => ?_
  obtain ⟨z, row, d⟩ := z
  obtain ⟨a, b, rfl, ha, hb, hd, ok, hm⟩ := h
  have ha : Rp H z.d a := ha
  have hb : Rp H (rowD row) b := hb
  refine ⟨_, (pss_cons (ps_set (i := 2) sc_is_exact.nd rfl (Or.inl rfl) (pe_call OK_draw (hr.mono (by omega)) rfl g.draw.m g.draw.F.kp (b_draw g.draw) .nil pass0 (pa_cons (pv 0) (pa_cons (pv 1) pa_nil)))) (pss_one (ps_ret (pe_and (pe_cmpR op_eq (pe_ix (ix_tupK K rfl) (pv 2) pe_int (fun _ _ => rfl)) pe_str (nomark _)) (pe_one (pe_cmpR op_eq (pe_ix (ix_tupK K rfl) (pv 2) pe_int (fun _ _ => rfl)) (pe_callB (cr_lenK K rfl) rfl g.n_len boot_len (pa_cons (pv 1) pa_nil)) (nomark _))))))), ?_⟩
  refine Sq.set (call_draw (ED.var rfl ha) (ED.var rfl hb) hd ok hm) ht fun v1 H1 f1 r1 => ?_
  exact S.ret (EB.imp (EB.and (EB.eqS (x := "value") (y := "value") (ED.ix (K := K) (i := 0) (ds := [tx "value", d, .num row.length]) (ED.var rfl r1) (ED.int 0) rfl) (ED.str _)) fun _ => EB.eqI (x := row.length) (y := row.length) (ED.ix (K := K) (i := 2) (ds := [tx "value", d, .num row.length]) (ED.var rfl r1) (ED.int 2) rfl) (ED.lenRow (ED.var rfl (f1.rp hb)))) (by rw [decide_eq_true rfl, decide_eq_true rfl]; rfl)) f1.t fun v' H2 f2 r => hq _ _ (f1.trans f2) r
abbrev N_value_of : List Str := ["generator", "row"]
theorem sc_value_of : FnScope N_value_of ["generator", "row"] (defScope s_value_of) := ⟨rfl, rfl, rfl, by decide +kernel, rfl, by decide +kernel, by decide +kernel⟩
theorem ok_value_of : FnOk P w K mg base CX0 54 g.value_of.a g.value_of.d ["generator", "row"] (Pm T preDr fun z H v => Rp H z.2.2 v) := by
  have OK_draw := ok_draw (P := P) (w := w) g
  refine pm_ok g.value_of.F sc_value_of (fun z H vs h => by obtain ⟨a, b, rfl, _⟩ := h; rfl) fun cdv A outer st H vs Q E z hr h ht hq => ?_
  obtain ⟨z, row, d⟩ := z
  obtain ⟨a, b, rfl, ha, hb, hd, ok, hm⟩ := h
  have ha : Rp H z.d a := ha
  have hb : Rp H (rowD row) b := hb
  refine ⟨_, (pss_one (ps_ret (pe_ix (ix_tupK K rfl) (pe_call OK_draw (hr.mono (by omega)) rfl g.draw.m g.draw.F.kp (b_draw g.draw) .nil pass0 (pa_cons (pv 0) (pa_cons (pv 1) pa_nil))) pe_int (fun _ _ => rfl)))), ?_⟩
  exact S.ret (ED.ix (K := K) (i := 1) (call_draw (ED.var rfl ha) (ED.var rfl hb) hd ok hm) (ED.int 1) rfl) ht fun v' H2 f2 r => hq _ _ f2 r
abbrev N_is_less : List Str := ["row", "other"]
theorem sc_is_less : FnScope N_is_less ["row", "other"] (defScope s_is_less) := ⟨rfl, rfl, rfl, by decide +kernel, rfl, by decide +kernel, by decide +kernel⟩
theorem ok_is_less : FnOk P w K mg base CX0 1 g.is_less.a g.is_less.d ["row", "other"] (Pm T (fun (z : Row × Row) H vs => ∃ a b, vs = [a, b] ∧ Rp H (rowD z.1) a ∧ Rp H (rowD z.2) b) fun z H v => v = .bl (rlt z.1 z.2)) := by
  refine pm_ok g.is_less.F sc_is_less (fun z H vs h => by obtain ⟨a, b, rfl, _⟩ := h; rfl) fun cdv A outer st H vs Q E z hr h ht hq => ?_
  obtain ⟨r1, r2⟩ := z
  obtain ⟨a, b, rfl, ha, hb⟩ := h
  have ha : Rp H (rowD r1) a := ha
  have hb : Rp H (rowD r2) b := hb
  refine ⟨_, (pss_one (ps_ret (pe_cmpR (op_ltK (hu64 hr)) (pe_tup (pa_cons (pe_callB (cr_lenK K rfl) rfl g.n_len boot_len (pa_cons (pv 0) pa_nil)) (pa_cons (pv 0) pa_nil))) (pe_tup (pa_cons (pe_callB (cr_lenK K rfl) rfl g.n_len boot_len (pa_cons (pv 1) pa_nil)) (pa_cons (pv 1) pa_nil))) (nomark _)))), ?_⟩
  exact S.ret (R := fun _ v => v = .bl (rlt r1 r2)) (EV.op (d := .tup [.num r1.length, rowD r1]) (e := .tup [.num r2.length, rowD r2]) (ED.keyRow (ED.lenRow (ED.var rfl ha)) (ED.var rfl ha)) (ED.keyRow (ED.lenRow (ED.var rfl hb)) (ED.var rfl hb)) fun H1 x y Q f rx ry q => ⟨r1, r2, key_of rx, key_of ry, q _ H1 (fr f) rfl⟩) ht fun v' H2 f2 r => hq _ _ f2 r
end
end CR

set_option Elab.async false
set_option linter.all false
set_option maxRecDepth 100000
set_option maxHeartbeats 4000000
namespace CR
open PySem PySem.Spec PyProof.Rows L2
section
variable {T : Tbl} {σ : L2.St} {H : Hp} {K : PySem.W.Frag} {ta tb te : TE}
theorem EV.intAny {R : Int → Prop} (h : EV T te σ H (fun _ v => ∃ i, v = .int i ∧ R i)) : EV T te σ H (fun _ v => ∃ i, v = .int i) := h.imp fun _ _ _ ⟨i, e, _⟩ => ⟨i, e⟩
/-- a list of whole numbers, some -/
def LIx (n : Nat) (H : Hp) (v : V) : Prop := ∃ ns : List Int, ns.length = n ∧ LI ns H v
theorem set_self {σ : L2.St} {i : Nat} {a : Option V} (h : σ[i]? = some a) : σ.set i a = σ := by
  obtain ⟨hi, e⟩ := List.getElem?_eq_some_iff.mp h
  rw [← e]
  exact List.set_getElem_self hi
/-- if x < 0: x = -x -/
theorem Sq.abs {j : Nat} {i : Int} {u : TS} {D : Ends} (h : σ[j]? = some (some (.int i))) (ht : LamX.Tabs T H) (k : ∀ (i' : Int) H', Fut T H H' → u D (σ.set j (some (.int i'))) H') : tSeq (tIfS (tTest (tOp (L2.rI0 fun i j => .bl (decide (i < j))) (tVar j) (tC (.int 0)))) (tAsg (tUn (rU fun i => .int (-i)) (tVar j)) (gName j)) tNext) u D σ H :=
  Sq.if (.of (EB.lt (i := i) (j := 0) (ED.var h rfl) (ED.int 0))) ht (fun _ H1 f1 => ⟨_, h, i, rfl, k (-i) H1 f1⟩) fun _ H1 f1 => by
    have := k i H1 f1
    rw [set_self h] at this
    exact this
def LQ (p : Addr) (n : Nat) (H : Hp) : Prop := ∃ ms : List Int, H p = some (.lst (ms.map V.int)) ∧ ms.length = n
theorem LQ.snoc {p : Addr} {n : Nat} {H : Hp} {xs : List V} (h : LQ p n H) (hx : H p = some (.lst xs)) {i : Int} {v : V} (e : v = .int i) : LQ p (n + 1) (upd H p (.lst (xs ++ [v]))) := by
  obtain ⟨ms, h1, h2⟩ := h
  rw [hx] at h1
  cases h1
  exact ⟨ms ++ [i], by rw [upd_same, e, List.map_append]; rfl, by rw [List.length_append, h2]; rfl⟩
theorem LQ.lix {p : Addr} {n : Nat} {H : Hp} (h : LQ p n H) : LIx n H (.ref p) := by
  obtain ⟨ms, h1, h2⟩ := h
  refine ⟨ms, h2, p, _, rfl, h1, ?_⟩
  clear h1 h2
  induction ms with
  | nil => exact .nil
  | cons m ms ih => exact .cons rfl ih
end
section
variable {P : Program} {w : World} {K : PySem.W.Frag} {mg : Str → Option Value} {base : Heap} {T : Tbl} (g : G K mg base T)
abbrev N_law_cell : List Str := ["_law_script", "_law_k"]
theorem sc_law_cell : FnScope N_law_cell ["_law_script", "_law_k"] (defScope s_law_cell) := ⟨rfl, rfl, rfl, by decide +kernel, rfl, by decide +kernel, by decide +kernel⟩
theorem ok_law_cell : FnOk P w K mg base CX0 1 g.law_cell.a g.law_cell.d ["_law_script", "_law_k"] (Pm T (fun (z : List Int × Nat) H vs => ∃ a, vs = [.ref a, .int z.2] ∧ SqL K H a (z.1.map V.int)) fun z H v => ∃ i, v = .int i) := by
  refine pm_ok g.law_cell.F sc_law_cell (fun z H vs h => by obtain ⟨a, rfl, _⟩ := h; rfl) fun cdv A outer st H vs Q E z hr h ht hq => ?_
  obtain ⟨ns, k⟩ := z
  obtain ⟨a, rfl, hS⟩ := h
  have hS : SqL K H a (ns.map V.int) := hS
  refine ⟨_, (pss_cons (ps_if (pt_cmpR op_lt (pv 1) (pe_callB (cr_lenK K rfl) rfl g.n_len boot_len (pa_cons (pv 0) pa_nil)) (nomark _)) (pss_one (ps_ret (pe_ix (ix_listK K rfl) (pv 0) (pv 1) (fun _ _ => rfl)))) pss_nil) (pss_one (ps_ret pe_int))), ?_⟩
  refine ⟨_, rfl, _, rfl, a, _, rfl, .inl hS, _, _, rfl, rfl, _, rfl, ?_⟩
  by_cases h : (k : Int) < ((ns.map V.int).length : Nat)
  · refine iteY (decide_eq_true h) ?_
    have hk : k < ns.length := by rw [List.length_map] at h; omega
    exact ⟨_, rfl, _, rfl, a, _, (k : Int), .int ns[k], rfl, rfl, hS, atI_nat (by rw [List.getElem?_map, List.getElem?_eq_getElem hk]; rfl), hq _ _ (Fut.refl ht) ⟨_, rfl⟩⟩
  · exact iteN (decide_eq_false h) (hq _ _ (Fut.refl ht) ⟨_, rfl⟩)
abbrev N_law_draw : List Str := ["_law_script", "_law_k", "_law_sizes", "_law_cell_here", "_law_drawn", "_law_size", "_law_stirred", "_law_j"]
theorem sc_law_draw : FnScope N_law_draw ["_law_script", "_law_k", "_law_sizes"] (defScope s_law_draw) := ⟨rfl, rfl, rfl, by decide +kernel, rfl, by decide +kernel, by decide +kernel⟩
theorem ok_law_draw : FnOk P w K mg base CX0 2 g.law_draw.a g.law_draw.d ["_law_script", "_law_k", "_law_sizes"] (PmL T (fun (z : List Int × Nat × List Int) H vs => ∃ a v, vs = [.ref a, .int z.2.1, v] ∧ SqL K H a (z.1.map V.int) ∧ LI z.2.2 H v ∧ z.2.2.length ≤ 1000 ∧ ∀ s ∈ z.2.2, 0 < s ∧ s < 1000) fun z H v => LIx z.2.2.length H v) := by
  have OK_law_cell := ok_law_cell (P := P) (w := w) g
  refine pm_okL g.law_draw.F sc_law_draw (fun z H vs h => by obtain ⟨a, v, rfl, _⟩ := h; rfl) fun cdv A outer st H vs Q E z hr h ht hq => ?_
  obtain ⟨ns, k, ss⟩ := z
  obtain ⟨a, sv, rfl, hS, hss, hl, hp⟩ := h
  have hS : SqL K H a (ns.map V.int) := hS
  have hss : LI ss H sv := hss
  have hl : ss.length ≤ 1000 := hl
  have hsz : ∀ s ∈ ss, 0 < s ∧ s < 1000 := hp
  refine ⟨_, (pss_cons (ps_set (i := 3) sc_law_draw.nd rfl (Or.inl rfl) (pe_call OK_law_cell (hr.mono (by omega)) rfl g.law_cell.m g.law_cell.F.kp (b_law_cell g.law_cell) .nil pass0 (pa_cons (pv 0) (pa_cons (pv 1) pa_nil)))) (pss_cons (ps_if (pt_cmpR op_lt (pv 3) pe_int (nomark _)) (pss_one (ps_set (i := 3) sc_law_draw.nd rfl (Or.inl rfl) (pe_un un_neg (pv 3)))) pss_nil) (pss_cons (ps_set (i := 4) sc_law_draw.nd rfl (Or.inl rfl) (pe_lst pa_nil)) (pss_cons (ps_if (pt_cmpR op_ge (pv 3) (pe_op op_pow pe_int pe_int) (nomark _)) (pss_cons (ps_set (i := 3) sc_law_draw.nd rfl (Or.inl rfl) (pe_op op_sub (pv 3) (pe_op op_pow pe_int pe_int))) (pss_cons (ps_for PassesOwn.never rfl (pi_listK K rfl (pv 2)) (pg_name (i := 5) sc_law_draw.nd rfl (Or.inl rfl)) (pss_cons (ps_expr (pe_bm PySem.F.plainAttrs_list PySem.F.slot_list_append PySem.F.type_list_append mt_append (pv 4) (pa_cons (pe_op op_mod (pv 3) (pv 5)) pa_nil))) (pss_one (ps_set (i := 3) sc_law_draw.nd rfl (Or.inl rfl) (pe_op op_fdiv (pv 3) (pv 5)))))) (pss_one (ps_ret (pv 4))))) pss_nil) (pss_cons (ps_set (i := 6) sc_law_draw.nd rfl (Or.inl rfl) (pe_op op_mod (pe_op op_add (pe_op op_add (pv 3) pe_int) (pe_op op_mul pe_int (pv 1))) pe_int)) (pss_cons (ps_for PassesOwn.never rfl (pi_range1 rfl g.n_range (pa_cons (pe_callB (cr_lenK K rfl) rfl g.n_len boot_len (pa_cons (pv 2) pa_nil)) pa_nil)) (pg_name (i := 7) sc_law_draw.nd rfl (Or.inl rfl)) (pss_cons (ps_set (i := 6) sc_law_draw.nd rfl (Or.inl rfl) (pe_op op_mod (pe_op op_add (pe_op op_add (pe_op op_mul (pv 6) pe_int) pe_int) (pv 7)) pe_int)) (pss_cons (ps_set (i := 6) sc_law_draw.nd rfl (Or.inl rfl) (pe_op op_mod (pe_op op_add (pe_op op_mul (pv 6) pe_int) pe_int) pe_int)) (pss_one (ps_expr (pe_bm PySem.F.plainAttrs_list PySem.F.slot_list_append PySem.F.type_list_append mt_append (pv 4) (pa_cons (pe_op op_mod (pe_op op_fdiv (pv 6) pe_int) (pe_ix (ix_listK K rfl) (pv 2) (pv 7) (fun _ _ => rfl))) pa_nil))))))) (pss_one (ps_ret (pv 4))))))))), ?_⟩
  refine Sq.set (EV.fn (z := (ns, k)) (EA.imp (EA.two (EV.var (R := fun H v => v = .ref a ∧ SqL K H a (ns.map V.int)) rfl fun H' f => ⟨rfl, f.sqL hS⟩) (fun _ _ _ f h => ⟨h.1, f.sqL h.2⟩) (ED.var (d := .num k) rfl rfl)) fun H' vs f r => ?_)) ht fun cv H1 f1 hc => ?_
  · obtain ⟨u, v, rfl, ⟨rfl, r1⟩, r2⟩ := r
    exact ⟨a, by rw [show v = _ from r2], r1⟩
  obtain ⟨c0, rfl⟩ := hc
  refine Sq.abs rfl f1.t fun c H2 f2 => ?_
  have f02 := f1.trans f2
  refine Sq.newl fun p hp => ?_
  have f3 := Fut.newR f02.t hp (.lst [])
  have lq0 : LQ p 0 (upd H2 p (.lst [])) := ⟨[], upd_same, rfl⟩
  have hss2 : LI ss H2 sv := hss.fut stab_int f02
  have pw : ∀ {σ : L2.St} {H' : Hp}, ED T (tOp (L2.rI CPow fun i j => .int (i ^ j.toNat)) (tC (.int 10)) (tC (.int 18))) σ H' (.num (10 ^ 18)) := fun {σ H'} => ED.rI (i := 10) (j := 18) (ED.int 10) (ED.int 18) ⟨by decide, by decide, by decide⟩ fun _ => rfl
  refine Sq.if (.of (EB.ge (i := c) (j := 10 ^ 18) (ED.var rfl rfl) pw)) f3.t (fun _ H3 f4 => ?_) fun _ H3 f4 => ?_
  · have f24 := f3.trans f4
    refine Sq.set (ED.sub (i := c) (j := 10 ^ 18) (ED.var rfl rfl) pw) f4.t fun v5 H5 f5 r5 => ?_
    cases r5
    have f25 := f24.trans f5
    refine Sq.for (B := H2) (IV.list rfl hss2 f25) (fun i σ H' => Fut T H2 H' ∧ LQ p i H' ∧ ∃ c x, σ = [some (.ref a), some (.int k), some sv, some (.int c), some (.ref p), x, none, none]) ⟨f25, ⟨[], f5.lst (f4.lst upd_same), rfl⟩, _, none, rfl⟩ (fun i σ H' h => h.1) (fun i x σ H6 hi h y => ?_) fun σ H6 h => ?_
    · obtain ⟨f6, lq, c, x', rfl⟩ := h
      obtain ⟨s, es, rfl⟩ := y
      obtain ⟨s0, s1⟩ := hsz s (List.mem_of_getElem? es)
      obtain ⟨ms, hx, hm⟩ := id lq
      refine S.seq (S.app (R := fun _ v => v = .int (c % s)) rfl hx (by rw [List.length_map, hm]; exact line6' (by omega)) (ED.rI (R := fun _ v => v = .int (c % s)) (i := c) (j := s) (ED.var rfl rfl) (ED.var rfl rfl) s0 fun _ => rfl) f6.t fun v7 H7 f7 r7 => ?_)
      have hx7 := f7.lst hx
      have lq7 : LQ p (i + 1) (upd H7 p (.lst (ms.map V.int ++ [v7]))) := LQ.snoc ⟨ms, hx7, hm⟩ hx7 r7
      have f8 : Fut T H2 (upd H7 p (.lst (ms.map V.int ++ [v7]))) := (f6.trans f7).putL hp hx7
      refine S.set (ED.rI (R := fun _ v => v = .int (c / s)) (i := c) (j := s) (ED.var rfl rfl) (ED.var rfl rfl) ⟨s0, by omega⟩ fun _ => rfl) f8.t fun v9 H9 f9 r9 => ?_
      cases r9
      obtain ⟨ms', hx', hm'⟩ := lq7
      exact ⟨f8.trans f9, ⟨ms', f9.lst hx', hm'⟩, _, some (.int s), rfl⟩
    · obtain ⟨f6, lq, c, x', rfl⟩ := h
      exact ⟨_, rfl, hq _ _ (f02.trans f6) ⟨lq.lix, (NL.new hp).back f02⟩⟩
  · have f24 := f3.trans f4
    refine Sq.set (ED.rI (R := fun _ v => v = .int ((c + 1 + 31 * k) % 2147483647)) (i := c + 1 + 31 * k) (j := 2147483647) (ED.add (i := c + 1) (j := 31 * (k : Int)) (ED.add (ED.var rfl rfl) (ED.int 1)) (ED.mul (i := 31) (j := (k : Int)) (ED.int 31) (ED.var rfl rfl) (.inl ⟨by decide, by decide⟩))) (ED.int 2147483647) (by decide) fun _ => rfl) f4.t fun v5 H5 f5 r5 => ?_
    cases r5
    have f25 := f24.trans f5
    refine Sq.for (B := H2) (IV.rng1 (m := ss.length) (PV.len rfl (hss2.fut stab_int f25)) (by omega)) (fun i σ H' => Fut T H2 H' ∧ LQ p i H' ∧ ∃ t x, σ = [some (.ref a), some (.int k), some sv, some (.int c), some (.ref p), none, some (.int t), x]) ⟨f25, ⟨[], f5.lst (f4.lst upd_same), rfl⟩, _, none, rfl⟩ (fun i σ H' h => h.1) (fun i x σ H6 hi h y => ?_) fun σ H6 h => ?_
    · obtain ⟨f6, lq, t, x', rfl⟩ := h
      subst y
      have es : ss[i]? = some ss[i] := List.getElem?_eq_getElem hi
      obtain ⟨s0, s1⟩ := hsz ss[i] (List.getElem_mem hi)
      refine Sq.set (R := fun _ v => v = .int ((t * 48271 + 11 + i) % 2147483647)) (ED.rI (i := t * 48271 + 11 + i) (j := 2147483647) (ED.add (i := t * 48271 + 11) (j := (i : Int)) (ED.add (i := t * 48271) (j := 11) (ED.mul (i := t) (j := 48271) (ED.var rfl rfl) (ED.int 48271) (.inr ⟨by decide, by decide⟩)) (ED.int 11)) (ED.var rfl rfl)) (ED.int 2147483647) (by decide) fun _ => rfl) f6.t fun v7 H7 f7 r7 => ?_
      cases r7
      refine Sq.set (R := fun _ v => v = .int (((t * 48271 + 11 + i) % 2147483647 * 69621 + 3) % 2147483647)) (ED.rI (i := (t * 48271 + 11 + i) % 2147483647 * 69621 + 3) (j := 2147483647) (ED.add (i := (t * 48271 + 11 + i) % 2147483647 * 69621) (j := 3) (ED.mul (i := (t * 48271 + 11 + i) % 2147483647) (j := 69621) (ED.var rfl rfl) (ED.int 69621) (.inr ⟨by decide, by decide⟩)) (ED.int 3)) (ED.int 2147483647) (by decide) fun _ => rfl) f7.t fun v8 H8 f8 r8 => ?_
      cases r8
      have f68 := (f6.trans f7).trans f8
      obtain ⟨ms, hx, hm⟩ := lq
      have hx8 := f8.lst (f7.lst hx)
      refine S.app (R := fun _ v => ∃ x, v = .int x) rfl hx8 (by rw [List.length_map, hm]; exact line6' (by omega)) (EV.imp (ED.rI (R := fun _ v => v = .int ((((t * 48271 + 11 + i) % 2147483647 * 69621 + 3) % 2147483647) / 7 % ss[i])) (i := (((t * 48271 + 11 + i) % 2147483647 * 69621 + 3) % 2147483647) / 7) (j := ss[i]) (ED.rI (i := ((t * 48271 + 11 + i) % 2147483647 * 69621 + 3) % 2147483647) (j := 7) (R := fun H v => Rp H (.num ((((t * 48271 + 11 + i) % 2147483647 * 69621 + 3) % 2147483647) / 7)) v) (ED.var rfl rfl) (ED.int 7) ⟨by decide, by decide⟩ fun _ => rfl) (EV.ixL (R := fun (n : Int) _ v => v = .int n) (i := i) stab_int (EV.var rfl fun H' f => hss2.fut stab_int (f68.trans f)) (ED.var rfl rfl) es) s0 fun _ => rfl) fun _ _ _ r => ⟨_, r⟩) f8.t fun v9 H9 f9 r9 => ?_
      obtain ⟨x9, e9⟩ := r9
      have hx9 := f9.lst hx8
      exact ⟨(f68.trans f9).putL hp hx9, LQ.snoc ⟨ms, hx9, hm⟩ hx9 e9, _, _, rfl⟩
    · obtain ⟨f6, lq, t, x', rfl⟩ := h
      exact ⟨_, rfl, hq _ _ (f02.trans f6) ⟨lq.lix, (NL.new hp).back f02⟩⟩
end
end CR

set_option Elab.async false
set_option linter.all false
set_option maxRecDepth 100000
set_option maxHeartbeats 4000000
namespace CR
open PySem PySem.Spec PyProof.Rows L2
/-! ### the box of drawn numbers -/
def Box (l : Addr) (ns : List Int) (H : Hp) (b : Addr) : Prop := ∃ (i : Nat), H b = some (.lst [.ref l, .int i]) ∧ H l = some (.lst (ns.map V.int)) ∧ l ≠ b
section
variable {T : Tbl} {b l : Addr} {ns : List Int} {H H1 H2 : Hp}
theorem Box.fut (f : Fut T H H1) (h : Box l ns H b) : Box l ns H1 b := by
  obtain ⟨i, h1, h2, h3⟩ := h
  exact ⟨i, f.lst h1, f.lst h2, h3⟩
theorem KD.setL (ht : LamX.Tabs T H) {xs ys : List V} (h : H b = some (.lst xs)) : KD T b H (upd H b (.lst ys)) :=
  ⟨fun c x n e z => by rw [upd_ne n]; exact e, tabs_upd ht h (fun _ z => by cases z) (fun _ z => by unfold LamX.CodeO at z; cases z), fun c ys e => by rw [upd_ne (fun z => by rw [z, h] at e; cases e)]; exact e⟩
theorem Fut.ofBox (f : Fut T H H1) (k : KD T b H1 H2) (hb : Box l ns H1 b) (nl : NL H (.ref b)) : Fut T H H2 := ⟨fun c o e n => k.e c o (fun z => by
  obtain ⟨i, h1, _⟩ := hb
  have h2 := f.e c o e n
  rw [z, h1] at h2
  cases h2
  exact nl b _ rfl (by rw [← z]; exact e)) (f.e c o e n) n, k.t⟩
theorem stab_i : Stab T (fun (n : Int) _ v => v = V.int n) := stab_int
end
def spTake (T : Tbl) : Sp := fun vs H Q _ => ∃ (b l : Addr) (ns : List Int) (m : Int), vs = [.ref b, .int m] ∧ Box l ns H b ∧ 0 < m ∧ LamX.Tabs T H ∧ ∀ (r : Int) H', KD T b H H' → Box l ns H' b → 0 ≤ r → r < m → Q (.int r) H'
section
variable {P : Program} {w : World} {K : PySem.W.Frag} {mg : Str → Option Value} {base : Heap} {T : Tbl} (g : G K mg base T)
abbrev N_law_take : List Str := ["_law_box_here", "_law_many", "_law_at"]
theorem sc_law_take : FnScope N_law_take ["_law_box_here", "_law_many"] (defScope s_law_take) := ⟨rfl, rfl, rfl, by decide +kernel, rfl, by decide +kernel, by decide +kernel⟩
theorem ok_law_take : FnOk P w K mg base CX0 1 g.law_take.a g.law_take.d ["_law_box_here", "_law_many"] (spTake T) := by
  refine g.law_take.F.ok sc_law_take (fun vs H Q E h => by obtain ⟨b, l, ns, m, rfl, _⟩ := h; rfl) fun cdv A outer st H vs Q E hr h => ?_
  obtain ⟨b, l, ns, m, rfl, ⟨i, h1, h2, h3⟩, hm, ht, q⟩ := h
  refine ⟨_, PSs.nox (pss_cons (ps_set (i := 2) sc_law_take.nd rfl (Or.inl rfl) (pe_ix (ix_listK K rfl) (pv 0) pe_int (fun _ _ => rfl))) (pss_cons (ps_asg (pe_op op_add (pv 2) pe_int) (pg_sub (pv 0) pe_int set_list)) (pss_cons (ps_if (pt_cmpR op_lt (pv 2) (pe_callB (cr_lenK K rfl) rfl g.n_len boot_len (pa_cons (pe_ix (ix_listK K rfl) (pv 0) pe_int (fun _ _ => rfl)) pa_nil)) (nomark _)) (pss_one (ps_ret (pe_op op_mod (pe_ix (ix_listK K rfl) (pe_ix (ix_listK K rfl) (pv 0) pe_int (fun _ _ => rfl)) (pv 2) (fun _ _ => rfl)) (pv 1)))) pss_nil) (pss_one (ps_ret pe_int))))), ?_⟩
  refine ⟨_, rfl, b, _, ((1 : Nat) : Int), .int i, rfl, rfl, SqL.of h1, atI_nat rfl, ?_⟩
  refine ⟨_, rfl, _, _, rfl, rfl, _, rfl, b, _, ((1 : Nat) : Int), 1, rfl, rfl, h1, rfl, ?_⟩
  have k1 : KD T b H (upd H b (.lst [.ref l, .int ((i : Int) + 1)])) := KD.setL ht h1
  have e : (i : Int) + 1 = ((i + 1 : Nat) : Int) := by omega
  have hl : upd H b (.lst [.ref l, .int ((i : Int) + 1)]) l = some (.lst (ns.map V.int)) := by rw [upd_ne h3]; exact h2
  have bx : Box l ns (upd H b (.lst [.ref l, .int ((i : Int) + 1)])) b := ⟨i + 1, by rw [upd_same, e], hl, h3⟩
  refine ⟨_, rfl, _, rfl, b, _, ((0 : Nat) : Int), .ref l, rfl, rfl, SqL.of upd_same, atI_nat rfl, l, _, rfl, .inl (SqL.of hl), _, _, rfl, rfl, _, rfl, ?_⟩
  by_cases h : (i : Int) < ((ns.map V.int).length : Nat)
  · refine iteY (decide_eq_true h) ?_
    have hk : i < ns.length := by rw [List.length_map] at h; omega
    refine ⟨_, rfl, b, _, ((0 : Nat) : Int), .ref l, rfl, rfl, SqL.of upd_same, atI_nat rfl, _, rfl, l, _, (i : Int), .int ns[i], rfl, rfl, SqL.of hl, atI_nat (by rw [List.getElem?_map, List.getElem?_eq_getElem hk]; rfl), _, rfl, _, _, rfl, rfl, hm, ?_⟩
    exact q _ _ k1 bx (Int.emod_nonneg _ (by omega)) (Int.emod_lt_of_pos _ hm)
  · exact iteN (decide_eq_false h) (q _ _ k1 bx (Int.le_refl 0) hm)
abbrev N_law_box : List Str := ["_law_script", "_law_k"]
theorem sc_law_box : FnScope N_law_box ["_law_script", "_law_k"] (defScope s_law_box) := ⟨rfl, rfl, rfl, by decide +kernel, rfl, by decide +kernel, by decide +kernel⟩
theorem ok_law_box : FnOk P w K mg base CX0 3 g.law_box.a g.law_box.d ["_law_script", "_law_k"] (PmL T (fun (z : List Int × Nat) H vs => ∃ a, vs = [.ref a, .int z.2] ∧ SqL K H a (z.1.map V.int)) fun z H v => ∃ b l ns, v = .ref b ∧ Box l ns H b) := by
  have OK_law_draw := ok_law_draw (P := P) (w := w) g
  refine pm_okL g.law_box.F sc_law_box (fun z H vs h => by obtain ⟨a, rfl, _⟩ := h; rfl) fun cdv A outer st H vs Q E z hr h ht hq => ?_
  obtain ⟨ns, k⟩ := z
  obtain ⟨a, rfl, hS⟩ := h
  have hS : SqL K H a (ns.map V.int) := hS
  refine ⟨_, (pss_one (ps_ret (pe_lst (pa_cons (pe_op op_cat (pe_call OK_law_draw (hr.mono (by omega)) rfl g.law_draw.m g.law_draw.F.kp (b_law_draw g.law_draw) .nil pass0 (pa_cons (pv 0) (pa_cons (pv 1) (pa_cons (pe_op op_rep (pe_lst (pa_cons pe_int pa_nil)) pe_int) pa_nil)))) (pe_call OK_law_draw (hr.mono (by omega)) rfl g.law_draw.m g.law_draw.F.kp (b_law_draw g.law_draw) .nil pass0 (pa_cons (pv 0) (pa_cons (pe_op op_add (pv 1) pe_int) (pa_cons (pe_op op_rep (pe_lst (pa_cons pe_int pa_nil)) pe_int) pa_nil))))) (pa_cons pe_int pa_nil))))), ?_⟩
  have one : ∀ (σ : L2.St) (tk : TE) (k' : Nat), σ[0]? = some (some (.ref a)) → ED T tk σ H (.num k') → EV T (tCall (PmL T (fun (z : List Int × Nat × List Int) H vs => ∃ a v, vs = [.ref a, .int z.2.1, v] ∧ SqL K H a (z.1.map V.int) ∧ LI z.2.2 H v ∧ z.2.2.length ≤ 1000 ∧ ∀ s ∈ z.2.2, 0 < s ∧ s < 1000) fun z H v => LIx z.2.2.length H v) [] E0 (tCons (tVar 0) (tCons tk (tCons (tOp rRep (tLst (tCons (tC (.int 97)) tNil)) (tC (.int 20))) tNil)))) σ H (fun H v => LIx 20 H v) := fun σ tk k' h0 hk => by
    refine EV.imp (EV.fnL (z := (ns, k', List.replicate 20 97)) (EA.imp (EA.three (EV.var (R := fun H v => v = .ref a ∧ SqL K H a (ns.map V.int)) h0 fun H' f => ⟨rfl, f.sqL hS⟩) (fun _ _ _ f h => ⟨h.1, f.sqL h.2⟩) hk mD (EV.rep1 (S := fun (n : Int) _ v => v = V.int n) (b := 97) (n := 20) stab_int (EV.lst1 (EV.con fun _ _ => rfl) (fun _ _ _ _ _ _ h => h)) (ED.int 20) (fun _ _ _ _ _ _ h => h) (by decide))) fun H' vs f r => ?_)) fun H' v f r => ?_
    · obtain ⟨u, v, w, rfl, ⟨rfl, r1⟩, r2, r3⟩ := r
      refine ⟨a, w, by rw [show v = _ from r2], r1, r3, by rw [List.length_replicate]; decide, fun s hs => ?_⟩
      rw [List.eq_of_mem_replicate hs]
      decide
    · have := r.1
      rw [List.length_replicate] at this
      exact this
  refine S.retR ?_
  refine (one (L2.start N_law_box [.ref a, .int k]) (tVar 1) k rfl (ED.var rfl rfl)).at ht fun v1 H1 f1 r1 => ?_
  have h2 := (one (L2.start N_law_box [.ref a, .int k]) (tOp (L2.rI0 fun i j => .int (i + j)) (tVar 1) (tC (.int 1))) (k + 1) rfl (ED.cast (ED.add (i := (k : Int)) (j := 1) (ED.var rfl rfl) (ED.int 1)) (by omega))) H1 f1
  refine h2 _ fun v2 H2 f2 r2 => ?_
  obtain ⟨ms1, l1, p1, xs1, rfl, hx1, ax1⟩ := r1
  obtain ⟨ms2, l2, p2, xs2, rfl, hx2, ax2⟩ := r2
  have hl1 := ax1.length
  have hl2 := ax2.length
  refine ⟨p1, p2, xs1, xs2, rfl, rfl, f2.lst hx1, hx2, line6 (by omega), fun p hp => ⟨ln2, fun bx hbx => ?_⟩⟩
  have f3 := (f1.trans f2).new hp (.lst (xs1 ++ xs2))
  have f4 := f3.new hbx (.lst [.ref p, .int 0])
  have npb : p ≠ bx := fun e => by rw [← e, upd_same] at hbx; cases hbx
  refine hq _ _ f4 ⟨⟨bx, p, ms1 ++ ms2, rfl, 0, upd_same, ?_, npb⟩, (NL.new hbx).back f3⟩
  rw [upd_ne npb, upd_same, li_ints ax1, li_ints ax2, List.map_append]
end
end CR

set_option Elab.async false
set_option linter.all false
set_option maxRecDepth 100000
set_option maxHeartbeats 4000000
namespace CR
open PySem PySem.Spec PyProof.Rows L2
/-- a comprehension, its walk at hand -/
def LcB (J : It) (gt : TG) (tt : TT) (te : TE) (vs : List Nat) (σ : L2.St) (H1 : Hp) (Q : VK) : Prop := ∀ D, H1 D = none → ∃ W : Nat → Nat → Hp → Prop, (∃ m, W 0 m (upd H1 D (.lst []))) ∧ ∀ i m H, W i m H →
  (J.stop i H ∧ Q (.ref D) H) ∨ (J.go i H ∧ ∃ Nx : Hp → Prop, (∀ H', Nx H' → ∃ m', m' < m ∧ W (i + 1) m' H') ∧ ∀ x H', J.yld i H x H' → gt x (wipe σ vs) H' fun σ2 H2 => wipe σ2 vs = wipe σ vs ∧ tt σ2 H2 fun b H3 =>
    if b = true then te σ2 H3 fun y H4 => ∃ acc, H4 D = some (.lst acc) ∧ acc.length < sizeLine ∧ Nx (upd H4 D (.lst (acc ++ [y]))) else Nx H3)
section
variable {T : Tbl} {σ : L2.St} {H : Hp} {K : PySem.W.Frag} {b l : Addr} {ns : List Int} {te tb : TE} {Q : VK}
theorem lc_rng1 {gt : TG} {tt : TT} {vs : List Nat} (h : te σ H fun v H1 => ∃ j : Int, v = .int j ∧ -(2 ^ 62) ≤ j ∧ j < 2 ^ 62 ∧ LcB (Itr 0 j.toNat) gt tt tb vs σ H1 Q) : tLc (iRng1 (tCons te tNil)) gt tt tb vs σ H Q := by
  show te σ H fun x H1 => ∃ j : Int, [x] = [V.int j] ∧ -(2 ^ 62) ≤ j ∧ j < 2 ^ 62 ∧ LcB (Itr 0 j.toNat) gt tt tb vs σ H1 Q
  have e : (fun (x : V) (H1 : Hp) => ∃ j : Int, [x] = [V.int j] ∧ -(2 ^ 62) ≤ j ∧ j < 2 ^ 62 ∧ LcB (Itr 0 j.toNat) gt tt tb vs σ H1 Q) = fun (v : V) (H1 : Hp) => ∃ j : Int, v = .int j ∧ -(2 ^ 62) ≤ j ∧ j < 2 ^ 62 ∧ LcB (Itr 0 j.toNat) gt tt tb vs σ H1 Q := by
    funext x H1
    simp
  rw [e]
  exact h
theorem Box.ne_new (h : Box l ns H b) {p : Addr} (hp : H p = none) : p ≠ b := fun e => by
  obtain ⟨i, h1, _⟩ := h
  rw [e, h1] at hp
  cases hp
theorem Box.ne_l (h : Box l ns H b) {p : Addr} (hp : H p = none) : p ≠ l := fun e => by
  obtain ⟨i, _, h1, _⟩ := h
  rw [e, h1] at hp
  cases hp
theorem Box.put (h : Box l ns H b) {p : Addr} {o : HO} (nb : p ≠ b) (nl : p ≠ l) : Box l ns (upd H p o) b := by
  obtain ⟨i, h1, h2, h3⟩ := h
  exact ⟨i, by rw [upd_ne nb.symm]; exact h1, by rw [upd_ne nl.symm]; exact h2, h3⟩
theorem lc_box {α : Type} {f : α → Dt} {Pa : Nat → α → Prop} {j n : Nat} {J : It} {Y : Nat → V → Prop} (bx : Box l ns H b) (ht : LamX.Tabs T H) (hn : n ≤ 1000) (w : Walk J n (fun H' => KD T b H H') (fun i H3 x H4 => H4 = H3 ∧ Y i x)) (hw : ∀ x, wipe ((wipe σ [j]).set j (some x)) [j] = wipe σ [j])
    (hte : ∀ i x H', i < n → Y i x → KD T b H H' → Box l ns H' b → ∀ Q' : VK, (∀ a v H2, KD T b H' H2 → Box l ns H2 b → Pa i a → Rp H2 (f a) v → Q' v H2) → te ((wipe σ [j]).set j (some x)) H' Q')
    (q : ∀ (D : Addr) (as : List α) (xs : List V) (H' : Hp), H D = none → KD T b H H' → Box l ns H' b → H' D = some (.lst xs) → as.length = n → (∀ i a, as[i]? = some a → Pa i a) → RpA H' (as.map f) xs → Q (.ref D) H') : LcB J (gName j) tYes te [j] σ H Q := fun D hD => by
  have nD := bx.ne_new hD
  have nl := bx.ne_l hD
  refine lc_it w (fun i H' => ∃ (as : List α) (xs : List V), H' D = some (.lst xs) ∧ KD T b H H' ∧ Box l ns H' b ∧ as.length = i ∧ (∀ i a, as[i]? = some a → Pa i a) ∧ RpA H' (as.map f) xs) ⟨[], [], upd_same, (Fut.newR ht hD _).kd, bx.put nD nl, rfl, fun i a h => by simp at h, rfl⟩ (fun i H' _ ⟨_, _, _, h, _⟩ => h) (fun i x H3 H4 hi ⟨as, xs, hx, k3, bx3, ha, hp, hr⟩ y => ?_) fun H' ⟨as, xs, hx, k3, bx3, ha, hp, hr⟩ => q D as xs H' hD k3 bx3 hx ha hp hr
  obtain ⟨rfl, y⟩ := y
  refine ⟨hw x, yesI ?_⟩
  refine hte i x _ hi y k3 bx3 _ fun a v H5 k5 bx5 pa rv => ?_
  have hx5 := k5.lst nD hx
  have hl := hr.length
  rw [List.length_map] at hl
  refine ⟨xs, hx5, line6' (by omega), as ++ [a], xs ++ [v], upd_same, (k3.trans k5).putL hD hx5, bx5.put nD nl, by rw [List.length_append, ha]; rfl, fun i' a' h' => ?_, ?_⟩
  · by_cases z : i' < as.length
    · rw [List.getElem?_append_left z] at h'
      exact hp i' a' h'
    · rw [List.getElem?_append_right (by omega)] at h'
      have z2 : i' = as.length := by
        have := (List.getElem?_eq_some_iff.mp h').1
        rw [List.length_singleton] at this
        omega
      rw [z2, Nat.sub_self] at h'
      cases h'
      rw [z2, ha]
      exact pa
  · rw [List.map_append]
    exact rpA_put hx5 ((hr.tk k5.tk).snoc rv)
/-- _law_take(box, m) -/
theorem do_take {E : XK} {i : Nat} {m : Int} (hi : σ[i]? = some (some (.ref b))) (bx : Box l ns H b) (ht : LamX.Tabs T H) (he : ED T te σ H (.num m)) (hm : 0 < m) (q : ∀ (r : Int) H', KD T b H H' → Box l ns H' b → 0 ≤ r → r < m → Q (.int r) H') : tCall (spTake T) [] E (tCons (tVar i) (tCons te tNil)) σ H Q :=
  ⟨_, hi, he.at ht fun v H2 f r => ⟨b, l, ns, m, by rw [show v = _ from r]; rfl, bx.fut f, hm, f.t, fun r' H' k bx' h0 h1 => q r' H' (f.kd.trans k) bx' h0 h1⟩⟩
theorem op_raw {r : R2} (h : te σ H fun x H1 => tb σ H1 fun y H2 => r x y H2 Q) : tOp r te tb σ H Q := h
theorem op1_raw {r : R2} {v : V} (h : tb σ H fun y H2 => r v y H2 Q) : tOp r (tC v) tb σ H Q := h
theorem tup2_raw {v : V} (h : tb σ H fun y H1 => ∀ p, H1 p = none → Q (.ref p) (upd H1 p (.tup [v, y]))) : tTup (tCons (tC v) (tCons tb tNil)) σ H Q := by
  have e : (fun (y : V) (H1 : Hp) => [v, y].length ≤ sizeLine ∧ ∀ p, H1 p = none → Q (.ref p) (upd H1 p (.tup [v, y]))) = fun (y : V) (H1 : Hp) => ∀ p, H1 p = none → Q (.ref p) (upd H1 p (.tup [v, y])) := by
    funext y H1
    exact propext ⟨fun h => h.2, fun h => ⟨ln2, h⟩⟩
  show tb σ H fun y H1 => [v, y].length ≤ sizeLine ∧ ∀ p, H1 p = none → Q (.ref p) (upd H1 p (.tup [v, y]))
  rw [e]
  exact h
theorem tupK_raw (h : te σ H fun v H1 => rTupK K [v] H1 Q) : tCB (rTupK K) (tCons te tNil) σ H Q := h
theorem lst_raw {vs : List V} {tr : TA} (ht : ∀ Q' : List V → Hp → Prop, Q' vs H → tr σ H Q') (hl : vs.length ≤ 1000) (h : ∀ p, H p = none → Q (.ref p) (upd H p (.lst vs))) : tLst tr σ H Q := ht _ ⟨line6 (by omega), h⟩
end
/-! ### kinds -/
def KOk : Nat → Kd → Prop
  | 0, k => ∃ b, k = .b b
  | n + 1, k => (∃ b, k = .b b) ∨ (∃ k', k = .lst k' ∧ KOk n k') ∨ (∃ bs, k = .tup bs ∧ 1 ≤ bs.length ∧ bs.length ≤ 2)
theorem KOk.base (n : Nat) (b : Bs) : KOk n (.b b) := by
  cases n with
  | zero => exact ⟨b, rfl⟩
  | succ n => exact .inl ⟨b, rfl⟩
def spKind (T : Tbl) (n : Nat) : Sp := fun vs H Q _ => ∃ (b l : Addr) (ns : List Int) (m : Nat), vs = [.ref b, .int m] ∧ m < n ∧ Box l ns H b ∧ LamX.Tabs T H ∧ ∀ k v H', KD T b H H' → Box l ns H' b → KOk m k → Rp H' k.d v → Q v H'
section
variable {P : Program} {w : World} {K : PySem.W.Frag} {mg : Str → Option Value} {base : Heap} {T : Tbl} (g : G K mg base T)
abbrev N_law_kind : List Str := ["_law_box_here", "_law_depth", "_law_which", "_law_j"]
theorem sc_law_kind : FnScope N_law_kind ["_law_box_here", "_law_depth"] (defScope s_law_kind) := ⟨rfl, rfl, rfl, by decide +kernel, rfl, by decide +kernel, by decide +kernel⟩
theorem ok_law_kind_step (n : Nat) (OK_law_kind : FnOk P w K mg base CX0 (n + 1) g.law_kind.a g.law_kind.d ["_law_box_here", "_law_depth"] (spKind T n)) : FnOk P w K mg base CX0 (n + 2) g.law_kind.a g.law_kind.d ["_law_box_here", "_law_depth"] (spKind T (n + 1)) := by
  have OK_law_take := ok_law_take (P := P) (w := w) g
  refine g.law_kind.F.ok (k := n + 1) sc_law_kind (fun vs H Q E h => by obtain ⟨b, l, ns, m, rfl, _⟩ := h; rfl) fun cdv A outer st H vs Q E hr h => ?_
  obtain ⟨b, l, ns, m, rfl, hm, bx, ht, q⟩ := h
  refine ⟨_, PSs.nox (pss_cons (ps_set (i := 2) sc_law_kind.nd rfl (Or.inl rfl) (pe_call OK_law_take (hr.mono (by omega)) rfl g.law_take.m g.law_take.F.kp (b_law_take g.law_take) .nil pass0 (pa_cons (pv 0) (pa_cons pe_int pa_nil)))) (pss_cons (ps_if (PW.pt (pw_or (pt_cmpR op_eq (pv 1) pe_int (nomark _)) (pw_or1 (pt_cmpR op_lt (pv 2) pe_int (nomark _))))) (pss_one (ps_ret (pe_ix (ix_listK K rfl) (pe_lst (pa_cons pe_str (pa_cons pe_str pa_nil))) (pe_op op_fdiv (pe_call OK_law_take (hr.mono (by omega)) rfl g.law_take.m g.law_take.F.kp (b_law_take g.law_take) .nil pass0 (pa_cons (pv 0) (pa_cons pe_int pa_nil))) pe_int) (fun _ _ => rfl)))) pss_nil) (pss_cons (ps_if (pt_cmpR op_lt (pv 2) pe_int (nomark _)) (pss_one (ps_ret (pe_tup (pa_cons pe_str (pa_cons (pe_call OK_law_kind (hr.mono (by omega)) rfl g.law_kind.m g.law_kind.F.kp (b_law_kind g.law_kind) .nil pass0 (pa_cons (pv 0) (pa_cons (pe_op op_sub (pv 1) pe_int) pa_nil))) pa_nil))))) pss_nil) (pss_one (ps_ret (pe_tup (pa_cons pe_str (pa_cons (pe_callTy (cr_tupleK K rfl) rfl g.n_tuple (by decide +kernel) (pa_cons (pe_lc (own := [("_law_j", 3)]) rfl sc_law_kind.nd (pi_range1 rfl g.n_range (pa_cons (pe_op op_add pe_int (pe_call OK_law_take (hr.mono (by omega)) rfl g.law_take.m g.law_take.F.kp (b_law_take g.law_take) .nil pass0 (pa_cons (pv 0) (pa_cons pe_int pa_nil)))) pa_nil)) (blkOk_by (own := [("_law_j", 3)]) (N := N_law_kind) (sc := defScope s_law_kind) (by decide +kernel)) (fun _ _ _ _ _ => (pg_name (i := 3) sc_law_kind.nd rfl (Or.inl rfl))) (fun _ _ _ _ _ => pts_nil) (fun _ _ _ _ _ => (pe_call OK_law_kind (hr.mono (by omega)) rfl g.law_kind.m g.law_kind.F.kp (b_law_kind g.law_kind) .nil pass0 (pa_cons (pv 0) (pa_cons pe_int pa_nil))))) pa_nil)) pa_nil)))))))), ?_⟩
  refine Sq.raw (do_take rfl bx ht (ED.int 6) (by decide) fun r H1 k1 bx1 r0 r1 => ?_)
  refine Sq.if (b := decide ((m : Int) = 0) || decide (r < 2)) (ET.or (.of (EB.eqI (x := m) (y := 0) (ED.var rfl rfl) (ED.int 0))) fun _ => .of (EB.lt (i := r) (j := 2) (ED.var rfl rfl) (ED.int 2))) k1.t (fun _ H2 f2 => ?_) fun hno H2 f2 => ?_
  · have bx2 := bx1.fut f2
    refine S.retR (op_raw (lst_raw (vs := [.str "int", .str "word"]) (fun Q' q => q) (by decide) fun p hp => ?_))
    have f3 := Fut.newR f2.t hp (.lst [V.str "int", V.str "word"])
    refine op_raw (do_take rfl (bx2.fut f3) f3.t (ED.int 3) (by decide) fun r2 H4 k4 bx4 s0 s1 => ⟨r2, 2, rfl, rfl, ⟨by decide, by decide⟩, ?_⟩)
    have np := bx2.ne_new hp
    have hp4 : H4 p = some (.lst [.str "int", .str "word"]) := k4.lst np upd_same
    have kk : KD T b H H4 := ((k1.trans f2.kd).trans f3.kd).trans k4
    rcases (show r2 / 2 = 0 ∨ r2 / 2 = 1 by omega) with e | e
    · exact ⟨p, _, ((0 : Nat) : Int), .str "int", rfl, congrArg V.int e, SqL.of hp4, atI_nat rfl, q (.b .int) _ H4 kk bx4 (KOk.base _ _) rfl⟩
    · exact ⟨p, _, ((1 : Nat) : Int), .str "word", rfl, congrArg V.int e, SqL.of hp4, atI_nat rfl, q (.b .word) _ H4 kk bx4 (KOk.base _ _) rfl⟩
  · have bx2 := bx1.fut f2
    have k2 := k1.trans f2.kd
    have m1 : 1 ≤ m := by
      rw [Bool.or_eq_false_iff] at hno
      have := of_decide_eq_false hno.1
      omega
    obtain ⟨m', rfl⟩ : ∃ m', m = m' + 1 := ⟨m - 1, by omega⟩
    have do_kind : ∀ {σ : L2.St} {H' : Hp} {te : TE} {m'' : Nat} {Q' : VK}, σ[0]? = some (some (.ref b)) → ED T te σ H' (.num m'') → m'' < n → Box l ns H' b → LamX.Tabs T H' → (∀ k v H'', KD T b H' H'' → Box l ns H'' b → KOk m'' k → Rp H'' k.d v → Q' v H'') → tCall (spKind T n) [] E0 (tCons (tVar 0) (tCons te tNil)) σ H' Q' := fun {σ H' te m'' Q'} h0 he hm bx' ht' q' =>
      ⟨_, h0, he.at ht' fun v H3 f3 rv => ⟨b, l, ns, m'', by rw [show v = _ from rv]; rfl, hm, bx'.fut f3, f3.t, fun k v H4 k4 bx4 ko rk => q' k v H4 (f3.kd.trans k4) bx4 ko rk⟩⟩
    refine Sq.if (.of (EB.lt (i := r) (j := 5) (ED.var rfl rfl) (ED.int 5))) f2.t (fun _ H3 f3 => ?_) fun _ H3 f3 => ?_
    · refine S.retR (tup2_raw (do_kind (m'' := m') rfl (ED.cast (ED.sub (i := ((m' + 1 : Nat) : Int)) (j := 1) (ED.var rfl rfl) (ED.int 1)) (by omega)) (by omega) (bx2.fut f3) f3.t fun k v H4 k4 bx4 ko rk p hp => ?_))
      have f5 := (fr (⟨LamX.ExtN.refl _, k4.t⟩ : Fut T H4 H4)).new hp (.tup [.str "list", v])
      exact q (.lst k) _ _ (((k2.trans f3.kd).trans k4).trans f5.kd) (bx4.fut f5) (.inr (.inl ⟨k, rfl, ko⟩)) (Rp.new (ds := [tx "list", k.d]) ⟨_, _, rfl, rfl, _, _, rfl, rk, rfl⟩ hp)
    · refine S.retR (tup2_raw (tupK_raw (lc_rng1 (op1_raw (do_take rfl (bx2.fut f3) f3.t (ED.int 2) (by decide) fun r2 H4 k4 bx4 s0 s1 => ⟨1, r2, rfl, rfl, 1 + r2, rfl, by omega, by omega, ?_⟩)))))
      have k34 := (k2.trans f3.kd).trans k4
      refine lc_box (α := Bs) (f := Bs.d) (Pa := fun _ _ => True) (n := (1 + r2).toNat) (Y := fun _ _ => True) bx4 k4.t (by omega) (walk_range.mono (fun _ _ => trivial) fun i H' x H'' hi f y => ⟨y.1, trivial⟩) (fun x => rfl) (fun i x H' hi _ kd bx' Q' q' => ?_) fun D as xs H5 hD k5 bx5 hx hl _ ha => ?_
      · refine do_kind (m'' := 0) rfl (ED.int 0) (by omega) bx' kd.t fun k v H'' k6 bx6 ko rk => ?_
        obtain ⟨bb, rfl⟩ := ko
        exact q' bb v H'' k6 bx6 trivial rk
      · refine ⟨D, xs, rfl, .inl ⟨SqL.of hx, fun p1 hp1 p2 hp2 => ?_⟩⟩
        have f6 := (fr (⟨LamX.ExtN.refl _, k5.t⟩ : Fut T H5 H5)).new hp1 (.tup xs)
        have f7 := f6.new hp2 (.tup [.str "tuple", .ref p1])
        exact q (.tup as) _ _ ((k34.trans k5).trans f7.kd) (bx5.fut f7) (.inr (.inr ⟨as, rfl, by omega, by omega⟩)) (Rp.new (ds := [tx "tuple", .tup (as.map Bs.d)]) ⟨_, _, rfl, rfl, _, _, rfl, Rp.new ha hp1, rfl⟩ hp2)
theorem ok_law_kind : ∀ n, FnOk P w K mg base CX0 (n + 1) g.law_kind.a g.law_kind.d ["_law_box_here", "_law_depth"] (spKind T n)
  | 0 => ⟨fun vs H Q E ⟨b, l, ns, m, e, _⟩ => by rw [e]; rfl, fun A outer s H args us vs Q E _ _ _ _ ⟨_, _, _, _, _, h, _⟩ => absurd h (Nat.not_lt_zero _)⟩
  | n + 1 => ok_law_kind_step g n (ok_law_kind n)
end
end CR

set_option Elab.async false
set_option linter.all false
set_option maxRecDepth 100000
set_option maxHeartbeats 4000000
namespace CR
open PySem PySem.Spec PyProof.Rows L2
def KW : Kd → Prop
  | .b _ => True
  | .tup bs => 1 ≤ bs.length ∧ bs.length ≤ 2
  | .lst k => KW k
theorem KOk.kw : ∀ {n : Nat} {k : Kd}, KOk n k → KW k ∧ k.depth ≤ n
  | 0, k, h => by obtain ⟨b, rfl⟩ := h; exact ⟨trivial, Nat.zero_le _⟩
  | n + 1, k, h => by
    rcases h with ⟨b, rfl⟩ | ⟨k', rfl, h⟩ | ⟨bs, rfl, h1, h2⟩
    · exact ⟨trivial, Nat.zero_le _⟩
    · have := KOk.kw h
      exact ⟨this.1, Nat.succ_le_succ this.2⟩
    · exact ⟨⟨h1, h2⟩, Nat.succ_le_succ (Nat.zero_le _)⟩
theorem bs_ck (b : Bs) : ckD b.d = true ∧ b.d.depth = 0 := by cases b <;> exact ⟨by decide +kernel, rfl⟩
theorem kd_ck : ∀ k : Kd, ckD k.d = true ∧ k.d.depth ≤ k.depth + 1
  | .b b => ⟨(bs_ck b).1, by rw [show (Kd.b b).d = b.d from rfl, (bs_ck b).2]; exact Nat.zero_le _⟩
  | .tup bs => by
    refine ⟨ckDs_all (ds := [tx "tuple", .tup (bs.map Bs.d)]) fun d hd => ?_, ?_⟩
    · simp only [List.mem_cons, List.not_mem_nil, or_false] at hd
      rcases hd with rfl | rfl
      · decide +kernel
      · refine ckDs_all fun d hd => ?_
        obtain ⟨b, _, rfl⟩ := List.mem_map.mp hd
        exact (bs_ck b).1
    · have h0 : NestedKey.depthAll (bs.map Bs.d) ≤ 0 := depth_all fun d hd => by
        obtain ⟨b, _, rfl⟩ := List.mem_map.mp hd
        rw [(bs_ck b).2]
        exact Nat.le_refl _
      show max 0 (max (NestedKey.depthAll (bs.map Bs.d) + 1) 0) + 1 ≤ 1 + 1
      omega
  | .lst k => by
    have ih := kd_ck k
    refine ⟨ckDs_all (ds := [tx "list", k.d]) fun d hd => ?_, ?_⟩
    · simp only [List.mem_cons, List.not_mem_nil, or_false] at hd
      rcases hd with rfl | rfl
      · decide +kernel
      · exact ih.1
    · show max 0 (max k.d.depth 0) + 1 ≤ k.depth + 1 + 1
      omega
theorem kd_ok {k : Kd} (h : k.depth ≤ 8) : okD k.d := okD_of (kd_ck k).1 (by have := (kd_ck k).2; omega)
theorem tx_ok (s : Str) (h : ckD (.text s) = true) : okD (.text s) := okD_of h (Nat.zero_le _)
def spLim (T : Tbl) (n : Nat) : Sp := fun vs H Q _ => ∃ (b l : Addr) (ns : List Int) (k : Kd) (kv : V) (m : Nat), vs = [.ref b, kv, .int m] ∧ Rp H k.d kv ∧ KW k ∧ k.depth ≤ 8 ∧ m + k.depth < n ∧ Box l ns H b ∧ LamX.Tabs T H ∧ ∀ c v H', KD T b H H' → Box l ns H' b → Fits c k → c.depth ≤ m + k.depth → Rp H' c.d v → Q v H'
section
variable {T : Tbl} {σ : L2.St} {H : Hp} {K : PySem.W.Frag} {b l : Addr} {ns : List Int} {te tb tc : TE} {Q : VK}
theorem do_lim {E : XK} {i n m : Nat} {k : Kd} (hi : σ[i]? = some (some (.ref b))) (bx : Box l ns H b) (ht : LamX.Tabs T H) (hk : ED T te σ H k.d) (hm : ED T tb σ H (.num m)) (kw : KW k) (k8 : k.depth ≤ 8) (hn : m + k.depth < n) (q : ∀ c v H', KD T b H H' → Box l ns H' b → Fits c k → c.depth ≤ m + k.depth → Rp H' c.d v → Q v H') : tCall (spLim T n) [] E (tCons (tVar i) (tCons te (tCons tb tNil))) σ H Q :=
  ⟨_, hi, hk.at ht fun v H2 f r => (hm.fut f).at f.t fun v2 H3 f3 r3 => ⟨b, l, ns, k, v, m, by rw [show v2 = _ from r3]; rfl, f3.rp r, kw, k8, hn, bx.fut (f.trans f3), f3.t, fun c v H' k' bx' fc cd rc => q c v H' ((f.trans f3).kd.trans k') bx' fc cd rc⟩⟩
theorem tup3_raw (h : te σ H fun x H1 => tb σ H1 fun y H2 => tc σ H2 fun z H3 => ∀ p, H3 p = none → Q (.ref p) (upd H3 p (.tup [x, y, z]))) : tTup (tCons te (tCons tb (tCons tc tNil))) σ H Q := by
  have e : (fun (x : V) (H1 : Hp) => tb σ H1 fun y H2 => tc σ H2 fun z H3 => [x, y, z].length ≤ sizeLine ∧ ∀ p, H3 p = none → Q (.ref p) (upd H3 p (.tup [x, y, z]))) = fun (x : V) (H1 : Hp) => tb σ H1 fun y H2 => tc σ H2 fun z H3 => ∀ p, H3 p = none → Q (.ref p) (upd H3 p (.tup [x, y, z])) := by
    funext x H1
    congr 1
    funext y H2
    congr 1
    funext z H3
    exact propext ⟨fun h => h.2, fun h => ⟨ln3, h⟩⟩
  show te σ H fun x H1 => tb σ H1 fun y H2 => tc σ H2 fun z H3 => [x, y, z].length ≤ sizeLine ∧ ∀ p, H3 p = none → Q (.ref p) (upd H3 p (.tup [x, y, z]))
  rw [e]
  exact h
theorem tup2g_raw (h : te σ H fun x H1 => tb σ H1 fun y H2 => ∀ p, H2 p = none → Q (.ref p) (upd H2 p (.tup [x, y]))) : tTup (tCons te (tCons tb tNil)) σ H Q := by
  have e : (fun (x : V) (H1 : Hp) => tb σ H1 fun y H2 => [x, y].length ≤ sizeLine ∧ ∀ p, H2 p = none → Q (.ref p) (upd H2 p (.tup [x, y]))) = fun (x : V) (H1 : Hp) => tb σ H1 fun y H2 => ∀ p, H2 p = none → Q (.ref p) (upd H2 p (.tup [x, y])) := by
    funext x H1
    congr 1
    funext y H2
    exact propext ⟨fun h => h.2, fun h => ⟨ln2, h⟩⟩
  show te σ H fun x H1 => tb σ H1 fun y H2 => [x, y].length ≤ sizeLine ∧ ∀ p, H2 p = none → Q (.ref p) (upd H2 p (.tup [x, y]))
  rw [e]
  exact h
/-- [a, b, ..][e], texts, a drawn place -/
theorem ED.pickS {ws : List Str} {tr : TA} {j : Nat} {w : Str} (ht : ∀ (Q' : List V → Hp → Prop) (H1 : Hp), Q' (ws.map V.str) H1 → tr σ H1 Q') (hl : ws.length ≤ 1000) (he : ED T te σ H (.num j)) (hw : ws[j]? = some w) : ED T (tOp (rIxL K) (tLst tr) te) σ H (.text w) := fun H1 f1 Q q =>
  op_raw (lst_raw (vs := ws.map V.str) (fun Q' q => ht Q' H1 q) (by rw [List.length_map]; exact hl) fun p hp => by
    have f2 := (fr f1).new hp (.lst (ws.map V.str))
    exact he _ (f1.trans f2) _ fun v H3 f3 r => ⟨p, _, (j : Int), .str w, rfl, r, SqL.of (f3.lst upd_same), atI_nat (by rw [List.getElem?_map, hw]; rfl), q _ H3 (f2.trans f3) rfl⟩)
end
section
variable {P : Program} {w : World} {K : PySem.W.Frag} {mg : Str → Option Value} {base : Heap} {T : Tbl} (g : G K mg base T)
abbrev N_law_limit : List Str := ["_law_box_here", "_law_kind_here", "_law_depth", "_law_which", "_law_first", "_law_place"]
theorem sc_law_limit : FnScope N_law_limit ["_law_box_here", "_law_kind_here", "_law_depth"] (defScope s_law_limit) := ⟨rfl, rfl, rfl, by decide +kernel, rfl, by decide +kernel, by decide +kernel⟩
theorem ok_law_limit_step (n : Nat) (OK_law_limit : FnOk P w K mg base CX0 (n + 1) g.law_limit.a g.law_limit.d ["_law_box_here", "_law_kind_here", "_law_depth"] (spLim T n)) : FnOk P w K mg base CX0 (n + 2) g.law_limit.a g.law_limit.d ["_law_box_here", "_law_kind_here", "_law_depth"] (spLim T (n + 1)) := by
  have OK_law_take := ok_law_take (P := P) (w := w) g
  refine g.law_limit.F.ok (k := n + 1) sc_law_limit (fun vs H Q E h => by obtain ⟨b, l, ns, k, kv, m, rfl, _⟩ := h; rfl) fun cdv A outer st H vs Q E hr h => ?_
  obtain ⟨b, l, ns, k, kv, m, rfl, hk, kw, k8, hm, bx, ht, q⟩ := h
  refine ⟨_, PSs.nox (pss_cons (ps_set (i := 3) sc_law_limit.nd rfl (Or.inl rfl) (pe_call OK_law_take (hr.mono (by omega)) rfl g.law_take.m g.law_take.F.kp (b_law_take g.law_take) .nil pass0 (pa_cons (pv 0) (pa_cons pe_int pa_nil)))) (pss_cons (ps_if (PW.pt (pw_and (pt_cmpR op_gt (pv 2) pe_int (nomark _)) (pw_and1 (pt_cmpR op_gt (pv 3) pe_int (nomark _))))) (pss_cons (ps_set (i := 4) sc_law_limit.nd rfl (Or.inl rfl) (pe_call OK_law_limit (hr.mono (by omega)) rfl g.law_limit.m g.law_limit.F.kp (b_law_limit g.law_limit) .nil pass0 (pa_cons (pv 0) (pa_cons (pv 1) (pa_cons (pe_op op_sub (pv 2) pe_int) pa_nil))))) (pss_cons (ps_if (pt_cmpR op_eq (pv 3) pe_int (nomark _)) (pss_one (ps_ret (pe_tup (pa_cons pe_str (pa_cons (pv 4) pa_nil))))) pss_nil) (pss_one (ps_ret (pe_tup (pa_cons (pe_ix (ix_listK K rfl) (pe_lst (pa_cons pe_str (pa_cons pe_str pa_nil))) (pe_op op_sub (pv 3) pe_int) (fun _ _ => rfl)) (pa_cons (pv 4) (pa_cons (pe_call OK_law_limit (hr.mono (by omega)) rfl g.law_limit.m g.law_limit.F.kp (b_law_limit g.law_limit) .nil pass0 (pa_cons (pv 0) (pa_cons (pv 1) (pa_cons (pe_op op_sub (pv 2) pe_int) pa_nil)))) pa_nil)))))))) pss_nil) (pss_cons (ps_if (pt_cmpR (op_eqR (hu64 hr)) (pv 1) pe_str (nomark _)) (pss_cons (ps_if (pt_cmpR op_eq (pe_op op_mod (pv 3) pe_int) pe_int (nomark _)) (pss_one (ps_ret (pe_tup (pa_cons pe_str (pa_cons (pe_op op_sub (pe_call OK_law_take (hr.mono (by omega)) rfl g.law_take.m g.law_take.F.kp (b_law_take g.law_take) .nil pass0 (pa_cons (pv 0) (pa_cons pe_int pa_nil))) pe_int) pa_nil))))) pss_nil) (pss_one (ps_ret (pe_tup (pa_cons pe_str (pa_cons (pe_op op_add pe_int (pe_call OK_law_take (hr.mono (by omega)) rfl g.law_take.m g.law_take.F.kp (b_law_take g.law_take) .nil pass0 (pa_cons (pv 0) (pa_cons pe_int pa_nil)))) pa_nil)))))) pss_nil) (pss_cons (ps_if (pt_cmpR (op_eqR (hu64 hr)) (pv 1) pe_str (nomark _)) (pss_one (ps_ret (pe_tup (pa_cons pe_str (pa_cons (pe_ix (ix_listK K rfl) (pe_lst (pa_cons pe_str (pa_cons pe_str (pa_cons pe_str pa_nil)))) (pe_call OK_law_take (hr.mono (by omega)) rfl g.law_take.m g.law_take.F.kp (b_law_take g.law_take) .nil pass0 (pa_cons (pv 0) (pa_cons pe_int pa_nil))) (fun _ _ => rfl)) pa_nil))))) pss_nil) (pss_cons (ps_if (pt_cmpR op_eq (pe_ix (ix_tupK K rfl) (pv 1) pe_int (fun _ _ => rfl)) pe_str (nomark _)) (pss_cons (ps_set (i := 5) sc_law_limit.nd rfl (Or.inl rfl) (pe_call OK_law_take (hr.mono (by omega)) rfl g.law_take.m g.law_take.F.kp (b_law_take g.law_take) .nil pass0 (pa_cons (pv 0) (pa_cons (pe_callB (cr_lenK K rfl) rfl g.n_len boot_len (pa_cons (pe_ix (ix_tupK K rfl) (pv 1) pe_int (fun _ _ => rfl)) pa_nil)) pa_nil)))) (pss_one (ps_ret (pe_tup (pa_cons pe_str (pa_cons (pv 5) (pa_cons (pe_call OK_law_limit (hr.mono (by omega)) rfl g.law_limit.m g.law_limit.F.kp (b_law_limit g.law_limit) .nil pass0 (pa_cons (pv 0) (pa_cons (pe_ix (ix_tupK K rfl) (pe_ix (ix_tupK K rfl) (pv 1) pe_int (fun _ _ => rfl)) (pv 5) (fun _ _ => rfl)) (pa_cons pe_int pa_nil)))) pa_nil))))))) pss_nil) (pss_cons (ps_if (PW.pt (pw_and (pt_cmpR (op_eqR (hu64 hr)) (pv 1) (pe_tup (pa_cons pe_str (pa_cons pe_str pa_nil))) (nomark _)) (pw_and1 (pt_cmpR op_lt (pv 3) pe_int (nomark _))))) (pss_one (ps_ret (pe_ix (ix_listK K rfl) (pe_lst (pa_cons (pe_tup (pa_cons pe_str pa_nil)) (pa_cons (pe_tup (pa_cons pe_str pa_nil)) (pa_cons (pe_tup (pa_cons pe_str (pa_cons (pe_call OK_law_limit (hr.mono (by omega)) rfl g.law_limit.m g.law_limit.F.kp (b_law_limit g.law_limit) .nil pass0 (pa_cons (pv 0) (pa_cons pe_str (pa_cons pe_int pa_nil)))) pa_nil))) pa_nil)))) (pv 3) (fun _ _ => rfl)))) pss_nil) (pss_cons (ps_if (pt_cmpR op_eq (pv 3) pe_int (nomark _)) (pss_one (ps_ret (pe_tup (pa_cons pe_str pa_nil)))) pss_nil) (pss_cons (ps_if (pt_cmpR op_eq (pv 3) pe_int (nomark _)) (pss_one (ps_ret (pe_tup (pa_cons pe_str (pa_cons (pe_call OK_law_limit (hr.mono (by omega)) rfl g.law_limit.m g.law_limit.F.kp (b_law_limit g.law_limit) .nil pass0 (pa_cons (pv 0) (pa_cons pe_str (pa_cons pe_int pa_nil)))) pa_nil))))) pss_nil) (pss_one (ps_ret (pe_tup (pa_cons (pe_ix (ix_listK K rfl) (pe_lst (pa_cons pe_str (pa_cons pe_str pa_nil))) (pe_op op_mod (pv 3) pe_int) (fun _ _ => rfl)) (pa_cons (pe_call OK_law_limit (hr.mono (by omega)) rfl g.law_limit.m g.law_limit.F.kp (b_law_limit g.law_limit) .nil pass0 (pa_cons (pv 0) (pa_cons (pe_ix (ix_tupK K rfl) (pv 1) pe_int (fun _ _ => rfl)) (pa_cons pe_int pa_nil)))) pa_nil))))))))))))), ?_⟩
  refine Sq.raw (do_take rfl bx ht (ED.int 9) (by decide) fun r H1 k1 bx1 r0 r1 => ?_)
  have lim : ∀ {σ : L2.St} {H' : Hp} {tk td : TE} {k' : Kd} {m' : Nat} {Q' : VK}, σ[0]? = some (some (.ref b)) → Box l ns H' b → LamX.Tabs T H' → ED T tk σ H' k'.d → ED T td σ H' (.num m') → KW k' → k'.depth ≤ 8 → m' + k'.depth < n → (∀ c v H'', KD T b H' H'' → Box l ns H'' b → Fits c k' → c.depth ≤ m' + k'.depth → Rp H'' c.d v → Q' v H'') → tCall (spLim T n) [] E0 (tCons (tVar 0) (tCons tk (tCons td tNil))) σ H' Q' := fun h0 bx' ht' hk' hm' kw' k8' hn' q' => do_lim h0 bx' ht' hk' hm' kw' k8' hn' q'
  -- a new tuple at the end
  have fin2 : ∀ {H' : Hp} {c : Cond} {s : Str} {e : Dt} {v : V}, KD T b H H' → Box l ns H' b → Fits c k → c.depth ≤ m + k.depth → c.d = .tup [.text s, e] → Rp H' e v → ∀ p, H' p = none → Q (.ref p) (upd H' p (.tup [.str s, v])) := fun {H' c s e v} kd bx' fc cd ec rv p hp => by
    have f := (fr (⟨LamX.ExtN.refl _, kd.t⟩ : Fut T H' H')).new hp (.tup [.str s, v])
    exact q c _ _ (kd.trans f.kd) (bx'.fut f) fc cd (by rw [ec]; exact Rp.new (ds := [.text s, e]) ⟨_, _, rfl, rfl, _, _, rfl, rv, rfl⟩ hp)
  refine Sq.if (b := decide (0 < (m : Int)) && decide (5 < r)) (ET.and (.of (EB.gt (i := m) (j := 0) (ED.var rfl rfl) (ED.int 0))) fun _ => .of (EB.gt (i := r) (j := 5) (ED.var rfl rfl) (ED.int 5))) k1.t (fun hyes H2 f2 => ?_) fun hno H2 f2 => ?_
  · rw [Bool.and_eq_true, decide_eq_true_eq, decide_eq_true_eq] at hyes
    obtain ⟨m', rfl⟩ : ∃ m', m = m' + 1 := ⟨m - 1, by omega⟩
    have k12 := k1.trans f2.kd
    refine Sq.raw (lim rfl (bx1.fut f2) f2.t (ED.var rfl (k12.rp hk)) (ED.cast (ED.sub (i := ((m' + 1 : Nat) : Int)) (j := 1) (ED.var rfl rfl) (ED.int 1)) (show ((m' + 1 : Nat) : Int) - 1 = (m' : Nat) by omega)) kw k8 (by omega) fun c1 v1 H3 k3 bx3 fc1 cd1 rc1 => ?_)
    have k13 := k12.trans k3
    refine Sq.if (.of (EB.eqI (x := r) (y := 6) (ED.var rfl rfl) (ED.int 6))) k3.t (fun he H4 f4 => ?_) fun he H4 f4 => ?_
    · have k14 := k13.trans f4.kd
      exact S.ret (ED.tup (ds := [tx "not", c1.d]) (EDs.cons (ED.str _) (EDs.cons (ED.var rfl (f4.rp rc1)) EDs.nil)) ln2) f4.t fun v H5 f5 rv => q (.not c1) v H5 (k14.trans f5.kd) (bx3.fut (f4.trans f5)) fc1 (by show c1.depth + 1 ≤ _; omega) rv
    · have he := of_decide_eq_false he
      have k14 := k13.trans f4.kd
      rcases (show r = 7 ∨ r = 8 by omega) with e | e
      · subst e
        refine S.retR (tup3_raw ?_)
        refine (ED.pickS (K := K) (ws := ["and", "or"]) (j := 0) (w := "and") (fun Q' H1 q => q) (by decide) (ED.cast (ED.sub (i := 7) (j := 7) (ED.var rfl rfl) (ED.int 7)) rfl) rfl).at f4.t fun v H5 f5 r5 => ⟨_, rfl, ?_⟩
        refine lim rfl (bx3.fut (f4.trans f5)) f5.t (ED.var rfl ((k14.trans f5.kd).rp hk)) (ED.cast (ED.sub (i := ((m' + 1 : Nat) : Int)) (j := 1) (ED.var rfl rfl) (ED.int 1)) (show ((m' + 1 : Nat) : Int) - 1 = (m' : Nat) by omega)) kw k8 (by omega) fun c2 v2 H6 k6 bx6 fc2 cd2 rc2 p hp => ?_
        have f7 := (fr (⟨LamX.ExtN.refl _, k6.t⟩ : Fut T H6 H6)).new hp (.tup [v, v1, v2])
        exact q (.and c1 c2) _ _ (((k14.trans f5.kd).trans k6).trans f7.kd) (bx6.fut f7) ⟨fc1, fc2⟩ (by show max c1.depth c2.depth + 1 ≤ _; omega) (Rp.new (ds := [tx "and", c1.d, c2.d]) ⟨_, _, rfl, k6.rp r5, _, _, rfl, k6.rp ((f4.trans f5).rp rc1), _, _, rfl, rc2, rfl⟩ hp)
      · subst e
        refine S.retR (tup3_raw ?_)
        refine (ED.pickS (K := K) (ws := ["and", "or"]) (j := 1) (w := "or") (fun Q' H1 q => q) (by decide) (ED.cast (ED.sub (i := 8) (j := 7) (ED.var rfl rfl) (ED.int 7)) rfl) rfl).at f4.t fun v H5 f5 r5 => ⟨_, rfl, ?_⟩
        refine lim rfl (bx3.fut (f4.trans f5)) f5.t (ED.var rfl ((k14.trans f5.kd).rp hk)) (ED.cast (ED.sub (i := ((m' + 1 : Nat) : Int)) (j := 1) (ED.var rfl rfl) (ED.int 1)) (show ((m' + 1 : Nat) : Int) - 1 = (m' : Nat) by omega)) kw k8 (by omega) fun c2 v2 H6 k6 bx6 fc2 cd2 rc2 p hp => ?_
        have f7 := (fr (⟨LamX.ExtN.refl _, k6.t⟩ : Fut T H6 H6)).new hp (.tup [v, v1, v2])
        exact q (.or c1 c2) _ _ (((k14.trans f5.kd).trans k6).trans f7.kd) (bx6.fut f7) ⟨fc1, fc2⟩ (by show max c1.depth c2.depth + 1 ≤ _; omega) (Rp.new (ds := [tx "or", c1.d, c2.d]) ⟨_, _, rfl, k6.rp r5, _, _, rfl, k6.rp ((f4.trans f5).rp rc1), _, _, rfl, rc2, rfl⟩ hp)
  · have k12 := k1.trans f2.kd
    have bx2 := bx1.fut f2
    have hk2 := k12.rp hk
    have isK : ∀ {H' : Hp} {s : Str} {σ : L2.St} (hs : ckD (.text s) = true), Fut T H2 H' → σ[1]? = some (some kv) → ET T (tTest (tOp rEqR (tVar 1) (tC (.str s)))) σ H' (decide (k.d = .text s)) := fun hs f h1 => .of (EB.eq (ED.var h1 (f.rp hk2)) (ED.str _) (kd_ok k8) (tx_ok _ hs))
    cases k with
    | b bb =>
      cases bb with
      | int =>
        refine Sq.yes (ET.imp (isK (s := "int") (by decide +kernel) (fr f2) rfl) (decide_eq_true rfl)) f2.t fun H3 f3 => ?_
        have k13 := k12.trans f3.kd
        refine Sq.if (.of (EB.eqI (x := r % 2) (y := 0) (ED.rI (i := r) (j := 2) (R := fun H v => Rp H (.num (r % 2)) v) (ED.var rfl rfl) (ED.int 2) (by decide) fun _ => rfl) (ED.int 0))) f3.t (fun _ H4 f4 => ?_) fun _ H4 f4 => ?_
        · exact S.retR (tup2_raw (op_raw (do_take rfl (bx2.fut (f3.trans f4)) f4.t (ED.int 7) (by decide) fun r2 H5 k5 bx5 _ _ => ⟨r2, 2, rfl, rfl, fin2 (c := .atmost (r2 - 2)) (e := .num (r2 - 2)) ((k13.trans f4.kd).trans k5) bx5 rfl (Nat.zero_le _) rfl rfl⟩)))
        · exact S.retR (tup2_raw (op1_raw (do_take rfl (bx2.fut (f3.trans f4)) f4.t (ED.int 3) (by decide) fun r2 H5 k5 bx5 s0 _ => ⟨1, r2, rfl, rfl, fin2 (c := .divides (1 + r2)) (e := .num (1 + r2)) ((k13.trans f4.kd).trans k5) bx5 ⟨rfl, by omega⟩ (Nat.zero_le _) rfl rfl⟩)))
      | word =>
        refine Sq.no (ET.imp (isK (s := "int") (by decide +kernel) (fr f2) rfl) (by decide +kernel)) f2.t fun H3 f3 => ?_
        refine Sq.yes (ET.imp (isK (s := "word") (by decide +kernel) f3 rfl) (decide_eq_true rfl)) f3.t fun H4 f4 => ?_
        have bx4 := bx2.fut (f3.trans f4)
        have k14 := k12.trans (f3.trans f4).kd
        refine S.retR (tup2_raw (op_raw (lst_raw (vs := [.str "ab", .str "c", .str "zz"]) (fun Q' q => q) (by decide) fun p hp => ?_)))
        have f5 := Fut.newR f4.t hp (.lst [V.str "ab", .str "c", .str "zz"])
        refine do_take rfl (bx4.fut f5) f5.t (ED.int 3) (by decide) fun r2 H6 k6 bx6 s0 s1 => ?_
        have hp6 : H6 p = some (.lst [.str "ab", .str "c", .str "zz"]) := k6.lst (bx4.ne_new hp) upd_same
        have kk := (k14.trans f5.kd).trans k6
        rcases (show r2 = 0 ∨ r2 = 1 ∨ r2 = 2 by omega) with rfl | rfl | rfl
        · exact ⟨p, _, ((0 : Nat) : Int), .str "ab", rfl, rfl, SqL.of hp6, atI_nat rfl, fin2 (c := .isw "ab") (e := tx "ab") kk bx6 rfl (Nat.zero_le _) rfl rfl⟩
        · exact ⟨p, _, ((1 : Nat) : Int), .str "c", rfl, rfl, SqL.of hp6, atI_nat rfl, fin2 (c := .isw "c") (e := tx "c") kk bx6 rfl (Nat.zero_le _) rfl rfl⟩
        · exact ⟨p, _, ((2 : Nat) : Int), .str "zz", rfl, rfl, SqL.of hp6, atI_nat rfl, fin2 (c := .isw "zz") (e := tx "zz") kk bx6 rfl (Nat.zero_le _) rfl rfl⟩
    | tup bs =>
      have hb1 : 1 ≤ bs.length := kw.1
      have hk2 : Rp H2 (.tup [tx "tuple", .tup (bs.map Bs.d)]) kv := hk2
      refine Sq.no (ET.imp (isK (s := "int") (by decide +kernel) (fr f2) rfl) (decide_eq_false fun z => by cases z)) f2.t fun H3 f3 => ?_
      refine Sq.no (ET.imp (isK (s := "word") (by decide +kernel) f3 rfl) (decide_eq_false fun z => by cases z)) f3.t fun H4 f4 => ?_
      have f24 := f3.trans f4
      refine Sq.yes (ET.imp (.of (EB.eqS (x := "tuple") (y := "tuple") (ED.ix (K := K) (i := 0) (ds := [tx "tuple", .tup (bs.map Bs.d)]) (ED.var rfl (f24.rp hk2)) (ED.int 0) rfl) (ED.str _))) (decide_eq_true rfl)) f4.t fun H5 f5 => ?_
      have f25 := f24.trans f5
      refine Sq.raw (do_take rfl (bx2.fut f25) f5.t (ED.cast (ED.lenT (K := K) (ED.ix (K := K) (i := 1) (ds := [tx "tuple", .tup (bs.map Bs.d)]) (ED.var rfl (f25.rp hk2)) (ED.int 1) rfl)) (show (((bs.map Bs.d).length : Nat) : Int) = (bs.length : Int) by rw [List.length_map])) (by omega) fun r2 H6 k6 bx6 s0 s1 => ?_)
      obtain ⟨j, rfl⟩ : ∃ j : Nat, r2 = j := ⟨r2.toNat, by omega⟩
      have hj : bs[j]? = some bs[j] := List.getElem?_eq_getElem (by omega)
      have k16 := (k12.trans f25.kd).trans k6
      have hk6 : Rp H6 (.tup [tx "tuple", .tup (bs.map Bs.d)]) kv := k6.rp (f25.rp hk2)
      refine S.retR (tup3_raw ⟨_, rfl, ?_⟩)
      have hd1 : (Kd.tup bs).depth = 1 := rfl
      refine lim (k' := .b bs[j]) (m' := 0) rfl bx6 k6.t (ED.ix (K := K) (i := j) (ds := bs.map Bs.d) (ED.ix (K := K) (i := 1) (ds := [tx "tuple", .tup (bs.map Bs.d)]) (ED.var rfl hk6) (ED.int 1) rfl) (ED.var rfl rfl) (by rw [List.getElem?_map, hj]; rfl)) (ED.int 0) trivial (Nat.zero_le _) (by show 0 + 0 < n; omega) fun c v H7 k7 bx7 fc cd rc p hp => ?_
      have f8 := (fr (⟨LamX.ExtN.refl _, k7.t⟩ : Fut T H7 H7)).new hp (.tup [.str "item", .int j, v])
      have cd : c.depth ≤ 0 + 0 := cd
      exact q (.item j c) _ _ ((k16.trans k7).trans f8.kd) (bx7.fut f8) ⟨bs, bs[j], rfl, hj, fc⟩ (by show c.depth + 1 ≤ _; omega) (Rp.new (ds := [tx "item", .num j, c.d]) ⟨_, _, rfl, rfl, _, _, rfl, rfl, _, _, rfl, rc, rfl⟩ hp)
    | lst k' =>
      have hk2 : Rp H2 (.tup [tx "list", k'.d]) kv := hk2
      have hd1 : (Kd.lst k').depth = k'.depth + 1 := rfl
      refine Sq.no (ET.imp (isK (s := "int") (by decide +kernel) (fr f2) rfl) (decide_eq_false fun z => by cases z)) f2.t fun H3 f3 => ?_
      refine Sq.no (ET.imp (isK (s := "word") (by decide +kernel) f3 rfl) (decide_eq_false fun z => by cases z)) f3.t fun H4 f4 => ?_
      have f24 := f3.trans f4
      refine Sq.no (ET.imp (.of (EB.eqS (x := "list") (y := "tuple") (ED.ix (K := K) (i := 0) (ds := [tx "list", k'.d]) (ED.var rfl (f24.rp hk2)) (ED.int 0) rfl) (ED.str _))) (by decide +kernel)) f4.t fun H5 f5 => ?_
      have f25 := f24.trans f5
      have k15 := k12.trans f25.kd
      refine Sq.if (b := decide ((Kd.lst k').d = .tup [tx "list", tx "int"]) && decide (r < 3)) (ET.and (.of (EB.eq (d := (Kd.lst k').d) (e := .tup [tx "list", tx "int"]) (ED.var rfl (f25.rp hk2)) (ED.tup (EDs.cons (ED.str _) (EDs.cons (ED.str _) EDs.nil)) ln2) (kd_ok k8) (kd_ok (k := .lst (.b .int)) (by decide)))) fun _ => .of (EB.lt (i := r) (j := 3) (ED.var rfl rfl) (ED.int 3))) f5.t (fun hyes H6 f6 => ?_) fun hno H6 f6 => ?_
      · rw [Bool.and_eq_true, decide_eq_true_eq, decide_eq_true_eq] at hyes
        have ek : k' = .b .int := by
          have h1 : NestedKey.tup [tx "list", k'.d] = .tup [tx "list", tx "int"] := hyes.1
          have h2 : k'.d = tx "int" := by
            injection h1 with h1
            injection h1 with _ h1
            injection h1
          cases k' with
          | b bb =>
            cases bb with
            | int => rfl
            | word => exact absurd h2 (by decide +kernel)
          | tup bs => cases h2
          | lst k => cases h2
        subst ek
        have k16 := k15.trans f6.kd
        have f26 := f25.trans f6
        refine S.retR (op_raw ?_)
        refine ⟨ln1, fun p1 hp1 => ⟨ln1, fun p2 hp2 => ?_⟩⟩
        have g1 := Fut.newR f6.t hp1 (.tup [V.str "rising"])
        have g2' := g1.new hp2 (.tup [V.str "different"])
        refine tup2_raw (lim (k' := .b .int) (m' := 0) rfl ((bx2.fut f26).fut g2') g2'.t (ED.str _) (ED.int 0) trivial (Nat.zero_le _) (by show 0 + 0 < n; omega) fun c v H9 k9 bx9 fc cd rc p3 hp3 => ⟨ln3, fun p4 hp4 => ⟨_, rfl, ?_⟩⟩)
        have cd : c.depth ≤ 0 + 0 := cd
        have g3' := (fr (⟨LamX.ExtN.refl _, k9.t⟩ : Fut T H9 H9)).new hp3 (.tup [V.str "sum", v])
        have g4' := g3'.new hp4 (.lst [.ref p1, .ref p2, .ref p3])
        have kk := ((k16.trans g2'.kd).trans k9).trans g4'.kd
        have bb := bx9.fut g4'
        have a1 : Rp (upd (upd H9 p3 (.tup [V.str "sum", v])) p4 (.lst [.ref p1, .ref p2, .ref p3])) (.tup [tx "rising"]) (.ref p1) := g4'.rp (k9.rp ⟨p1, [V.str "rising"], rfl, by rw [upd_ne (fun z => by rw [← z, upd_same] at hp2; cases hp2), upd_same], _, _, rfl, rfl, rfl⟩)
        have a2 : Rp (upd (upd H9 p3 (.tup [V.str "sum", v])) p4 (.lst [.ref p1, .ref p2, .ref p3])) (.tup [tx "different"]) (.ref p2) := g4'.rp (k9.rp ⟨p2, [V.str "different"], rfl, upd_same, _, _, rfl, rfl, rfl⟩)
        have a3 : Rp (upd (upd H9 p3 (.tup [V.str "sum", v])) p4 (.lst [.ref p1, .ref p2, .ref p3])) (.tup [tx "sum", c.d]) (.ref p3) := (Rp.new (ds := [tx "sum", c.d]) ⟨_, _, rfl, rfl, _, _, rfl, rc, rfl⟩ hp3).tk (TK.new hp4 _)
        rcases (show r = 0 ∨ r = 1 ∨ r = 2 by omega) with rfl | rfl | rfl
        · exact ⟨p4, _, ((0 : Nat) : Int), .ref p1, rfl, rfl, SqL.of upd_same, atI_nat rfl, q .rising _ _ kk bb rfl (Nat.zero_le _) a1⟩
        · exact ⟨p4, _, ((1 : Nat) : Int), .ref p2, rfl, rfl, SqL.of upd_same, atI_nat rfl, q .different _ _ kk bb ⟨_, rfl⟩ (Nat.zero_le _) a2⟩
        · exact ⟨p4, _, ((2 : Nat) : Int), .ref p3, rfl, rfl, SqL.of upd_same, atI_nat rfl, q (.sum c) _ _ kk bb ⟨rfl, fc⟩ (by show c.depth + 1 ≤ _; omega) a3⟩
      · have k16 := k15.trans f6.kd
        have f26 := f25.trans f6
        refine Sq.if (.of (EB.eqI (x := r) (y := 3) (ED.var rfl rfl) (ED.int 3))) f6.t (fun _ H7 f7 => ?_) fun _ H7 f7 => ?_
        · exact S.ret (ED.tup (ds := [tx "different"]) (EDs.cons (ED.str _) EDs.nil) ln1) f7.t fun v H8 f8 rv => q .different v H8 ((k16.trans f7.kd).trans f8.kd) (bx2.fut ((f26.trans f7).trans f8)) ⟨k', rfl⟩ (Nat.zero_le _) rv
        · have f27 := f26.trans f7
          have k17 := k16.trans f7.kd
          refine Sq.if (.of (EB.eqI (x := r) (y := 4) (ED.var rfl rfl) (ED.int 4))) f7.t (fun _ H8 f8 => ?_) fun _ H8 f8 => ?_
          · exact S.retR (tup2_raw (lim (k' := .b .int) (m' := 0) rfl (bx2.fut (f27.trans f8)) f8.t (ED.str _) (ED.int 0) trivial (Nat.zero_le _) (by show 0 + 0 < n; omega) fun c v H9 k9 bx9 fc cd rc p hp => fin2 (c := .size c) (e := c.d) ((k17.trans f8.kd).trans k9) bx9 ⟨⟨k', rfl⟩, fc⟩ (by have cd : c.depth ≤ 0 + 0 := cd; show c.depth + 1 ≤ _; omega) rfl rc p hp))
          · have k18 := k17.trans f8.kd
            have f28 := f27.trans f8
            refine S.retR (tup2g_raw ?_)
            rcases (show r % 2 = 0 ∨ r % 2 = 1 by omega) with e | e
            · refine (ED.pickS (K := K) (ws := ["every", "some"]) (j := 0) (w := "every") (fun Q' H1 q => q) (by decide) (ED.cast (ED.rI (i := r) (j := 2) (C := fun _ j => 0 < j) (g := fun i j => V.int (i % j)) (R := fun H v => Rp H (.num (r % 2)) v) (ED.var rfl rfl) (ED.int 2) (by decide) fun _ => rfl) e) rfl).at f8.t fun v H9 f9 r9 => ?_
              refine lim (k' := k') (m' := 0) rfl (bx2.fut (f28.trans f9)) f9.t (ED.ix (K := K) (i := 1) (ds := [tx "list", k'.d]) (ED.var rfl ((f28.trans f9).rp hk2)) (ED.int 1) rfl) (ED.int 0) kw (by omega) (by omega) fun c v2 H10 k10 bx10 fc cd rc p hp => ?_
              have r9 : v = .str "every" := r9
              subst r9
              exact fin2 (c := .every c) (e := c.d) ((k18.trans f9.kd).trans k10) bx10 ⟨k', rfl, fc⟩ (by show c.depth + 1 ≤ _; omega) rfl rc p hp
            · refine (ED.pickS (K := K) (ws := ["every", "some"]) (j := 1) (w := "some") (fun Q' H1 q => q) (by decide) (ED.cast (ED.rI (i := r) (j := 2) (C := fun _ j => 0 < j) (g := fun i j => V.int (i % j)) (R := fun H v => Rp H (.num (r % 2)) v) (ED.var rfl rfl) (ED.int 2) (by decide) fun _ => rfl) e) rfl).at f8.t fun v H9 f9 r9 => ?_
              refine lim (k' := k') (m' := 0) rfl (bx2.fut (f28.trans f9)) f9.t (ED.ix (K := K) (i := 1) (ds := [tx "list", k'.d]) (ED.var rfl ((f28.trans f9).rp hk2)) (ED.int 1) rfl) (ED.int 0) kw (by omega) (by omega) fun c v2 H10 k10 bx10 fc cd rc p hp => ?_
              have r9 : v = .str "some" := r9
              subst r9
              exact fin2 (c := .some c) (e := c.d) ((k18.trans f9.kd).trans k10) bx10 ⟨k', rfl, fc⟩ (by show c.depth + 1 ≤ _; omega) rfl rc p hp
theorem ok_law_limit : ∀ n, FnOk P w K mg base CX0 (n + 1) g.law_limit.a g.law_limit.d ["_law_box_here", "_law_kind_here", "_law_depth"] (spLim T n)
  | 0 => ⟨fun vs H Q E ⟨b, l, ns, k, kv, m, e, _⟩ => by rw [e]; rfl, fun A outer s H args us vs Q E _ _ _ _ ⟨_, _, _, _, _, _, _, _, _, _, h, _⟩ => absurd h (Nat.not_lt_zero _)⟩
  | n + 1 => ok_law_limit_step g n (ok_law_limit n)
end
end CR

set_option Elab.async false
set_option linter.all false
set_option maxRecDepth 100000
set_option maxHeartbeats 4000000
namespace CR
open PySem PySem.Spec PyProof.Rows L2
/-! ### x in a list, of data -/
def rInLR : R2 := fun x y H Q => ∃ d ds, Rp H d x ∧ Ld H ds y ∧ okD d ∧ (∀ e ∈ ds, okD e) ∧ Q (.bl (ds.any fun z => decide (z = d))) H
theorem op_inLR {X : Cx} (hu : X.A.units + 65 < cLine) : OpR X (compareOp .In) rInLR := by
  intro pins s σ H x y v u Q I rx ry h
  obtain ⟨d, ds, hd, ⟨p, xs, rfl, h1, h2⟩, sd, se, q⟩ := h
  obtain ⟨as, r1⟩ := Dp.reads I d.data x v hd.dp rx
  obtain ⟨bs, r2⟩ := Dp.reads I (.list (NestedKey.datas ds)) (.ref p) u (.lst (SqL.of h1) h2.dp) ry
  refine SeqAt.in_list_reads r2 r1 (canLay_all se) (SeqAt.canLay_of_shaped sd) (room_in_shaped sd hu) ⟨.bl _, H, I, rfl, ?_⟩
  rw [any_datas]
  exact q
def lawWords : List Str := ["zz", "ab", "c"]
/-- what the law's generators look like: of a kind, of a depth -/
inductive GOk : Kd → Nat → Gen → Prop
  | one {k m g} (h : GOk k m g) : GOk k (m + 1) (.one g)
  | two {k m g g'} (h : GOk k m g) (h' : GOk k m g') : GOk k (m + 1) (.two g g')
  | kept {k m g c} (h : GOk k m g) (hc : Fits c k) (hd : c.depth ≤ 1 + k.depth) : GOk k (m + 1) (.kept g c)
  | plus {m g} (h : GOk (.b .int) m g) (n : Int) : GOk (.b .int) (m + 1) (.turned g (.plus n))
  | times {m g} (h : GOk (.b .int) m g) (n : Int) (n0 : -2 ≤ n) (n1 : n ≤ 2) : GOk (.b .int) (m + 1) (.turned g (.times n))
  | len {m} : GOk (.b .int) (m + 1) (.turned (.list (.leaf (.int 0 1)) 0 2) .length)
  | sum {m} : GOk (.b .int) (m + 1) (.turned (.list (.leaf (.int 0 1)) 0 2) .sum)
  | int {m} (lo w : Int) (w0 : 0 ≤ w) (w1 : w ≤ 3) : GOk (.b .int) m (.leaf (.int lo (lo + w)))
  | pick {m} (j : Nat) (j0 : 1 ≤ j) (j1 : j ≤ 3) : GOk (.b .word) m (.leaf (.pick (lawWords.take j)))
  | tuple {m bs ls} (h1 : 1 ≤ bs.length) (h2 : bs.length ≤ 2) (hl : ls.length = bs.length) (h : ∀ (i : Nat) b l, bs[i]? = some b → ls[i]? = some l → GOk (.b b) 0 (.leaf l)) : GOk (.tup bs) m (.tuple ls)
  | rev {m k g} (h : GOk (.lst k) m g) : GOk (.lst k) (m + 1) (.turned g .reversed)
  | sort {m b g} (h : GOk (.lst (.b b)) m g) : GOk (.lst (.b b)) (m + 1) (.turned g .sorted)
  | rep {m k g} (lo hi : Int) (l0 : -1 ≤ lo) (l1 : lo ≤ 0) (h0 : 1 ≤ hi) (h1 : hi ≤ 2) (h : GOk k 0 g) : GOk (.lst k) m (.rep lo hi g)
  | list {m k g} (l mm : Nat) (l1 : l ≤ 1) (lm : l ≤ mm) (m2 : mm ≤ 2) (h : GOk k (m - 1) g) : GOk (.lst k) m (.list g l mm)
def spGen (T : Tbl) (n : Nat) : Sp := fun vs H Q _ => ∃ (b l : Addr) (ns : List Int) (k : Kd) (kv : V) (m : Nat), vs = [.ref b, kv, .int m] ∧ Rp H k.d kv ∧ KW k ∧ k.depth ≤ 8 ∧ m + k.depth < n ∧ n ≤ 10 ∧ Box l ns H b ∧ LamX.Tabs T H ∧ ∀ gen v H', KD T b H H' → Box l ns H' b → GOk k m gen → Rp H' gen.d v → Q v H'
section
variable {T : Tbl} {σ : L2.St} {H : Hp} {K : PySem.W.Frag} {b l : Addr} {ns : List Int} {te tb tc : TE} {Q : VK}
theorem do_gen {E : XK} {i n m : Nat} {k : Kd} (hi : σ[i]? = some (some (.ref b))) (bx : Box l ns H b) (ht : LamX.Tabs T H) (hk : ED T te σ H k.d) (hm : ED T tb σ H (.num m)) (kw : KW k) (k8 : k.depth ≤ 8) (hn : m + k.depth < n) (hn10 : n ≤ 10) (q : ∀ gen v H', KD T b H H' → Box l ns H' b → GOk k m gen → Rp H' gen.d v → Q v H') : tCall (spGen T n) [] E (tCons (tVar i) (tCons te (tCons tb tNil))) σ H Q :=
  ⟨_, hi, hk.at ht fun v H2 f r => (hm.fut f).at f.t fun v2 H3 f3 r3 => ⟨b, l, ns, k, v, m, by rw [show v2 = _ from r3]; rfl, f3.rp r, kw, k8, hn, hn10, bx.fut (f.trans f3), f3.t, fun c v H' k' bx' fc rc => q c v H' ((f.trans f3).kd.trans k') bx' fc rc⟩⟩
theorem lc_tup1 {gt : TG} {tt : TT} {vs : List Nat} (h : te σ H fun x H1 => ∃ a, x = .ref a ∧ (∃ xs, SqT K H1 a xs) ∧ LcB (Itt K a) gt tt tb vs σ H1 Q) : tLc (iTup K te) gt tt tb vs σ H Q := h
theorem leaves : ∀ {as : List Gen}, (∀ a ∈ as, ∃ l, a = .leaf l) → ∃ ls : List Lf, as = ls.map .leaf
  | [], _ => ⟨[], rfl⟩
  | a :: as, h => by
    obtain ⟨l, rfl⟩ := h a List.mem_cons_self
    obtain ⟨ls, rfl⟩ := leaves fun b hb => h b (List.mem_cons_of_mem _ hb)
    exact ⟨l :: ls, rfl⟩
theorem gok_leaf {b : Bs} {a : Gen} (h : GOk (.b b) 0 a) : ∃ l, a = .leaf l := by cases h <;> exact ⟨_, rfl⟩
theorem EB.inInt {i : Nat} {r : Int} {ws : List Int} {t : TA} (h : σ[i]? = some (some (.int r))) (ht : ∀ Q : List V → Hp → Prop, ∀ H1, Q (ws.map V.int) H1 → t σ H1 Q) (hl : ws.length ≤ 1000) : EB T (tOp (rIn K false) (tVar i) (tLst t)) σ H (inV (.int r) (ws.map V.int)) := fun H1 f1 Q q =>
  ⟨_, h, ht _ H1 ⟨by rw [List.length_map]; exact line6 (by omega), fun p hp => ⟨p, _, rfl, .inl (SqL.of upd_same), rfl, List.all_eq_true.mpr fun v hv => by
    obtain ⟨w', _, rfl⟩ := List.mem_map.mp hv
    rfl, q _ _ ((fr f1).new hp _) rfl⟩⟩⟩
theorem in567 {r : Int} (h : inV (.int r) ([5, 6, 7].map V.int) = true) : r = 5 ∨ r = 6 ∨ r = 7 := by
  simp [inV, eqV] at h
  omega
theorem lst3_raw (h : te σ H fun x H1 => tb σ H1 fun y H2 => tc σ H2 fun z H3 => ∀ p, H3 p = none → Q (.ref p) (upd H3 p (.lst [x, y, z]))) : tLst (tCons te (tCons tb (tCons tc tNil))) σ H Q := by
  have e : (fun (x : V) (H1 : Hp) => tb σ H1 fun y H2 => tc σ H2 fun z H3 => [x, y, z].length ≤ sizeLine ∧ ∀ p, H3 p = none → Q (.ref p) (upd H3 p (.lst [x, y, z]))) = fun (x : V) (H1 : Hp) => tb σ H1 fun y H2 => tc σ H2 fun z H3 => ∀ p, H3 p = none → Q (.ref p) (upd H3 p (.lst [x, y, z])) := by
    funext x H1
    congr 1
    funext y H2
    congr 1
    funext z H3
    exact propext ⟨fun h => h.2, fun h => ⟨ln3, h⟩⟩
  show te σ H fun x H1 => tb σ H1 fun y H2 => tc σ H2 fun z H3 => [x, y, z].length ≤ sizeLine ∧ ∀ p, H3 p = none → Q (.ref p) (upd H3 p (.lst [x, y, z]))
  rw [e]
  exact h
theorem EB.inLR {d : Dt} {ds : List Dt} (ha : ED T te σ H d) (hb : EL T tb σ H ds) (h1 : okD d) (h2 : ∀ e ∈ ds, okD e) : EB T (tOp rInLR te tb) σ H (ds.any fun z => decide (z = d)) := fun H1 f1 Q q =>
  ha H1 f1 _ fun x H2 f2 rx => hb H2 (f1.trans f2) _ fun y H3 f3 ry => ⟨d, ds, f3.rp rx, ry, h1, h2, q _ H3 (f2.trans f3) rfl⟩
theorem tup4_raw {td : TE} (h : te σ H fun x H1 => tb σ H1 fun y H2 => tc σ H2 fun z H3 => td σ H3 fun u H4 => 4 ≤ sizeLine ∧ ∀ p, H4 p = none → Q (.ref p) (upd H4 p (.tup [x, y, z, u]))) : tTup (tCons te (tCons tb (tCons tc (tCons td tNil)))) σ H Q := h
theorem ED.pred {m : Nat} {j : Nat} (h : σ[j]? = some (some (.int m))) : ED T (tCB (fun xs H Q => ∃ i j, xs = [.int i, .int j] ∧ Q (.int (if j > i then j else i)) H) (tCons (tC (.int 0)) (tCons (tOp (L2.rI0 fun i j => .int (i - j)) (tVar j) (tC (.int 1))) tNil))) σ H (.num ((m - 1 : Nat) : Int)) := fun H1 f1 Q q =>
  ⟨_, h, m, 1, rfl, rfl, 0, (m : Int) - 1, rfl, q _ H1 (fr f1) (by
    show V.int _ = V.int _
    congr 1
    split <;> omega)⟩
theorem con_raw {v : V} (h : Q v H) : tC v σ H Q := h
theorem sl_raw {r : V → Option Int → Option Int → Hp → VK → Prop} (h : te σ H fun x H1 => tb σ H1 fun y H2 => ∃ i, y = .int i ∧ r x none (some i) H2 Q) : tSl r te tNoPart (tPart tb) σ H Q := h
theorem tupc_raw {vs : List V} {tr : TA} (ht : ∀ Q' : List V → Hp → Prop, Q' vs H → tr σ H Q') (hl : vs.length ≤ 1000) (h : ∀ p, H p = none → Q (.ref p) (upd H p (.tup vs))) : tTup tr σ H Q := ht _ ⟨line6 (by omega), h⟩
theorem part_raw {Q' : Option Int → Hp → Prop} (h : te σ H fun x H1 => ∃ i, x = .int i ∧ Q' (some i) H1) : tPart te σ H Q' := h
theorem upto_raw {ds : List Dt} {k : Nat} {x : V} (ht : LamX.Tabs T H) (rx : Rp H (.tup ds) x) (q : ∀ v H', Fut T H H' → Rp H' (.tup (ds.take k)) v → Q v H') : rSlA K x none (some (k : Int)) H Q := by
  obtain ⟨a, xs, e, h1, h2⟩ := rx
  have hc : cutV xs none (some (k : Int)) = xs.take k := by
    unfold cutV
    rw [HT.sIx_none, HT.sIx_nat, List.drop_zero, Nat.sub_zero]
    by_cases h : k ≤ xs.length
    · rw [Nat.min_eq_left h]
    · rw [Nat.min_eq_right (by omega), List.take_of_length_le (Nat.le_refl _), List.take_of_length_le (by omega)]
  refine ⟨a, xs, e, SqT.of h1, fun hw => q _ H (Fut.refl ht) ⟨a, xs, rfl, h1, ?_⟩, fun _ p hp => q _ _ (Fut.newR ht hp _) ?_⟩
  · have hw2 := hw.2
    rw [HT.sIx_nat] at hw2
    have hk : xs.length ≤ k := by omega
    rw [List.take_of_length_le (by rw [← h2.length]; exact hk)]
    exact h2
  · rw [hc]
    exact Rp.new (h2.take k) hp
end
section
variable {P : Program} {w : World} {K : PySem.W.Frag} {mg : Str → Option Value} {base : Heap} {T : Tbl} (g : G K mg base T)
abbrev N_law_gen : List Str := ["_law_box_here", "_law_kind_here", "_law_depth", "_law_which", "_law_some_here", "_law_low", "_law_least", "_law_j", "_law_part"]
theorem sc_law_gen : FnScope N_law_gen ["_law_box_here", "_law_kind_here", "_law_depth"] (defScope s_law_gen) := ⟨rfl, rfl, rfl, by decide +kernel, rfl, by decide +kernel, by decide +kernel⟩
theorem ok_law_gen_step (n : Nat) (OK_law_gen : FnOk P w K mg base CX0 (n + 20) g.law_gen.a g.law_gen.d ["_law_box_here", "_law_kind_here", "_law_depth"] (spGen T n)) : FnOk P w K mg base CX0 (n + 21) g.law_gen.a g.law_gen.d ["_law_box_here", "_law_kind_here", "_law_depth"] (spGen T (n + 1)) := by
  have OK_law_take := ok_law_take (P := P) (w := w) g
  have OK_law_limit := ok_law_limit (P := P) (w := w) g 12
  refine g.law_gen.F.ok (k := n + 20) sc_law_gen (fun vs H Q E h => by obtain ⟨b, l, ns, k, kv, m, rfl, _⟩ := h; rfl) fun cdv A outer st H vs Q E hr h => ?_
  obtain ⟨b, l, ns, k, kv, m, rfl, hk, kw, k8, hm, n10, bx, ht, q⟩ := h
  refine ⟨_, PSs.nox (pss_cons (ps_set (i := 3) sc_law_gen.nd rfl (Or.inl rfl) (pe_call OK_law_take (hr.mono (by omega)) rfl g.law_take.m g.law_take.F.kp (b_law_take g.law_take) .nil pass0 (pa_cons (pv 0) (pa_cons pe_int pa_nil)))) (pss_cons (ps_if (PW.pt (pw_and (pt_cmpR op_gt (pv 2) pe_int (nomark _)) (pw_and1 (pt_cmpR op_eq (pv 3) pe_int (nomark _))))) (pss_one (ps_ret (pe_tup (pa_cons pe_str (pa_cons (pe_callTy (cr_tupleK K rfl) rfl g.n_tuple (by decide +kernel) (pa_cons (pe_lc (own := [("_law_j", 7)]) rfl sc_law_gen.nd (pi_range1 rfl g.n_range (pa_cons (pe_op op_add pe_int (pe_call OK_law_take (hr.mono (by omega)) rfl g.law_take.m g.law_take.F.kp (b_law_take g.law_take) .nil pass0 (pa_cons (pv 0) (pa_cons pe_int pa_nil)))) pa_nil)) (blkOk_by (own := [("_law_j", 7)]) (N := N_law_gen) (sc := defScope s_law_gen) (by decide +kernel)) (fun _ _ _ _ _ => (pg_name (i := 7) sc_law_gen.nd rfl (Or.inl rfl))) (fun _ _ _ _ _ => pts_nil) (fun _ _ _ _ _ => (pe_call OK_law_gen (hr.mono (by omega)) rfl g.law_gen.m g.law_gen.F.kp (b_law_gen g.law_gen) .nil pass0 (pa_cons (pv 0) (pa_cons (pv 1) (pa_cons (pe_op op_sub (pv 2) pe_int) pa_nil)))))) pa_nil)) pa_nil))))) pss_nil) (pss_cons (ps_if (PW.pt (pw_and (pt_cmpR op_gt (pv 2) pe_int (nomark _)) (pw_and1 (pt_cmpR op_eq (pv 3) pe_int (nomark _))))) (pss_one (ps_ret (pe_tup (pa_cons pe_str (pa_cons (pe_call OK_law_gen (hr.mono (by omega)) rfl g.law_gen.m g.law_gen.F.kp (b_law_gen g.law_gen) .nil pass0 (pa_cons (pv 0) (pa_cons (pv 1) (pa_cons (pe_op op_sub (pv 2) pe_int) pa_nil)))) (pa_cons (pe_call OK_law_limit (hr.mono (by omega)) rfl g.law_limit.m g.law_limit.F.kp (b_law_limit g.law_limit) .nil pass0 (pa_cons (pv 0) (pa_cons (pv 1) (pa_cons pe_int pa_nil)))) pa_nil)))))) pss_nil) (pss_cons (ps_if (pt_cmpR (op_eqR (hu64 hr)) (pv 1) pe_str (nomark _)) (pss_cons (ps_if (PW.pt (pw_and (pt_cmpR op_gt (pv 2) pe_int (nomark _)) (pw_and1 (pt_cmpR (op_inK K rfl) (pv 3) (pe_lst (pa_cons pe_int (pa_cons pe_int (pa_cons pe_int pa_nil)))) (by rfl))))) (pss_cons (ps_set (i := 4) sc_law_gen.nd rfl (Or.inl rfl) (pe_ix (ix_listK K rfl) (pe_lst (pa_cons (pe_tup (pa_cons pe_str (pa_cons (pe_op op_sub (pe_call OK_law_take (hr.mono (by omega)) rfl g.law_take.m g.law_take.F.kp (b_law_take g.law_take) .nil pass0 (pa_cons (pv 0) (pa_cons pe_int pa_nil))) pe_int) pa_nil))) (pa_cons (pe_tup (pa_cons pe_str (pa_cons (pe_op op_sub (pe_call OK_law_take (hr.mono (by omega)) rfl g.law_take.m g.law_take.F.kp (b_law_take g.law_take) .nil pass0 (pa_cons (pv 0) (pa_cons pe_int pa_nil))) pe_int) pa_nil))) (pa_cons (pe_tup (pa_cons pe_str pa_nil)) pa_nil)))) (pe_op op_sub (pv 3) pe_int) (fun _ _ => rfl))) (pss_cons (ps_if (pt_cmpR op_eq (pv 3) pe_int (nomark _)) (pss_one (ps_ret (pe_tup (pa_cons pe_str (pa_cons (pe_tup (pa_cons pe_str (pa_cons (pe_tup (pa_cons pe_str (pa_cons pe_int (pa_cons pe_int pa_nil)))) (pa_cons pe_int (pa_cons pe_int pa_nil))))) (pa_cons (pe_ix (ix_listK K rfl) (pe_lst (pa_cons (pe_tup (pa_cons pe_str pa_nil)) (pa_cons (pe_tup (pa_cons pe_str pa_nil)) pa_nil))) (pe_call OK_law_take (hr.mono (by omega)) rfl g.law_take.m g.law_take.F.kp (b_law_take g.law_take) .nil pass0 (pa_cons (pv 0) (pa_cons pe_int pa_nil))) (fun _ _ => rfl)) pa_nil)))))) pss_nil) (pss_one (ps_ret (pe_tup (pa_cons pe_str (pa_cons (pe_call OK_law_gen (hr.mono (by omega)) rfl g.law_gen.m g.law_gen.F.kp (b_law_gen g.law_gen) .nil pass0 (pa_cons (pv 0) (pa_cons pe_str (pa_cons (pe_op op_sub (pv 2) pe_int) pa_nil)))) (pa_cons (pv 4) pa_nil)))))))) pss_nil) (pss_cons (ps_set (i := 5) sc_law_gen.nd rfl (Or.inl rfl) (pe_op op_sub (pe_call OK_law_take (hr.mono (by omega)) rfl g.law_take.m g.law_take.F.kp (b_law_take g.law_take) .nil pass0 (pa_cons (pv 0) (pa_cons pe_int pa_nil))) pe_int)) (pss_one (ps_ret (pe_tup (pa_cons pe_str (pa_cons (pv 5) (pa_cons (pe_op op_add (pv 5) (pe_call OK_law_take (hr.mono (by omega)) rfl g.law_take.m g.law_take.F.kp (b_law_take g.law_take) .nil pass0 (pa_cons (pv 0) (pa_cons pe_int pa_nil)))) pa_nil)))))))) pss_nil) (pss_cons (ps_if (pt_cmpR (op_eqR (hu64 hr)) (pv 1) pe_str (nomark _)) (pss_one (ps_ret (pe_tup (pa_cons pe_str (pa_cons (pe_slice (sl_tupK K rfl) (pe_tup (pa_cons pe_str (pa_cons pe_str (pa_cons pe_str pa_nil)))) po_none (po_some (pe_op op_add pe_int (pe_call OK_law_take (hr.mono (by omega)) rfl g.law_take.m g.law_take.F.kp (b_law_take g.law_take) .nil pass0 (pa_cons (pv 0) (pa_cons pe_int pa_nil)))))) pa_nil))))) pss_nil) (pss_cons (ps_if (pt_cmpR op_eq (pe_ix (ix_tupK K rfl) (pv 1) pe_int (fun _ _ => rfl)) pe_str (nomark _)) (pss_one (ps_ret (pe_tup (pa_cons pe_str (pa_cons (pe_callTy (cr_tupleK K rfl) rfl g.n_tuple (by decide +kernel) (pa_cons (pe_lc (own := [("_law_part", 8)]) rfl sc_law_gen.nd (pi_tupK K rfl (pe_ix (ix_tupK K rfl) (pv 1) pe_int (fun _ _ => rfl))) (blkOk_by (own := [("_law_part", 8)]) (N := N_law_gen) (sc := defScope s_law_gen) (by decide +kernel)) (fun _ _ _ _ _ => (pg_name (i := 8) sc_law_gen.nd rfl (Or.inl rfl))) (fun _ _ _ _ _ => pts_nil) (fun _ _ _ _ _ => (pe_call OK_law_gen (hr.mono (by omega)) rfl g.law_gen.m g.law_gen.F.kp (b_law_gen g.law_gen) .nil pass0 (pa_cons (pv 0) (pa_cons (pv 8) (pa_cons pe_int pa_nil)))))) pa_nil)) pa_nil))))) pss_nil) (pss_cons (ps_if (PW.pt (pw_and (pt_cmpR op_eq (pv 3) pe_int (nomark _)) (pw_and1 (pt_cmpR op_gt (pv 2) pe_int (nomark _))))) (pss_one (ps_ret (pe_tup (pa_cons pe_str (pa_cons (pe_call OK_law_gen (hr.mono (by omega)) rfl g.law_gen.m g.law_gen.F.kp (b_law_gen g.law_gen) .nil pass0 (pa_cons (pv 0) (pa_cons (pv 1) (pa_cons (pe_op op_sub (pv 2) pe_int) pa_nil)))) (pa_cons (pe_tup (pa_cons pe_str pa_nil)) pa_nil)))))) pss_nil) (pss_cons (ps_if (PW.pt (pw_and (pt_cmpR op_eq (pv 3) pe_int (nomark _)) (pw_and (pt_cmpR op_gt (pv 2) pe_int (nomark _)) (pw_and1 (pt_cmpR (op_inLR (hu65 hr)) (pe_ix (ix_tupK K rfl) (pv 1) pe_int (fun _ _ => rfl)) (pe_lst (pa_cons pe_str (pa_cons pe_str pa_nil))) (by rfl)))))) (pss_one (ps_ret (pe_tup (pa_cons pe_str (pa_cons (pe_call OK_law_gen (hr.mono (by omega)) rfl g.law_gen.m g.law_gen.F.kp (b_law_gen g.law_gen) .nil pass0 (pa_cons (pv 0) (pa_cons (pv 1) (pa_cons (pe_op op_sub (pv 2) pe_int) pa_nil)))) (pa_cons (pe_tup (pa_cons pe_str pa_nil)) pa_nil)))))) pss_nil) (pss_cons (ps_if (pt_cmpR op_eq (pv 3) pe_int (nomark _)) (pss_one (ps_ret (pe_tup (pa_cons pe_str (pa_cons (pe_tup (pa_cons pe_str (pa_cons (pe_op op_sub (pe_call OK_law_take (hr.mono (by omega)) rfl g.law_take.m g.law_take.F.kp (b_law_take g.law_take) .nil pass0 (pa_cons (pv 0) (pa_cons pe_int pa_nil))) pe_int) (pa_cons (pe_op op_add pe_int (pe_call OK_law_take (hr.mono (by omega)) rfl g.law_take.m g.law_take.F.kp (b_law_take g.law_take) .nil pass0 (pa_cons (pv 0) (pa_cons pe_int pa_nil)))) pa_nil)))) (pa_cons (pe_call OK_law_gen (hr.mono (by omega)) rfl g.law_gen.m g.law_gen.F.kp (b_law_gen g.law_gen) .nil pass0 (pa_cons (pv 0) (pa_cons (pe_ix (ix_tupK K rfl) (pv 1) pe_int (fun _ _ => rfl)) (pa_cons pe_int pa_nil)))) pa_nil)))))) pss_nil) (pss_cons (ps_set (i := 6) sc_law_gen.nd rfl (Or.inl rfl) (pe_call OK_law_take (hr.mono (by omega)) rfl g.law_take.m g.law_take.F.kp (b_law_take g.law_take) .nil pass0 (pa_cons (pv 0) (pa_cons pe_int pa_nil)))) (pss_one (ps_ret (pe_tup (pa_cons pe_str (pa_cons (pe_call OK_law_gen (hr.mono (by omega)) rfl g.law_gen.m g.law_gen.F.kp (b_law_gen g.law_gen) .nil pass0 (pa_cons (pv 0) (pa_cons (pe_ix (ix_tupK K rfl) (pv 1) pe_int (fun _ _ => rfl)) (pa_cons (pe_callB (call_max2 rfl) rfl g.n_max (by decide +kernel) (pa_cons pe_int (pa_cons (pe_op op_sub (pv 2) pe_int) pa_nil))) pa_nil)))) (pa_cons (pv 6) (pa_cons (pe_op op_add (pv 6) (pe_call OK_law_take (hr.mono (by omega)) rfl g.law_take.m g.law_take.F.kp (b_law_take g.law_take) .nil pass0 (pa_cons (pv 0) (pa_cons (pe_op op_sub pe_int (pv 6)) pa_nil)))) pa_nil))))))))))))))))), ?_⟩
  refine Sq.raw (do_take rfl bx ht (ED.int 10) (by decide) fun r H1 k1 bx1 r0 r1 => ?_)
  have gen : ∀ {σ : L2.St} {H' : Hp} {tk td : TE} {k' : Kd} {m' : Nat} {Q' : VK}, σ[0]? = some (some (.ref b)) → Box l ns H' b → LamX.Tabs T H' → ED T tk σ H' k'.d → ED T td σ H' (.num m') → KW k' → k'.depth ≤ 8 → m' + k'.depth < n → (∀ c v H'', KD T b H' H'' → Box l ns H'' b → GOk k' m' c → Rp H'' c.d v → Q' v H'') → tCall (spGen T n) [] E0 (tCons (tVar 0) (tCons tk (tCons td tNil))) σ H' Q' := fun h0 bx' ht' hk' hm' kw' k8' hn' q' => do_gen h0 bx' ht' hk' hm' kw' k8' hn' (by omega) q'
  have fin2 : ∀ {H' : Hp} {c : Gen} {s : Str} {e : Dt} {v : V}, KD T b H H' → Box l ns H' b → GOk k m c → c.d = .tup [.text s, e] → Rp H' e v → ∀ p, H' p = none → Q (.ref p) (upd H' p (.tup [.str s, v])) := fun {H' c s e v} kd bx' fc ec rv p hp => by
    have f := (fr (⟨LamX.ExtN.refl _, kd.t⟩ : Fut T H' H')).new hp (.tup [.str s, v])
    exact q c _ _ (kd.trans f.kd) (bx'.fut f) fc (by rw [ec]; exact Rp.new (ds := [.text s, e]) ⟨_, _, rfl, rfl, _, _, rfl, rv, rfl⟩ hp)
  have fin3 : ∀ {H' : Hp} {c : Gen} {s : Str} {e e' : Dt} {v v' : V}, KD T b H H' → Box l ns H' b → GOk k m c → c.d = .tup [.text s, e, e'] → Rp H' e v → Rp H' e' v' → ∀ p, H' p = none → Q (.ref p) (upd H' p (.tup [.str s, v, v'])) := fun {H' c s e e' v v'} kd bx' fc ec rv rv' p hp => by
    have f := (fr (⟨LamX.ExtN.refl _, kd.t⟩ : Fut T H' H')).new hp (.tup [.str s, v, v'])
    exact q c _ _ (kd.trans f.kd) (bx'.fut f) fc (by rw [ec]; exact Rp.new (ds := [.text s, e, e']) ⟨_, _, rfl, rfl, _, _, rfl, rv, _, _, rfl, rv', rfl⟩ hp)
  have dm1 : ∀ {σ : L2.St} {H' : Hp} {m' : Nat}, m = m' + 1 → σ[2]? = some (some (.int m)) → ED T (tOp (L2.rI0 fun i j => .int (i - j)) (tVar 2) (tC (.int 1))) σ H' (.num m') := fun {σ H' m'} e h2 => ED.cast (ED.sub (i := (m : Int)) (j := 1) (ED.var h2 rfl) (ED.int 1)) (by omega)
  -- one
  refine Sq.if (b := decide (0 < (m : Int)) && decide (r = 9)) (ET.and (.of (EB.gt (i := m) (j := 0) (ED.var rfl rfl) (ED.int 0))) fun _ => .of (EB.eqI (x := r) (y := 9) (ED.var rfl rfl) (ED.int 9))) k1.t (fun hyes H2 f2 => ?_) fun hno H2 f2 => ?_
  · rw [Bool.and_eq_true, decide_eq_true_eq, decide_eq_true_eq] at hyes
    obtain ⟨m', em⟩ : ∃ m', m = m' + 1 := ⟨m - 1, by omega⟩
    have k12 := k1.trans f2.kd
    refine S.retR (tup2_raw (tupK_raw (lc_rng1 (op1_raw (do_take rfl (bx1.fut f2) f2.t (ED.int 2) (by decide) fun r2 H4 k4 bx4 s0 s1 => ⟨1, r2, rfl, rfl, 1 + r2, rfl, by omega, by omega, ?_⟩)))))
    have k14 := k12.trans k4
    refine lc_box (α := Gen) (f := Gen.d) (Pa := fun _ a => GOk k m' a) (n := (1 + r2).toNat) (Y := fun _ _ => True) bx4 k4.t (by omega) (walk_range.mono (fun _ _ => trivial) fun i H' x H'' hi f y => ⟨y.1, trivial⟩) (fun x => rfl) (fun i x H' hi _ kd bx' Q' q' => ?_) fun D as xs H5 hD k5 bx5 hx hl hP ha => ?_
    · exact gen rfl bx' kd.t (ED.var rfl ((k14.trans kd).rp hk)) (dm1 em rfl) kw k8 (by omega) q'
    · refine ⟨D, xs, rfl, .inl ⟨SqL.of hx, fun p1 hp1 => ?_⟩⟩
      have f6 := (fr (⟨LamX.ExtN.refl _, k5.t⟩ : Fut T H5 H5)).new hp1 (.tup xs)
      have kk := (k14.trans k5).trans f6.kd
      subst em
      match as, hl, hP, ha with
      | [a0], hl, hP, ha => exact fin2 (c := .one a0) (e := .tup [a0.d]) kk (bx5.fut f6) (.one (hP 0 a0 rfl)) rfl (Rp.new ha hp1)
      | [a0, a1], hl, hP, ha => exact fin2 (c := .two a0 a1) (e := .tup [a0.d, a1.d]) kk (bx5.fut f6) (.two (hP 0 a0 rfl) (hP 1 a1 rfl)) rfl (Rp.new ha hp1)
      | [], hl, _, _ => exact absurd hl (by show ¬ 0 = _; omega)
      | _ :: _ :: _ :: as, hl, _, _ => exact absurd hl (by show ¬ as.length + 1 + 1 + 1 = _; omega)
  have k12 := k1.trans f2.kd
  have bx2 := bx1.fut f2
  -- kept
  refine Sq.if (b := decide (0 < (m : Int)) && decide (r = 8)) (ET.and (.of (EB.gt (i := m) (j := 0) (ED.var rfl rfl) (ED.int 0))) fun _ => .of (EB.eqI (x := r) (y := 8) (ED.var rfl rfl) (ED.int 8))) f2.t (fun hyes H3 f3 => ?_) fun hno2 H3 f3 => ?_
  · rw [Bool.and_eq_true, decide_eq_true_eq, decide_eq_true_eq] at hyes
    obtain ⟨m', em⟩ : ∃ m', m = m' + 1 := ⟨m - 1, by omega⟩
    have k13 := k12.trans f3.kd
    refine S.retR (tup3_raw (gen rfl (bx2.fut f3) f3.t (ED.var rfl (k13.rp hk)) (dm1 em rfl) kw k8 (by omega) fun c1 v1 H4 k4 bx4 g1 rc1 => ?_))
    refine do_lim (m := 1) rfl bx4 k4.t (ED.var rfl ((k13.trans k4).rp hk)) (ED.int 1) kw k8 (by omega) fun c2 v2 H5 k5 bx5 fc cd rc2 => ?_
    subst em
    exact fin3 (c := .kept c1 c2) (e := c1.d) (e' := c2.d) ((k13.trans k4).trans k5) bx5 (.kept g1 fc cd) rfl (k5.rp rc1) rc2
  have k13 := k12.trans f3.kd
  have bx3 := bx2.fut f3
  have isK : ∀ {H' : Hp} {s : Str} {σ : L2.St} (hs : ckD (.text s) = true), Fut T H3 H' → σ[1]? = some (some kv) → ET T (tTest (tOp rEqR (tVar 1) (tC (.str s)))) σ H' (decide (k.d = .text s)) := fun hs f h1 => .of (EB.eq (ED.var h1 (f.rp (k13.rp hk))) (ED.str _) (kd_ok k8) (tx_ok _ hs))
  cases k with
  | b bb =>
    cases bb with
    | int =>
      refine Sq.yes (ET.imp (isK (s := "int") (by decide +kernel) (fr f3) rfl) (decide_eq_true rfl)) f3.t fun H4 f4 => ?_
      have k14 := k13.trans f4.kd
      have bx4 := bx3.fut f4
      have hm' : m + 0 < n + 1 := hm
      refine Sq.if (b := decide (0 < (m : Int)) && inV (.int r) ([5, 6, 7].map V.int)) (ET.and (.of (EB.gt (i := m) (j := 0) (ED.var rfl rfl) (ED.int 0))) fun _ => .of (EB.inInt (ws := [5, 6, 7]) rfl (fun Q H1 q => q) (by decide))) f4.t (fun hyes H5 f5 => ?_) fun _ H5 f5 => ?_
      · rw [Bool.and_eq_true, decide_eq_true_eq] at hyes
        obtain ⟨m', em⟩ : ∃ m', m = m' + 1 := ⟨m - 1, by omega⟩
        have h567 := in567 hyes.2
        have k15 := k14.trans f5.kd
        -- the three maps
        refine Sq.raw (op_raw (lst3_raw (tup2_raw (op_raw (do_take rfl (bx4.fut f5) f5.t (ED.int 9) (by decide) fun r2 H6 k6 bx6 s0 s1 => ⟨r2, 4, rfl, rfl, fun p1 hp1 => ?_⟩)))))
        have g1 := (fr (⟨LamX.ExtN.refl _, k6.t⟩ : Fut T H6 H6)).new hp1 (.tup [V.str "plus", .int (r2 - 4)])
        refine tup2_raw (op_raw (do_take rfl (bx6.fut g1) g1.t (ED.int 5) (by decide) fun r3 H7 k7 bx7 t0 t1 => ⟨r3, 2, rfl, rfl, fun p2 hp2 => ?_⟩))
        have g2' := (fr (⟨LamX.ExtN.refl _, k7.t⟩ : Fut T H7 H7)).new hp2 (.tup [V.str "times", .int (r3 - 2)])
        refine tupc_raw (vs := [.str "length"]) (fun Q' q => q) (by decide) fun p3 hp3 p4 hp4 => ?_
        have g3' := g2'.new hp3 (.tup [V.str "length"])
        have g4' := g3'.new hp4 (.lst [.ref p1, .ref p2, .ref p3])
        have kk := (((k15.trans k6).trans g1.kd).trans k7).trans g4'.kd
        have bb := bx7.fut g4'
        have a1 := g4'.rp (k7.rp (Rp.new (H := H6) (p := p1) (ds := [tx "plus", .num (r2 - 4)]) (xs := [V.str "plus", .int (r2 - 4)]) ⟨_, _, rfl, rfl, _, _, rfl, rfl, rfl⟩ hp1))
        have a2 := (Rp.new (H := H7) (p := p2) (ds := [tx "times", .num (r3 - 2)]) (xs := [V.str "times", .int (r3 - 2)]) ⟨_, _, rfl, rfl, _, _, rfl, rfl, rfl⟩ hp2).tk ((TK.new hp3 (.tup [V.str "length"])).trans (TK.new hp4 (.lst [.ref p1, .ref p2, .ref p3])))
        refine ⟨_, rfl, r, 5, rfl, rfl, ?_⟩
        subst em
        rcases h567 with rfl | rfl | rfl
        · refine ⟨p4, _, ((0 : Nat) : Int), .ref p1, rfl, rfl, SqL.of upd_same, atI_nat rfl, ?_⟩
          refine Sq.no (ET.imp (.of (EB.eqI (x := 5) (y := 7) (ED.var rfl rfl) (ED.int 7))) (by decide)) g4'.t fun H8 f8 => ?_
          refine S.retR (tup3_raw (gen (k' := .b .int) (m' := m') rfl (bb.fut f8) f8.t (ED.str _) (dm1 rfl rfl) trivial (Nat.zero_le _) (by show m' + 0 < n; omega) fun gg v Hy ky bxy gk rk => ⟨_, rfl, fun p hp => ?_⟩))
          exact fin3 (c := .turned gg (.plus (r2 - 4))) (e := gg.d) (e' := Mp.d (.plus (r2 - 4))) ((kk.trans f8.kd).trans ky) bxy (.plus gk _) rfl rk (ky.rp (f8.rp a1)) p hp
        · refine ⟨p4, _, ((1 : Nat) : Int), .ref p2, rfl, rfl, SqL.of upd_same, atI_nat rfl, ?_⟩
          refine Sq.no (ET.imp (.of (EB.eqI (x := 6) (y := 7) (ED.var rfl rfl) (ED.int 7))) (by decide)) g4'.t fun H8 f8 => ?_
          refine S.retR (tup3_raw (gen (k' := .b .int) (m' := m') rfl (bb.fut f8) f8.t (ED.str _) (dm1 rfl rfl) trivial (Nat.zero_le _) (by show m' + 0 < n; omega) fun gg v Hy ky bxy gk rk => ⟨_, rfl, fun p hp => ?_⟩))
          exact fin3 (c := .turned gg (.times (r3 - 2))) (e := gg.d) (e' := Mp.d (.times (r3 - 2))) ((kk.trans f8.kd).trans ky) bxy (.times gk _ (by omega) (by omega)) rfl rk (ky.rp (f8.rp a2)) p hp
        · refine ⟨p4, _, ((2 : Nat) : Int), .ref p3, rfl, rfl, SqL.of upd_same, atI_nat rfl, ?_⟩
          refine Sq.yes (ET.imp (.of (EB.eqI (x := 7) (y := 7) (ED.var rfl rfl) (ED.int 7))) (by decide)) g4'.t fun H8 f8 => ?_
          refine S.retR (tup3_raw ?_)
          refine con_raw ((ED.tup (T := T) (σ := _) (ds := [tx "list", .tup [tx "int", .num 0, .num 1], .num 0, .num 2]) (EDs.cons (ED.str _) (EDs.cons (ED.tup (ds := [tx "int", .num 0, .num 1]) (EDs.cons (ED.str _) (EDs.cons (ED.int 0) (EDs.cons (ED.int 1) EDs.nil))) ln3) (EDs.cons (ED.int 0) (EDs.cons (ED.int 2) EDs.nil)))) (by decide)).at f8.t fun v9 H9 f9 r9 => ?_)
          have bx9 := bb.fut (f8.trans f9)
          have k9 := kk.trans (f8.trans f9).kd
          refine op_raw ?_
          refine ⟨ln1, fun q1 e1 => ⟨ln1, fun q2 e2 => ⟨ln2, fun q3 e3 => ?_⟩⟩⟩
          have u1 := Fut.newR f9.t e1 (.tup [V.str "length"])
          have u2 := u1.new e2 (.tup [V.str "sum"])
          have u3 := u2.new e3 (.lst [.ref q1, .ref q2])
          refine do_take rfl (bx9.fut u3) u3.t (ED.int 2) (by decide) fun r5 Hx kx bxx w0 w1 => ?_
          have nq : q3 ≠ b := (bx9.fut u2).ne_new e3
          have hq3 := kx.lst nq upd_same
          have b1 : Rp Hx (.tup [tx "length"]) (.ref q1) := kx.rp (((Rp.new (H := H9) (p := q1) (ds := [tx "length"]) (xs := [V.str "length"]) ⟨_, _, rfl, rfl, rfl⟩ e1).tk (TK.new e2 (.tup [V.str "sum"]))).tk (TK.new e3 (.lst [.ref q1, .ref q2])))
          have b2 : Rp Hx (.tup [tx "sum"]) (.ref q2) := kx.rp ((Rp.new (p := q2) (ds := [tx "sum"]) (xs := [V.str "sum"]) ⟨_, _, rfl, rfl, rfl⟩ e2).tk (TK.new e3 (.lst [.ref q1, .ref q2])))
          have kkx := (k9.trans u3.kd).trans kx
          have r9' := kx.rp (u3.rp r9)
          rcases (show r5 = 0 ∨ r5 = 1 by omega) with rfl | rfl
          · exact ⟨q3, _, ((0 : Nat) : Int), .ref q1, rfl, rfl, SqL.of hq3, atI_nat rfl, fun p hp => fin3 (c := .turned (.list (.leaf (.int 0 1)) 0 2) .length) (e := Gen.d (.list (.leaf (.int 0 1)) 0 2)) (e' := Mp.d .length) kkx bxx .len rfl r9' b1 p hp⟩
          · exact ⟨q3, _, ((1 : Nat) : Int), .ref q2, rfl, rfl, SqL.of hq3, atI_nat rfl, fun p hp => fin3 (c := .turned (.list (.leaf (.int 0 1)) 0 2) .sum) (e := Gen.d (.list (.leaf (.int 0 1)) 0 2)) (e' := Mp.d .sum) kkx bxx .sum rfl r9' b2 p hp⟩
      · have k15 := k14.trans f5.kd
        refine Sq.raw (op_raw (do_take rfl (bx4.fut f5) f5.t (ED.int 6) (by decide) fun r2 H6 k6 bx6 s0 s1 => ⟨r2, 3, rfl, rfl, ?_⟩))
        refine S.retR (tup3_raw ⟨_, rfl, op_raw ⟨_, rfl, do_take rfl bx6 k6.t (ED.int 4) (by decide) fun r3 H7 k7 bx7 t0 t1 => ⟨r2 - 3, r3, rfl, rfl, ?_⟩⟩⟩)
        exact fin3 (c := .leaf (.int (r2 - 3) (r2 - 3 + r3))) (e := .num (r2 - 3)) (e' := .num (r2 - 3 + r3)) ((k15.trans k6).trans k7) bx7 (.int _ _ t0 (by omega)) rfl rfl rfl
    | word =>
      refine Sq.no (ET.imp (isK (s := "int") (by decide +kernel) (fr f3) rfl) (by decide +kernel)) f3.t fun H4 f4 => ?_
      refine Sq.yes (ET.imp (isK (s := "word") (by decide +kernel) f4 rfl) (decide_eq_true rfl)) f4.t fun H5 f5 => ?_
      have k15 := k13.trans (f4.trans f5).kd
      have bx5 := bx3.fut (f4.trans f5)
      refine S.retR (tup2_raw (sl_raw (tupc_raw (vs := [.str "zz", .str "ab", .str "c"]) (fun Q' q => q) (by decide) fun p hp => ?_)))
      have f6 := Fut.newR f5.t hp (.tup [V.str "zz", .str "ab", .str "c"])
      refine op1_raw (do_take rfl (bx5.fut f6) f6.t (ED.int 3) (by decide) fun r2 H7 k7 bx7 s0 s1 => ⟨1, r2, rfl, rfl, 1 + r2, rfl, ?_⟩)
      obtain ⟨j, ej⟩ : ∃ j : Nat, 1 + r2 = (j : Int) := ⟨(1 + r2).toNat, by omega⟩
      rw [ej]
      have hx : Rp H7 (.tup (lawWords.map .text)) (.ref p) := k7.rp ⟨p, _, rfl, upd_same, _, _, rfl, rfl, _, _, rfl, rfl, _, _, rfl, rfl, rfl⟩
      refine upto_raw k7.t hx fun v H8 f8 rv p2 hp2 => ?_
      exact fin2 (c := .leaf (.pick (lawWords.take j))) (e := .tup ((lawWords.take j).map .text)) (((k15.trans f6.kd).trans k7).trans f8.kd) (bx7.fut f8) (.pick j (by omega) (by omega)) rfl (by rw [List.map_take]; exact rv) p2 hp2
  | tup bs =>
    have hk4 : ∀ {H'}, KD T b H H' → Rp H' (.tup [tx "tuple", .tup (bs.map Bs.d)]) kv := fun kd => kd.rp hk
    refine Sq.no (ET.imp (isK (s := "int") (by decide +kernel) (fr f3) rfl) (decide_eq_false fun z => by cases z)) f3.t fun H4 f4 => ?_
    refine Sq.no (ET.imp (isK (s := "word") (by decide +kernel) f4 rfl) (decide_eq_false fun z => by cases z)) f4.t fun H5 f5 => ?_
    have k15 := k13.trans (f4.trans f5).kd
    refine Sq.yes (ET.imp (.of (EB.eqS (x := "tuple") (y := "tuple") (ED.ix (K := K) (i := 0) (ds := [tx "tuple", .tup (bs.map Bs.d)]) (ED.var rfl (hk4 k15)) (ED.int 0) rfl) (ED.str _))) (decide_eq_true rfl)) f5.t fun H6 f6 => ?_
    have k16 := k15.trans f6.kd
    have bx6 := bx3.fut ((f4.trans f5).trans f6)
    refine S.retR (tup2_raw (tupK_raw (lc_tup1 ((ED.ix (K := K) (i := 1) (d := .tup (bs.map Bs.d)) (ds := [tx "tuple", .tup (bs.map Bs.d)]) (ED.var rfl (hk4 k16)) (ED.int 1) rfl).at f6.t fun v7 H7 f7 r7 => ?_))))
    obtain ⟨pa, pxs, rfl, ph1, ph2⟩ := r7
    have hbl : pxs.length = bs.length := by rw [ph2.length, List.length_map]
    refine ⟨pa, rfl, ⟨_, SqT.of ph1⟩, ?_⟩
    have k17 := k16.trans f7.kd
    have kw' : 1 ≤ bs.length ∧ bs.length ≤ 2 := kw
    have hm' : m + 1 < n + 1 := hm
    refine lc_box (α := Gen) (f := Gen.d) (Pa := fun i a => ∃ bb, bs[i]? = some bb ∧ GOk (.b bb) 0 a) (n := pxs.length) (Y := fun i x => ∃ bb, bs[i]? = some bb ∧ ∀ H, Rp H (Kd.b bb).d x) (bx6.fut f7) f7.t (by omega) (walk_tup.mono (fun H' kd => SqT.of (kd.tk _ _ ph1)) fun i H' x H'' hi f y => ⟨y.1, by
      obtain ⟨d, hd, rd⟩ := RpA.back ph2 y.2
      rw [List.getElem?_map] at hd
      cases e : bs[i]? with
      | none => rw [e] at hd; cases hd
      | some bb =>
        rw [e] at hd
        cases hd
        refine ⟨bb, rfl, fun H => ?_⟩
        cases bb <;> exact rd⟩) (fun x => rfl) (fun i x H' hi ⟨bb, hb, hx⟩ kd bx' Q' q' => ?_) fun D as xs H8 hD k8' bx8 hx hl hP ha => ?_
    · exact gen (k' := .b bb) (m' := 0) rfl bx' kd.t (ED.var rfl (hx _)) (ED.int 0) trivial (Nat.zero_le _) (by show 0 + 0 < n; omega) fun c v H'' k6 bx6 gc rk => q' c v H'' k6 bx6 ⟨bb, hb, gc⟩ rk
    · refine ⟨D, xs, rfl, .inl ⟨SqL.of hx, fun p1 hp1 => ?_⟩⟩
      have f9 := (fr (⟨LamX.ExtN.refl _, k8'.t⟩ : Fut T H8 H8)).new hp1 (.tup xs)
      obtain ⟨ls, rfl⟩ := leaves (as := as) fun a ha' => by
        obtain ⟨i, hi, e⟩ := List.mem_iff_getElem.mp ha'
        obtain ⟨bb, _, gc⟩ := hP i a (by rw [List.getElem?_eq_getElem hi, e])
        exact gok_leaf gc
      rw [List.length_map] at hl
      rw [List.map_map] at ha
      exact fin2 (c := .tuple ls) (e := .tup (ls.map Lf.d)) ((k17.trans k8').trans f9.kd) (bx8.fut f9) (.tuple kw'.1 kw'.2 (by omega) fun i bb' l' hb hl' => by
        obtain ⟨bb, hb2, gc⟩ := hP i (.leaf l') (by rw [List.getElem?_map, hl']; rfl)
        rw [hb] at hb2
        cases hb2
        exact gc) rfl (Rp.new ha hp1)
  | lst k' =>
    have hd1 : (Kd.lst k').depth = k'.depth + 1 := rfl
    have hk4 : ∀ {H'}, KD T b H H' → Rp H' (.tup [tx "list", k'.d]) kv := fun kd => kd.rp hk
    refine Sq.no (ET.imp (isK (s := "int") (by decide +kernel) (fr f3) rfl) (decide_eq_false fun z => by cases z)) f3.t fun H4 f4 => ?_
    refine Sq.no (ET.imp (isK (s := "word") (by decide +kernel) f4 rfl) (decide_eq_false fun z => by cases z)) f4.t fun H5 f5 => ?_
    have k15 := k13.trans (f4.trans f5).kd
    refine Sq.no (ET.imp (.of (EB.eqS (x := "list") (y := "tuple") (ED.ix (K := K) (i := 0) (ds := [tx "list", k'.d]) (ED.var rfl (hk4 k15)) (ED.int 0) rfl) (ED.str _))) (by decide +kernel)) f5.t fun H6 f6 => ?_
    have k16 := k15.trans f6.kd
    have bx6 := bx3.fut ((f4.trans f5).trans f6)
    -- reversed
    refine Sq.if (b := decide (r = 0) && decide (0 < (m : Int))) (ET.and (.of (EB.eqI (x := r) (y := 0) (ED.var rfl rfl) (ED.int 0))) fun _ => .of (EB.gt (i := m) (j := 0) (ED.var rfl rfl) (ED.int 0))) f6.t (fun hyes H7 f7 => ?_) fun hno3 H7 f7 => ?_
    · rw [Bool.and_eq_true, decide_eq_true_eq, decide_eq_true_eq] at hyes
      obtain ⟨m', em⟩ : ∃ m', m = m' + 1 := ⟨m - 1, by omega⟩
      have k17 := k16.trans f7.kd
      refine S.retR (tup3_raw (con_raw (gen (k' := .lst k') (m' := m') rfl (bx6.fut f7) f7.t (ED.var rfl (k17.rp hk)) (dm1 em rfl) kw k8 (by omega) fun gg v Hy ky bxy gk rk => tupc_raw (vs := [.str "reversed"]) (fun Q' q => q) (by decide) fun p hp p2 hp2 => ?_)))
      have u1 := (fr (⟨LamX.ExtN.refl _, ky.t⟩ : Fut T Hy Hy)).new hp (.tup [V.str "reversed"])
      subst em
      exact fin3 (c := .turned gg .reversed) (e := gg.d) (e' := Mp.d .reversed) ((k17.trans ky).trans u1.kd) (bxy.fut u1) (.rev gk) rfl (u1.rp rk) (Rp.new (ds := [tx "reversed"]) (xs := [V.str "reversed"]) ⟨_, _, rfl, rfl, rfl⟩ hp) p2 hp2
    have k17 := k16.trans f7.kd
    have bx7 := bx6.fut f7
    -- sorted
    refine Sq.if (b := decide (r = 1) && (decide (0 < (m : Int)) && [tx "int", tx "word"].any fun z => decide (z = k'.d))) (ET.and (.of (EB.eqI (x := r) (y := 1) (ED.var rfl rfl) (ED.int 1))) fun _ => ET.and (.of (EB.gt (i := m) (j := 0) (ED.var rfl rfl) (ED.int 0))) fun _ => .of (EB.inLR (ED.ix (K := K) (i := 1) (ds := [tx "list", k'.d]) (ED.var rfl (hk4 k17)) (ED.int 1) rfl) (EL.lst (ds := [tx "int", tx "word"]) (EDs.cons (ED.str _) (EDs.cons (ED.str _) EDs.nil)) ln2) (kd_ok (by omega)) (fun e he => by
      simp only [List.mem_cons, List.not_mem_nil, or_false] at he
      rcases he with rfl | rfl
      · exact tx_ok _ (by decide +kernel)
      · exact tx_ok _ (by decide +kernel)))) f7.t (fun hyes H8 f8 => ?_) fun hno4 H8 f8 => ?_
    · rw [Bool.and_eq_true, Bool.and_eq_true, decide_eq_true_eq, decide_eq_true_eq] at hyes
      obtain ⟨bb, rfl⟩ : ∃ bb, k' = .b bb := by
        cases k' with
        | b bb => exact ⟨bb, rfl⟩
        | tup bs => exact absurd hyes.2.2 (by simp [Kd.d])
        | lst k2 => exact absurd hyes.2.2 (by simp [Kd.d])
      obtain ⟨m', em⟩ : ∃ m', m = m' + 1 := ⟨m - 1, by omega⟩
      have k18 := k17.trans f8.kd
      refine S.retR (tup3_raw (con_raw (gen (k' := .lst (.b bb)) (m' := m') rfl (bx7.fut f8) f8.t (ED.var rfl (k18.rp hk)) (dm1 em rfl) kw k8 (by omega) fun gg v Hy ky bxy gk rk => tupc_raw (vs := [.str "sorted"]) (fun Q' q => q) (by decide) fun p hp p2 hp2 => ?_)))
      have u1 := (fr (⟨LamX.ExtN.refl _, ky.t⟩ : Fut T Hy Hy)).new hp (.tup [V.str "sorted"])
      subst em
      exact fin3 (c := .turned gg .sorted) (e := gg.d) (e' := Mp.d .sorted) ((k18.trans ky).trans u1.kd) (bxy.fut u1) (.sort gk) rfl (u1.rp rk) (Rp.new (ds := [tx "sorted"]) (xs := [V.str "sorted"]) ⟨_, _, rfl, rfl, rfl⟩ hp) p2 hp2
    have k18 := k17.trans f8.kd
    have bx8 := bx7.fut f8
    have hk8 : k'.depth ≤ 8 := by omega
    -- repeat
    refine Sq.if (.of (EB.eqI (x := r) (y := 2) (ED.var rfl rfl) (ED.int 2))) f8.t (fun _ H9 f9 => ?_) fun _ H9 f9 => ?_
    · have k19 := k18.trans f9.kd
      refine S.retR (tup3_raw (con_raw (tup3_raw (con_raw (op_raw (do_take rfl (bx8.fut f9) f9.t (ED.int 2) (by decide) fun r2 Ha ka bxa s0 s1 => ⟨r2, 1, rfl, rfl, op1_raw (do_take rfl bxa ka.t (ED.int 2) (by decide) fun r3 Hb kb bxb t0 t1 => ⟨1, r3, rfl, rfl, fun p1 hp1 => ?_⟩)⟩))))))
      have u1 := (fr (⟨LamX.ExtN.refl _, kb.t⟩ : Fut T Hb Hb)).new hp1 (.tup [V.str "int", .int (r2 - 1), .int (1 + r3)])
      have kk := ((k19.trans ka).trans kb).trans u1.kd
      refine gen (k' := k') (m' := 0) rfl (bxb.fut u1) u1.t (ED.ix (K := K) (i := 1) (ds := [tx "list", k'.d]) (ED.var rfl (hk4 kk)) (ED.int 1) rfl) (ED.int 0) kw hk8 (by omega) fun gg v Hy ky bxy gk rk p hp => ?_
      exact fin3 (c := .rep (r2 - 1) (1 + r3) gg) (e := .tup [tx "int", .num (r2 - 1), .num (1 + r3)]) (e' := gg.d) (kk.trans ky) bxy (.rep _ _ (by omega) (by omega) (by omega) (by omega) gk) rfl (ky.rp (Rp.new (ds := [tx "int", .num (r2 - 1), .num (1 + r3)]) ⟨_, _, rfl, rfl, _, _, rfl, rfl, _, _, rfl, rfl, rfl⟩ hp1)) rk p hp
    have k19 := k18.trans f9.kd
    refine Sq.raw (do_take rfl (bx8.fut f9) f9.t (ED.int 2) (by decide) fun r2 Ha ka bxa s0 s1 => ?_)
    have ka' := k19.trans ka
    refine S.retR (tup4_raw (con_raw (gen (k' := k') (m' := m - 1) rfl bxa ka.t (ED.ix (K := K) (i := 1) (ds := [tx "list", k'.d]) (ED.var rfl (hk4 ka')) (ED.int 1) rfl) (ED.pred rfl) kw hk8 (by omega) fun gg v Hy ky bxy gk rk => ⟨_, rfl, op_raw ⟨_, rfl, do_take rfl bxy ky.t (ED.sub (i := 3) (j := r2) (ED.int 3) (ED.var rfl rfl)) (by omega) fun r3 Hb kb bxb t0 t1 => ⟨r2, r3, rfl, rfl, by decide, fun p hp => ?_⟩⟩⟩)))
    obtain ⟨l0, e0⟩ : ∃ l0 : Nat, r2 = l0 := ⟨r2.toNat, by omega⟩
    obtain ⟨l1, e1⟩ : ∃ l1 : Nat, r2 + r3 = l1 := ⟨(r2 + r3).toNat, by omega⟩
    have f := (fr (⟨LamX.ExtN.refl _, kb.t⟩ : Fut T Hb Hb)).new hp (.tup [V.str "list", v, .int r2, .int (r2 + r3)])
    exact q (.list gg l0 l1) _ _ (((ka'.trans ky).trans kb).trans f.kd) (bxb.fut f) (.list _ _ (by omega) (by omega) (by omega) gk) (Rp.new (ds := [tx "list", gg.d, .num l0, .num l1]) ⟨_, _, rfl, rfl, _, _, rfl, kb.rp rk, _, _, rfl, congrArg V.int e0, _, _, rfl, congrArg V.int e1, rfl⟩ hp)
theorem ok_law_gen : ∀ n, FnOk P w K mg base CX0 (n + 20) g.law_gen.a g.law_gen.d ["_law_box_here", "_law_kind_here", "_law_depth"] (spGen T n)
  | 0 => ⟨fun vs H Q E ⟨b, l, ns, k, kv, m, e, _⟩ => by rw [e]; rfl, fun A outer s H args us vs Q E _ _ _ _ ⟨_, _, _, _, _, _, _, _, _, _, h, _⟩ => absurd h (Nat.not_lt_zero _)⟩
  | n + 1 => ok_law_gen_step g n (ok_law_gen n)
end
end CR

set_option Elab.async false
set_option linter.all false
set_option maxRecDepth 100000
set_option maxHeartbeats 4000000
namespace CR
open PySem PySem.Spec PyProof.Rows L2
section
variable {P : Program} {w : World} {K : PySem.W.Frag} {mg : Str → Option Value} {base : Heap} {T : Tbl} (g : G K mg base T)
def postSome : List Int × Nat → Hp → V → Prop := fun _ H v => ∃ (gen : Gen) (k : Kd) (t : Addr) (gv kv bv : V), v = .ref t ∧ H t = some (.tup [gv, kv, bv]) ∧ Rp H gen.d gv ∧ GOk k 2 gen ∧ KOk 2 k
abbrev N_law_some : List Str := ["_law_script", "_law_k", "_law_box_here", "_law_kind_here"]
theorem sc_law_some : FnScope N_law_some ["_law_script", "_law_k"] (defScope s_law_some) := ⟨rfl, rfl, rfl, by decide +kernel, rfl, by decide +kernel, by decide +kernel⟩
theorem ok_law_some : FnOk P w K mg base CX0 31 g.law_some.a g.law_some.d ["_law_script", "_law_k"] (Pm T (fun (z : List Int × Nat) H vs => ∃ a, vs = [.ref a, .int z.2] ∧ SqL K H a (z.1.map V.int)) postSome) := by
  have OK_law_box := ok_law_box (P := P) (w := w) g
  have OK_law_kind := ok_law_kind (P := P) (w := w) g 3
  have OK_law_gen := ok_law_gen (P := P) (w := w) g 10
  refine pm_ok g.law_some.F sc_law_some (fun z H vs h => by obtain ⟨a, rfl, _⟩ := h; rfl) fun cdv A outer st H vs Q E z hr h ht hq => ?_
  obtain ⟨ns, k⟩ := z
  obtain ⟨a, rfl, hS⟩ := h
  have hS : SqL K H a (ns.map V.int) := hS
  refine ⟨_, (pss_cons (ps_set (i := 2) sc_law_some.nd rfl (Or.inl rfl) (pe_call OK_law_box (hr.mono (by omega)) rfl g.law_box.m g.law_box.F.kp (b_law_box g.law_box) .nil pass0 (pa_cons (pv 0) (pa_cons (pv 1) pa_nil)))) (pss_cons (ps_set (i := 3) sc_law_some.nd rfl (Or.inl rfl) (pe_call OK_law_kind (hr.mono (by omega)) rfl g.law_kind.m g.law_kind.F.kp (b_law_kind g.law_kind) .nil pass0 (pa_cons (pv 2) (pa_cons pe_int pa_nil)))) (pss_one (ps_ret (pe_tup (pa_cons (pe_call OK_law_gen (hr.mono (by omega)) rfl g.law_gen.m g.law_gen.F.kp (b_law_gen g.law_gen) .nil pass0 (pa_cons (pv 2) (pa_cons (pv 3) (pa_cons pe_int pa_nil)))) (pa_cons (pv 3) (pa_cons (pv 2) pa_nil)))))))), ?_⟩
  refine Sq.set (EV.fnL (z := (ns, k)) (EA.imp (EA.two (EV.var (R := fun H v => v = .ref a ∧ SqL K H a (ns.map V.int)) rfl fun H' f => ⟨rfl, f.sqL hS⟩) (fun _ _ _ f h => ⟨h.1, f.sqL h.2⟩) (ED.var (d := .num k) rfl rfl)) fun H' vs f r => ?_)) ht fun bv H1 f1 hb => ?_
  · obtain ⟨u, v, rfl, ⟨rfl, r1⟩, r2⟩ := r
    exact ⟨a, by rw [show v = _ from r2], r1⟩
  obtain ⟨⟨b, l, bs, rfl, bx⟩, nl⟩ := hb
  refine Sq.raw ⟨_, rfl, b, l, bs, 2, rfl, by decide, bx, f1.t, fun kd kv H2 k2 bx2 ko rk => ?_⟩
  have f2 := f1.ofBox k2 bx nl
  have kw := KOk.kw ko
  refine S.retR (tup3_raw (do_gen (n := 10) (m := 2) rfl bx2 k2.t (ED.var rfl rk) (ED.int 2) kw.1 (by omega) (by omega) (Nat.le_refl _) fun gen gv H3 k3 bx3 gk rg => ⟨_, rfl, _, rfl, fun p hp => ?_⟩))
  have f3 := f2.ofBox k3 bx2 nl
  have f4 := f3.new hp (.tup [gv, kv, .ref b])
  exact hq _ _ f4 ⟨gen, kd, p, gv, kv, .ref b, rfl, upd_same, rg.tk (TK.new hp _), gk, ko⟩
end
end CR

set_option Elab.async false
set_option linter.all false
set_option maxRecDepth 100000
set_option maxHeartbeats 4000000
namespace CR
open PySem
/-! ### bounds of rows -/
structure Bn {α : Type} (L : List (Row × α)) (n r : Nat) : Prop where
  n : L.length ≤ n
  r : ∀ p ∈ L, p.1.length ≤ r
def Vl {α : Type} (v : Nat) (L : List (Row × List α)) : Prop := ∀ p ∈ L, p.2.length ≤ v
section
variable {α : Type} {L L' : List (Row × α)} {n r n' r' v : Nat} {A : List (Row × List α)} {M : List (Row × α)}
theorem Bn.mono (h : Bn L n r) (a : n ≤ n') (b : r ≤ r') : Bn L n' r' := ⟨Nat.le_trans h.n a, fun p hp => Nat.le_trans (h.r p hp) b⟩
theorem Bn.perm (h : Bn L n r) (p : L.Perm L') : Bn L' n r := ⟨by rw [← p.length_eq]; exact h.n, fun q hq => h.r q (p.mem_iff.mpr hq)⟩
theorem Bn.fr (h : Bn L n r) (a : n ≤ 100000) (b : r ≤ 1000000) : FR L := ⟨Nat.le_trans h.n a, fun p hp => Nat.le_trans (h.r p hp) b⟩
theorem Bn.step (h : Bn A n r) (k : Bn M n' r') : Bn (stepM A M) (n * n') (r + r') := ⟨by rw [len_step]; exact Nat.mul_le_mul h.n k.n, fun p hp => by
  obtain ⟨a, ha, b, hb, rfl⟩ := mem_stepM.mp hp
  have h1 := h.r a ha
  have h2 := k.r b hb
  show (a.1 ++ b.1).length ≤ _
  rw [List.length_append]
  omega⟩
theorem Bn.beh (h : Bn L n r) (x : Int) : Bn (behR [x] L) n (r + 1) := ⟨by unfold behR; rw [List.length_map]; exact h.n, fun p hp => by
  obtain ⟨a, ha, rfl⟩ := List.mem_map.mp hp
  have h1 := h.r a ha
  show (a.1 ++ [x]).length ≤ _
  rw [List.length_append, List.length_singleton]
  omega⟩
theorem Bn.pre (h : Bn L n r) (x : Int) : Bn (preR x L) n (r + 1) := ⟨by unfold preR; rw [List.length_map]; exact h.n, fun p hp => by
  obtain ⟨a, ha, rfl⟩ := List.mem_map.mp hp
  have h1 := h.r a ha
  show (x :: a.1).length ≤ _
  rw [List.length_cons]
  omega⟩
theorem Bn.app (h : Bn L n r) (k : Bn L' n' r) : Bn (L ++ L') (n + n') r := ⟨by rw [List.length_append]; exact Nat.add_le_add h.n k.n, fun p hp => by
  rcases List.mem_append.mp hp with z | z
  · exact h.r p z
  · exact k.r p z⟩
theorem Bn.pow (k : Bn M n r) : ∀ i, Bn (powM M i) (n ^ i) (i * r)
  | 0 => ⟨Nat.le_refl _, fun p hp => by rw [List.mem_singleton.mp hp]; exact Nat.zero_le _⟩
  | i + 1 => ((k.pow i).step k).mono (Nat.le_of_eq (Nat.pow_succ ..).symm) (Nat.le_of_eq (Nat.succ_mul i r).symm)
theorem Bn.join : ∀ {Ls : List (List (Row × α))} {A : List (Row × List α)} {n r b s : Nat}, (∀ L ∈ Ls, Bn L b s) → Bn A n r → Bn (Ls.foldl stepM A) (n * b ^ Ls.length) (r + Ls.length * s)
  | [], A, n, r, b, s, _, h => by
    show Bn A _ _
    exact h.mono (by simp) (by simp)
  | L :: Ls, A, n, r, b, s, k, h => by
    refine (Bn.join (Ls := Ls) (fun M hM => k M (List.mem_cons_of_mem _ hM)) (h.step (k L List.mem_cons_self))).mono (Nat.le_of_eq ?_) (Nat.le_of_eq ?_)
    · rw [List.length_cons, Nat.pow_succ, Nat.mul_assoc, Nat.mul_comm b]
    · rw [List.length_cons, Nat.succ_mul]
      omega
theorem Vl.step (h : Vl v A) : Vl (v + 1) (stepM A M) := fun p hp => by
  obtain ⟨a, ha, b, hb, rfl⟩ := mem_stepM.mp hp
  have h1 := h a ha
  show (a.2 ++ [b.2]).length ≤ _
  rw [List.length_append, List.length_singleton]
  omega
theorem Vl.beh (h : Vl v A) (x : Int) : Vl v (behR [x] A) := fun p hp => by
  obtain ⟨a, ha, rfl⟩ := List.mem_map.mp hp
  exact h a ha
theorem Vl.pow : ∀ i, Vl i (powM M i)
  | 0 => fun p hp => by rw [List.mem_singleton.mp hp]; exact Nat.le_refl _
  | i + 1 => (Vl.pow i).step
theorem Vl.join : ∀ {Ls : List (List (Row × α))} {A : List (Row × List α)} {v : Nat}, Vl v A → Vl (v + Ls.length) (Ls.foldl stepM A)
  | [], _, _, h => h
  | L :: Ls, A, v, h => by
    have := Vl.join (Ls := Ls) (h.step (M := L))
    intro p hp
    have := this p hp
    rw [List.length_cons]
    omega
theorem flat_le {γ : Type} (f : γ → Row) (s : Nat) : ∀ {ps : List γ}, (∀ q ∈ ps, (f q).length ≤ s) → (ps.flatMap f).length ≤ ps.length * s
  | [], _ => Nat.zero_le _
  | q :: ps, h => by
    have h1 := h q List.mem_cons_self
    have h2 := flat_le f s fun x hx => h x (List.mem_cons_of_mem _ hx)
    rw [List.flatMap_cons, List.length_append, List.length_cons, Nat.add_mul]
    omega
theorem le_sum {γ : Type} (g : γ → Int) : ∀ {T : List γ}, (∀ t ∈ T, 0 ≤ g t) → ∀ t ∈ T, g t ≤ (T.map g).sum
  | u :: T, h, t, ht => by
    have hn : 0 ≤ (T.map g).sum := by
      have : ∀ {T : List γ}, (∀ t ∈ T, 0 ≤ g t) → 0 ≤ (T.map g).sum := by
        intro T
        induction T with
        | nil => intro _; exact Int.le_refl _
        | cons x T ih =>
          intro h
          have h1 := h x List.mem_cons_self
          have h2 := ih fun y hy => h y (List.mem_cons_of_mem _ hy)
          rw [List.map_cons, List.sum_cons]
          omega
      exact this fun y hy => h y (List.mem_cons_of_mem _ hy)
    rw [List.map_cons, List.sum_cons]
    rcases List.mem_cons.mp ht with z | z
    · rw [z]; omega
    · have h1 := le_sum g (fun y hy => h y (List.mem_cons_of_mem _ hy)) t z
      have h2 := h u List.mem_cons_self
      omega
theorem sum_mono {γ : Type} {f g : γ → Int} : ∀ {T : List γ}, (∀ t ∈ T, f t ≤ g t) → (T.map f).sum ≤ (T.map g).sum
  | [], _ => Int.le_refl _
  | t :: T, h => by
    have h1 := h t List.mem_cons_self
    have h2 := sum_mono fun y hy => h y (List.mem_cons_of_mem _ hy)
    rw [List.map_cons, List.map_cons, List.sum_cons, List.sum_cons]
    omega
theorem RawOf.cnt [DecidableEq α] {T : List (Tr α)} (h : RawOf L T) : ∀ t ∈ T, 0 < t.2.1 ∧ t.2.1 ≤ (L.length : Int) := fun t ht => by
  refine ⟨h.pos t ht, ?_⟩
  rw [← h.total]
  exact le_sum (fun t : Tr α => t.2.1) (fun u hu => Int.le_of_lt (h.pos u hu)) t ht
theorem ft_of [DecidableEq α] {T : List (Tr α)} (h : RawOf L T) (b : Bn L n r) (n0 : n ≤ 100000) (r0 : r ≤ 1000000) : FT T := by
  have hn := b.n
  refine ⟨Nat.le_trans h.len (Nat.le_trans b.n n0), fun t ht => ?_⟩
  have h1 := h.cnt t ht
  have h2 := b.r _ (h.mem t ht)
  exact ⟨by omega, by omega, Nat.le_trans h2 r0⟩
end
theorem Few.bn {L : List (Row × Dt)} (h : Few L) : Bn L 2000 500 := ⟨h.n, h.len⟩
theorem Bn.few {L : List (Row × Dt)} {n r : Nat} (h : Bn L n r) (a : n ≤ 2000) (b : r ≤ 500) : Few L := ⟨Nat.le_trans h.n a, fun p hp => Nat.le_trans (h.r p hp) b⟩
theorem Bn.tup {L : List (Row × List Dt)} {n r : Nat} (h : Bn L n r) : Bn (tupR L) n r := ⟨by unfold tupR; rw [List.length_map]; exact h.n, fun p hp => by
  obtain ⟨a, ha, rfl⟩ := List.mem_map.mp hp
  exact h.r a ha⟩
theorem fl_of {L : List (Row × List Dt)} {T : List (Tr (List Dt))} {v : Nat} (h : RawOf L T) (k : Vl v L) (hv : v ≤ 1000) : FL T := fun t ht => Nat.le_trans (k _ (h.mem t ht)) hv
theorem p44 {b : Nat} (hb : b ≤ 44) : ∀ {k : Nat}, k ≤ 2 → b ^ k ≤ 1936
  | 0, _ => by simp
  | 1, _ => by rw [Nat.pow_one]; omega
  | 2, _ => by
    have := Nat.mul_le_mul hb hb
    rw [Nat.pow_two]
    omega
  | _ + 3, h => by omega
/-! ### a list's loop -/
section
variable {M : List (Row × Dt)} {B : List (Tr Dt)} {A : List (Row × List Dt)} {A' : List (Tr (List Dt))} {n r b s v : Nat}
theorem Bn.it (h : Bn A n r) (k : Bn M b s) : ∀ j, Bn (itR M A j) (n * b ^ j) (r + j * (1 + s))
  | 0 => h.mono (by simp) (by simp)
  | j + 1 => (((h.it k j).beh 1).step k).mono (by rw [Nat.pow_succ, Nat.mul_assoc]; exact Nat.le_refl _) (by rw [Nat.succ_mul]; omega)
theorem Vl.it (h : Vl v A) : ∀ j, Vl (v + j) (itR M A j)
  | 0 => h
  | j + 1 => ((h.it j).beh 1).step
theorem raw_it (k : RawOf M B) (h : RawOf A A') : ∀ j, RawOf (itR M A j) (itT B A' j)
  | 0 => h
  | j + 1 => (raw_beh (raw_it k h j) [1]).mult k
theorem loop_bn (k : Bn M n r) {l m : Nat} (lm : l ≤ m) (m2 : m ≤ 2) : Bn (loopR M (m - l) (powM M l)) (1 + n + n * n) (2 * r + 3) := by
  have hn := k.n
  have hq := Nat.mul_le_mul hn hn
  refine ⟨?_, fun p hp => ?_⟩
  · rw [len_loop, len_pow]
    have e : (l = 0 ∧ m = 0) ∨ (l = 0 ∧ m = 1) ∨ (l = 0 ∧ m = 2) ∨ (l = 1 ∧ m = 1) ∨ (l = 1 ∧ m = 2) ∨ (l = 2 ∧ m = 2) := by omega
    rcases e with ⟨rfl, rfl⟩ | ⟨rfl, rfl⟩ | ⟨rfl, rfl⟩ | ⟨rfl, rfl⟩ | ⟨rfl, rfl⟩ | ⟨rfl, rfl⟩ <;> simp only [loopN, Nat.sub_self, Nat.sub_zero, Nat.reduceSub, Nat.pow_zero, Nat.pow_one, Nat.one_mul, Nat.pow_two] <;> omega
  · obtain ⟨a, ha, ps, h1, h2, rfl⟩ := mem_loop hp
    have ra := (k.pow l).r a ha
    have rp : (ps.flatMap fun (q : Row × Dt) => (1 : Int) :: q.1).length ≤ ps.length * (r + 1) := flat_le _ _ fun q hq => by
      have := k.r q (h2 q hq)
      rw [List.length_cons]
      omega
    show (a.1 ++ (ps.flatMap (fun (q : Row × Dt) => (1 : Int) :: q.1) ++ (if ps.length < m - l then [0] else []))).length ≤ _
    have r0 : (if ps.length < m - l then [(0 : Int)] else []).length ≤ 1 := by split <;> simp
    rw [List.length_append, List.length_append]
    have h3 : ps.length = 0 ∨ ps.length = 1 ∨ ps.length = 2 := by omega
    have h4 : l = 0 ∨ l = 1 ∨ l = 2 := by omega
    rcases h3 with h3 | h3 | h3 <;> rcases h4 with h4 | h4 | h4 <;> rw [h3] at rp <;> subst h4 <;> omega
theorem preL_of (h : RawOf M B) (k : Bn M 44 500) {l m : Nat} (lm : l ≤ m) (m2 : m ≤ 2) : PreL B l m := by
  have hB : B.length ≤ 44 := Nat.le_trans h.len k.n
  have kp : ∀ i, i ≤ 2 → Bn (powM M i) 1936 1000 := fun i hi => (k.pow i).mono (p44 (Nat.le_refl _) hi) (by have : i * 500 ≤ 2 * 500 := Nat.mul_le_mul_right _ hi; omega)
  have ki : ∀ j, j ≤ m - l → Bn (itR M (powM M l) j) 1936 2002 := fun j hj => ((k.pow l).it k j).mono (by rw [← Nat.pow_add]; exact p44 (Nat.le_refl _) (by omega)) (by
    have h1 : l * 500 ≤ 2 * 500 := Nat.mul_le_mul_right _ (by omega)
    have h2 : j * (1 + 500) ≤ 2 * (1 + 500) := Nat.mul_le_mul_right _ (by omega)
    omega)
  have ri : ∀ j, RawOf (itR M (powM M l) j) (itT B (tpowM B [([], 1, [])] l) j) := fun j => raw_it h (raw_pow h l) j
  refine ⟨lm, by omega, ft_of h k (by omega) (by omega), ?_, by omega, fun i hi => ⟨ft_of (raw_pow h i) (kp i (by omega)) (by omega) (by omega), fl_of (raw_pow h i) (Vl.pow i) (by omega)⟩, fun j hj => ⟨ft_of (ri j) (ki j hj) (by omega) (by omega), fl_of (ri j) ((Vl.pow l).it j) (by omega)⟩, fun j hj => ?_, ?_, fun i hi => ?_, fun j hj => ?_⟩
  · have hq := Nat.mul_le_mul hB hB
    have e : (l = 0 ∧ m = 0) ∨ (l = 0 ∧ m = 1) ∨ (l = 0 ∧ m = 2) ∨ (l = 1 ∧ m = 1) ∨ (l = 1 ∧ m = 2) ∨ (l = 2 ∧ m = 2) := by omega
    rcases e with ⟨rfl, rfl⟩ | ⟨rfl, rfl⟩ | ⟨rfl, rfl⟩ | ⟨rfl, rfl⟩ | ⟨rfl, rfl⟩ | ⟨rfl, rfl⟩ <;> simp [List.range_succ, Int.pow_succ] <;> omega
  · exact ft_of (raw_beh (ri j) [1]) ((ki j (by omega)).beh 1) (by omega) (by omega)
  · rw [← loopT_eq]
    have h1 := (raw_loop h (m - l) (raw_pow h l)).len
    have h2 := (loop_bn k lm m2).n
    omega
  · have h1 := (raw_pow h i).len
    have h2 := (kp i (by omega)).n
    have := Nat.mul_le_mul (Nat.le_trans h1 h2) hB
    omega
  · have h1 := (ri j).len
    have h2 := (ki j (by omega)).n
    have := Nat.mul_le_mul (Nat.le_trans h1 h2) hB
    omega
theorem preLr_of (k : Bn M 44 500) {l m : Nat} (lm : l ≤ m) (m2 : m ≤ 2) : PreLr M l m := by
  have kp : ∀ i, i ≤ 2 → Bn (powM M i) 1936 1000 := fun i hi => (k.pow i).mono (p44 (Nat.le_refl _) hi) (by have : i * 500 ≤ 2 * 500 := Nat.mul_le_mul_right _ hi; omega)
  have ki : ∀ j, j ≤ m - l → Bn (itR M (powM M l) j) 1936 2002 := fun j hj => ((k.pow l).it k j).mono (by rw [← Nat.pow_add]; exact p44 (Nat.le_refl _) (by omega)) (by
    have h1 : l * 500 ≤ 2 * 500 := Nat.mul_le_mul_right _ (by omega)
    have h2 : j * (1 + 500) ≤ 2 * (1 + 500) := Nat.mul_le_mul_right _ (by omega)
    omega)
  refine ⟨lm, by omega, k.fr (by omega) (by omega), fun i hi => ⟨(kp i (by omega)).fr (by omega) (by omega), fun p hp => Nat.le_trans (Vl.pow i p hp) (by omega)⟩, fun j hj => ⟨(ki j hj).fr (by omega) (by omega), fun p hp => Nat.le_trans ((Vl.pow l).it j p hp) (by omega)⟩, ?_, fun i hi => ?_, fun j hj => ?_⟩
  · rw [← loopR_eq]
    have h2 := (loop_bn k lm m2).n
    omega
  · have := Nat.mul_le_mul (kp i (by omega)).n k.n
    omega
  · have := Nat.mul_le_mul (ki j (by omega)).n k.n
    omega
end
/-! ### tuples -/
theorem p4 {i : Nat} (h : i ≤ 2) : 4 ^ i ≤ 16 := by
  have : i = 0 ∨ i = 1 ∨ i = 2 := by omega
  rcases this with rfl | rfl | rfl <;> simp
theorem join_bn {α : Type} {Ls : List (List (Row × α))} (h2 : Ls.length ≤ 2) (h : ∀ L ∈ Ls, Bn L 4 500) : Bn (joinR Ls) 16 1000 := by
  have : Bn ([([], [])] : List (Row × List α)) 1 0 := ⟨Nat.le_refl _, fun p hp => by rw [List.mem_singleton.mp hp]; exact Nat.le_refl _⟩
  refine (Bn.join h this).mono ?_ ?_
  · have := p4 h2
    omega
  · have : Ls.length * 500 ≤ 2 * 500 := Nat.mul_le_mul_right _ h2
    omega
theorem join_vl {α : Type} {Ls : List (List (Row × α))} (h2 : Ls.length ≤ 2) : Vl 2 (joinR Ls) := fun p hp => by
  have h0 : Vl 0 ([([], [])] : List (Row × List α)) := fun p hp => by rw [List.mem_singleton.mp hp]; exact Nat.le_refl _
  have h1 : p.2.length ≤ 0 + Ls.length := h0.join p hp
  omega
theorem preT_of {Ls : List (List (Row × Dt))} {Ts : List (List (Tr Dt))} (a : All2 RawOf Ls Ts) (h2 : Ls.length ≤ 2) (h : ∀ L ∈ Ls, Bn L 4 500) : PreT Ts := by
  have hl := a.length
  have key : ∀ {Ls : List (List (Row × Dt))} {Ts : List (List (Tr Dt))}, All2 RawOf Ls Ts → (∀ L ∈ Ls, Bn L 4 500) → ∀ B ∈ Ts, FT B ∧ B.length ≤ 4 := by
    intro Ls Ts a
    induction a with
    | nil => intro _ B hB; cases hB
    | cons r _ ih =>
      intro h B hB
      have b4 := h _ List.mem_cons_self
      rcases List.mem_cons.mp hB with z | z
      · rw [z]; exact ⟨ft_of r b4 (by omega) (by omega), Nat.le_trans r.len b4.n⟩
      · exact ih (fun L hL => h L (List.mem_cons_of_mem _ hL)) B z
  have k := key a h
  have tk : ∀ i, (Ls.take i).length ≤ 2 := fun i => by rw [List.length_take]; omega
  have bi : ∀ i, Bn (joinR (Ls.take i)) 16 1000 := fun i => join_bn (tk i) fun L hL => h L (List.mem_of_mem_take hL)
  have ri : ∀ i, RawOf (joinR (Ls.take i)) (joinT (Ts.take i)) := fun i => join_raw (all2_take i a)
  have pl : ∀ (Ts : List (List (Tr Dt))) (n : Nat), (∀ B ∈ Ts, B.length ≤ 4) → Ts.foldl (fun n T => n * T.length) n ≤ n * 4 ^ Ts.length := by
    intro Ts
    induction Ts with
    | nil => intro n _; simp
    | cons B Ts ih =>
      intro n hB
      have h1 := ih (n * B.length) fun C hC => hB C (List.mem_cons_of_mem _ hC)
      have h2 : n * B.length * 4 ^ Ts.length ≤ n * 4 ^ (B :: Ts).length := by
        rw [List.length_cons, Nat.pow_succ, Nat.mul_assoc, Nat.mul_comm (4 ^ _) 4]
        exact Nat.mul_le_mul_left _ (Nat.mul_le_mul_right _ (hB B List.mem_cons_self))
      exact Nat.le_trans h1 h2
  refine ⟨by omega, fun B hB => (k B hB).1, fun _ i => ?_, fun _ i => ⟨ft_of (ri i) (bi i) (by omega) (by omega), fl_of (ri i) (join_vl (tk i)) (by omega)⟩, fun _ i B hB => ?_⟩
  · have h1 := pl (Ts.take i) 1 fun B hB => (k B (List.mem_of_mem_take hB)).2
    have h3 : (Ts.take i).length ≤ 2 := by rw [List.length_take]; omega
    have h4 := p4 h3
    show (Ts.take i).foldl _ 1 ≤ _
    omega
  · have h1 := (ri i).len
    have h3 := (bi i).n
    have h4 := (k B (List.mem_of_getElem? hB)).2
    have := Nat.mul_le_mul (Nat.le_trans h1 h3) h4
    omega
theorem preJ_of {Ls : List (List (Row × Dt))} (h2 : Ls.length ≤ 2) (h : ∀ L ∈ Ls, Bn L 4 500) : PreJ Ls := by
  have tk : ∀ i, (Ls.take i).length ≤ 2 := fun i => by rw [List.length_take]; omega
  have bi : ∀ i, Bn (joinR (Ls.take i)) 16 1000 := fun i => join_bn (tk i) fun L hL => h L (List.mem_of_mem_take hL)
  refine ⟨by omega, fun L hL => (h L hL).fr (by omega) (by omega), fun _ i => ⟨(bi i).fr (by omega) (by omega), fun p hp => Nat.le_trans (join_vl (tk i) p hp) (by omega)⟩, fun _ i L hL => ?_⟩
  have := Nat.mul_le_mul (bi i).n (h L (List.mem_of_getElem? hL)).n
  omega
/-! ### repeats -/
section
variable {L M : List (Row × Dt)} {F B : List (Tr Dt)}
def repN (m : Nat) (v : Dt) : Int := if fit6 v = true then ((m ^ (numD v).toNat : Nat) : Int) else 0
theorem rep_len (M : List (Row × Dt)) : ∀ L : List (Row × Dt), ((repR L M).length : Int) = WL L (repN M.length)
  | [] => rfl
  | p :: L => by
    have ih := rep_len M L
    have e : repR (p :: L) M = ((if fit6 p.2 = true then tupR (powM M (numD p.2).toNat) else []).map fun q => (p.1 ++ q.1, q.2)) ++ repR L M := List.flatMap_cons
    rw [e, List.length_append, List.length_map]
    show (((if fit6 p.2 = true then tupR (powM M (numD p.2).toNat) else []).length + (repR L M).length : Nat) : Int) = ((p :: L).map fun p => repN M.length p.2).sum
    rw [List.map_cons, List.sum_cons]
    rw [show (L.map fun p => repN M.length p.2).sum = WL L (repN M.length) from rfl, ← ih]
    unfold repN
    split
    · unfold tupR
      rw [List.length_map, len_pow]
      omega
    · simp
theorem num_le {lo hi : Int} (h2 : hi ≤ 2) {p : Row × Dt} (h : p ∈ lfR (.int lo hi)) : (∃ i, p.2 = .num i) ∧ (numD p.2).toNat ≤ 2 ∧ p.1.length ≤ 1 := by
  obtain ⟨i, hi', rfl⟩ := List.mem_map.mp h
  have := List.mem_range.mp hi'
  refine ⟨⟨_, rfl⟩, ?_, Nat.le_refl _⟩
  show (lo + (i : Int)).toNat ≤ 2
  omega
theorem int_len (lo hi : Int) : (lfR (.int lo hi)).length = (hi - lo + 1).toNat := by
  show ((List.range _).map _).length = _
  rw [List.length_map, List.length_range]
theorem preR_of {lo hi : Int} (h : RawOf (lfR (.int lo hi)) F) (k : RawOf M B) (h4 : hi - lo + 1 ≤ 4) (h2 : hi ≤ 2) (b : Bn M 44 500) (all : (repR (lfR (.int lo hi)) M).length ≤ 2000) : PreR F B := by
  have hB : B.length ≤ 44 := Nat.le_trans k.len b.n
  have bL : Bn (lfR (.int lo hi)) 4 1 := ⟨by rw [int_len]; omega, fun p hp => (num_le h2 hp).2.2⟩
  have kp : ∀ i, i ≤ 2 → Bn (powM M i) 1936 1000 := fun i hi => (b.pow i).mono (p44 (Nat.le_refl _) hi) (by have : i * 500 ≤ 2 * 500 := Nat.mul_le_mul_right _ hi; omega)
  have n2 : ∀ t ∈ F, (numD t.1).toNat ≤ 2 := fun t ht => (num_le h2 (h.mem t ht)).2.1
  have tl : ∀ (c : Int) (r : Row) i, i ≤ 2 → (tpowM B [([], c, r)] i).length ≤ 1936 := fun c r i hi => by
    rw [tpow_first, List.length_map]
    exact Nat.le_trans (raw_pow k i).len (kp i hi).n
  refine ⟨ft_of h bL (by omega) (by omega), fun t ht => (num_le h2 (h.mem t ht)).1, ft_of k b (by omega) (by omega), by omega, ?_, fun t ht _ i hi => ⟨⟨?_, fun u hu => ?_⟩, fun u hu => ?_⟩, fun t ht _ i hi => ?_, ?_⟩
  · rw [sum_filter]
    have e1 : (F.map fun t => if fit6 t.1 = true then ((B.length ^ (numD t.1).toNat : Nat) : Int) else 0).sum ≤ WT F (repN M.length) := by
      refine sum_mono fun t ht => ?_
      have c1 := (h.cnt t ht).1
      show _ ≤ t.2.1 * repN M.length t.1
      unfold repN
      split
      · have q : ((B.length ^ (numD t.1).toNat : Nat) : Int) ≤ ((M.length ^ (numD t.1).toNat : Nat) : Int) := by
          have := Nat.pow_le_pow_left k.len (numD t.1).toNat
          omega
        have q2 : (1 : Int) * ((M.length ^ (numD t.1).toNat : Nat) : Int) ≤ t.2.1 * ((M.length ^ (numD t.1).toNat : Nat) : Int) := Int.mul_le_mul_of_nonneg_right c1 (Int.natCast_nonneg _)
        omega
      · simp
    rw [h.w, ← rep_len] at e1
    have e2 : (((repR (lfR (.int lo hi)) M).length : Nat) : Int) ≤ 2000 := by omega
    exact Int.le_trans e1 e2
  · exact Nat.le_trans (tl _ _ i (Nat.le_trans hi (n2 t ht))) (by omega)
  · rw [tpow_first] at hu
    obtain ⟨x, hx, rfl⟩ := List.mem_map.mp hu
    have i2 := Nat.le_trans hi (n2 t ht)
    have c1 := h.cnt t ht
    have c2 := (raw_pow k i).cnt x hx
    have c3 := bL.n
    have c4 := (kp i i2).n
    have r1 : t.2.2.length ≤ 1 := bL.r _ (h.mem t ht)
    have r2 : x.2.2.length ≤ 1000 := (kp i i2).r _ ((raw_pow k i).mem x hx)
    have q : t.2.1 * x.2.1 ≤ 4 * 1936 := Int.le_trans (Int.mul_le_mul_of_nonneg_right (show t.2.1 ≤ 4 by omega) (by omega)) (Int.mul_le_mul_of_nonneg_left (by omega) (by omega))
    have q0 : 0 ≤ t.2.1 * x.2.1 := Int.mul_nonneg (by omega) (by omega)
    refine ⟨q0, by show t.2.1 * x.2.1 ≤ _; omega, ?_⟩
    show (t.2.2 ++ x.2.2).length ≤ _
    rw [List.length_append]
    omega
  · rw [tpow_first] at hu
    obtain ⟨x, hx, rfl⟩ := List.mem_map.mp hu
    exact Nat.le_trans (Vl.pow (M := M) i _ ((raw_pow k i).mem x hx)) (by have := n2 t ht; omega)
  · have := Nat.mul_le_mul (tl t.2.1 t.2.2 i (by have := n2 t ht; omega)) hB
    omega
  · exact Nat.le_trans (raw_rep h k).len (by omega)
theorem preRr_of {lo hi : Int} (pL : L.Perm (lfR (.int lo hi))) (b : Bn M 44 500) (h4 : hi - lo + 1 ≤ 4) (h2 : hi ≤ 2) (all : (repR L M).length ≤ 2000) : PreRr L M := by
  have bL : Bn L 4 1 := Bn.perm ⟨by rw [int_len]; omega, fun p hp => (num_le h2 hp).2.2⟩ pL.symm
  have kp : ∀ i, i ≤ 2 → Bn (powM M i) 1936 1000 := fun i hi => (b.pow i).mono (p44 (Nat.le_refl _) hi) (by have : i * 500 ≤ 2 * 500 := Nat.mul_le_mul_right _ hi; omega)
  refine ⟨bL.fr (by omega) (by omega), b.fr (by omega) (by omega), fun p hp => (num_le h2 (pL.mem_iff.mp hp)).1, fun p hp _ => ?_, by omega⟩
  have n2 := (num_le h2 (pL.mem_iff.mp hp)).2.1
  refine ⟨⟨by rw [List.length_replicate]; omega, fun N hN => ?_, fun _ i => ?_, fun _ i N hN => ?_⟩, (kp _ n2).fr (by omega) (by omega)⟩
  · rw [List.eq_of_mem_replicate hN]
    exact b.fr (by omega) (by omega)
  · rw [List.take_replicate, joinR_rep]
    have : min i (numD p.2).toNat ≤ 2 := by omega
    exact ⟨(kp _ this).fr (by omega) (by omega), fun p hp => Nat.le_trans (Vl.pow _ p hp) (by omega)⟩
  · rw [List.take_replicate, joinR_rep]
    have : min i (numD p.2).toNat ≤ 2 := by omega
    have e := List.eq_of_mem_replicate (List.mem_of_getElem? hN)
    rw [e]
    have := Nat.mul_le_mul (kp _ this).n b.n
    omega
theorem rep_bn {lo hi : Int} (l0 : -1 ≤ lo) (l1 : lo ≤ 0) (h0 : 1 ≤ hi) (h1 : hi ≤ 2) {n r : Nat} (b : Bn M n r) : Bn (repR (lfR (.int lo hi)) M) (1 + n + n * n) (1 + 2 * r) := by
  have hn := b.n
  have hq := Nat.mul_le_mul hn hn
  refine ⟨?_, fun p hp => ?_⟩
  · have e := rep_len M (lfR (.int lo hi))
    have el : lo = -1 ∨ lo = 0 := by omega
    have eh : hi = 1 ∨ hi = 2 := by omega
    have m0 : ∀ m, repN m (.num (-1)) = 0 := fun m => rfl
    have m1 : ∀ m, repN m (.num 0) = 1 := fun m => by show (((m ^ 0 : Nat)) : Int) = 1; simp
    have m2 : ∀ m : Nat, repN m (.num 1) = m := fun m => by show (((m ^ 1 : Nat)) : Int) = m; simp
    have m3 : ∀ m : Nat, repN m (.num 2) = ((m * m : Nat) : Int) := fun m => by show (((m ^ 2 : Nat)) : Int) = _; rw [Nat.pow_two]
    rcases el with rfl | rfl <;> rcases eh with rfl | rfl
    · have : WL (lfR (.int (-1) 1)) (repN M.length) = repN M.length (.num (-1)) + (repN M.length (.num 0) + (repN M.length (.num 1) + 0)) := rfl
      rw [this, m0, m1, m2] at e
      omega
    · have : WL (lfR (.int (-1) 2)) (repN M.length) = repN M.length (.num (-1)) + (repN M.length (.num 0) + (repN M.length (.num 1) + (repN M.length (.num 2) + 0))) := rfl
      rw [this, m0, m1, m2, m3] at e
      omega
    · have : WL (lfR (.int 0 1)) (repN M.length) = (repN M.length (.num 0) + (repN M.length (.num 1) + 0)) := rfl
      rw [this, m1, m2] at e
      omega
    · have : WL (lfR (.int 0 2)) (repN M.length) = (repN M.length (.num 0) + (repN M.length (.num 1) + (repN M.length (.num 2) + 0))) := rfl
      rw [this, m1, m2, m3] at e
      omega
  · obtain ⟨a, ha, h4⟩ := List.mem_flatMap.mp hp
    obtain ⟨c, hc, rfl⟩ := List.mem_map.mp h4
    have n2 := num_le h1 ha
    show (a.1 ++ c.1).length ≤ _
    rw [List.length_append]
    split at hc
    · have r2 := (b.pow (numD a.2).toNat).tup.r c hc
      have : (numD a.2).toNat * r ≤ 2 * r := Nat.mul_le_mul_right _ n2.2.1
      omega
    · cases hc
end
end CR

set_option Elab.async false
set_option linter.all false
set_option maxRecDepth 100000
set_option maxHeartbeats 4000000
namespace CR
open PySem
/-! ### small generators -/
def SmL : Lf → Prop
  | .int lo hi => 0 ≤ hi - lo ∧ hi - lo ≤ 3
  | .pick ws => ws.length ≤ 4 ∧ ws.Nodup
theorem sml_bn {l : Lf} (h : SmL l) : Bn (lfR l) 4 1 := by
  cases l with
  | int lo hi =>
    refine ⟨by rw [int_len]; have := h.2; omega, fun p hp => ?_⟩
    obtain ⟨i, _, rfl⟩ := List.mem_map.mp hp
    exact Nat.le_refl _
  | pick ws =>
    refine ⟨?_, fun p hp => ?_⟩
    · show ((List.range _).map _).length ≤ _
      rw [List.length_map, List.length_range]
      exact h.1
    · obtain ⟨i, _, rfl⟩ := List.mem_map.mp hp
      exact Nat.le_refl _
theorem sml_vals {l : Lf} (h : SmL l) : ((lfR l).map (·.2)).Nodup := by
  cases l with
  | int lo hi =>
    show (((List.range _).map _).map _).Nodup
    rw [List.map_map]
    show List.Pairwise _ _
    rw [List.pairwise_map]
    refine (List.nodup_range (n := _)).imp fun {a b} hab z => hab ?_
    have z : NestedKey.num (lo + (a : Int)) = NestedKey.num (lo + (b : Int)) := z
    injection z with z
    omega
  | pick ws =>
    show (((List.range _).map _).map _).Nodup
    rw [List.map_map]
    show List.Pairwise _ _
    rw [List.pairwise_map]
    have hn := h.2
    refine List.Pairwise.imp_of_mem (R := fun a b => a ≠ b) (fun {a b} ha hb hab z => hab ?_) (List.nodup_range (n := ws.length))
    have ha := List.mem_range.mp ha
    have hb := List.mem_range.mp hb
    have z : NestedKey.text (ws.getD a (Str.ofString "")) = NestedKey.text (ws.getD b (Str.ofString "")) := z
    injection z with z
    rw [List.getD_eq_getElem?_getD, List.getD_eq_getElem?_getD, List.getElem?_eq_getElem ha, List.getElem?_eq_getElem hb] at z
    exact (List.getElem_inj hn).mp z
/-- of a kind, with few rows -/
def Ws : Gen → Kd → Prop
  | .leaf l, k => (∃ b, k = .b b ∧ LfK l b) ∧ SmL l ∧ k.depth ≤ 8
  | .tuple ls, k => (∃ bs, k = .tup bs ∧ All2 LfK ls bs) ∧ (∀ l ∈ ls, SmL l) ∧ ls.length ≤ 2 ∧ k.depth ≤ 8 ∧ ls ≠ []
  | .list g l m, k => (∃ k', k = .lst k' ∧ Ws g k') ∧ l ≤ m ∧ m ≤ 2 ∧ Bn (rowsM g) 44 500 ∧ Few (rowsM (.list g l m)) ∧ k.depth ≤ 8
  | .one g, k => Ws g k ∧ Few (rowsM (.one g)) ∧ k.depth ≤ 8
  | .two g h, k => (Ws g k ∧ Ws h k) ∧ Few (rowsM (.two g h)) ∧ k.depth ≤ 8
  | .kept g c, k => (Ws g k ∧ Fits c k ∧ c.depth ≤ 6) ∧ Few (rowsM (.kept g c)) ∧ k.depth ≤ 8
  | .turned g m, k => (∃ k', Ws g k' ∧ MFits m k' k) ∧ Few (rowsM (.turned g m)) ∧ k.depth ≤ 8
  | .rep lo hi g, k => (∃ k', k = .lst k' ∧ Ws g k') ∧ SmL (.int lo hi) ∧ hi ≤ 2 ∧ Bn (rowsM g) 44 500 ∧ Few (rowsM (.rep lo hi g)) ∧ k.depth ≤ 8
theorem Ws.kd : ∀ {g : Gen} {k : Kd}, Ws g k → k.depth ≤ 8
  | .leaf _, _, h => h.2.2
  | .tuple _, _, h => h.2.2.2.1
  | .list _ _ _, _, h => h.2.2.2.2.2
  | .one _, _, h => h.2.2
  | .two _ _, _, h => h.2.2
  | .kept _ _, _, h => h.2.2
  | .turned _ _, _, h => h.2.2
  | .rep _ _ _, _, h => h.2.2.2.2.2
theorem map_lf {ls : List Lf} (h : ∀ l ∈ ls, SmL l) : ∀ L ∈ ls.map lfR, Bn L 4 500 := fun L hL => by
  obtain ⟨l, hl, rfl⟩ := List.mem_map.mp hL
  exact (sml_bn (h l hl)).mono (by omega) (by omega)
theorem tuple_bn {ls : List Lf} (h : ∀ l ∈ ls, SmL l) (h2 : ls.length ≤ 2) : Bn (rowsM (.tuple ls)) 16 2 := by
  have b0 : Bn ([([], [])] : List (Row × List Dt)) 1 0 := ⟨Nat.le_refl _, fun p hp => by rw [List.mem_singleton.mp hp]; exact Nat.le_refl _⟩
  have := Bn.join (Ls := ls.map lfR) (b := 4) (s := 1) (fun L hL => by
    obtain ⟨l, hl, rfl⟩ := List.mem_map.mp hL
    exact sml_bn (h l hl)) b0
  rw [List.length_map] at this
  exact this.tup.mono (by have := p4 h2; omega) (by omega)
theorem Ws.wf : ∀ {g : Gen} {k : Kd}, Ws g k → Wf g k
  | .leaf _, _, h => ⟨h.1, (sml_bn h.2.1).few (by omega) (by omega)⟩
  | .tuple ls, _, h => by
    obtain ⟨⟨bs, rfl, hb⟩, hs, h2, _⟩ := h
    exact ⟨⟨bs, rfl, hb, fun l hl => (sml_bn (hs l hl)).few (by omega) (by omega), by omega⟩, (tuple_bn hs h2).few (by omega) (by omega)⟩
  | .list _ _ _, _, h => by
    obtain ⟨⟨k', rfl, h1⟩, lm, m2, _, f, _⟩ := h
    exact ⟨⟨k', rfl, h1.wf, lm, by omega⟩, f⟩
  | .one _, _, h => ⟨Ws.wf h.1, h.2.1⟩
  | .two _ _, _, h => ⟨⟨Ws.wf h.1.1, Ws.wf h.1.2⟩, h.2.1⟩
  | .kept _ _, _, h => ⟨⟨Ws.wf h.1.1, h.1.2⟩, h.2.1⟩
  | .turned _ _, _, h => by
    obtain ⟨⟨k', h1, hm⟩, f, _⟩ := h
    exact ⟨⟨k', h1.wf, hm⟩, f⟩
  | .rep _ _ _, _, h => by
    obtain ⟨⟨k', rfl, h1⟩, hs, _, _, f, _⟩ := h
    exact ⟨⟨k', rfl, h1.wf, (sml_bn hs).few (by omega) (by omega)⟩, f⟩
theorem Ws.part {g : Gen} {k : Kd} (h : Ws g k) : ∀ p ∈ g.parts, ∃ k', Ws p k' := by
  cases g with
  | leaf l => intro p hp; cases hp
  | tuple ls =>
    intro p hp
    obtain ⟨l, hl, rfl⟩ := List.mem_map.mp hp
    obtain ⟨⟨bs, rfl, hb⟩, hs, h2, _⟩ := h
    have key : ∀ {ls : List Lf} {bs : List Bs}, All2 LfK ls bs → ∀ l ∈ ls, ∃ b, LfK l b := by
      intro ls bs h
      induction h with
      | nil => intro l hl; cases hl
      | cons a _ ih =>
        intro l hl
        rcases List.mem_cons.mp hl with z | z
        · rw [z]; exact ⟨_, a⟩
        · exact ih l z
    obtain ⟨b, hb⟩ := key hb l hl
    exact ⟨.b b, ⟨b, rfl, hb⟩, hs l hl, Nat.zero_le _⟩
  | list g l m =>
    intro p hp
    obtain ⟨⟨k', _, h1⟩, _⟩ := h
    rw [List.mem_singleton.mp hp]; exact ⟨k', h1⟩
  | one g => intro p hp; rw [List.mem_singleton.mp hp]; exact ⟨k, h.1⟩
  | two g g' =>
    intro p hp
    have hp : p ∈ [g, g'] := hp
    simp only [List.mem_cons, List.not_mem_nil, or_false] at hp
    rcases hp with z | z
    · rw [z]; exact ⟨k, h.1.1⟩
    · rw [z]; exact ⟨k, h.1.2⟩
  | kept g c => intro p hp; rw [List.mem_singleton.mp hp]; exact ⟨k, h.1.1⟩
  | turned g m =>
    intro p hp
    obtain ⟨⟨k', h1, _⟩, _⟩ := h
    rw [List.mem_singleton.mp hp]; exact ⟨k', h1⟩
  | rep lo hi g =>
    intro p hp
    have hp : p ∈ [Gen.leaf (.int lo hi), g] := hp
    obtain ⟨⟨k', _, h1⟩, hs, _⟩ := h
    simp only [List.mem_cons, List.not_mem_nil, or_false] at hp
    rcases hp with z | z
    · rw [z]; exact ⟨.b .int, ⟨.int, rfl, rfl⟩, hs, Nat.zero_le _⟩
    · rw [z]; exact ⟨k', h1⟩
/-! ### tables and exact rows -/
theorem all2_of {α β γ : Type} {R : β → γ → Prop} {f : α → β} {g : α → γ} : ∀ {l : List α}, (∀ a ∈ l, R (f a) (g a)) → All2 R (l.map f) (l.map g)
  | [], _ => .nil
  | a :: l, h => .cons (h a List.mem_cons_self) (all2_of fun b hb => h b (List.mem_cons_of_mem _ hb))
theorem tris_of {g : Gen} (h : ∀ p ∈ g.parts, TabOf (rowsM p) (tableM p)) : RawOf (rowsM g) (trisOf g (g.parts.map tableM)) := by
  rw [rowsM_eq g]
  exact tris_raw (all2_of fun p hp => (h p hp).raw) (List.length_map _)
theorem tab_all : ∀ (n : Nat) (g : Gen), g.depth < n → TabOf (rowsM g) (tableM g)
  | 0, _, h => absurd h (Nat.not_lt_zero _)
  | n + 1, g, h => by
    have := tris_of (g := g) fun p hp => tab_all n p (by have := depth_part hp; omega)
    rw [tableM_eq g]
    exact (tab_merge this).perm (byRow_perm _ _).symm
theorem tab_ok (g : Gen) : TabOf (rowsM g) (tableM g) := tab_all _ g (Nat.lt_succ_self _)
theorem nodup_val {L : List (Row × Dt)} (h : (L.map (·.2)).Nodup) {p q : Row × Dt} (hp : p ∈ L) (hq : q ∈ L) (e : p.2 = q.2) : p = q := nodup_key (·.2) h hp hq e
theorem nodup_of_map {γ δ : Type} (f : γ → δ) {l : List γ} (h : (l.map f).Nodup) : l.Nodup := by
  have : List.Pairwise (fun a b => f a ≠ f b) l := List.pairwise_map.mp h
  exact this.imp fun {a b} n e => n (by rw [e])
theorem leaf_perm {l : Lf} (h : SmL l) : (leafR l).Perm (lfR l) := by
  have t : TabOf (lfR l) (tableM (.leaf l)) := tab_ok (.leaf l)
  have hv := sml_vals h
  refine (List.perm_ext_iff_of_nodup ?_ ?_).mpr fun p => ⟨fun hp => ?_, fun hp => ?_⟩
  · refine nodup_of_map (fun p : Row × Dt => p.2) ?_
    unfold leafR
    rw [List.map_map]
    exact t.nd
  · exact nodup_of_map (fun p : Row × Dt => p.2) hv
  · obtain ⟨u, hu, rfl⟩ := List.mem_map.mp hp
    exact t.raw.mem u hu
  · obtain ⟨u, hu, e, _⟩ := t.raw.low p hp
    have := nodup_val hv (t.raw.mem u hu) hp e
    rw [← this]
    exact List.mem_map.mpr ⟨u, hu, rfl⟩
theorem exact_perm : ∀ {g : Gen} {k : Kd}, Ws g k → (exactM g).Perm (rowsM g)
  | .leaf l, _, h => leaf_perm h.2.1
  | .tuple ls, _, h => by
    have e : rowsM (.tuple ls) = rowsOf (.tuple ls) (ls.map lfR) := rfl
    rw [e]
    exact rows_perm (g := .tuple ls) (all2_of fun l hl => leaf_perm (h.2.1 l hl)) (by rw [List.length_map]; exact (List.length_map _).symm)
  | .list g l m, _, h => by
    obtain ⟨⟨k', _, h1⟩, _⟩ := h
    exact rows_perm (g := .list g l m) (Qs := [rowsM g]) (.cons (exact_perm h1) .nil) rfl
  | .one g, _, h => rows_perm (g := .one g) (Qs := [rowsM g]) (.cons (exact_perm h.1) .nil) rfl
  | .two g g', _, h => rows_perm (g := .two g g') (Qs := [rowsM g, rowsM g']) (.cons (exact_perm h.1.1) (.cons (exact_perm h.1.2) .nil)) rfl
  | .kept g c, _, h => rows_perm (g := .kept g c) (Qs := [rowsM g]) (.cons (exact_perm h.1.1) .nil) rfl
  | .turned g m, _, h => by
    obtain ⟨⟨k', h1, _⟩, _⟩ := h
    exact rows_perm (g := .turned g m) (Qs := [rowsM g]) (.cons (exact_perm h1) .nil) rfl
  | .rep lo hi g, _, h => by
    obtain ⟨⟨k', _, h1⟩, hs, _⟩ := h
    exact rows_perm (g := .rep lo hi g) (Qs := [lfR (.int lo hi), rowsM g]) (.cons (leaf_perm hs) (.cons (exact_perm h1) .nil)) rfl
/-! ### sizes of values -/
theorem hasB_sz {b : Bs} {d : Dt} (h : HasB b d) : Sz d := by
  cases b with
  | int => obtain ⟨i, rfl⟩ := h; trivial
  | word => obtain ⟨x, rfl, _⟩ := h; trivial
theorem sz_tup {ds : List Dt} (h : ds.length ≤ 10) (k : ∀ d ∈ ds, Sz d) : Sz (.tup ds) := ⟨h, szA_iff.mpr k⟩
theorem sortD_len (ds : List Dt) : (sortD ds).length = ds.length := by
  unfold sortD
  split <;> rw [List.length_map, List.length_mergeSort, List.length_map]
theorem turn_sz {m : Mp} {k k' : Kd} {v : Dt} (h : MFits m k k') (hv : HasK k v) (s : Sz v) : Sz (turnM m v) := by
  have hk := turn_kind h hv
  cases m with
  | plus n => trivial
  | times n => trivial
  | length => obtain ⟨⟨j, rfl⟩, rfl⟩ := h; obtain ⟨ds, rfl, _⟩ := hv; trivial
  | sum => obtain ⟨rfl, rfl⟩ := h; obtain ⟨ds, rfl, _⟩ := hv; trivial
  | sorted =>
    obtain ⟨b, rfl, rfl⟩ := h
    obtain ⟨ds, rfl, hd⟩ := hv
    obtain ⟨es, e, he⟩ := hk
    have e : NestedKey.tup (sortD ds) = .tup es := e
    injection e with e
    exact sz_tup (by rw [sortD_len]; exact s.1) fun d hd => hasB_sz (b := b) (he d (by rw [← e]; exact hd))
  | reversed =>
    obtain ⟨⟨j, rfl⟩, rfl⟩ := h
    obtain ⟨ds, rfl, hd⟩ := hv
    exact sz_tup (by rw [List.length_reverse]; exact s.1) fun d hd => szA_iff.mp s.2 d (List.mem_reverse.mp hd)
theorem rows_sz : ∀ {g : Gen} {k : Kd}, Ws g k → ∀ p ∈ rowsM g, Sz p.2
  | .leaf l, k, h => by
    obtain ⟨⟨b, rfl, hb⟩, _⟩ := h
    exact fun p hp => hasB_sz (lf_kind hb p hp)
  | .tuple ls, k, h => by
    intro p hp
    obtain ⟨ds, e, hd⟩ : ∃ ds, p.2 = .tup ds ∧ ∀ d ∈ ds, Sz d := by
      have hk := rows_kind h.wf p hp
      obtain ⟨⟨bs, rfl, hb⟩, _⟩ := h
      obtain ⟨ds, e, h2⟩ := hk
      refine ⟨ds, e, fun d hd => ?_⟩
      obtain ⟨b, hb⟩ := all2_mem h2 d hd
      exact hasB_sz hb
    obtain ⟨q, hq, rfl⟩ := List.mem_map.mp hp
    have e : NestedKey.tup q.2 = .tup ds := e
    injection e with e
    refine sz_tup ?_ (by rw [e]; exact hd)
    have := join_vl (Ls := ls.map lfR) (by rw [List.length_map]; exact h.2.2.1) q hq
    omega
  | .list g l m, k, h => by
    obtain ⟨⟨k', rfl, h2⟩, lm, m2, _⟩ := h
    have ih := rows_sz h2
    intro p hp
    obtain ⟨q, hq, rfl⟩ := List.mem_map.mp hp
    obtain ⟨a, ha, ps, h3, h4, rfl⟩ := mem_loop hq
    obtain ⟨qs, h5, h6, rfl⟩ := mem_pow ha
    refine sz_tup ?_ fun x hx => ?_
    · show (qs.map (·.2) ++ ps.map (·.2)).length ≤ 10
      rw [List.length_append, List.length_map, List.length_map]
      omega
    · rcases List.mem_append.mp hx with z | z
      · obtain ⟨y, hy, rfl⟩ := List.mem_map.mp z
        exact ih y (h6 y hy)
      · obtain ⟨y, hy, rfl⟩ := List.mem_map.mp z
        exact ih y (h4 y hy)
  | .one g, k, h => by
    intro p hp
    obtain ⟨q, hq, rfl⟩ := List.mem_map.mp hp
    exact rows_sz h.1 q hq
  | .two g g', k, h => by
    intro p hp
    rcases List.mem_append.mp hp with hp | hp
    · obtain ⟨q, hq, rfl⟩ := List.mem_map.mp hp
      exact rows_sz h.1.1 q hq
    · obtain ⟨q, hq, rfl⟩ := List.mem_map.mp hp
      exact rows_sz h.1.2 q hq
  | .kept g c, k, h => fun p hp => rows_sz h.1.1 p (List.mem_filter.mp hp).1
  | .turned g m, k, h => by
    obtain ⟨⟨k', h2, h3⟩, _⟩ := h
    intro p hp
    obtain ⟨q, hq, rfl⟩ := List.mem_map.mp hp
    exact turn_sz h3 (rows_kind h2.wf q hq) (rows_sz h2 q hq)
  | .rep lo hi g, k, h => by
    obtain ⟨⟨k', rfl, h2⟩, hs, hi2, _⟩ := h
    have ih := rows_sz h2
    intro p hp
    obtain ⟨a, ha, h4⟩ := List.mem_flatMap.mp hp
    obtain ⟨b, hb, rfl⟩ := List.mem_map.mp h4
    have n2 := (num_le hi2 ha).2.1
    split at hb
    · obtain ⟨q, hq, rfl⟩ := List.mem_map.mp hb
      obtain ⟨qs, h5, h6, rfl⟩ := mem_pow hq
      refine sz_tup ?_ fun x hx => ?_
      · show (qs.map (·.2)).length ≤ 10
        rw [List.length_map]
        omega
      · obtain ⟨y, hy, rfl⟩ := List.mem_map.mp hx
        exact ih y (h6 y hy)
    · cases hb
/-! ### what the walk asks -/
theorem Ws.bn {g : Gen} {k : Kd} (h : Ws g k) : Bn (rowsM g) 2000 500 := h.wf.few.bn
theorem tab_ft {g : Gen} {k : Kd} (h : Ws g k) : FT (tableM g) := ft_of (tab_ok g).raw h.bn (by omega) (by omega)
theorem preH_of {g : Gen} {k : Kd} {c : Cond} (h : Ws g k) (hf : Fits c k) (hd : c.depth ≤ 6) {p : Row × Dt} (hp : p ∈ rowsM g) : PreH 7 c p.2 k := ⟨by omega, hf, rows_kind h.wf p hp, h.kd, rows_sz h p hp⟩
theorem preM_of {g : Gen} {k k' : Kd} {m : Mp} (h : Ws g k) (hf : MFits m k k') {p : Row × Dt} (hp : p ∈ rowsM g) : PreM m p.2 k k' := ⟨hf, rows_kind h.wf p hp, rows_sz h p hp⟩
theorem preG_of {g : Gen} {k : Kd} (h : Ws g k) : PreG g (g.parts.map tableM) := by
  cases g with
  | leaf l =>
    cases l with
    | int lo hi =>
      have := h.2.1
      have h1 : 0 ≤ hi - lo ∧ hi - lo ≤ 3 := this
      show -1000000 ≤ hi - lo + 1 ∧ hi - lo + 1 ≤ 2000
      omega
    | pick ws =>
      have h1 : ws.length ≤ 4 ∧ ws.Nodup := h.2.1
      show ws.length ≤ 2000
      omega
  | tuple ls =>
    obtain ⟨_, hs, h2, _⟩ := h
    show PreT ((ls.map Gen.leaf).map tableM)
    rw [List.map_map]
    exact preT_of (Ls := ls.map lfR) (all2_of fun l hl => (tab_ok (.leaf l)).raw) (by rw [List.length_map]; exact h2) (map_lf hs)
  | list g l m =>
    obtain ⟨⟨k', rfl, h2⟩, lm, m2, b, _⟩ := h
    exact preL_of (tab_ok g).raw b lm m2
  | one g => exact tab_ft h.1
  | two g g' => exact ⟨tab_ft h.1.1, tab_ft h.1.2⟩
  | kept g c => exact ⟨tab_ft h.1.1, k, fun t ht => preH_of h.1.1 h.1.2.1 h.1.2.2 ((tab_ok g).raw.mem t ht)⟩
  | turned g m =>
    obtain ⟨⟨k', h2, h3⟩, _⟩ := h
    exact ⟨tab_ft h2, k', k, fun t ht => preM_of h2 h3 ((tab_ok g).raw.mem t ht)⟩
  | rep lo hi g =>
    obtain ⟨⟨k', rfl, h2⟩, hs, hi2, b, f, _⟩ := h
    have hs : 0 ≤ hi - lo ∧ hi - lo ≤ 3 := hs
    exact preR_of (tab_ok (.leaf (.int lo hi))).raw (tab_ok g).raw (by omega) hi2 b f.n
def Kd.isB : Kd → Bool
  | .b _ => false
  | _ => true
theorem keyOk_of {k : Kd} {d : Dt} (h : HasK k d) (hk : k.depth ≤ 8) : KeyOk k.isB d := by
  have hd := (hasK_ck h).2
  cases k with
  | b b =>
    refine (if_neg Bool.false_ne_true : KeyOk false d = _).mpr ?_
    cases b with
    | int => exact .inl h
    | word => obtain ⟨x, e, _⟩ := h; exact .inr ⟨x, e⟩
  | tup bs =>
    refine (if_pos rfl : KeyOk true d = _).mpr ?_
    obtain ⟨ds, e, _⟩ := h
    exact ⟨⟨ds, e⟩, by omega⟩
  | lst j =>
    refine (if_pos rfl : KeyOk true d = _).mpr ?_
    obtain ⟨ds, e, _⟩ := h
    exact ⟨⟨ds, e⟩, by omega⟩
theorem parts_len {g : Gen} {k : Kd} (h : Ws g k) : g.parts.length ≤ 1000 := by
  cases g with
  | tuple ls =>
    show (ls.map Gen.leaf).length ≤ _
    rw [List.length_map]
    have := h.2.2.1
    omega
  | _ => exact of_decide_eq_true rfl
theorem tok_all : ∀ (n : Nat) {g : Gen} {k : Kd}, g.depth < n → Ws g k → TOk g
  | 0, _, _, h, _ => absurd h (Nat.not_lt_zero _)
  | n + 1, g, k, hd, h => by
    have r := tris_of (g := g) fun p _ => tab_ok p
    have hl := h.bn.n
    refine .mk g (preG_of h) ⟨k.isB, fun t ht => keyOk_of (rows_kind h.wf _ (r.mem t ht)) h.kd⟩ (Nat.le_trans r.len (by omega)) (Nat.le_trans (tab_ok g).raw.len hl) (parts_len h) fun p hp => ?_
    obtain ⟨k', h'⟩ := h.part p hp
    exact tok_all n (by have := depth_part hp; omega) h'
theorem preP_of {g : Gen} {k : Kd} (h : Ws g k) (nl : ∀ l, g ≠ .leaf l) : PreP g (g.parts.map exactM) := by
  cases g with
  | leaf l => exact absurd rfl (nl l)
  | tuple ls =>
    obtain ⟨_, hs, h2, _⟩ := h
    show PreJ ((ls.map Gen.leaf).map exactM)
    rw [List.map_map]
    refine preJ_of (by rw [List.length_map]; exact h2) fun L hL => ?_
    obtain ⟨l, hl, rfl⟩ := List.mem_map.mp hL
    exact (Bn.perm (sml_bn (hs l hl)) (leaf_perm (hs l hl)).symm).mono (by omega) (by omega)
  | list g l m =>
    obtain ⟨⟨k', rfl, h2⟩, lm, m2, b, _⟩ := h
    exact preLr_of (b.perm (exact_perm h2).symm) lm m2
  | one g => exact (h.1.bn.perm (exact_perm h.1).symm).fr (by omega) (by omega)
  | two g g' => exact ⟨(h.1.1.bn.perm (exact_perm h.1.1).symm).fr (by omega) (by omega), (h.1.2.bn.perm (exact_perm h.1.2).symm).fr (by omega) (by omega)⟩
  | kept g c => exact ⟨(h.1.1.bn.perm (exact_perm h.1.1).symm).fr (by omega) (by omega), k, fun p hp => preH_of h.1.1 h.1.2.1 h.1.2.2 ((exact_perm h.1.1).mem_iff.mp hp)⟩
  | turned g m =>
    obtain ⟨⟨k', h2, h3⟩, _⟩ := h
    exact ⟨(h2.bn.perm (exact_perm h2).symm).fr (by omega) (by omega), k', k, fun p hp => preM_of h2 h3 ((exact_perm h2).mem_iff.mp hp)⟩
  | rep lo hi g =>
    have ep := exact_perm h
    obtain ⟨⟨k', rfl, h2⟩, hs, hi2, b, f, _⟩ := h
    have pl := leaf_perm hs
    have hs : 0 ≤ hi - lo ∧ hi - lo ≤ 3 := hs
    refine preRr_of pl (b.perm (exact_perm h2).symm) (by omega) hi2 ?_
    have e : repR (leafR (.int lo hi)) (exactM g) = exactM (.rep lo hi g) := rfl
    have := ep.length_eq
    have := f.n
    show (repR (leafR (.int lo hi)) (exactM g)).length ≤ 2000
    rw [e]
    omega
theorem rok_all : ∀ (n : Nat) {g : Gen} {k : Kd}, g.depth < n → Ws g k → ROk g
  | 0, _, _, h, _ => absurd h (Nat.not_lt_zero _)
  | n + 1, g, k, hd, h => by
    refine .mk g (tok_all _ hd h) ?_ (fun hp => ?_) (fun hp => ?_) fun p hp => ?_
    · rw [(tab_ok g).raw.total]
      have := h.bn.n
      omega
    · have nl : ∀ l, g ≠ .leaf l := fun l e => hp (by rw [e]; rfl)
      exact ⟨nl, preP_of h nl⟩
    · cases g with
      | leaf l => exact ⟨l, rfl⟩
      | tuple ls =>
        exact absurd (List.map_eq_nil_iff.mp hp) h.2.2.2.2
      | _ => cases hp
    · obtain ⟨k', h'⟩ := h.part p hp
      exact rok_all n (by have := depth_part hp; omega) h'
theorem dok_all : ∀ (n : Nat) {g : Gen} {k : Kd}, g.depth < n → Ws g k → DOk g
  | 0, _, _, h, _ => absurd h (Nat.not_lt_zero _)
  | n + 1, g, k, hd, h => by
    refine .mk g ?_ fun p hp => ?_
    · cases g with
      | kept g c => exact ⟨k, fun p hp => preH_of h.1.1 h.1.2.1 h.1.2.2 hp⟩
      | turned g m =>
        obtain ⟨⟨k', h2, h3⟩, _⟩ := h
        exact ⟨k', k, fun p hp => preM_of h2 h3 hp⟩
      | list g l m =>
        obtain ⟨_, lm, m2, _⟩ := h
        exact ⟨lm, by omega⟩
      | tuple ls =>
        have := h.2.2.1
        show ls.length ≤ 1000
        omega
      | _ => trivial
    · obtain ⟨k', h'⟩ := h.part p hp
      exact dok_all n (by have := depth_part hp; omega) h'
end CR

set_option Elab.async false
set_option linter.all false
set_option maxRecDepth 100000
set_option maxHeartbeats 4000000
namespace CR
open PySem
/-! ### the law's generators are small -/
def lB (f : Nat → Nat) : Nat → Nat
  | 0 => 1 + f 0 + f 0 * f 0
  | d + 1 => max (2 * lB f d) (1 + f d + f d * f d)
def Bd : Kd → Nat → Nat
  | .b _ => fun d => 4 * 2 ^ d
  | .tup _ => fun d => 16 * 2 ^ d
  | .lst k => lB (Bd k)
def Md : Kd → Nat → Nat
  | .b _ => fun d => 4 + d
  | .tup _ => fun d => 4 + d
  | .lst k => fun d => 2 * Md k d + 4 + d
def Dp : Kd → Nat → Nat
  | .b _ => fun d => d + 1
  | .tup _ => fun d => d + 1
  | .lst k => fun d => 1 + d + Dp k d
theorem bd_two : ∀ (k : Kd) (d : Nat), 2 * Bd k d ≤ Bd k (d + 1)
  | .b _, d => by show 2 * (4 * 2 ^ d) ≤ 4 * 2 ^ (d + 1); rw [Nat.pow_succ]; omega
  | .tup _, d => by show 2 * (16 * 2 ^ d) ≤ 16 * 2 ^ (d + 1); rw [Nat.pow_succ]; omega
  | .lst k, d => Nat.le_max_left _ _
theorem bd_mono (k : Kd) (d : Nat) : Bd k d ≤ Bd k (d + 1) := Nat.le_trans (by omega) (bd_two k d)
theorem bd_zero (k : Kd) : ∀ d, Bd k 0 ≤ Bd k d
  | 0 => Nat.le_refl _
  | d + 1 => Nat.le_trans (bd_zero k d) (bd_mono k d)
theorem bd_lst (k : Kd) : ∀ d, 1 + Bd k (d - 1) + Bd k (d - 1) * Bd k (d - 1) ≤ Bd (.lst k) d
  | 0 => Nat.le_refl _
  | d + 1 => Nat.le_max_right _ _
theorem bd_lst0 (k : Kd) (d : Nat) : 1 + Bd k 0 + Bd k 0 * Bd k 0 ≤ Bd (.lst k) d := bd_zero (.lst k) d
theorem md_succ : ∀ (k : Kd) (d : Nat), Md k d + 1 ≤ Md k (d + 1)
  | .b _, d => Nat.le_refl _
  | .tup _, d => Nat.le_refl _
  | .lst k, d => by
    have := md_succ k d
    show 2 * Md k d + 4 + d + 1 ≤ 2 * Md k (d + 1) + 4 + (d + 1)
    omega
theorem md_zero (k : Kd) : ∀ d, Md k 0 ≤ Md k d
  | 0 => Nat.le_refl _
  | d + 1 => Nat.le_trans (md_zero k d) (by have := md_succ k d; omega)
theorem dp_succ : ∀ (k : Kd) (d : Nat), Dp k d + 1 ≤ Dp k (d + 1)
  | .b _, d => Nat.le_refl _
  | .tup _, d => Nat.le_refl _
  | .lst k, d => by
    have := dp_succ k d
    show 1 + d + Dp k d + 1 ≤ 1 + (d + 1) + Dp k (d + 1)
    omega
theorem dp_zero (k : Kd) : ∀ d, Dp k 0 ≤ Dp k d
  | 0 => Nat.le_refl _
  | d + 1 => Nat.le_trans (dp_zero k d) (by have := dp_succ k d; omega)
theorem md_pred (k : Kd) : ∀ d, Md k (d - 1) ≤ Md k d
  | 0 => Nat.le_refl _
  | d + 1 => by have := md_succ k d; show Md k d ≤ _; omega
theorem dp_pred (k : Kd) : ∀ d, Dp k (d - 1) ≤ Dp k d
  | 0 => Nat.le_refl _
  | d + 1 => by have := dp_succ k d; show Dp k d ≤ _; omega
theorem b44 {b : Nat} (h : 1 + b + b * b ≤ 2000) : b ≤ 44 := by
  by_cases q : b ≤ 44
  · exact q
  · have h1 : 45 ≤ b := by omega
    have := Nat.mul_le_mul h1 h1
    omega
theorem all2_idx {α β : Type} {R : α → β → Prop} : ∀ {l : List α} {m : List β}, l.length = m.length → (∀ (i : Nat) b a, m[i]? = some b → l[i]? = some a → R a b) → All2 R l m
  | [], [], _, _ => .nil
  | [], _ :: _, h, _ => by cases h
  | _ :: _, [], h, _ => by cases h
  | a :: l, b :: m, h, k => .cons (k 0 b a rfl rfl) (all2_idx (by simpa using h) fun i b a hb ha => k (i + 1) b a hb ha)
theorem Bn.filter {L : List (Row × Dt)} {n r : Nat} (h : Bn L n r) (c : Row × Dt → Bool) : Bn (L.filter c) n r := ⟨Nat.le_trans (List.length_filter_le _ _) h.n, fun p hp => h.r p (List.mem_filter.mp hp).1⟩
theorem Bn.mapv {L : List (Row × Dt)} {n r : Nat} (h : Bn L n r) (f : Dt → Dt) : Bn (L.map fun p => (p.1, f p.2)) n r := ⟨by rw [List.length_map]; exact h.n, fun p hp => by
  obtain ⟨q, hq, rfl⟩ := List.mem_map.mp hp
  exact h.r q hq⟩
theorem ws_ls : Ws (.list (.leaf (.int 0 1)) 0 2) (.lst (.b .int)) ∧ Bn (rowsM (.list (.leaf (.int 0 1)) 0 2)) 7 5 := by
  have b1 : Bn (rowsM (.leaf (.int 0 1))) 2 1 := ⟨by show (lfR (.int 0 1)).length ≤ 2; rw [int_len]; decide, fun p hp => (num_le (by decide) (show p ∈ lfR (.int 0 1) from hp)).2.2⟩
  have b2 : Bn (rowsM (.list (.leaf (.int 0 1)) 0 2)) 7 5 := (loop_bn b1 (l := 0) (m := 2) (by decide) (by decide)).tup
  exact ⟨⟨⟨.b .int, rfl, ⟨.int, rfl, rfl⟩, by show (0 : Int) ≤ 1 - 0 ∧ (1 : Int) - 0 ≤ 3; omega, Nat.zero_le _⟩, by decide, by decide, b1.mono (by decide) (by decide), b2.few (by decide) (by decide), by decide⟩, b2⟩
theorem words_ok : (∀ x ∈ lawWords, okS x = true) ∧ lawWords.Nodup := by decide +kernel
theorem gok_ok {k : Kd} {m : Nat} {g : Gen} (h : GOk k m g) : Bd k m ≤ 2000 → Md k m ≤ 500 → k.depth ≤ 5 → Ws g k ∧ Bn (rowsM g) (Bd k m) (Md k m) ∧ g.depth ≤ Dp k m := by
  induction h with
  | @one k m g h ih =>
    intro hb hm hk
    have h1 := bd_mono k m
    have h2 := md_succ k m
    have h3 := dp_succ k m
    obtain ⟨w, b, d⟩ := ih (by omega) (by omega) hk
    have bn : Bn (rowsM (.one g)) (Bd k (m + 1)) (Md k (m + 1)) := (b.pre 0).mono h1 h2
    exact ⟨⟨w, bn.few hb hm, by omega⟩, bn, by show g.depth + 1 ≤ _; omega⟩
  | @two k m g g' h h' ih ih' =>
    intro hb hm hk
    have h0 := bd_two k m
    have h1 := bd_mono k m
    have h2 := md_succ k m
    have h3 := dp_succ k m
    obtain ⟨w, b, d⟩ := ih (by omega) (by omega) hk
    obtain ⟨w', b', d'⟩ := ih' (by omega) (by omega) hk
    have bn : Bn (rowsM (.two g g')) (Bd k (m + 1)) (Md k (m + 1)) := ((b.pre 0).app (b'.pre 1)).mono (by omega) h2
    exact ⟨⟨⟨w, w'⟩, bn.few hb hm, by omega⟩, bn, by show max g.depth g'.depth + 1 ≤ _; omega⟩
  | @kept k m g c h hc hd ih =>
    intro hb hm hk
    have h1 := bd_mono k m
    have h2 := md_succ k m
    have h3 := dp_succ k m
    obtain ⟨w, b, d⟩ := ih (by omega) (by omega) hk
    have bn : Bn (rowsM (.kept g c)) (Bd k (m + 1)) (Md k (m + 1)) := (b.filter _).mono h1 (by omega)
    exact ⟨⟨⟨w, hc, by omega⟩, bn.few hb hm, by omega⟩, bn, by show g.depth + 1 ≤ _; omega⟩
  | @plus m g h n ih =>
    intro hb hm hk
    have h1 := bd_mono (.b .int) m
    have h2 := md_succ (.b .int) m
    have h3 := dp_succ (.b .int) m
    obtain ⟨w, b, d⟩ := ih (by omega) (by omega) hk
    have bn : Bn (rowsM (.turned g (.plus n))) (Bd (.b .int) (m + 1)) (Md (.b .int) (m + 1)) := (b.mapv (turnM (.plus n))).mono h1 (by omega)
    exact ⟨⟨⟨.b .int, w, rfl, rfl⟩, bn.few hb hm, by omega⟩, bn, by show g.depth + 1 ≤ _; omega⟩
  | @times m g h n n0 n1 ih =>
    intro hb hm hk
    have h1 := bd_mono (.b .int) m
    have h2 := md_succ (.b .int) m
    have h3 := dp_succ (.b .int) m
    obtain ⟨w, b, d⟩ := ih (by omega) (by omega) hk
    have bn : Bn (rowsM (.turned g (.times n))) (Bd (.b .int) (m + 1)) (Md (.b .int) (m + 1)) := (b.mapv (turnM (.times n))).mono h1 (by omega)
    exact ⟨⟨⟨.b .int, w, rfl, rfl, by omega, by omega⟩, bn.few hb hm, by omega⟩, bn, by show g.depth + 1 ≤ _; omega⟩
  | @len m =>
    intro hb hm hk
    have h0 := bd_zero (.b .int) (m + 1)
    have h1 := bd_two (.b .int) m
    have h4 : 4 ≤ Bd (.b .int) m := bd_zero (.b .int) m
    have bn : Bn (rowsM (.turned (.list (.leaf (.int 0 1)) 0 2) .length)) (Bd (.b .int) (m + 1)) (Md (.b .int) (m + 1)) := (ws_ls.2.mapv (turnM .length)).mono (by omega) (by show 5 ≤ 4 + (m + 1); omega)
    exact ⟨⟨⟨.lst (.b .int), ws_ls.1, ⟨_, rfl⟩, rfl⟩, bn.few hb hm, by omega⟩, bn, by show 2 ≤ m + 1 + 1; omega⟩
  | @sum m =>
    intro hb hm hk
    have h0 := bd_zero (.b .int) (m + 1)
    have h1 := bd_two (.b .int) m
    have h4 : 4 ≤ Bd (.b .int) m := bd_zero (.b .int) m
    have bn : Bn (rowsM (.turned (.list (.leaf (.int 0 1)) 0 2) .sum)) (Bd (.b .int) (m + 1)) (Md (.b .int) (m + 1)) := (ws_ls.2.mapv (turnM .sum)).mono (by omega) (by show 5 ≤ 4 + (m + 1); omega)
    exact ⟨⟨⟨.lst (.b .int), ws_ls.1, rfl, rfl⟩, bn.few hb hm, by omega⟩, bn, by show 2 ≤ m + 1 + 1; omega⟩
  | @int m lo w w0 w1 =>
    intro hb hm hk
    have h4 : 4 ≤ Bd (.b .int) m := bd_zero (.b .int) m
    have s : SmL (.int lo (lo + w)) := by show 0 ≤ lo + w - lo ∧ lo + w - lo ≤ 3; omega
    exact ⟨⟨⟨.int, rfl, rfl⟩, s, by omega⟩, (sml_bn s).mono h4 (by show 1 ≤ 4 + m; omega), Nat.zero_le _⟩
  | @pick m j j0 j1 =>
    intro hb hm hk
    have h4 : 4 ≤ Bd (.b .word) m := bd_zero (.b .word) m
    have s : SmL (.pick (lawWords.take j)) := ⟨by rw [List.length_take]; omega, words_ok.2.sublist (List.take_sublist _ _)⟩
    exact ⟨⟨⟨.word, rfl, rfl, fun x hx => words_ok.1 x (List.mem_of_mem_take hx)⟩, s, by omega⟩, (sml_bn s).mono h4 (by show 1 ≤ 4 + m; omega), Nat.zero_le _⟩
  | @tuple m bs ls h1 h2 hl h ih =>
    intro hb hm hk
    have h16 : 16 ≤ Bd (.tup bs) m := bd_zero (.tup bs) m
    have key : ∀ (i : Nat) b l, bs[i]? = some b → ls[i]? = some l → LfK l b ∧ SmL l := fun i b l e1 e2 => by
      have e := (ih i b l e1 e2 (by show 4 * 2 ^ 0 ≤ 2000; decide) (by show 4 + 0 ≤ 500; decide) (Nat.zero_le _)).1
      obtain ⟨⟨b', eb, q⟩, s, _⟩ := e
      injection eb with eb
      rw [eb]
      exact ⟨q, s⟩
    have hs : ∀ l ∈ ls, SmL l := fun l hl' => by
      obtain ⟨i, hi, rfl⟩ := List.getElem_of_mem hl'
      exact (key i _ _ (List.getElem?_eq_getElem (by omega)) (List.getElem?_eq_getElem hi)).2
    have bn := (tuple_bn hs (by omega)).mono h16 (show 2 ≤ Md (.tup bs) m by show 2 ≤ 4 + m; omega)
    exact ⟨⟨⟨bs, rfl, all2_idx hl fun i b l e1 e2 => (key i b l e1 e2).1⟩, hs, by omega, by omega, fun e => by rw [e] at hl; rw [← hl] at h1; exact absurd h1 (by decide)⟩, bn, by show 1 ≤ m + 1; omega⟩
  | @rev m k g h ih =>
    intro hb hm hk
    have h1 := bd_mono (.lst k) m
    have h2 := md_succ (.lst k) m
    have h3 := dp_succ (.lst k) m
    obtain ⟨w, b, d⟩ := ih (by omega) (by omega) hk
    have bn : Bn (rowsM (.turned g .reversed)) (Bd (.lst k) (m + 1)) (Md (.lst k) (m + 1)) := (b.mapv (turnM .reversed)).mono h1 (by omega)
    exact ⟨⟨⟨.lst k, w, ⟨_, rfl⟩, rfl⟩, bn.few hb hm, by omega⟩, bn, by show g.depth + 1 ≤ _; omega⟩
  | @sort m b g h ih =>
    intro hb hm hk
    have h1 := bd_mono (.lst (.b b)) m
    have h2 := md_succ (.lst (.b b)) m
    have h3 := dp_succ (.lst (.b b)) m
    obtain ⟨w, b', d⟩ := ih (by omega) (by omega) hk
    have bn : Bn (rowsM (.turned g .sorted)) (Bd (.lst (.b b)) (m + 1)) (Md (.lst (.b b)) (m + 1)) := (b'.mapv (turnM .sorted)).mono h1 (by omega)
    exact ⟨⟨⟨.lst (.b b), w, b, rfl, rfl⟩, bn.few hb hm, by omega⟩, bn, by show g.depth + 1 ≤ _; omega⟩
  | @rep m k g lo hi l0 l1 h0 h1 h ih =>
    intro hb hm hk
    have b0 := bd_lst0 k m
    have m0 := md_zero k m
    have d0 := dp_zero k m
    have hm' : 2 * Md k m + 4 + m ≤ 500 := hm
    have hk' : k.depth + 1 ≤ 5 := hk
    have b4 := b44 (Nat.le_trans b0 hb)
    obtain ⟨w, b, d⟩ := ih (by omega) (by omega) (by omega)
    have bn : Bn (rowsM (.rep lo hi g)) (Bd (.lst k) m) (Md (.lst k) m) := (rep_bn l0 l1 h0 h1 b).mono b0 (by show _ ≤ 2 * Md k m + 4 + m; omega)
    exact ⟨⟨⟨k, rfl, w⟩, by show 0 ≤ hi - lo ∧ hi - lo ≤ 3; omega, h1, b.mono b4 (by omega), bn.few hb hm, by omega⟩, bn, by show g.depth + 1 ≤ 1 + m + Dp k m; omega⟩
  | @list m k g l mm l1 lm m2 h ih =>
    intro hb hm hk
    have b0 := bd_lst k m
    have m0 := md_pred k m
    have d0 := dp_pred k m
    have hm' : 2 * Md k m + 4 + m ≤ 500 := hm
    have hk' : k.depth + 1 ≤ 5 := hk
    have b4 := b44 (Nat.le_trans b0 hb)
    obtain ⟨w, b, d⟩ := ih (by omega) (by omega) (by omega)
    have bn : Bn (rowsM (.list g l mm)) (Bd (.lst k) m) (Md (.lst k) m) := (loop_bn b lm m2).tup.mono b0 (by show _ ≤ 2 * Md k m + 4 + m; omega)
    exact ⟨⟨⟨k, rfl, w⟩, lm, m2, b.mono b4 (by omega), bn.few hb hm, by omega⟩, bn, by show g.depth + 1 ≤ 1 + m + Dp k m; omega⟩
theorem kok_ok {k : Kd} (h : KOk 2 k) : Bd k 2 ≤ 2000 ∧ Md k 2 ≤ 500 ∧ k.depth ≤ 5 ∧ Dp k 2 < 12 := by
  rcases h with ⟨b, rfl⟩ | ⟨k', rfl, h⟩ | ⟨bs, rfl, _⟩
  · exact ⟨Nat.le_of_ble_eq_true rfl, Nat.le_of_ble_eq_true rfl, Nat.le_of_ble_eq_true rfl, Nat.le_of_ble_eq_true rfl⟩
  · rcases h with ⟨b, rfl⟩ | ⟨k', rfl, h⟩ | ⟨bs, rfl, _⟩
    · exact ⟨Nat.le_of_ble_eq_true rfl, Nat.le_of_ble_eq_true rfl, Nat.le_of_ble_eq_true rfl, Nat.le_of_ble_eq_true rfl⟩
    · obtain ⟨b, rfl⟩ := h
      exact ⟨Nat.le_of_ble_eq_true rfl, Nat.le_of_ble_eq_true rfl, Nat.le_of_ble_eq_true rfl, Nat.le_of_ble_eq_true rfl⟩
    · exact ⟨Nat.le_of_ble_eq_true rfl, Nat.le_of_ble_eq_true rfl, Nat.le_of_ble_eq_true rfl, Nat.le_of_ble_eq_true rfl⟩
  · exact ⟨Nat.le_of_ble_eq_true rfl, Nat.le_of_ble_eq_true rfl, Nat.le_of_ble_eq_true rfl, Nat.le_of_ble_eq_true rfl⟩
/-! ### the law's own looks -/
def mineM (g : Gen) (d : Dt) : List Row := ((allM g).filter fun p => decide (p.2 = d)).map fun p => p.1
structure Facts (g : Gen) : Prop where
  tok : TOk g
  rok : ROk g
  dok : DOk g
  dep : g.depth < 12
  n : (allM g).length ≤ 2000
  mem : ∀ p ∈ allM g, p ∈ rowsM g
  len : ∀ p ∈ allM g, p.1.length ≤ 500
  okv : ∀ p ∈ allM g, okD p.2
  okt : ∀ t ∈ tableM g, okD t.1
  tl : (tableM g).length ≤ 2000
  cnt : ∀ t ∈ tableM g, 0 < t.2.1 ∧ t.2.1 ≤ 2000
  rlen : ∀ t ∈ tableM g, t.2.2.length ≤ 500
  total : ((tableM g).map fun t => t.2.1).sum = ((allM g).length : Int)
  row : ∀ t ∈ tableM g, (t.2.2, t.1) ∈ rowsM g
  least : ∀ t ∈ tableM g, leastM (tableM g) t.1 = some t.2.2
  look : ∀ t ∈ tableM g, ((mineM g t.1).length : Int) = t.2.1 ∧ ∃ r, mineM g t.1 = t.2.2 :: r ∧ ∀ x ∈ r, rlt t.2.2 x = true
theorem facts_of {g : Gen} {k : Kd} (h : Ws g k) (hd : g.depth < 12) : Facts g := by
  have ep := exact_perm h
  have ap : (allM g).Perm (rowsM g) := (byRow_perm _ _).trans ep
  have tb := tab_ok g
  have ln := ap.length_eq
  have hn := h.bn.n
  have sorted : (allM g).Pairwise fun p q => rlt p.1 q.1 = true := by
    have h1 : (allM g).Pairwise fun p q => rle p.1 q.1 := byRow_sorted _ _
    have h2 : ((allM g).map (·.1)).Nodup := (ap.map _).nodup_iff.mpr (rows_code g).nd
    have h3 : (allM g).Pairwise fun p q => p.1 ≠ q.1 := List.pairwise_map.mp h2
    exact (h1.and h3).imp fun {a b} q => rlt_of_le_ne q.1 q.2
  refine ⟨tok_all _ hd h, rok_all _ hd h, dok_all _ hd h, hd, by omega, fun p hp => ap.mem_iff.mp hp, fun p hp => h.bn.r p (ap.mem_iff.mp hp), fun p hp => hasK_ok (rows_kind h.wf p (ap.mem_iff.mp hp)) h.kd, fun t ht => hasK_ok (rows_kind h.wf _ (tb.raw.mem t ht)) h.kd, Nat.le_trans tb.raw.len hn, fun t ht => ?_, fun t ht => h.bn.r _ (tb.raw.mem t ht), by rw [tb.raw.total]; omega, fun t ht => tb.raw.mem t ht, fun t ht => ?_, fun t ht => law_looks tb ap sorted ht⟩
  · have := tb.raw.cnt t ht
    omega
  · unfold leastM
    cases q : (tableM g).find? fun u => decide (u.1 = t.1) with
    | none =>
      have := List.find?_eq_none.mp q t ht
      simp at this
    | some u =>
      have hu := List.mem_of_find?_eq_some q
      have he := List.find?_some q
      have he : u.1 = t.1 := by simpa using he
      rw [nodup_fst tb.nd hu ht he]
      rfl
theorem law_facts {g : Gen} {k : Kd} (h : GOk k 2 g) (hk : KOk 2 k) : Facts g := by
  obtain ⟨h1, h2, h3, h4⟩ := kok_ok hk
  obtain ⟨w, _, d⟩ := gok_ok h h1 h2 h3
  exact facts_of w (by omega)
end CR

set_option Elab.async false
set_option linter.all false
set_option maxRecDepth 100000
set_option maxHeartbeats 4000000
namespace CR
open PySem PySem.Spec PyProof.Rows L2
section
variable {X : Cx}
/-- != of two lists without items -/
def rNeNil (K : PySem.W.Frag) : R2 := fun x y H Q => ∃ a b, x = .ref a ∧ y = .ref b ∧ SqL K H a [] ∧ SqL K H b [] ∧ Q (.bl false) H
theorem op_neNil (K : PySem.W.Frag) (hK : X.K = K) (hu : X.A.units + 64 < cLine) : OpR X (compareOp .NotEq) (rNeNil K) := by
  subst hK
  intro pins s σ H x y v u Q I rx ry h
  obtain ⟨a, b, rfl, rfl, h1, h2, q⟩ := h
  exact op_neD hu pins s σ H _ _ v u Q I rx ry ⟨.list [], .list [], .lst h1 .nil, .lst h2 .nil, rfl, rfl, q⟩
end
section
variable {T : Tbl} {σ : L2.St} {H : Hp} {K : PySem.W.Frag} {ta tb te : TE}
theorem EB.neNil {β γ : Type} {R : β → Hp → V → Prop} {S : γ → Hp → V → Prop} (ha : EV T ta σ H (LR R [])) (hb : EV T tb σ H (LR S [])) : EB T (tOp (rNeNil K) ta tb) σ H false := fun H1 f1 Q q =>
  ha H1 f1 _ fun x H2 f2 rx => hb H2 (f1.trans f2) _ fun y H3 f3 ry => by
    obtain ⟨p, xs, rfl, h1, h2⟩ := rx
    obtain ⟨p', ys, rfl, h3, h4⟩ := ry
    cases h2
    cases h4
    exact ⟨p, p', rfl, rfl, SqL.of (f3.lst h1), SqL.of h3, q _ H3 (f2.trans f3) rfl⟩
theorem all2_drop {α β : Type} {R : α → β → Prop} : ∀ {l : List α} {m : List β} (n : Nat), All2 R l m → All2 R (l.drop n) (m.drop n)
  | _, _, 0, h => h
  | _, _, n + 1, .nil => .nil
  | _, _, n + 1, .cons a t => all2_drop n t
/-- l[1:] -/
theorem EV.fromL {β : Type} {S : β → Hp → V → Prop} {bs : List β} (s : Stab T S) (h : EV T te σ H (LR S bs)) (hb : ED T tb σ H (.num 1)) (sp : ∀ b H p o v, H p = none → S b H v → S b (upd H p o) v) : EV T (tSl (rSlL K) te (tPart tb) tNoPart) σ H (fun H' v => LR S (bs.drop 1) H' v ∧ NL H v) := fun H1 f1 Q q =>
  h H1 f1 _ fun x H2 f2 rx => hb H2 (f1.trans f2) _ fun y H3 f3 ry => by
    obtain ⟨p, xs, rfl, h1, h2⟩ := rx.fut s f3
    refine ⟨1, ry, p, xs, rfl, SqL.of h1, fun t ht => q _ _ ((f2.trans f3).new ht _) ⟨⟨t, _, rfl, upd_same, ?_⟩, (NL.new ht).back ((f1.trans f2).trans f3)⟩⟩
    have hc : cutV xs (some 1) none = xs.drop 1 := by
      unfold cutV
      rw [HT.sIx_none, show (1 : Int) = ((1 : Nat) : Int) from rfl, HT.sIx_nat]
      cases xs with
      | nil => rfl
      | cons x xs => simp
    rw [hc]
    exact all2_imp (fun b x r => sp b _ t _ x ht r) (all2_drop 1 h2)
theorem ED.lenS {i : Nat} {a : Addr} {xs : List V} (hi : σ[i]? = some (some (.ref a))) (hS : SqL K H a xs) : ED T (tCB (rLenK K) (tCons (tVar i) tNil)) σ H (.num xs.length) := fun H1 f1 Q q => ⟨_, hi, a, xs, rfl, .inl (f1.sqL hS), q _ H1 (fr f1) rfl⟩
theorem ED.min2 {i j : Int} (ha : ED T ta σ H (.num i)) (hb : ED T tb σ H (.num j)) : ED T (tCB (fun xs H Q => ∃ i j, xs = [.int i, .int j] ∧ Q (.int (if j < i then j else i)) H) (tCons ta (tCons tb tNil))) σ H (.num (if j < i then j else i)) :=
  EV.call (EA.data2 ha hb) fun H1 vs Q f rs q => by
    obtain ⟨u, v, rfl, r1, r2⟩ := rs
    exact ⟨i, j, by rw [show u = _ from r1, show v = _ from r2], q _ H1 (fr f) rfl⟩
theorem ED.max2 {i j : Int} (ha : ED T ta σ H (.num i)) (hb : ED T tb σ H (.num j)) : ED T (tCB (fun xs H Q => ∃ i j, xs = [.int i, .int j] ∧ Q (.int (if j > i then j else i)) H) (tCons ta (tCons tb tNil))) σ H (.num (if j > i then j else i)) :=
  EV.call (EA.data2 ha hb) fun H1 vs Q f rs q => by
    obtain ⟨u, v, rfl, r1, r2⟩ := rs
    exact ⟨i, j, by rw [show u = _ from r1, show v = _ from r2], q _ H1 (fr f) rfl⟩
theorem stab_p1 : Stab T (fun (p : Row × Dt) H v => Rp H (rowD p.1) v) := fun b H H1 v f h => f.rp h
end
theorem fm_mine (d : Dt) : ∀ L : List (Row × Dt), L.filterMap (fun p => if p.2 = d then some p.1 else none) = (L.filter fun p => decide (p.2 = d)).map fun p => p.1
  | [] => rfl
  | p :: L => by
    rw [List.filterMap_cons, List.filter_cons]
    by_cases h : p.2 = d
    · rw [if_pos h, if_pos (decide_eq_true h), List.map_cons, fm_mine d L]
    · rw [if_neg h, if_neg (by simp [h]), fm_mine d L]
theorem fm_nil {α β : Type} : ∀ L : List α, L.filterMap (fun _ => (none : Option β)) = []
  | [] => rfl
  | _ :: L => by rw [List.filterMap_cons]; exact fm_nil L
section
variable {P : Program} {w : World} {K : PySem.W.Frag} {mg : Str → Option Value} {base : Heap} {T : Tbl} (g : G K mg base T)

abbrev N_law : List Str := ["_law_script", "_law_k", "_law_gen_here", "_law_kind_here", "_law_box_here", "_law_rows", "_law_listed", "_law_told", "_law_value", "_law_count", "_law_row", "_law_mine", "_law_j", "_law_one"]
theorem sc_law : FnScope N_law ["_law_script"] (defScope s_law) := ⟨rfl, rfl, rfl, by decide +kernel, rfl, by decide +kernel, by decide +kernel⟩
include g in
theorem ok_law {f : Addr} {fd : FuncData} (F : FnP K "law" "law" s_law f fd) : FnOk P w K mg base CX0 57 f fd ["_law_script"] (Pm T (fun (z : List Int) H vs => ∃ a, vs = [.ref a] ∧ SqL K H a (z.map V.int)) fun _ _ v => v = .bl true) := by
  have OK_law_some := ok_law_some (P := P) (w := w) g
  have OK_first_rows := ok_first_rows (P := P) (w := w) g
  have OK_table := ok_table (P := P) (w := w) g
  have OK_value_of := ok_value_of (P := P) (w := w) g
  have OK_count_rows := ok_count_rows (P := P) (w := w) g
  have OK_least_row := ok_least_row (P := P) (w := w) g
  have OK_is_exact := ok_is_exact (P := P) (w := w) g
  have OK_is_less := ok_is_less (P := P) (w := w) g
  refine pm_ok F sc_law (fun z H vs h => by obtain ⟨a, rfl, _⟩ := h; rfl) fun cdv A outer st H vs Q E z hr h ht hq => ?_
  obtain ⟨a, rfl, hS⟩ := h
  have hS : SqL K H a (z.map V.int) := hS
  refine ⟨_, (pss_cons (ps_for PassesOwn.never rfl (pi_range1 rfl g.n_range (pa_cons (pe_callB (call_min2 rfl) rfl g.n_min (by decide +kernel) (pa_cons pe_int (pa_cons (pe_callB (call_max2 rfl) rfl g.n_max (by decide +kernel) (pa_cons pe_int (pa_cons (pe_op op_fdiv (pe_callB (cr_lenK K rfl) rfl g.n_len boot_len (pa_cons (pv 0) pa_nil)) pe_int) pa_nil))) pa_nil))) pa_nil)) (pg_name (i := 1) sc_law.nd rfl (Or.inl rfl)) (pss_cons (ps_asg (pe_call OK_law_some (hr.mono (by omega)) rfl g.law_some.m g.law_some.F.kp (b_law_some g.law_some) .nil pass0 (pa_cons (pv 0) (pa_cons (pe_op op_mul pe_int (pv 1)) pa_nil))) (pg_tupK K rfl 3 rfl (pgs_cons (pg_name (i := 2) sc_law.nd rfl (Or.inr rfl)) (pgs_cons (pg_name (i := 3) sc_law.nd rfl (Or.inl rfl)) (pgs_cons (pg_name (i := 4) sc_law.nd rfl (Or.inl rfl)) pgs_nil))))) (pss_cons (ps_set (i := 5) sc_law.nd rfl (Or.inr rfl) (pe_call OK_first_rows (hr.mono (by omega)) rfl g.first_rows.m g.first_rows.F.kp (b_first_rows g.first_rows) .nil pass0 (pa_cons (pv 2) (pa_cons pe_int pa_nil)))) (pss_cons (ps_set (i := 6) sc_law.nd rfl (Or.inl rfl) (pe_call OK_table (hr.mono (by omega)) rfl g.table.m g.table.F.kp (b_table g.table) .nil pass0 (pa_cons (pv 2) pa_nil))) (pss_cons (ps_set (i := 7) sc_law.nd rfl (Or.inr rfl) (pe_lc (own := [("_law_row", 10)]) rfl sc_law.nd (pi_listK K rfl (pv 5)) (blkOk_by (own := [("_law_row", 10)]) (N := N_law) (sc := defScope s_law) (by decide +kernel)) (fun _ _ _ _ _ => (pg_name (i := 10) sc_law.nd rfl (Or.inl rfl))) (fun _ _ _ _ _ => pts_nil) (fun _ _ _ _ _ => (pe_call OK_value_of (hr.mono (by omega)) rfl g.value_of.m g.value_of.F.kp (b_value_of g.value_of) .nil pass0 (pa_cons (pv 2) (pa_cons (pv 10) pa_nil)))))) (pss_cons (ps_if (PW.pt (pw_or (pt_cmpR op_ne (pe_callB (cr_lenK K rfl) rfl g.n_len boot_len (pa_cons (pv 5) pa_nil)) (pe_call OK_count_rows (hr.mono (by omega)) rfl g.count_rows.m g.count_rows.F.kp (b_count_rows g.count_rows) .nil pass0 (pa_cons (pv 2) pa_nil)) (nomark _)) (pw_or1 (pt_cmpR op_ne (pe_callB (cr_sumK K rfl rfl) rfl g.n_sum (by decide +kernel) (pa_cons (pe_lc (own := [("_law_value", 8), ("_law_count", 9), ("_law_row", 10)]) rfl sc_law.nd (pi_listK K rfl (pv 6)) (blkOk_by (own := [("_law_value", 8), ("_law_count", 9), ("_law_row", 10)]) (N := N_law) (sc := defScope s_law) (by decide +kernel)) (fun _ _ _ _ _ => (pg_tupK K rfl 3 rfl (pgs_cons (pg_name (i := 8) sc_law.nd rfl (Or.inl rfl)) (pgs_cons (pg_name (i := 9) sc_law.nd rfl (Or.inl rfl)) (pgs_cons (pg_name (i := 10) sc_law.nd rfl (Or.inl rfl)) pgs_nil))))) (fun _ _ _ _ _ => pts_nil) (fun _ _ _ _ _ => (pv 9))) pa_nil)) (pe_callB (cr_lenK K rfl) rfl g.n_len boot_len (pa_cons (pv 5) pa_nil)) (nomark _))))) (pss_one (ps_ret pe_bl)) pss_nil) (pss_one (ps_for PassesOwn.never rfl (pi_listK K rfl (pe_slice (sl_listK K rfl) (pv 6) po_none (po_some pe_int))) (pg_tupK K rfl 3 rfl (pgs_cons (pg_name (i := 8) sc_law.nd rfl (Or.inr rfl)) (pgs_cons (pg_name (i := 9) sc_law.nd rfl (Or.inl rfl)) (pgs_cons (pg_name (i := 10) sc_law.nd rfl (Or.inr rfl)) pgs_nil)))) (pss_cons (ps_setLc (own := [("_law_j", 12)]) (i := 11) rfl sc_law.nd rfl rfl (by first | exact sw_true rfl rfl rfl (by decide +kernel) | rfl) (pi_range1 rfl g.n_range (pa_cons (pe_callB (cr_lenK K rfl) rfl g.n_len boot_len (pa_cons (pv 5) pa_nil)) pa_nil)) (blkOk_by (own := [("_law_j", 12)]) (N := N_law) (sc := defScope s_law) (by decide +kernel)) (fun _ _ _ _ _ => (pg_name (i := 12) sc_law.nd rfl (Or.inl rfl))) (fun _ _ _ _ _ => (pts_one (pt_cmpR (op_eqR (hu64 hr)) (pe_ix (ix_listK K rfl) (pv 7) (pv 12) (fun _ _ => rfl)) (pv 8) (nomark _)))) (fun _ _ _ _ _ => (pe_ix (ix_listK K rfl) (pv 5) (pv 12) (fun _ _ => rfl)))) (pss_cons (ps_if (PW.pt (pw_or (pt_cmpR (op_neR (hu64 hr)) (pe_call OK_least_row (hr.mono (by omega)) rfl g.least_row.m g.least_row.F.kp (b_least_row g.least_row) .nil pass0 (pa_cons (pv 2) (pa_cons (pv 8) pa_nil))) (pv 10) (nomark _)) (pw_or (pt_not (pt_val (pe_call OK_is_exact (hr.mono (by omega)) rfl g.is_exact.m g.is_exact.F.kp (b_is_exact g.is_exact) .nil pass0 (pa_cons (pv 2) (pa_cons (pv 10) pa_nil))))) (pw_or (pt_cmpR op_ne (pe_callB (cr_lenK K rfl) rfl g.n_len boot_len (pa_cons (pv 11) pa_nil)) (pv 9) (nomark _)) (pw_or1 (pt_cmpR (op_neR (hu64 hr)) (pe_ix (ix_listK K rfl) (pv 11) pe_int (fun _ _ => rfl)) (pv 10) (nomark _))))))) (pss_one (ps_ret pe_bl)) pss_nil) (pss_one (ps_if (pt_cmpR (op_neNil K rfl (hu64 hr)) (pe_lc (own := [("_law_one", 13)]) rfl sc_law.nd (pi_listK K rfl (pe_slice (sl_listK K rfl) (pv 11) (po_some pe_int) po_none)) (blkOk_by (own := [("_law_one", 13)]) (N := N_law) (sc := defScope s_law) (by decide +kernel)) (fun _ _ _ _ _ => (pg_name (i := 13) sc_law.nd rfl (Or.inl rfl))) (fun _ _ _ _ _ => (pts_one (pt_not (pt_val (pe_call OK_is_less (hr.mono (by omega)) rfl g.is_less.m g.is_less.F.kp (b_is_less g.is_less) .nil pass0 (pa_cons (pv 10) (pa_cons (pv 13) pa_nil))))))) (fun _ _ _ _ _ => (pv 13))) (pe_lst pa_nil) (nomark _)) (pss_one (ps_ret pe_bl)) pss_nil)))))))))))) (pss_one (ps_ret pe_bl))), ?_⟩
  have hm : ∃ M : Nat, M ≤ 6 ∧ (if (if ((z.map V.int).length : Int) / 2 > 1 then ((z.map V.int).length : Int) / 2 else 1) < 6 then (if ((z.map V.int).length : Int) / 2 > 1 then ((z.map V.int).length : Int) / 2 else 1) else 6) = ((M : Nat) : Int) := by
    generalize ((z.map V.int).length : Int) / 2 = q
    by_cases h1 : q > 1
    · rw [if_pos h1]
      by_cases h2 : q < 6
      · rw [if_pos h2]
        exact ⟨q.toNat, by omega, by omega⟩
      · rw [if_neg h2]
        exact ⟨6, Nat.le_refl _, rfl⟩
    · rw [if_neg h1, if_pos (by omega)]
      exact ⟨1, by omega, rfl⟩
  obtain ⟨M, hM6, hM⟩ := hm
  refine Sq.forN (IVn.rng1 (m := M) (ED.cast (ED.min2 (ED.int 6) (ED.max2 (ED.int 1) (ED.rI (C := CDiv) (ED.lenS rfl hS) (ED.int 2) ⟨by decide, by decide⟩ fun _ => rfl))) hM) (by omega)) ht (fun B i σ H' => Fut T B H' ∧ ∃ c1 c2 c3 c4 c5 c6 c7 c8 c9 c10 c11 c12 c13, σ = [some (.ref a), c1, c2, c3, c4, c5, c6, c7, c8, c9, c10, c11, c12, c13]) (fun B f => ⟨fr f, none, none, none, none, none, none, none, none, none, none, none, none, none, rfl⟩) (fun B i σ H' h => h.1) (fun B fB i x σ H3 H4 hi h f4 y => ?_) fun B fB σ H' h => ?_
  · obtain ⟨f3, c1, c2, c3, c4, c5, c6, c7, c8, c9, c10, c11, c12, c13, rfl⟩ := h
    subst y
    have fB4 := f3.trans f4
    have f04 := fB.trans fB4
    -- a generator
    refine Sq.asg (EV.fn (z := (z, 2 * i)) (EA.imp (EA.two (EV.var (R := fun H v => v = .ref a ∧ SqL K H a (z.map V.int)) rfl fun H' f => ⟨rfl, (f04.trans f).sqL hS⟩) (fun _ _ _ f h => ⟨h.1, f.sqL h.2⟩) (ED.cast (ED.mul (i := 2) (j := i) (ED.int 2) (ED.var rfl rfl) (.inl ⟨by decide, by decide⟩)) (show (2 : Int) * (i : Int) = ((2 * i : Nat) : Int) by omega))) fun H' vs f r => ?_)) f04.t fun sv H5 f5 hs => ?_
    · obtain ⟨u, v, rfl, ⟨rfl, r1⟩, r2⟩ := r
      exact ⟨a, by rw [show v = _ from r2], r1⟩
    obtain ⟨gen, kd, t, gv, kv, bv, rfl, ht5, rg, gk, kk⟩ := hs
    have fc := law_facts gk kk
    have hn := fc.n
    refine ⟨t, [gv, kv, bv], rfl, SqT.of ht5, rfl, gv, _, rfl, kv, _, rfl, bv, [], rfl, rfl, ?_⟩
    -- its rows
    refine Sq.set (EV.fst (EV.fnL (z := (gen, 5000)) (EA.imp (EA.two (ED.var rfl rg) mD (ED.int 5000)) fun H' vs f r => ?_))) f5.t fun rv H6 f6 hr6 => ?_
    · obtain ⟨u, v, rfl, r1, r2⟩ := r
      exact ⟨u, by rw [show v = _ from r2]; rfl, r1, fc.dep, fc.rok, by show (allM gen).length ≤ 100000; omega⟩
    have hrows : LR (fun (p : Row × Dt) H v => Rp H (rowD p.1) v) (allM gen) H6 rv := by
      have h : LdR (((allM gen).map fun p => p.1).take 5000) H6 rv := hr6
      rw [List.take_of_length_le (by rw [List.length_map]; omega)] at h
      exact lr_map.mp h
    have rg6 := f6.rp rg
    -- its table
    refine Sq.set (EV.fst (call_tb (ED.var rfl rg6) fc.dep fc.tok)) f6.t fun tv H7 f7 htv => ?_
    have rg7 := f7.rp rg6
    have hrows7 := hrows.fut stab_p1 f7
    -- what each row draws
    refine Sq.set (EV.fst (EV.lcM (R := fun (d : Dt) H v => Rp H d v) (F := fun p : Row × Dt => p.2) (stab_rp T) sep_rp (IVn.list stab_p1 (EV.var rfl fun H' f => hrows7.fut stab_p1 f)) (line6 (by omega)) fun p x H8 mp f8 y => ?_)) f7.t fun dv H8 f8 hdv => ?_
    · refine ⟨_, fun Q q => q, rfl, ED.nl (EV.fn (z := (gen, p.1, p.2)) (EA.imp (EA.data2 (ED.var rfl (f8.rp rg7)) (ED.var rfl y)) fun H' vs f r => ?_))⟩
      obtain ⟨u, v, rfl, r1, r2⟩ := r
      exact ⟨u, v, rfl, r1, r2, fc.dep, fc.dok, fc.mem p mp⟩
    have rg8 := f8.rp rg7
    have hrows8 := hrows7.fut stab_p1 f8
    have htv8 := htv.fut stab_tri f8
    -- how many there are
    refine Sq.no (ET.imp (ET.or (.of (EB.neI (x := (allM gen).length) (y := ((tableM gen).map fun t => t.2.1).sum) (ED.lenR (EV.var rfl fun H' f => hrows8.fut stab_p1 f)) (EV.fn (z := gen) (EA.imp (EA.one (ED.var rfl rg8)) fun H' vs f r => ?_)))) fun _ => .of (EB.neI (x := ((tableM gen).map fun t => t.2.1).sum) (y := (allM gen).length) (ED.sum (EV.fst (EV.lcM (R := fun (n : Int) _ v => v = .int n) (F := fun t : Tr Dt => t.2.1) stab_int sep_int (IVn.list stab_tri (EV.var rfl fun H' f => htv8.fut stab_tri f)) (line6 (by have := fc.tl; omega)) fun t x H1 mt f1 y => ?_))) (ED.lenR (EV.var rfl fun H' f => hrows8.fut stab_p1 f)))) ?_) f8.t fun H9 f9 => ?_
    · obtain ⟨u, rfl, r1⟩ := r
      exact ⟨u, rfl, r1, fc.dep, fc.tok⟩
    · obtain ⟨x1, x2, x3, r1, r2, r3, hg⟩ := g3 (K := K) (i := 8) (j := 9) (k := 10) y
      exact ⟨_, fun Q q => hg H1 (TK.refl _) _ _ q, rfl, EV.var rfl fun H' f => ⟨r2, by rw [show x2 = _ from r2]; exact NL.int⟩⟩
    · rw [fc.total]
      simp
    have rg9 := f9.rp rg8
    have hrows9 := hrows8.fut stab_p1 f9
    have htv9 := htv8.fut stab_tri f9
    have hdv9 := hdv.fut (stab_rp T) f9
    have f49 : Fut T H4 H9 := (((f5.trans f6).trans f7).trans f8).trans f9
    -- up to twenty values
    refine for_ivn (IVn.list stab_tri (EV.fst (EV.uptoL (n := 20) stab_tri (EV.var rfl fun H' f => htv9.fut stab_tri f) (ED.int 20) new_tri))) f9.t (fun B' j σ H' => Fut T B' H' ∧ ∃ d8 d9 d10 d11 d12 d13, σ = [some (.ref a), some (.int i), some gv, some kv, some bv, some rv, some tv, some dv, d8, d9, d10, d11, d12, d13]) (fun B' f => ⟨fr f, _, _, _, _, _, _, rfl⟩) (fun B' j σ H' h => h.1) (fun B' fB' j x σ H10 H11 hj h f11 y => ?_) fun B' fB' σ H' h => ?_
    · obtain ⟨f10, d8, d9, d10, d11, d12, d13, rfl⟩ := h
      obtain ⟨t, et, y⟩ := y
      have mt : t ∈ tableM gen := List.mem_of_mem_take (List.mem_of_getElem? et)
      have fB11 := f10.trans f11
      have f911 := fB'.trans fB11
      have rg11 := f911.rp rg9
      have hrows11 := hrows9.fut stab_p1 f911
      have hdv11 := hdv9.fut (stab_rp T) f911
      obtain ⟨x1, x2, x3, r1, r2, r3, hg⟩ := g3 (K := K) (i := 8) (j := 9) (k := 10) y
      refine hg H11 (TK.refl _) _ _ ?_
      -- the rows that draw it
      refine Sq.set (EV.fst (EV.lc (R := fun (r : Row) H v => Rp H (rowD r) v) stab_row sep_row (IVn.rng1 (ED.lenR (EV.var rfl fun H' f => hrows11.fut stab_p1 f)) (by omega)) (line6 (by omega)) (fun j => (allM gen)[j]?.bind fun p => if p.2 = t.1 then some p.1 else none) fun j x H1 hj f1 y => ?_)) f911.t fun mv H12 f12 hmv => ?_
      · subst y
        have hp : (allM gen)[j]? = some (allM gen)[j] := List.getElem?_eq_getElem hj
        have mp : (allM gen)[j] ∈ allM gen := List.getElem_mem hj
        have hd : ((allM gen).map fun p => p.2)[j]? = some (allM gen)[j].2 := by rw [List.getElem?_map, hp]; rfl
        have test : ET T _ _ H1 (decide ((allM gen)[j].2 = t.1)) := .of (EB.eq (d := (allM gen)[j].2) (e := t.1) (EV.ixL (K := K) (i := j) (stab_rp T) (EV.var (i := 7) (σ := ((wipe [some (V.ref a), some (V.int i), some gv, some kv, some bv, some rv, some tv, some dv, some x1, some x2, some x3, d11, d12, d13] [12]).set 12 (some (V.int j)))) rfl fun H' f => (hdv11.fut (stab_rp T) f1).fut (stab_rp T) f) (ED.var (i := 12) rfl rfl) hd) (ED.var (i := 8) rfl (f1.rp r1)) (fc.okv _ mp) (fc.okt t mt))
        refine ⟨_, fun Q q => q, rfl, fun c hc => ⟨ET.imp test (decide_eq_true ?_), ED.nl ?_⟩, fun hc => ET.imp test (decide_eq_false ?_)⟩
        · rw [hp] at hc
          by_cases e : (allM gen)[j].2 = t.1
          · exact e
          · simp [e] at hc
        · rw [hp] at hc
          have e : (allM gen)[j].1 = c := by
            by_cases e : (allM gen)[j].2 = t.1
            · simpa [e] using hc
            · simp [e] at hc
          rw [← e]
          exact EV.ixL (i := j) (R := fun (p : Row × Dt) H v => Rp H (rowD p.1) v) stab_p1 (EV.var rfl fun H' f => (hrows11.fut stab_p1 f1).fut stab_p1 f) (ED.var rfl rfl) hp
        · rw [hp] at hc
          intro e
          simp [e] at hc
      rw [range_get, fm_mine] at hmv
      have hmv : LdR (mineM gen t.1) H12 mv := hmv
      obtain ⟨lk1, rest, lk2, lk3⟩ := fc.look t mt
      have r1' := f12.rp r1
      have r2' := f12.rp r2
      have r3' := f12.rp r3
      have rg12 := f12.rp rg11
      have h0 : (mineM gen t.1)[0]? = some t.2.2 := by rw [lk2]; rfl
      -- the four looks
      refine Sq.no (ET.imp (ET.or (.of (EB.ne (d := rowD t.2.2) (e := rowD t.2.2) (EV.imp (EV.fn (z := (gen, t.1)) (EA.imp (EA.data2 (ED.var rfl rg12) (ED.var rfl r1')) fun H' vs f r => ?_)) fun H' v f r => r t.2.2 (fc.least t mt)) (ED.var rfl r3') (row_ok _) (row_ok _))) fun _ => ET.or (ET.not (b := true) (.of (EV.fn (z := (gen, t.2.2, t.1)) (EA.imp (EA.data2 (ED.var rfl rg12) (ED.var rfl r3')) fun H' vs f r => ?_)))) fun _ => ET.or (.of (EB.neI (x := (mineM gen t.1).length) (y := t.2.1) (ED.lenR (EV.var rfl fun H' f => hmv.fut stab_row f)) (ED.var rfl r2'))) fun _ => .of (EB.ne (d := rowD t.2.2) (e := rowD t.2.2) (EV.ixL (i := 0) stab_row (EV.var rfl fun H' f => hmv.fut stab_row f) (ED.int 0) h0) (ED.var rfl r3') (row_ok _) (row_ok _))) ?_) f12.t fun H13 f13 => ?_
      · obtain ⟨u, v, rfl, q1, q2⟩ := r
        exact ⟨u, v, rfl, q1, q2, fc.dep, fc.tok, fc.okt t mt, fc.okt⟩
      · obtain ⟨u, v, rfl, q1, q2⟩ := r
        exact ⟨u, v, rfl, q1, q2, fc.dep, fc.dok, fc.row t mt⟩
      · rw [lk1]
        simp
      rw [lk2] at hmv
      have hmv13 := hmv.fut stab_row f13
      have r3'' := f13.rp r3'
      -- no row is ahead
      refine S.no (.of (EB.neNil (R := fun (r : Row) H v => Rp H (rowD r) v) (S := fun (r : Row) H v => Rp H (rowD r) v) (EV.imp (EV.fst (EV.lcL (R := fun (r : Row) H v => Rp H (rowD r) v) (S := fun (r : Row) H v => Rp H (rowD r) v) (bs := (t.2.2 :: rest).drop 1) stab_row sep_row (IVn.list stab_row (EV.fst (EV.fromL stab_row (EV.var rfl fun H' f => hmv13.fut stab_row f) (ED.int 1) fun b H p o v h r => r.tk (TK.new h o)))) ?_ (fun _ => none) fun r x H1 mr f1 y => ?_)) fun H' v f r => ?_) (EV.fst EV.nilL))) f13.t fun H14 f14 => ?_
      · have h1 : (mineM gen t.1).length ≤ 2000 := by
          unfold mineM
          rw [List.length_map]
          exact Nat.le_trans (List.length_filter_le _ _) hn
        rw [lk2, List.length_cons] at h1
        exact line6 (by show rest.length ≤ _; omega)
      · refine ⟨_, fun Q q => q, rfl, fun c hc => (by cases hc), fun _ => ET.not (b := true) (.ofB (EB.imp (b := rlt t.2.2 r) (EV.fn (z := (t.2.2, r)) (EA.imp (EA.data2 (ED.var rfl (f1.rp r3'')) (ED.var rfl y)) fun H' vs f r => r)) (lk3 r mr)))⟩
      · rw [fm_nil] at r
        exact r
      · exact ⟨((fB11.trans f12).trans f13).trans f14, _, _, _, _, _, _, rfl⟩
    · obtain ⟨f10, d8, d9, d10, d11, d12, d13, rfl⟩ := h
      exact ⟨(fB4.trans f49).trans (fB'.trans f10), _, _, _, _, _, _, _, _, _, _, _, _, _, rfl⟩
  · obtain ⟨f3, c1, c2, c3, c4, c5, c6, c7, c8, c9, c10, c11, c12, c13, rfl⟩ := h
    exact S.ret (EV.con (R := fun _ v => v = .bl true) fun _ _ => rfl) (fB.trans f3).t fun v H5 f5 r => hq _ _ ((fB.trans f3).trans f5) r
end
end CR

set_option Elab.async false
set_option linter.all false
set_option maxRecDepth 100000
set_option maxHeartbeats 4000000
namespace CR
open PySem PySem.Spec PyProof.Rows L2
theorem cd_of {K : PySem.W.Frag} {base : Heap} {mg : Str → Option Value} {T : Tbl} {x q : Str} {st : Stmt} {fd : FuncData} (F : FnP K x x st (He.fAd K (x, none)) fd) (TB : LamX.TabB base mg (He.cT K (x, none)).1 (He.cT K (x, none)).2) (m : ((He.cT K (x, none)).2, q) ∈ T) (nd : (T.map (·.1)).Nodup) : Cd K base mg T x st q (He.fAd K (x, none)) fd := by
  obtain ⟨oc, od, dV, kV, doc, pm, an, cdv, ct, osl, e, lk, hcd, _, _⟩ := F.ex
  obtain ⟨c, rfl⟩ := He.codeIn_ref hcd
  have ec : (He.cT K (x, none)).1 = c := He.codeOf_eq lk (by rw [e] <;> rfl)
  rw [ec] at TB
  exact ⟨⟨oc, od, dV, kV, doc, pm, an, c, (He.cT K (x, none)).2, ct, osl, e, lk, hcd, TB, m, fun p hp ep => by rw [nodup_key (·.1) nd hp m ep]⟩⟩
def TT (K : PySem.W.Frag) : Tbl := [((He.cT K ("rises", none)).2, (("rises" : Str) ++ (".<locals>." : Str) ++ ("<genexpr>" : Str))), ((He.cT K ("is_different", none)).2, (("is_different" : Str) ++ (".<locals>." : Str) ++ ("<genexpr>" : Str))), ((He.cT K ("holds_list", none)).2, (("holds_list" : Str) ++ (".<locals>." : Str) ++ ("<genexpr>" : Str))), ((He.cT K ("in_order", none)).2, (("in_order" : Str) ++ (".<locals>." : Str) ++ ("<lambda>" : Str))), ((He.cT K ("table_of_tuple", none)).2, (("table_of_tuple" : Str) ++ (".<locals>." : Str) ++ ("<genexpr>" : Str))), ((He.cT K ("joined_rows", none)).2, (("joined_rows" : Str) ++ (".<locals>." : Str) ++ ("<genexpr>" : Str))), ((He.cT K ("all_rows", none)).2, (("all_rows" : Str) ++ (".<locals>." : Str) ++ ("<lambda>" : Str)))]
theorem TT_fst (K : PySem.W.Frag) : (TT K).map (·.1) = tf.map fun p => (He.cT K p).2 := rfl
section
variable {w : World} {K : PySem.W.Frag} {h base : Heap} {mg : Str → Option Value}
theorem has_g (X : K.In h) (N : h.Ns mainGlobals mg) (c : He.SaysX fa fn [] tf ex w h K) (TB : ∀ p ∈ tf.map (He.cT K), LamX.TabB base mg p.1 p.2) : Nonempty (G K mg base (TT K)) := by
  have nd : ((TT K).map (·.1)).Nodup := of_decide_eq_true c.more
  have tb : ∀ d ∈ tf, LamX.TabB base mg (He.cT K d).1 (He.cT K d).2 := fun d hd => TB _ (List.mem_map.mpr ⟨d, hd, rfl⟩)
  obtain ⟨d_rises', F_rises⟩ := c.t.d.def_ 0 (d := d_rises) rfl
  obtain ⟨d_is_different', F_is_different⟩ := c.t.d.def_ 1 (d := d_is_different) rfl
  obtain ⟨d_holds_list', F_holds_list⟩ := c.t.d.def_ 2 (d := d_holds_list) rfl
  obtain ⟨d_holds', F_holds⟩ := c.t.d.def_ 3 (d := d_holds) rfl
  obtain ⟨d_turn', F_turn⟩ := c.t.d.def_ 4 (d := d_turn) rfl
  obtain ⟨d_parts_of', F_parts_of⟩ := c.t.d.def_ 5 (d := d_parts_of) rfl
  obtain ⟨d_in_order', F_in_order⟩ := c.t.d.def_ 6 (d := d_in_order) rfl
  obtain ⟨d_put_together', F_put_together⟩ := c.t.d.def_ 7 (d := d_put_together) rfl
  obtain ⟨d_multiplied', F_multiplied⟩ := c.t.d.def_ 8 (d := d_multiplied) rfl
  obtain ⟨d_behind', F_behind⟩ := c.t.d.def_ 9 (d := d_behind) rfl
  obtain ⟨d_check_many', F_check_many⟩ := c.t.d.def_ 10 (d := d_check_many) rfl
  obtain ⟨d_power', F_power⟩ := c.t.d.def_ 11 (d := d_power) rfl
  obtain ⟨d_table_of_tuple', F_table_of_tuple⟩ := c.t.d.def_ 12 (d := d_table_of_tuple) rfl
  obtain ⟨d_table_of_list', F_table_of_list⟩ := c.t.d.def_ 13 (d := d_table_of_list) rfl
  obtain ⟨d_table_of_repeat', F_table_of_repeat⟩ := c.t.d.def_ 14 (d := d_table_of_repeat) rfl
  obtain ⟨d_triples_of', F_triples_of⟩ := c.t.d.def_ 15 (d := d_triples_of) rfl
  obtain ⟨d_table_at', F_table_at⟩ := c.t.d.def_ 16 (d := d_table_at) rfl
  obtain ⟨d_table', F_table⟩ := c.t.d.def_ 17 (d := d_table) rfl
  obtain ⟨d_least_row', F_least_row⟩ := c.t.d.def_ 18 (d := d_least_row) rfl
  obtain ⟨d_count_rows', F_count_rows⟩ := c.t.d.def_ 19 (d := d_count_rows) rfl
  obtain ⟨d_listed_rows', F_listed_rows⟩ := c.t.d.def_ 20 (d := d_listed_rows) rfl
  obtain ⟨d_joined_rows', F_joined_rows⟩ := c.t.d.def_ 21 (d := d_joined_rows) rfl
  obtain ⟨d_rows_of_parts', F_rows_of_parts⟩ := c.t.d.def_ 22 (d := d_rows_of_parts) rfl
  obtain ⟨d_rows_at', F_rows_at⟩ := c.t.d.def_ 23 (d := d_rows_at) rfl
  obtain ⟨d_all_rows', F_all_rows⟩ := c.t.d.def_ 24 (d := d_all_rows) rfl
  obtain ⟨d_first_rows', F_first_rows⟩ := c.t.d.def_ 25 (d := d_first_rows) rfl
  obtain ⟨d_D_init', F_D_init⟩ := c.t.d.def_ 26 (d := d_D_init) rfl
  obtain ⟨d_D_choice', F_D_choice⟩ := c.t.d.def_ 27 (d := d_D_choice) rfl
  obtain ⟨d_D_refuse', F_D_refuse⟩ := c.t.d.def_ 28 (d := d_D_refuse) rfl
  obtain ⟨d_D_listed', F_D_listed⟩ := c.t.d.def_ 29 (d := d_D_listed) rfl
  obtain ⟨d_D_repeated', F_D_repeated⟩ := c.t.d.def_ 30 (d := d_D_repeated) rfl
  obtain ⟨d_D_kept', F_D_kept⟩ := c.t.d.def_ 31 (d := d_D_kept) rfl
  obtain ⟨d_D_value', F_D_value⟩ := c.t.d.def_ 32 (d := d_D_value) rfl
  obtain ⟨d_draw', F_draw⟩ := c.t.d.def_ 33 (d := d_draw) rfl
  obtain ⟨d_is_exact', F_is_exact⟩ := c.t.d.def_ 34 (d := d_is_exact) rfl
  obtain ⟨d_value_of', F_value_of⟩ := c.t.d.def_ 35 (d := d_value_of) rfl
  obtain ⟨d_is_less', F_is_less⟩ := c.t.d.def_ 36 (d := d_is_less) rfl
  obtain ⟨d_law_cell', F_law_cell⟩ := c.t.d.def_ 37 (d := d_law_cell) rfl
  obtain ⟨d_law_draw', F_law_draw⟩ := c.t.d.def_ 38 (d := d_law_draw) rfl
  obtain ⟨d_law_box', F_law_box⟩ := c.t.d.def_ 39 (d := d_law_box) rfl
  obtain ⟨d_law_take', F_law_take⟩ := c.t.d.def_ 40 (d := d_law_take) rfl
  obtain ⟨d_law_kind', F_law_kind⟩ := c.t.d.def_ 41 (d := d_law_kind) rfl
  obtain ⟨d_law_limit', F_law_limit⟩ := c.t.d.def_ 42 (d := d_law_limit) rfl
  obtain ⟨d_law_gen', F_law_gen⟩ := c.t.d.def_ 43 (d := d_law_gen) rfl
  obtain ⟨d_law_some', F_law_some⟩ := c.t.d.def_ 44 (d := d_law_some) rfl
  exact ⟨{
    rises := ⟨_, _, F_rises, He.glo_ok X N (c.t.d.fact 0 (f := .glo "rises") rfl)⟩,
    is_different := ⟨_, _, F_is_different, He.glo_ok X N (c.t.d.fact 1 (f := .glo "is_different") rfl)⟩,
    holds_list := ⟨_, _, F_holds_list, He.glo_ok X N (c.t.d.fact 2 (f := .glo "holds_list") rfl)⟩,
    holds := ⟨_, _, F_holds, He.glo_ok X N (c.t.d.fact 3 (f := .glo "holds") rfl)⟩,
    turn := ⟨_, _, F_turn, He.glo_ok X N (c.t.d.fact 4 (f := .glo "turn") rfl)⟩,
    parts_of := ⟨_, _, F_parts_of, He.glo_ok X N (c.t.d.fact 5 (f := .glo "parts_of") rfl)⟩,
    in_order := ⟨_, _, F_in_order, He.glo_ok X N (c.t.d.fact 6 (f := .glo "in_order") rfl)⟩,
    put_together := ⟨_, _, F_put_together, He.glo_ok X N (c.t.d.fact 7 (f := .glo "put_together") rfl)⟩,
    multiplied := ⟨_, _, F_multiplied, He.glo_ok X N (c.t.d.fact 8 (f := .glo "multiplied") rfl)⟩,
    behind := ⟨_, _, F_behind, He.glo_ok X N (c.t.d.fact 9 (f := .glo "behind") rfl)⟩,
    check_many := ⟨_, _, F_check_many, He.glo_ok X N (c.t.d.fact 10 (f := .glo "check_many") rfl)⟩,
    power := ⟨_, _, F_power, He.glo_ok X N (c.t.d.fact 11 (f := .glo "power") rfl)⟩,
    table_of_tuple := ⟨_, _, F_table_of_tuple, He.glo_ok X N (c.t.d.fact 12 (f := .glo "table_of_tuple") rfl)⟩,
    table_of_list := ⟨_, _, F_table_of_list, He.glo_ok X N (c.t.d.fact 13 (f := .glo "table_of_list") rfl)⟩,
    table_of_repeat := ⟨_, _, F_table_of_repeat, He.glo_ok X N (c.t.d.fact 14 (f := .glo "table_of_repeat") rfl)⟩,
    triples_of := ⟨_, _, F_triples_of, He.glo_ok X N (c.t.d.fact 15 (f := .glo "triples_of") rfl)⟩,
    table_at := ⟨_, _, F_table_at, He.glo_ok X N (c.t.d.fact 16 (f := .glo "table_at") rfl)⟩,
    table := ⟨_, _, F_table, He.glo_ok X N (c.t.d.fact 17 (f := .glo "table") rfl)⟩,
    least_row := ⟨_, _, F_least_row, He.glo_ok X N (c.t.d.fact 18 (f := .glo "least_row") rfl)⟩,
    count_rows := ⟨_, _, F_count_rows, He.glo_ok X N (c.t.d.fact 19 (f := .glo "count_rows") rfl)⟩,
    listed_rows := ⟨_, _, F_listed_rows, He.glo_ok X N (c.t.d.fact 20 (f := .glo "listed_rows") rfl)⟩,
    joined_rows := ⟨_, _, F_joined_rows, He.glo_ok X N (c.t.d.fact 21 (f := .glo "joined_rows") rfl)⟩,
    rows_of_parts := ⟨_, _, F_rows_of_parts, He.glo_ok X N (c.t.d.fact 22 (f := .glo "rows_of_parts") rfl)⟩,
    rows_at := ⟨_, _, F_rows_at, He.glo_ok X N (c.t.d.fact 23 (f := .glo "rows_at") rfl)⟩,
    all_rows := ⟨_, _, F_all_rows, He.glo_ok X N (c.t.d.fact 24 (f := .glo "all_rows") rfl)⟩,
    first_rows := ⟨_, _, F_first_rows, He.glo_ok X N (c.t.d.fact 25 (f := .glo "first_rows") rfl)⟩,
    draw := ⟨_, _, F_draw, He.glo_ok X N (c.t.d.fact 26 (f := .glo "draw") rfl)⟩,
    is_exact := ⟨_, _, F_is_exact, He.glo_ok X N (c.t.d.fact 27 (f := .glo "is_exact") rfl)⟩,
    value_of := ⟨_, _, F_value_of, He.glo_ok X N (c.t.d.fact 28 (f := .glo "value_of") rfl)⟩,
    is_less := ⟨_, _, F_is_less, He.glo_ok X N (c.t.d.fact 29 (f := .glo "is_less") rfl)⟩,
    law_cell := ⟨_, _, F_law_cell, He.glo_ok X N (c.t.d.fact 30 (f := .glo "_law_cell") rfl)⟩,
    law_draw := ⟨_, _, F_law_draw, He.glo_ok X N (c.t.d.fact 31 (f := .glo "_law_draw") rfl)⟩,
    law_box := ⟨_, _, F_law_box, He.glo_ok X N (c.t.d.fact 32 (f := .glo "_law_box") rfl)⟩,
    law_take := ⟨_, _, F_law_take, He.glo_ok X N (c.t.d.fact 33 (f := .glo "_law_take") rfl)⟩,
    law_kind := ⟨_, _, F_law_kind, He.glo_ok X N (c.t.d.fact 34 (f := .glo "_law_kind") rfl)⟩,
    law_limit := ⟨_, _, F_law_limit, He.glo_ok X N (c.t.d.fact 35 (f := .glo "_law_limit") rfl)⟩,
    law_gen := ⟨_, _, F_law_gen, He.glo_ok X N (c.t.d.fact 36 (f := .glo "_law_gen") rfl)⟩,
    law_some := ⟨_, _, F_law_some, He.glo_ok X N (c.t.d.fact 37 (f := .glo "_law_some") rfl)⟩,
    C := He.ga K "Draw",
    mC := He.glo_ok X N (c.t.d.fact 39 (f := .glo "Draw") rfl),
    cls := He.cls_ok (c.t.d.fact 53 (f := .cls "Draw") rfl),
    nrow := He.noat_ok (c.t.d.fact 54 (f := .noat "Draw" "row") rfl),
    nused := He.noat_ok (c.t.d.fact 55 (f := .noat "Draw" "used") rfl),
    aI := _,
    dI := _,
    FI := F_D_init,
    mkI := He.mkr_ok (c.t.d.fact 56 (f := .mkr "Draw") rfl),
    D_choice := ⟨_, _, F_D_choice, He.meth_ok (c.t.d.fact 57 (f := .meth "Draw" "choice") rfl)⟩,
    D_refuse := ⟨_, _, F_D_refuse, He.meth_ok (c.t.d.fact 58 (f := .meth "Draw" "refuse") rfl)⟩,
    D_listed := ⟨_, _, F_D_listed, He.meth_ok (c.t.d.fact 59 (f := .meth "Draw" "listed") rfl)⟩,
    D_repeated := ⟨_, _, F_D_repeated, He.meth_ok (c.t.d.fact 60 (f := .meth "Draw" "repeated") rfl)⟩,
    D_kept := ⟨_, _, F_D_kept, He.meth_ok (c.t.d.fact 61 (f := .meth "Draw" "kept") rfl)⟩,
    D_value := ⟨_, _, F_D_value, He.meth_ok (c.t.d.fact 62 (f := .meth "Draw" "value") rfl)⟩,
    n_len := He.free_ok X N (c.t.d.fact 40 (f := .free "len") rfl),
    n_range := He.free_ok X N (c.t.d.fact 41 (f := .free "range") rfl),
    n_all := He.free_ok X N (c.t.d.fact 42 (f := .free "all") rfl),
    n_any := He.free_ok X N (c.t.d.fact 43 (f := .free "any") rfl),
    n_sum := He.free_ok X N (c.t.d.fact 44 (f := .free "sum") rfl),
    n_sorted := He.free_ok X N (c.t.d.fact 45 (f := .free "sorted") rfl),
    n_min := He.free_ok X N (c.t.d.fact 46 (f := .free "min") rfl),
    n_max := He.free_ok X N (c.t.d.fact 47 (f := .free "max") rfl),
    n_tuple := He.free_ok X N (c.t.d.fact 48 (f := .free "tuple") rfl),
    n_list := He.free_ok X N (c.t.d.fact 49 (f := .free "list") rfl),
    i_LONG := He.int_ok X N (c.t.d.fact 50 (f := .int "LONG" 6) rfl),
    i_VALUES := He.int_ok X N (c.t.d.fact 51 (f := .int "VALUES" 2000) rfl),
    i_EXACT := He.int_ok X N (c.t.d.fact 52 (f := .int "EXACT" 5000) rfl),
    c_rises := cd_of F_rises (tb _ (.head _)) (.head _) nd,
    c_is_different := cd_of F_is_different (tb _ (.tail _ (.head _))) (.tail _ (.head _)) nd,
    c_holds_list := cd_of F_holds_list (tb _ (.tail _ (.tail _ (.head _)))) (.tail _ (.tail _ (.head _))) nd,
    c_in_order := cd_of F_in_order (tb _ (.tail _ (.tail _ (.tail _ (.head _))))) (.tail _ (.tail _ (.tail _ (.head _)))) nd,
    c_table_of_tuple := cd_of F_table_of_tuple (tb _ (.tail _ (.tail _ (.tail _ (.tail _ (.head _)))))) (.tail _ (.tail _ (.tail _ (.tail _ (.head _))))) nd,
    c_joined_rows := cd_of F_joined_rows (tb _ (.tail _ (.tail _ (.tail _ (.tail _ (.tail _ (.head _))))))) (.tail _ (.tail _ (.tail _ (.tail _ (.tail _ (.head _)))))) nd,
    c_all_rows := cd_of F_all_rows (tb _ (.tail _ (.tail _ (.tail _ (.tail _ (.tail _ (.tail _ (.head _)))))))) (.tail _ (.tail _ (.tail _ (.tail _ (.tail _ (.tail _ (.head _))))))) nd }⟩
theorem law_at {f : Addr} (X : K.In h) (N : h.Ns mainGlobals mg) (hfa : mg ("law" : Str) = some (.ref f)) (c : He.SaysX fa fn [] tf ex w h K) : LamX.LawAtS PySem.Challenge.rw_choicerows_k23_whole_least_rows_are_leas w K CX0 57 63 "_law_script" mg f h := by
  obtain ⟨fd, F⟩ := c.t.d.def_ 45 (d := d_law) rfl
  have e := hfa.symm.trans (He.glo_ok X N (c.t.d.fact 38 (f := .glo "law") rfl))
  cases e
  have b := FunD.bindsA (ps := ["_law_script"]) F fun _ _ _ _ _ _ us hl => match us, hl with | [_], _ => rfl
  refine ⟨fd, tf.map (He.cT K), Pm (TT K) (fun (z : List Int) H vs => ∃ a, vs = [.ref a] ∧ SqL K H a (z.map V.int)) (fun _ _ v => v = .bl true), fun p hp => ?_, fun p hp => ?_, fun p hp => ?_, fun s u => b s [u] rfl, fun H a ns _ _ hT hS => ⟨ns, ⟨a, rfl, hS⟩, fun p hp => ?_, fun v H' _ r => r⟩, fun base KX NS TB => ?_⟩
  · obtain ⟨d, hd, rfl⟩ := List.mem_map.mp hp
    exact c.empty d hd
  · obtain ⟨d, hd, rfl⟩ := List.mem_map.mp hp
    exact c.out d hd
  · obtain ⟨d, hd, rfl⟩ := List.mem_map.mp hp
    exact PySem.W.codeHd_of_K X (c.hd d hd)
  · have m : p.1 ∈ (TT K).map (·.1) := List.mem_map.mpr ⟨p, hp, rfl⟩
    rw [TT_fst] at m
    obtain ⟨d, hd, e⟩ := List.mem_map.mp m
    exact LamX.TabS.nil (by rw [← e]; exact hT _ (List.mem_map.mpr ⟨d, hd, rfl⟩))
  · obtain ⟨g⟩ := has_g X N c TB
    exact ok_law g F
end
end CR
open PySem PySem.W PySem.Calls PyProof.Rows
theorem PySem.Challenge.cw_choicerows_k23_whole_least_rows_are_leas_holds : PySem.Challenge.rw_choicerows_k23_whole_least_rows_are_leas.Holds := by
  w_on; o_law
  refine HandSHeadRun.head_any (r := OpenLaw.row PySem.Challenge.rw_choicerows_k23_whole_least_rows_are_leas) (q := view (OpenLaw.row PySem.Challenge.rw_choicerows_k23_whole_least_rows_are_leas).prog [52]) (H := CR.hk) (ob := CR.ob) (M := 4000) (loose := CR.loose) (d := HandSHeadRun.topDef (OpenLaw.row PySem.Challenge.rw_choicerows_k23_whole_least_rows_are_leas).prog 52) (kwd := []) CR.ob_eq
    (by kernel_rfl) (fun s => by kernel_rfl) CR.run (by kernel_rfl) (by kernel_rfl) (by kernel_rfl) (by rfl) (by first | assumption | decide +kernel) (by decide +kernel) ⟨rfl, rfl, rfl, rfl, rfl, by decide +kernel⟩ ?hw ?hc
  case hw => w_witness2
  case hc =>
    refine LamX.walk_ofTsE (l := PySem.Challenge.rw_choicerows_k23_whole_least_rows_are_leas) (n := 63) (k := 57) (x := "_law_script") (CX := fun _ => L2.CX0) rfl (by decide) (by kernel_rfl) ⟨rfl, by decide, by decide⟩ ?F (fun _ _ _ _ _ z => z)
    intro w mg fa h Y G hmg0
    obtain ⟨K, KX, c⟩ := Y
    have hmg : mg ("law" : PySem.Str) = some (.ref fa) := by
      have e : (HandSHeadRun.topDef (OpenLaw.row PySem.Challenge.rw_choicerows_k23_whole_least_rows_are_leas).prog 52).name = ("law" : PySem.Str) := by kernel_rfl
      rw [← e]
      exact hmg0
    exact ⟨K, KX, CR.law_at KX G hmg c⟩
