import PyProof.Rows.All
import Wide.All
import OpenK.AllK
import Wide.FinOn
import KE.KStateDown
import HandS.ForMost
import HandS.Defaults
import HandS.Head0
import HandS.Head1
import HandS.Head2
import HandS.HeadEnd
import HandS.HeadHook1
import HandS.HeadHook2
import HandS.HeadHook3
import HandS.HeadHook4
import HandS.Exc
import HandS.TryOnly
import HandS.ExcOwn
import HandS.WordsExc
import HandS.ExcInit
import HandS.ExcIs
import HandS.IsInst
import HandS.Deep
import HandS.TupAny
import HandS.TupMul
import HandS.Star
import HandS.Flow
import HandS.NoneIn
import HandS.Wide
import KE.KExcIs
import KE.DataCmp
import HandS.Walk
import HandS.Zip
import KE.GoesEnum
import KE.GoesMore
import HandS.TupSets
import KE.KDictCopyH
import KE.SortData
import KE.KExcSuper
import HandS.ExcSuper
import PySem.Challenge.RW_fitssomewhere_k30_whole_surroundings_of
set_option Elab.async false
set_option linter.all false
set_option maxRecDepth 100000
set_option maxHeartbeats 0
/-! The head: each def as a datum, the facts of the top, one run in the kernel. -/
namespace Fs
open PySem PySem.Spec PyProof.Rows L2
def topS (i : Nat) : Stmt := PySem.Challenge.pw_fitssomewhere_k30_whole_surroundings_of.main.body.getD i (.Pass ⟨0, 0, 0, 0⟩)
abbrev s_is_number : Stmt := topS 5
abbrev s_is_name : Stmt := topS 6
abbrev s_is_rising : Stmt := topS 7
abbrev s_is_name_set : Stmt := topS 8
abbrev s_tupled : Stmt := topS 9
abbrev s_is_step : Stmt := topS 14
abbrev s_is_part : Stmt := topS 15
abbrev s_unjoinable : Stmt := topS 17
abbrev s_check_joinable : Stmt := topS 18
abbrev s_common_calls : Stmt := topS 19
abbrev s_leads : Stmt := topS 20
abbrev s_is_within : Stmt := topS 23
abbrev s_standing_still : Stmt := topS 24
abbrev s_outside_calls : Stmt := topS 25
abbrev s_is_around_both : Stmt := topS 26
abbrev s_quiet_both : Stmt := topS 27
abbrev s_are_apart : Stmt := topS 28
abbrev s_moved : Stmt := topS 29
abbrev s_moves_of_three : Stmt := topS 30
abbrev s_fits_both : Stmt := topS 31
abbrev s_law_box : Stmt := topS 33
abbrev s_law_take : Stmt := topS 34
abbrev s_law_cells : Stmt := topS 35
abbrev s_law_of : Stmt := topS 36
abbrev s_law_same : Stmt := topS 37
abbrev s_law_lists : Stmt := topS 38
abbrev s_law_half : Stmt := topS 39
abbrev s_law_set : Stmt := topS 40
abbrev s_law_part : Stmt := topS 41
abbrev s_law_two : Stmt := topS 42
abbrev s_law_goes : Stmt := topS 43
abbrev s_law_kit : Stmt := topS 44
abbrev s_law_three : Stmt := topS 45
abbrev s_law_heard_by : Stmt := topS 46
abbrev s_law_outer : Stmt := topS 47
abbrev s_law_heard : Stmt := topS 48
abbrev s_law_by_hand_right : Stmt := topS 49
abbrev s_law_more_right : Stmt := topS 50
abbrev s_law_right : Stmt := topS 51
abbrev s_law : Stmt := topS 52
def d_is_number : He.DefD := ⟨("is_number", none), "is_number", "is_number", defArgs s_is_number, defBody s_is_number, defScope s_is_number, [], []⟩
def d_is_name : He.DefD := ⟨("is_name", none), "is_name", "is_name", defArgs s_is_name, defBody s_is_name, defScope s_is_name, [], []⟩
def d_is_rising : He.DefD := ⟨("is_rising", none), "is_rising", "is_rising", defArgs s_is_rising, defBody s_is_rising, defScope s_is_rising, [], []⟩
def d_is_name_set : He.DefD := ⟨("is_name_set", none), "is_name_set", "is_name_set", defArgs s_is_name_set, defBody s_is_name_set, defScope s_is_name_set, [], []⟩
def d_tupled : He.DefD := ⟨("tupled", none), "tupled", "tupled", defArgs s_tupled, defBody s_tupled, defScope s_tupled, [], []⟩
def d_is_step : He.DefD := ⟨("is_step", none), "is_step", "is_step", defArgs s_is_step, defBody s_is_step, defScope s_is_step, [], []⟩
def d_is_part : He.DefD := ⟨("is_part", none), "is_part", "is_part", defArgs s_is_part, defBody s_is_part, defScope s_is_part, [], []⟩
def d_unjoinable : He.DefD := ⟨("unjoinable", none), "unjoinable", "unjoinable", defArgs s_unjoinable, defBody s_unjoinable, defScope s_unjoinable, [], []⟩
def d_check_joinable : He.DefD := ⟨("check_joinable", none), "check_joinable", "check_joinable", defArgs s_check_joinable, defBody s_check_joinable, defScope s_check_joinable, [], []⟩
def d_common_calls : He.DefD := ⟨("common_calls", none), "common_calls", "common_calls", defArgs s_common_calls, defBody s_common_calls, defScope s_common_calls, [], []⟩
def d_leads : He.DefD := ⟨("leads", none), "leads", "leads", defArgs s_leads, defBody s_leads, defScope s_leads, [], []⟩
def d_is_within : He.DefD := ⟨("is_within", none), "is_within", "is_within", defArgs s_is_within, defBody s_is_within, defScope s_is_within, [], []⟩
def d_standing_still : He.DefD := ⟨("standing_still", none), "standing_still", "standing_still", defArgs s_standing_still, defBody s_standing_still, defScope s_standing_still, [], []⟩
def d_outside_calls : He.DefD := ⟨("outside_calls", none), "outside_calls", "outside_calls", defArgs s_outside_calls, defBody s_outside_calls, defScope s_outside_calls, [], []⟩
def d_is_around_both : He.DefD := ⟨("is_around_both", none), "is_around_both", "is_around_both", defArgs s_is_around_both, defBody s_is_around_both, defScope s_is_around_both, [], []⟩
def d_quiet_both : He.DefD := ⟨("quiet_both", none), "quiet_both", "quiet_both", defArgs s_quiet_both, defBody s_quiet_both, defScope s_quiet_both, [], []⟩
def d_are_apart : He.DefD := ⟨("are_apart", none), "are_apart", "are_apart", defArgs s_are_apart, defBody s_are_apart, defScope s_are_apart, [], []⟩
def d_moved : He.DefD := ⟨("moved", none), "moved", "moved", defArgs s_moved, defBody s_moved, defScope s_moved, [], []⟩
def d_moves_of_three : He.DefD := ⟨("moves_of_three", none), "moves_of_three", "moves_of_three", defArgs s_moves_of_three, defBody s_moves_of_three, defScope s_moves_of_three, [], []⟩
def d_fits_both : He.DefD := ⟨("fits_both", none), "fits_both", "fits_both", defArgs s_fits_both, defBody s_fits_both, defScope s_fits_both, [], []⟩
def d_law_box : He.DefD := ⟨("_law_box", none), "_law_box", "_law_box", defArgs s_law_box, defBody s_law_box, defScope s_law_box, [], []⟩
def d_law_take : He.DefD := ⟨("_law_take", none), "_law_take", "_law_take", defArgs s_law_take, defBody s_law_take, defScope s_law_take, [], []⟩
def d_law_cells : He.DefD := ⟨("_law_cells", none), "_law_cells", "_law_cells", defArgs s_law_cells, defBody s_law_cells, defScope s_law_cells, [], []⟩
def d_law_of : He.DefD := ⟨("_law_of", none), "_law_of", "_law_of", defArgs s_law_of, defBody s_law_of, defScope s_law_of, [], []⟩
def d_law_same : He.DefD := ⟨("_law_same", none), "_law_same", "_law_same", defArgs s_law_same, defBody s_law_same, defScope s_law_same, [], []⟩
def d_law_lists : He.DefD := ⟨("_law_lists", none), "_law_lists", "_law_lists", defArgs s_law_lists, defBody s_law_lists, defScope s_law_lists, [], []⟩
def d_law_half : He.DefD := ⟨("_law_half", none), "_law_half", "_law_half", defArgs s_law_half, defBody s_law_half, defScope s_law_half, [], []⟩
def d_law_set : He.DefD := ⟨("_law_set", none), "_law_set", "_law_set", defArgs s_law_set, defBody s_law_set, defScope s_law_set, [], []⟩
def d_law_part : He.DefD := ⟨("_law_part", none), "_law_part", "_law_part", defArgs s_law_part, defBody s_law_part, defScope s_law_part, [], []⟩
def d_law_two : He.DefD := ⟨("_law_two", none), "_law_two", "_law_two", defArgs s_law_two, defBody s_law_two, defScope s_law_two, [], []⟩
def d_law_goes : He.DefD := ⟨("_law_goes", none), "_law_goes", "_law_goes", defArgs s_law_goes, defBody s_law_goes, defScope s_law_goes, [], []⟩
def d_law_kit : He.DefD := ⟨("_law_kit", none), "_law_kit", "_law_kit", defArgs s_law_kit, defBody s_law_kit, defScope s_law_kit, [], []⟩
def d_law_three : He.DefD := ⟨("_law_three", none), "_law_three", "_law_three", defArgs s_law_three, defBody s_law_three, defScope s_law_three, [], []⟩
def d_law_heard_by : He.DefD := ⟨("_law_heard_by", none), "_law_heard_by", "_law_heard_by", defArgs s_law_heard_by, defBody s_law_heard_by, defScope s_law_heard_by, [], []⟩
def d_law_outer : He.DefD := ⟨("_law_outer", none), "_law_outer", "_law_outer", defArgs s_law_outer, defBody s_law_outer, defScope s_law_outer, [], []⟩
def d_law_heard : He.DefD := ⟨("_law_heard", none), "_law_heard", "_law_heard", defArgs s_law_heard, defBody s_law_heard, defScope s_law_heard, [], []⟩
def d_law_by_hand_right : He.DefD := ⟨("_law_by_hand_right", none), "_law_by_hand_right", "_law_by_hand_right", defArgs s_law_by_hand_right, defBody s_law_by_hand_right, defScope s_law_by_hand_right, [], []⟩
def d_law_more_right : He.DefD := ⟨("_law_more_right", none), "_law_more_right", "_law_more_right", defArgs s_law_more_right, defBody s_law_more_right, defScope s_law_more_right, [], []⟩
def d_law_right : He.DefD := ⟨("_law_right", none), "_law_right", "_law_right", defArgs s_law_right, defBody s_law_right, defScope s_law_right, [], []⟩
def d_law : He.DefD := ⟨("law", none), "law", "law", defArgs s_law, defBody s_law, defScope s_law, [], []⟩
def dsA : List He.DefD := [d_is_number, d_is_name, d_is_rising, d_is_name_set, d_tupled, d_is_step, d_is_part, d_unjoinable, d_check_joinable, d_common_calls, d_leads, d_is_within, d_standing_still, d_outside_calls, d_is_around_both, d_quiet_both, d_are_apart, d_moved, d_moves_of_three, d_fits_both]
def dsB : List He.DefD := [d_law_box, d_law_take, d_law_cells, d_law_of, d_law_same, d_law_lists, d_law_half, d_law_set, d_law_part, d_law_two, d_law_goes, d_law_kit, d_law_three, d_law_heard_by, d_law_outer, d_law_heard, d_law_by_hand_right, d_law_more_right, d_law_right, d_law]
def fn : List He.DefD := dsA ++ dsB
def faA : List He.Fa := [.glo "is_number", .glo "is_name", .glo "is_rising", .glo "is_name_set", .glo "tupled", .glo "is_step", .glo "is_part", .glo "unjoinable", .glo "check_joinable", .glo "common_calls", .glo "leads", .glo "is_within", .glo "standing_still", .glo "outside_calls", .glo "is_around_both", .glo "quiet_both", .glo "are_apart", .glo "moved", .glo "moves_of_three", .glo "fits_both"]
def faB : List He.Fa := [.glo "_law_box", .glo "_law_take", .glo "_law_cells", .glo "_law_of", .glo "_law_same", .glo "_law_lists", .glo "_law_half", .glo "_law_set", .glo "_law_part", .glo "_law_two", .glo "_law_goes", .glo "_law_kit", .glo "_law_three", .glo "_law_heard_by", .glo "_law_outer", .glo "_law_heard", .glo "_law_by_hand_right", .glo "_law_more_right", .glo "_law_right", .glo "law"]
def faC : List He.Fa := [.free "isinstance", .free "int", .free "bool", .free "str", .free "list", .free "tuple", .free "len", .free "all", .free "any", .free "zip", .free "sorted", .free "set", .free "enumerate", .free "range", .free "abs", .free "super", .free "ValueError"]
def faD : List He.Fa := [.str "LETTERS" "abcdefghijklmnopqrstuvwxyz", .int "LONGEST" 8, .str "WITHIN" "", .int "STEP" 3, .int "PARTS" 4, .int "THREE" 3, .glo "NotJoinable", .keep "NotJoinable", .exm "NotJoinable" "NotJoinable" true]
def fa : List He.Fa := faA ++ (faB ++ (faC ++ faD))
def looseA : List PySem.Str := ["__name__", "NotJoinable", "LETTERS", "LONGEST", "is_number", "is_name", "is_rising", "is_name_set", "tupled", "WITHIN", "STEP", "PARTS", "is_step", "is_part", "unjoinable", "check_joinable", "common_calls", "leads", "THREE", "is_within", "standing_still", "outside_calls", "is_around_both", "quiet_both", "are_apart"]
def looseB : List PySem.Str := ["moved", "moves_of_three", "fits_both", "_law_box", "_law_take", "_law_cells", "_law_of", "_law_same", "_law_lists", "_law_half", "_law_set", "_law_part", "_law_two", "_law_goes", "_law_kit", "_law_three", "_law_heard_by", "_law_outer", "_law_heard", "_law_by_hand_right", "_law_more_right", "_law_right"]
def loose : List PySem.Str := looseA ++ looseB
end Fs
set_option Elab.async false
set_option linter.all false
set_option maxRecDepth 100000
set_option maxHeartbeats 2000000
/-! The calculus: data (Da), what stands where (At), what an expression evaluates to (Ev), what a statement does (WS). -/
namespace Fs
open PySem PySem.Spec PyProof.Rows L2

/-- data: none, bools, ints, texts, lists, tuples, an error object -/
inductive Da where
  | non | bl (b : Bool) | int (i : Int) | str (x : Str) | lst (xs : List Da) | tup (xs : List Da) | exc

/-- a made error of the class at C stands at a -/
def ExcAt (K : PySem.W.Frag) (G : Hp) (a : Addr) : Prop := ∃ d fs, G a = some (exo a (He.ga K "NotJoinable") (some d)) ∧ G d = some (exd d fs)
mutual
inductive At (K : PySem.W.Frag) (G : Hp) : V → Da → Prop
  | non : At K G .non .non
  | bl (b : Bool) : At K G (.bl b) (.bl b)
  | int (i : Int) : At K G (.int i) (.int i)
  | str (x : Str) : At K G (.str x) (.str x)
  | lst {a : Addr} {xs : List V} {ds : List Da} : G a = some (.lst xs) → AtL K G xs ds → At K G (.ref a) (.lst ds)
  | tup {a : Addr} {xs : List V} {ds : List Da} : G a = some (.tup xs) → AtL K G xs ds → At K G (.ref a) (.tup ds)
  | exc {a : Addr} : ExcAt K G a → At K G (.ref a) .exc
inductive AtL (K : PySem.W.Frag) (G : Hp) : List V → List Da → Prop
  | nil : AtL K G [] []
  | cons {v : V} {vs : List V} {d : Da} {ds : List Da} : At K G v d → AtL K G vs ds → AtL K G (v :: vs) (d :: ds)
end
section
variable {K : PySem.W.Frag} {G G' : Hp}
mutual
theorem At.mono (e : Same G G') : ∀ (d : Da) {v : V}, At K G v d → At K G' v d
  | .non, _, h => by cases h; exact .non
  | .bl b, _, h => by cases h; exact .bl b
  | .int i, _, h => by cases h; exact .int i
  | .str x, _, h => by cases h; exact .str x
  | .lst ds, _, h => by
    cases h with
    | lst h1 h2 => exact .lst (e _ _ h1) (AtL.mono e ds h2)
  | .tup ds, _, h => by
    cases h with
    | tup h1 h2 => exact .tup (e _ _ h1) (AtL.mono e ds h2)
  | .exc, _, h => by
    cases h with
    | exc h1 =>
      obtain ⟨d, fs, q1, q2⟩ := h1
      exact .exc ⟨d, fs, e _ _ q1, e _ _ q2⟩
theorem AtL.mono (e : Same G G') : ∀ (ds : List Da) {vs : List V}, AtL K G vs ds → AtL K G' vs ds
  | [], _, h => by cases h; exact .nil
  | d :: ds, _, h => by
    cases h with
    | cons h1 h2 => exact .cons (At.mono e d h1) (AtL.mono e ds h2)
end
theorem At.up {d : Da} {v : V} (h : At K G v d) (e : Same G G') : At K G' v d := At.mono e d h
theorem AtL.up {ds : List Da} {vs : List V} (h : AtL K G vs ds) (e : Same G G') : AtL K G' vs ds := AtL.mono e ds h
theorem AtL.len : ∀ {ds : List Da} {vs : List V}, AtL K G vs ds → vs.length = ds.length
  | [], _, h => by cases h; rfl
  | d :: ds, _, h => by
    cases h with
    | cons h1 h2 => exact congrArg Nat.succ (AtL.len h2)
theorem AtL.get : ∀ {ds : List Da} {vs : List V} {i : Nat} {d : Da}, AtL K G vs ds → ds[i]? = some d → ∃ v, vs[i]? = some v ∧ At K G v d
  | [], _, i, d, h, e => by simp at e
  | d0 :: ds, _, 0, d, h, e => by
    cases h with
    | cons h1 h2 =>
      have e' : d0 = d := Option.some.inj e
      subst e'
      exact ⟨_, rfl, h1⟩
  | d0 :: ds, _, i + 1, d, h, e => by
    cases h with
    | cons h1 h2 => exact AtL.get (i := i) h2 e
theorem AtL.getV : ∀ {ds : List Da} {vs : List V} {i : Nat} {v : V}, AtL K G vs ds → vs[i]? = some v → ∃ d, ds[i]? = some d ∧ At K G v d
  | [], _, i, v, h, e => by cases h; simp at e
  | d0 :: ds, _, 0, v, h, e => by
    cases h with
    | cons h1 h2 =>
      have e' := Option.some.inj e
      subst e'
      exact ⟨_, rfl, h1⟩
  | d0 :: ds, _, i + 1, v, h, e => by
    cases h with
    | cons h1 h2 => exact AtL.getV (i := i) h2 e
theorem AtL.app : ∀ {ds es : List Da} {vs ws : List V}, AtL K G vs ds → AtL K G ws es → AtL K G (vs ++ ws) (ds ++ es)
  | [], _, _, _, h, k => by cases h; exact k
  | _ :: _, _, _, _, h, k => by
    cases h with
    | cons h1 h2 => exact .cons h1 (h2.app k)
theorem AtL.snoc {ds : List Da} {vs : List V} {d : Da} {v : V} (h : AtL K G vs ds) (k : At K G v d) : AtL K G (vs ++ [v]) (ds ++ [d]) := h.app (.cons k .nil)
theorem AtL.take : ∀ {ds : List Da} {vs : List V} (n : Nat), AtL K G vs ds → AtL K G (vs.take n) (ds.take n)
  | _, _, 0, _ => .nil
  | [], _, n + 1, h => by cases h; exact .nil
  | d :: ds, _, n + 1, h => by
    cases h with
    | cons h1 h2 => exact .cons h1 (h2.take n)
theorem AtL.drop : ∀ {ds : List Da} {vs : List V} (n : Nat), AtL K G vs ds → AtL K G (vs.drop n) (ds.drop n)
  | _, _, 0, h => h
  | [], _, n + 1, h => by cases h; exact .nil
  | d :: ds, _, n + 1, h => by
    cases h with
    | cons h1 h2 => exact h2.drop n
theorem AtL.ints : ∀ (l : List Int), AtL K G (l.map V.int) (l.map Da.int)
  | [] => .nil
  | _ :: l => .cons (.int _) (AtL.ints l)
theorem AtL.strs : ∀ (l : List Str), AtL K G (l.map V.str) (l.map Da.str)
  | [] => .nil
  | _ :: l => .cons (.str _) (AtL.strs l)
theorem AtL.bls : ∀ (l : List Bool), AtL K G (l.map V.bl) (l.map Da.bl)
  | [] => .nil
  | _ :: l => .cons (.bl _) (AtL.bls l)
theorem AtL.ints_inv : ∀ {l : List Int} {vs : List V}, AtL K G vs (l.map Da.int) → vs = l.map V.int
  | [], _, h => by cases h; rfl
  | _ :: l, _, h => by
    cases h with
    | cons h1 h2 =>
      cases h1
      rw [AtL.ints_inv h2]
      rfl
theorem AtL.strs_inv : ∀ {l : List Str} {vs : List V}, AtL K G vs (l.map Da.str) → vs = l.map V.str
  | [], _, h => by cases h; rfl
  | _ :: l, _, h => by
    cases h with
    | cons h1 h2 =>
      cases h1
      rw [AtL.strs_inv h2]
      rfl
theorem AtL.bls_inv : ∀ {l : List Bool} {vs : List V}, AtL K G vs (l.map Da.bl) → vs = l.map V.bl
  | [], _, h => by cases h; rfl
  | _ :: l, _, h => by
    cases h with
    | cons h1 h2 =>
      cases h1
      rw [AtL.bls_inv h2]
      rfl
end

/-! ### the known part G of the heap H, and how both grow -/
structure Grow (G H G' H' : Hp) : Prop where
  hh : Same H H'
  gg : Same G G'
  gh : Same G' H'
  fr : ∀ a, G' a ≠ none → G a ≠ none ∨ H a = none
section
variable {G H G1 H1 G2 H2 : Hp}
theorem Grow.refl (e : Same G H) : Grow G H G H := ⟨Same.refl _, Same.refl _, e, fun _ h => .inl h⟩
theorem Grow.trans (a : Grow G H G1 H1) (b : Grow G1 H1 G2 H2) : Grow G H G2 H2 := by
  refine ⟨a.hh.trans b.hh, a.gg.trans b.gg, b.gh, fun x hx => ?_⟩
  rcases b.fr x hx with h | h
  · exact a.fr x h
  · refine .inr ?_
    cases q : H x with
    | none => rfl
    | some o =>
      have z := a.hh x o q
      rw [h] at z
      cases z
/-- a new object, known -/
theorem Grow.new {p : Addr} {o : HO} (e : Same G H) (hp : H p = none) : Grow G H (upd G p o) (upd H p o) := by
  have gp : G p = none := by
    cases q : G p with
    | none => rfl
    | some u =>
      have z := e p u q
      rw [hp] at z
      cases z
  refine ⟨fun b u q => ?_, fun b u q => ?_, fun b u q => ?_, fun b hb => ?_⟩
  · rw [upd_ne (ne_of_none q hp)]
    exact q
  · rw [upd_ne (ne_of_none q gp)]
    exact q
  · by_cases hb : b = p
    · subst hb
      rw [upd_same] at q ⊢
      exact q
    · rw [upd_ne hb] at q ⊢
      exact e b u q
  · by_cases hbp : b = p
    · exact .inr (hbp ▸ hp)
    · rw [upd_ne hbp] at hb
      exact .inl hb
/-- a new object, not known (it may change) -/
theorem Grow.own {p : Addr} {o : HO} (e : Same G H) (hp : H p = none) : Grow G H G (upd H p o) := by
  refine ⟨fun b u q => ?_, Same.refl _, fun b u q => ?_, fun b hb => .inl hb⟩
  · rw [upd_ne (ne_of_none q hp)]
    exact q
  · have z := e b u q
    rw [upd_ne (ne_of_none z hp)]
    exact z
/-- an own object changes: own means new since (G, H), not known -/
theorem Grow.chg {p : Addr} {o : HO} (a : Grow G H G1 H1) (hp : H p = none) (gp : G1 p = none) : Grow G H G1 (upd H1 p o) := by
  refine ⟨fun b u q => ?_, a.gg, fun b u q => ?_, a.fr⟩
  · rw [upd_ne (ne_of_none q hp)]
    exact a.hh b u q
  · rw [upd_ne (ne_of_none q gp)]
    exact a.gh b u q
/-- an own object becomes known -/
theorem Grow.frz {p : Addr} {o : HO} (a : Grow G H G1 H1) (hp : H p = none) (gp : G1 p = none) (h1 : H1 p = some o) : Grow G H (upd G1 p o) H1 := by
  refine ⟨a.hh, fun b u q => ?_, fun b u q => ?_, fun b hb => ?_⟩
  · have z := a.gg b u q
    rw [upd_ne (ne_of_none z gp)]
    exact z
  · by_cases hb : b = p
    · subst hb
      rw [upd_same] at q
      rw [h1]
      exact q
    · rw [upd_ne hb] at q
      exact a.gh b u q
  · by_cases hbp : b = p
    · exact .inr (hbp ▸ hp)
    · rw [upd_ne hbp] at hb
      exact a.fr b hb
/-- an own object stays unknown -/
theorem Grow.unk {p : Addr} (a : Grow G H G1 H1) (gp : G p = none) (hp : H p ≠ none) : G1 p = none := by
  cases q : G1 p with
  | none => rfl
  | some o =>
    rcases a.fr p (by rw [q]; exact fun z => nomatch z) with h | h
    · exact absurd gp h
    · exact absurd h hp
theorem Grow.keeps {p : Addr} {o : HO} (a : Grow G H G1 H1) (hp : H p = some o) : H1 p = some o := a.hh p o hp
theorem Grow.free {p : Addr} (a : Grow G H G1 H1) (hp : H1 p = none) : H p = none := Same.free a.hh hp
/-- the same G' over a G that knows more: what was shown over a part -/
theorem Grow.gsub {G0 : Hp} (a : Grow G H G1 H1) : Same G H1 := fun b o q => a.gh b o (a.gg b o q)
end
theorem upd_self_none {G : Hp} {p : Addr} {o : HO} {b : Addr} (h : b ≠ p) (g : G b = none) : upd G p o b = none := by rw [upd_ne h]; exact g

/-! ### the rules as they are wanted here: of the code itself -/
def WE (X : Cx) (e : Expr) : TE := fun σ H Q => ∀ (pins : List (Addr × Obj)) (s : Shared), Inv X pins σ H s → wpAny (model X.prog X.w) X.A (eval e X.env) (EP X pins σ Q) X.xe s
def WT (X : Cx) (e : Expr) : TT := fun σ H Q => ∀ (pins : List (Addr × Obj)) (s : Shared), Inv X pins σ H s → wpAny (model X.prog X.w) X.A (isTrue e X.env (eval e X.env)) (TP X pins σ Q) X.xe s
def WW (X : Cx) (e : Expr) : TT := fun σ H Q => ∀ (whole : Sem Value) (pins : List (Addr × Obj)) (s : Shared), Inv X pins σ H s → wpAny (model X.prog X.w) X.A (isTrue e X.env whole) (TP X pins σ Q) X.xe s
def WA (X : Cx) (es : List Expr) : TA := fun σ H Q => ∀ (pos : Pos) (pins : List (Addr × Obj)) (s : Shared), Inv X pins σ H s → wpAny (model X.prog X.w) X.A (spliced (backTo pos (starEach es X.env))) (AP X pins σ Q) X.xe s
def WS (X : Cx) (st : Stmt) : TS := fun D σ H => ∀ (pins : List (Addr × Obj)) (s : Shared), Inv X pins σ H s → wpAny (model X.prog X.w) X.A (exec st X.env) (SP X pins D) X.xe s
def WSs (X : Cx) (st : List Stmt) : TS := fun D σ H => ∀ (pins : List (Addr × Obj)) (s : Shared), Inv X pins σ H s → wpAny (model X.prog X.w) X.A (execs st X.env) (SP X pins D) X.xe s
section
variable {X : Cx} {e : Expr} {es : List Expr} {st : Stmt} {sts : List Stmt} {t : TE} {σ : L2.St} {H : Hp}
theorem WE.pe : PE X e (WE X e) := ⟨fun pins s _ _ _ I h => h pins s I⟩
theorem WT.pt : PT X e (WT X e) := ⟨fun pins s _ _ _ I h => h pins s I⟩
theorem WW.pw : PW X e (WW X e) := ⟨fun whole pins s _ _ _ I h => h whole pins s I⟩
theorem WA.pa : PA X es (WA X es) := ⟨fun pos pins s _ _ _ I h => h pos pins s I⟩
theorem WS.ps : PS X st (WS X st) := ⟨fun pins s _ _ _ I h => h pins s I⟩
theorem WSs.pss : PSs X sts (WSs X sts) := ⟨fun pins s _ _ _ I h => h pins s I⟩
theorem we_of {Q : VK} (h : PE X e t) (q : t σ H Q) : WE X e σ H Q := fun pins s I => h.run pins s σ H Q I q
theorem wt_of {u : TT} {Q : Bool → Hp → Prop} (h : PT X e u) (q : u σ H Q) : WT X e σ H Q := fun pins s I => h.run pins s σ H Q I q
theorem ww_of {u : TT} {Q : Bool → Hp → Prop} (h : PW X e u) (q : u σ H Q) : WW X e σ H Q := fun whole pins s I => h.run whole pins s σ H Q I q
theorem wa_of {u : TA} {Q : List V → Hp → Prop} (h : PA X es u) (q : u σ H Q) : WA X es σ H Q := fun pos pins s I => h.run pos pins s σ H Q I q
theorem ws_of {u : TS} {D : Ends} (h : PS X st u) (q : u D σ H) : WS X st D σ H := fun pins s I => h.run pins s σ H D I q
theorem wss_of {u : TS} {D : Ends} (h : PSs X sts u) (q : u D σ H) : WSs X sts D σ H := fun pins s I => h.run pins s σ H D I q
theorem WE.imp {Q Q' : VK} (h : WE X e σ H Q) (k : ∀ v H', Q v H' → Q' v H') : WE X e σ H Q' := fun pins s I => thn (h pins s I) fun u s' ⟨v, H', J, r, q⟩ => ⟨v, H', J, r, k v H' q⟩
theorem WT.imp {Q Q' : Bool → Hp → Prop} (h : WT X e σ H Q) (k : ∀ v H', Q v H' → Q' v H') : WT X e σ H Q' := fun pins s I => thn (h pins s I) fun u s' ⟨H', J, q⟩ => ⟨H', J, k _ H' q⟩
end

/-! ### what an expression evaluates to: d, told over the known part -/
def Ev (X : Cx) (e : Expr) (σ : L2.St) (G : Hp) (d : Da) : Prop := ∀ H1, Same G H1 → ∀ Q : VK, (∀ v G2 H2, Grow G H1 G2 H2 → At X.K G2 v d → Q v H2) → WE X e σ H1 Q
def EvB (X : Cx) (e : Expr) (σ : L2.St) (G : Hp) (b : Bool) : Prop := ∀ H1, Same G H1 → ∀ Q : Bool → Hp → Prop, (∀ G2 H2, Grow G H1 G2 H2 → Q b H2) → WT X e σ H1 Q
def EvW (X : Cx) (e : Expr) (σ : L2.St) (G : Hp) (b : Bool) : Prop := ∀ H1, Same G H1 → ∀ Q : Bool → Hp → Prop, (∀ G2 H2, Grow G H1 G2 H2 → Q b H2) → WW X e σ H1 Q
def EvA (X : Cx) (es : List Expr) (σ : L2.St) (G : Hp) (ds : List Da) : Prop := ∀ H1, Same G H1 → ∀ Q : List V → Hp → Prop, (∀ vs G2 H2, Grow G H1 G2 H2 → AtL X.K G2 vs ds → Q vs H2) → WA X es σ H1 Q
section
variable {X : Cx} {a b c e : Expr} {es : List Expr} {σ : L2.St} {G G' H : Hp} {d d1 d2 r : Da} {ds : List Da} {pos p : Pos} {x : Str}
theorem Ev.up (h : Ev X e σ G d) (k : Same G G') : Ev X e σ G' d := fun H1 e1 Q q => h H1 (k.trans e1) Q fun v G2 H2 g hv => by
  -- G2 has grown from G; over G' it is G' with what is new in G2
  refine q v (fun b => if (G' b).isSome then G' b else G2 b) H2 ⟨g.hh, fun b o z => ?_, fun b o z => ?_, fun b hb => ?_⟩ (hv.up fun b o z => ?_)
  · show (if (G' b).isSome = true then G' b else G2 b) = some o
    rw [z]
    rfl
  · have z' : (if (G' b).isSome = true then G' b else G2 b) = some o := z
    cases w : G' b with
    | some u =>
      rw [w] at z'
      have z2 : some u = some o := z'
      rw [← z2]
      exact g.hh b u (e1 b u w)
    | none =>
      rw [w] at z'
      exact g.gh b o z'
  · have hb' : (if (G' b).isSome = true then G' b else G2 b) ≠ none := hb
    cases w : G' b with
    | some u => exact .inl (fun z => nomatch z)
    | none =>
      rw [w] at hb'
      rcases g.fr b hb' with h1 | h1
      · cases w2 : G b with
        | none => exact absurd w2 h1
        | some u =>
          have := k b u w2
          rw [w] at this
          cases this
      · exact .inr h1
  · show (if (G' b).isSome = true then G' b else G2 b) = some o
    cases w : G' b with
    | some u =>
      have z1 := g.gh b o z
      have z2 := g.hh b u (e1 b u w)
      rw [z1] at z2
      rw [← z2] <;> rfl
    | none => exact z
theorem Ev.is (h : Ev X e σ G d) (k : d = d1) : Ev X e σ G d1 := k ▸ h
theorem EvB.is {b1 b2 : Bool} (h : EvB X e σ G b1) (k : b1 = b2) : EvB X e σ G b2 := k ▸ h

theorem ev_var {i : Nat} {v : V} (hs : σ[i]? = some (some v)) (h : At X.K G v d) (hN : X.N[i]? = some x := by rfl) (hv : Vis X.env.scope x := by first | exact Or.inl rfl | exact Or.inr (Or.inl rfl) | exact Or.inr (Or.inr rfl))
    (hd : (x == ("__debug__" : Str)) = false := by decide) (hcd : (x == ("__classdict__" : Str)) = false := by decide) : Ev X (.Name x pos) σ G d := fun H1 e1 Q q =>
  we_of (pe_var hN hv hd hcd) ⟨v, hs, q v G H1 (Grow.refl e1) h⟩
theorem ev_int {i : Int} {j : Nat} : Ev X (.Constant (.int i) j pos) σ G (.int i) := fun H1 e1 Q q => we_of pe_int (q _ G H1 (Grow.refl e1) (.int i))
theorem ev_bl {i : Bool} {j : Nat} : Ev X (.Constant (.bool i) j pos) σ G (.bl i) := fun H1 e1 Q q => we_of pe_bl (q _ G H1 (Grow.refl e1) (.bl i))
theorem ev_str {z : Str} {j : Nat} : Ev X (.Constant (.str z) j pos) σ G (.str z) := fun H1 e1 Q q => we_of pe_str (q _ G H1 (Grow.refl e1) (.str z))
theorem ev_non {j : Nat} : Ev X (.Constant .none j pos) σ G .non := fun H1 e1 Q q => we_of pe_non (q _ G H1 (Grow.refl e1) .non)
theorem ev_gint {i : Int} (hm : ∃ t, X.mg x = some (.int i t)) (hg : Gl X x := by rfl) (hd : (x == ("__debug__" : Str)) = false := by decide) : Ev X (.Name x pos) σ G (.int i) := fun H1 e1 Q q => by
  obtain ⟨t, hm⟩ := hm
  exact we_of (pe_glob (v := .int i) hg hm ⟨t, rfl⟩ hd) (q _ G H1 (Grow.refl e1) (.int i))
theorem ev_gstr {z : Str} (hm : ∃ t, X.mg x = some (.str z t)) (hg : Gl X x := by rfl) (hd : (x == ("__debug__" : Str)) = false := by decide) : Ev X (.Name x pos) σ G (.str z) := fun H1 e1 Q q => by
  obtain ⟨t, hm⟩ := hm
  exact we_of (pe_glob (v := .str z) hg hm ⟨t, rfl⟩ hd) (q _ G H1 (Grow.refl e1) (.str z))

/-- an operator on data -/
def OpD (K : PySem.W.Frag) (f : R2) (d e r : Da) : Prop := ∀ x y G H (Q : VK), Same G H → At K G x d → At K G y e → (∀ v G2 H2, Grow G H G2 H2 → At K G2 v r → Q v H2) → f x y H Q
theorem two {f : R2} (ha : Ev X a σ G d1) (hb : Ev X b σ G d2) (ho : OpD X.K f d1 d2 r) (H1 : Hp) (e1 : Same G H1) (Q : VK) (q : ∀ v G2 H2, Grow G H1 G2 H2 → At X.K G2 v r → Q v H2) : tOp f (WE X a) (WE X b) σ H1 Q :=
  ha H1 e1 _ fun v G2 H2 g2 hv => (hb.up g2.gg) H2 g2.gh _ fun u G3 H3 g3 hu => ho v u G3 H3 Q g3.gh (hv.up g3.gg) hu fun z G4 H4 g4 hz => q z G4 H4 ((g2.trans g3).trans g4) hz
theorem ev_op {op : Operator} {f : R2} (hf : OpR X (binaryOp op) f) (ha : Ev X a σ G d1) (hb : Ev X b σ G d2) (ho : OpD X.K f d1 d2 r) : Ev X (.BinOp a op b pos) σ G r := fun H1 e1 Q q =>
  we_of (pe_op hf WE.pe WE.pe) (two ha hb ho H1 e1 Q q)
theorem ev_cmp {op : CmpOp} {f : R2} (hf : OpR X (compareOp op) f) (ha : Ev X a σ G d1) (hb : Ev X b σ G d2) (ho : OpD X.K f d1 d2 r) (hm : behindInMarks op b = false := by first | exact nomark _ | rfl) : Ev X (.Compare a [op] [b] pos) σ G r := fun H1 e1 Q q =>
  we_of (pe_cmpR hf WE.pe WE.pe hm) (two ha hb ho H1 e1 Q q)
theorem eb_cmp {op : CmpOp} {f : R2} {k : Bool} (hf : OpR X (compareOp op) f) (ha : Ev X a σ G d1) (hb : Ev X b σ G d2) (ho : OpD X.K f d1 d2 (.bl k)) (hm : behindInMarks op b = false := by first | exact nomark _ | rfl) : EvB X (.Compare a [op] [b] pos) σ G k := fun H1 e1 Q q =>
  wt_of (pt_cmpR hf WE.pe WE.pe hm) (two ha hb ho H1 e1 _ fun v G2 H2 g hv => by
    cases hv
    exact ⟨k, rfl, q G2 H2 g⟩)
/-- a < b < c -/
theorem ev_chain {op op' : CmpOp} {f f' : R2} {k k' : Bool} {d3 : Da} (hf : OpR X (compareOp op) f) (hf' : OpR X (compareOp op') f') (ha : Ev X a σ G d1) (hb : Ev X b σ G d2) (hc : Ev X c σ G d3) (ho : OpD X.K f d1 d2 (.bl k)) (ho' : OpD X.K f' d2 d3 (.bl k'))
    (hm : lastMarks [op, op'] [b, c] = false := by with_unfolding_all rfl) : Ev X (.Compare a [op, op'] [b, c] pos) σ G (.bl (k && k')) := fun H1 e1 Q q => by
  refine we_of (pe_chain hf hf' WE.pe WE.pe WE.pe hm) ?_
  refine ha H1 e1 _ fun v G2 H2 g2 hv => (hb.up g2.gg) H2 g2.gh _ fun u G3 H3 g3 hu => ho v u G3 H3 _ g3.gh (hv.up g3.gg) hu fun z G4 H4 g4 hz => ?_
  cases hz
  refine ⟨k, rfl, ?_⟩
  have g := (g2.trans g3).trans g4
  cases k with
  | false => exact iteF (q _ G4 H4 g (.bl _))
  | true =>
    refine iteT ?_
    exact (hc.up g.gg) H4 g.gh _ fun y G5 H5 g5 hy => ho' u y G5 H5 Q g5.gh ((hu.up g4.gg).up g5.gg) hy fun z G6 H6 g6 hz => q z G6 H6 ((g.trans g5).trans g6) hz

/-! tests -/
theorem eb_val {k : Bool} (h : Ev X e σ G (.bl k)) (he : ∀ whole, isTrue e X.env whole = (do let v ← whole; standAt e.pos; holding [v] (truthy v)) := by intro _; rfl) : EvB X e σ G k := fun H1 e1 Q q =>
  wt_of (pt_val WE.pe he) (h H1 e1 _ fun v G2 H2 g hv => by
    cases hv
    exact ⟨k, rfl, q G2 H2 g⟩)
theorem EvB.up {k : Bool} (h : EvB X e σ G k) (z : Same G G') : EvB X e σ G' k := fun H1 e1 Q q => h H1 (z.trans e1) Q fun G2 H2 g => q G' H2 ⟨g.hh, Same.refl _, e1.trans g.hh, fun _ y => .inl y⟩
theorem EvW.up {k : Bool} (h : EvW X e σ G k) (z : Same G G') : EvW X e σ G' k := fun H1 e1 Q q => h H1 (z.trans e1) Q fun G2 H2 g => q G' H2 ⟨g.hh, Same.refl _, e1.trans g.hh, fun _ y => .inl y⟩
theorem eb_w {k : Bool} (h : EvW X e σ G k) : EvB X e σ G k := fun H1 e1 Q q => wt_of (PW.pt WW.pw) (h H1 e1 Q q)
theorem ew_and1 {k : Bool} (h : EvB X e σ G k) : EvW X (.BoolOp .And [e] pos) σ G k := fun H1 e1 Q q => ww_of (pw_and1 WT.pt) (h H1 e1 Q q)
theorem ew_or1 {k : Bool} (h : EvB X e σ G k) : EvW X (.BoolOp .Or [e] pos) σ G k := fun H1 e1 Q q => ww_of (pw_or1 WT.pt) (h H1 e1 Q q)
theorem ew_and {k k' : Bool} (h : EvB X a σ G k) (h' : k = true → EvW X (.BoolOp .And (b :: es) pos) σ G k') : EvW X (.BoolOp .And (a :: b :: es) pos) σ G (k && k') := fun H1 e1 Q q =>
  ww_of (pw_and WT.pt WW.pw) (h H1 e1 _ fun G2 H2 g => by
    cases k with
    | false => exact iteF (q G2 H2 g)
    | true => exact iteT (((h' rfl).up g.gg) H2 g.gh Q fun G3 H3 g3 => q G3 H3 (g.trans g3)))
theorem ew_or {k k' : Bool} (h : EvB X a σ G k) (h' : k = false → EvW X (.BoolOp .Or (b :: es) pos) σ G k') : EvW X (.BoolOp .Or (a :: b :: es) pos) σ G (k || k') := fun H1 e1 Q q =>
  ww_of (pw_or WT.pt WW.pw) (h H1 e1 _ fun G2 H2 g => by
    cases k with
    | true => exact iteT (q G2 H2 g)
    | false => exact iteF (((h' rfl).up g.gg) H2 g.gh Q fun G3 H3 g3 => q G3 H3 (g.trans g3)))
theorem eb_not {k : Bool} (h : EvB X a σ G k) : EvB X (.UnaryOp .Not a pos) σ G (!k) := fun H1 e1 Q q => wt_of (pt_not WT.pt) (h H1 e1 _ q)
/-! and, or, not as values -/
theorem ev_one {op : BoolOp} (h : Ev X a σ G d) : Ev X (.BoolOp op [a] pos) σ G d := fun H1 e1 Q q => we_of (pe_one WE.pe) (h H1 e1 Q q)
theorem ev_and {k : Bool} (h : Ev X a σ G (.bl k)) (h' : k = true → Ev X (.BoolOp .And (b :: es) pos) σ G d) (hd : k = false → d = .bl false) : Ev X (.BoolOp .And (a :: b :: es) pos) σ G d := fun H1 e1 Q q =>
  we_of (pe_and WE.pe WE.pe) (h H1 e1 _ fun v G2 H2 g hv => by
    cases hv
    refine ⟨k, rfl, ?_⟩
    cases k with
    | false => exact iteF (q _ G2 H2 g (by rw [hd rfl]; exact .bl _))
    | true => exact iteT (((h' rfl).up g.gg) H2 g.gh Q fun v G3 H3 g3 hv => q v G3 H3 (g.trans g3) hv))
theorem ev_or {k : Bool} (h : Ev X a σ G (.bl k)) (h' : k = false → Ev X (.BoolOp .Or (b :: es) pos) σ G d) (hd : k = true → d = .bl true) : Ev X (.BoolOp .Or (a :: b :: es) pos) σ G d := fun H1 e1 Q q =>
  we_of (pe_or WE.pe WE.pe) (h H1 e1 _ fun v G2 H2 g hv => by
    cases hv
    refine ⟨k, rfl, ?_⟩
    cases k with
    | true => exact iteT (q _ G2 H2 g (by rw [hd rfl]; exact .bl _))
    | false => exact iteF (((h' rfl).up g.gg) H2 g.gh Q fun v G3 H3 g3 hv => q v G3 H3 (g.trans g3) hv))
theorem ev_not {k : Bool} (h : Ev X a σ G (.bl k)) : Ev X (.UnaryOp .Not a pos) σ G (.bl (!k)) := fun H1 e1 Q q =>
  we_of (pe_not WE.pe) (h H1 e1 _ fun v G2 H2 g hv => by
    cases hv
    exact ⟨k, rfl, q _ G2 H2 g (.bl _)⟩)
theorem ev_ife {k : Bool} (h : EvB X c σ G k) (h1 : k = true → Ev X a σ G d) (h2 : k = false → Ev X b σ G d) : Ev X (.IfExp c a b pos) σ G d := fun H1 e1 Q q =>
  we_of (pe_ifExp WT.pt WE.pe WE.pe) (h H1 e1 _ fun G2 H2 g => by
    cases k with
    | true => exact iteT (((h1 rfl).up g.gg) H2 g.gh Q fun v G3 H3 g3 hv => q v G3 H3 (g.trans g3) hv)
    | false => exact iteF (((h2 rfl).up g.gg) H2 g.gh Q fun v G3 H3 g3 hv => q v G3 H3 (g.trans g3) hv))

/-! argument lists, displays -/
theorem EvA.up (h : EvA X es σ G ds) (k : Same G G') : EvA X es σ G' ds := fun H1 e1 Q q => h H1 (k.trans e1) Q fun v G2 H2 g hv => by
  refine q v (fun b => if (G' b).isSome then G' b else G2 b) H2 ⟨g.hh, fun b o z => ?_, fun b o z => ?_, fun b hb => ?_⟩ (hv.up fun b o z => ?_)
  · show (if (G' b).isSome = true then G' b else G2 b) = some o
    rw [z]
    rfl
  · have z' : (if (G' b).isSome = true then G' b else G2 b) = some o := z
    cases w : G' b with
    | some u =>
      rw [w] at z'
      have z2 : some u = some o := z'
      rw [← z2]
      exact g.hh b u (e1 b u w)
    | none =>
      rw [w] at z'
      exact g.gh b o z'
  · have hb' : (if (G' b).isSome = true then G' b else G2 b) ≠ none := hb
    cases w : G' b with
    | some u => exact .inl (fun z => nomatch z)
    | none =>
      rw [w] at hb'
      rcases g.fr b hb' with h1 | h1
      · cases w2 : G b with
        | none => exact absurd w2 h1
        | some u =>
          have := k b u w2
          rw [w] at this
          cases this
      · exact .inr h1
  · show (if (G' b).isSome = true then G' b else G2 b) = some o
    cases w : G' b with
    | some u =>
      have z1 := g.gh b o z
      have z2 := g.hh b u (e1 b u w)
      rw [z1] at z2
      rw [← z2] <;> rfl
    | none => exact z
theorem EvA.is {es2 : List Da} (h : EvA X es σ G ds) (k : ds = es2) : EvA X es σ G es2 := k ▸ h
theorem ea_nil : EvA X [] σ G [] := fun H1 e1 Q q => wa_of pa_nil (q [] G H1 (Grow.refl e1) .nil)
theorem ea_cons (h : Ev X e σ G d) (k : EvA X es σ G ds) (hs : starEach (e :: es) X.env = (false, eval e X.env) :: starEach es X.env := by rfl) : EvA X (e :: es) σ G (d :: ds) := fun H1 e1 Q q =>
  wa_of (pa_cons WE.pe WA.pa hs) (h H1 e1 _ fun v G2 H2 g hv => (k.up g.gg) H2 g.gh _ fun vs G3 H3 g3 hvs => q _ G3 H3 (g.trans g3) (.cons (hv.up g3.gg) hvs))
/-- *e, es -/
theorem ea_star {xs : List Da} (h : Ev X e σ G d) (hd : d = .tup xs ∨ d = .lst xs) (k : EvA X es σ G ds) (hs : starEach (.Starred e p :: es) X.env = (true, eval e X.env) :: starEach es X.env := by rfl) : EvA X (.Starred e p :: es) σ G (xs ++ ds) := fun H1 e1 Q q =>
  wa_of (StX.pa_star WE.pe WA.pa hs) (h H1 e1 _ fun v G2 H2 g hv => by
    rcases hd with rfl | rfl
    · cases hv with
      | @tup a vs _ h1 h2 =>
        exact ⟨a, vs, rfl, .inl (SqT.of (g.gh _ _ h1)), (k.up g.gg) H2 g.gh _ fun ws G3 H3 g3 hws => q _ G3 H3 (g.trans g3) ((h2.up g3.gg).app hws)⟩
    · cases hv with
      | @lst a vs _ h1 h2 =>
        exact ⟨a, vs, rfl, .inr (SqL.of (g.gh _ _ h1)), (k.up g.gg) H2 g.gh _ fun ws G3 H3 g3 hws => q _ G3 H3 (g.trans g3) ((h2.up g3.gg).app hws)⟩)
theorem ev_tup {k : Nat} (h : EvA X es σ G ds) (hz : ds.length ≤ 100000) : Ev X (.Tuple es k pos) σ G (.tup ds) := fun H1 e1 Q q =>
  we_of (pe_tup WA.pa) (h H1 e1 _ fun vs G2 H2 g hvs => ⟨by rw [hvs.len]; exact Nat.le_trans hz (by decide), fun p hp => by
    have g2 := Grow.new (o := .tup vs) g.gh hp
    exact q (.ref p) _ _ (g.trans g2) (.tup upd_same (hvs.up g2.gg))⟩)
theorem ev_lst (h : EvA X es σ G ds) (hz : ds.length ≤ 100000) : Ev X (.List es pos) σ G (.lst ds) := fun H1 e1 Q q =>
  we_of (pe_lst WA.pa) (h H1 e1 _ fun vs G2 H2 g hvs => ⟨by rw [hvs.len]; exact Nat.le_trans hz (by decide), fun p hp => by
    have g2 := Grow.new (o := .lst vs) g.gh hp
    exact q (.ref p) _ _ (g.trans g2) (.lst upd_same (hvs.up g2.gg))⟩)
end
end Fs
set_option Elab.async false
set_option linter.all false
set_option maxRecDepth 100000
set_option maxHeartbeats 2000000
/-! Operators and built-ins on data. -/
namespace Fs
open PySem PySem.Spec PyProof.Rows L2

/-! ### data as the library has it -/
mutual
def py : Da → PyData
  | .non => .none
  | .bl b => .bool b
  | .int i => .int i
  | .str x => .str x
  | .lst xs => .list (pyL xs)
  | .tup xs => .tuple (pyL xs)
  | .exc => .none
def pyL : List Da → List PyData
  | [] => []
  | d :: ds => py d :: pyL ds
end
theorem pyL_eq : ∀ xs : List Da, pyL xs = xs.map py
  | [] => by rw [pyL] <;> rfl
  | d :: ds => by rw [pyL, pyL_eq ds] <;> rfl
theorem py_lst (xs : List Da) : py (.lst xs) = .list (xs.map py) := by
  rw [py, pyL_eq]
theorem py_tup (xs : List Da) : py (.tup xs) = .tuple (xs.map py) := by
  rw [py, pyL_eq]
/-- at most n deep, no error within, plain texts -/
def fit : Nat → Da → Bool
  | _, .non => true
  | _, .bl _ => true
  | _, .int _ => true
  | _, .str x => PySem.PyData.strOk x
  | n + 1, .lst xs => xs.all (fit n)
  | n + 1, .tup xs => xs.all (fit n)
  | 0, .lst _ => false
  | 0, .tup _ => false
  | _, .exc => false
section
variable {K : PySem.W.Frag} {G : Hp}
theorem dp_of : ∀ (n : Nat) (d : Da) (v : V), fit n d = true → At K G v d → Dp K G v (py d)
  | _, .non, _, _, h => by cases h; rw [py]; exact .non
  | _, .bl b, _, _, h => by cases h; rw [py]; exact .bl b
  | _, .int i, _, _, h => by cases h; rw [py]; exact .int i
  | _, .str x, _, _, h => by cases h; rw [py]; exact .str x
  | n + 1, .lst ds, _, f, h => by
    cases h with
    | @lst a xs _ h1 h2 =>
      rw [py_lst]
      refine .lst (SqL.of h1) ?_
      have f' : ds.all (fit n) = true := by rw [fit] at f; exact f
      clear h1 f
      induction ds generalizing xs with
      | nil => cases h2; exact .nil
      | cons d ds ih =>
        cases h2 with
        | cons k1 k2 =>
          rw [List.all_cons, Bool.and_eq_true] at f'
          exact .cons (dp_of n d _ f'.1 k1) (ih k2 f'.2)
  | n + 1, .tup ds, _, f, h => by
    cases h with
    | @tup a xs _ h1 h2 =>
      rw [py_tup]
      refine .tup (SqT.of h1) ?_
      have f' : ds.all (fit n) = true := by rw [fit] at f; exact f
      clear h1 f
      induction ds generalizing xs with
      | nil => cases h2; exact .nil
      | cons d ds ih =>
        cases h2 with
        | cons k1 k2 =>
          rw [List.all_cons, Bool.and_eq_true] at f'
          exact .cons (dp_of n d _ f'.1 k1) (ih k2 f'.2)
  | 0, .lst _, _, f, _ => by rw [fit] at f; cases f
  | 0, .tup _, _, f, _ => by rw [fit] at f; cases f
  | _, .exc, _, f, _ => by rw [fit] at f; cases f
end
theorem fit_lay : ∀ (n : Nat) (d : Da), fit n d = true → PyData.canLay0 (py d) = true ∧ PyData.depth (py d) ≤ n
  | _, .non, _ => by rw [py]; exact ⟨rfl, Nat.zero_le _⟩
  | _, .bl b, _ => by rw [py]; exact ⟨rfl, Nat.zero_le _⟩
  | _, .int i, _ => by rw [py]; exact ⟨rfl, Nat.zero_le _⟩
  | _, .str x, f => by
    rw [fit] at f
    rw [py]
    exact ⟨by simpa [PyData.canLay0] using f, by simp [PyData.depth]⟩
  | n + 1, .lst ds, f => by
    rw [fit] at f
    have key : PyData.canLayAll0 (ds.map py) = true ∧ PyData.depthAll (ds.map py) ≤ n := by
      induction ds with
      | nil => exact ⟨by simp [PyData.canLayAll0], by simp [PyData.depthAll]⟩
      | cons d ds ih =>
        rw [List.all_cons, Bool.and_eq_true] at f
        obtain ⟨a1, a2⟩ := fit_lay n d f.1
        obtain ⟨b1, b2⟩ := ih f.2
        refine ⟨?_, ?_⟩
        · rw [List.map_cons, PyData.canLayAll0, a1, b1]
          rfl
        · rw [List.map_cons, PyData.depthAll]
          exact Nat.max_le.mpr ⟨a2, b2⟩
    rw [py_lst]
    refine ⟨?_, ?_⟩
    · rw [PyData.canLay0]
      exact key.1
    · rw [PyData.depth]
      exact Nat.succ_le_succ key.2
  | n + 1, .tup ds, f => by
    rw [fit] at f
    have key : PyData.canLayAll0 (ds.map py) = true ∧ PyData.depthAll (ds.map py) ≤ n := by
      induction ds with
      | nil => exact ⟨by simp [PyData.canLayAll0], by simp [PyData.depthAll]⟩
      | cons d ds ih =>
        rw [List.all_cons, Bool.and_eq_true] at f
        obtain ⟨a1, a2⟩ := fit_lay n d f.1
        obtain ⟨b1, b2⟩ := ih f.2
        refine ⟨?_, ?_⟩
        · rw [List.map_cons, PyData.canLayAll0, a1, b1]
          rfl
        · rw [List.map_cons, PyData.depthAll]
          exact Nat.max_le.mpr ⟨a2, b2⟩
    rw [py_tup]
    refine ⟨?_, ?_⟩
    · rw [PyData.canLay0]
      exact key.1
    · rw [PyData.depth]
      exact Nat.succ_le_succ key.2
  | 0, .lst _, f => by rw [fit] at f; cases f
  | 0, .tup _, f => by rw [fit] at f; cases f
  | _, .exc, f => by rw [fit] at f; cases f
theorem shaped_of {n : Nat} {d : Da} (f : fit n d = true) (hn : n ≤ 60) : SeqAt.shaped (py d) = true := by
  obtain ⟨a, b⟩ := fit_lay n d f
  unfold SeqAt.shaped
  rw [a, decide_eq_true (by omega)]
  rfl
/-- == of data -/
def eqd (d e : Da) : Bool := PyData.eqv (py d) (py e)

/-! ### operators -/
section
variable {K : PySem.W.Frag}
theorem od_I0 {g : Int → Int → V} {i j : Int} {r : Da} (h : ∀ G, At K G (g i j) r) : OpD K (rI0 g) (.int i) (.int j) r := fun x y G H Q e hx hy q => by
  cases hx; cases hy
  exact ⟨i, j, rfl, rfl, q _ G H (Grow.refl e) (h G)⟩
theorem od_I {C : Int → Int → Prop} {g : Int → Int → V} {i j : Int} {r : Da} (hc : C i j) (h : ∀ G, At K G (g i j) r) : OpD K (rI C g) (.int i) (.int j) r := fun x y G H Q e hx hy q => by
  cases hx; cases hy
  exact ⟨i, j, rfl, rfl, hc, q _ G H (Grow.refl e) (h G)⟩
theorem od_add {i j : Int} : OpD K (rI0 fun i j => .int (i + j)) (.int i) (.int j) (.int (i + j)) := od_I0 fun _ => .int _
theorem od_sub {i j : Int} : OpD K (rI0 fun i j => .int (i - j)) (.int i) (.int j) (.int (i - j)) := od_I0 fun _ => .int _
theorem od_lt {i j : Int} : OpD K (rI0 fun i j => .bl (decide (i < j))) (.int i) (.int j) (.bl (decide (i < j))) := od_I0 fun _ => .bl _
theorem od_le {i j : Int} : OpD K (rI0 fun i j => .bl (decide (i ≤ j))) (.int i) (.int j) (.bl (decide (i ≤ j))) := od_I0 fun _ => .bl _
theorem od_gt {i j : Int} : OpD K (rI0 fun i j => .bl (decide (j < i))) (.int i) (.int j) (.bl (decide (j < i))) := od_I0 fun _ => .bl _
theorem od_ge {i j : Int} : OpD K (rI0 fun i j => .bl (decide (j ≤ i))) (.int i) (.int j) (.bl (decide (j ≤ i))) := od_I0 fun _ => .bl _
theorem od_eqI {i j : Int} : OpD K rEq (.int i) (.int j) (.bl (decide (i = j))) := fun x y G H Q e hx hy q => by
  cases hx; cases hy
  refine ⟨rfl, ?_⟩
  have z : decide (V.int i = V.int j) = decide (i = j) := by rw [dec_int, Bool.beq_eq_decide_eq]
  rw [z]
  exact q _ G H (Grow.refl e) (.bl _)
theorem od_eqS {i j : Str} : OpD K rEq (.str i) (.str j) (.bl (decide (i = j))) := fun x y G H Q e hx hy q => by
  cases hx; cases hy
  refine ⟨rfl, ?_⟩
  have z : decide (V.str i = V.str j) = decide (i = j) := decide_eq_decide.mpr ⟨fun w => V.str.inj w, fun w => by rw [w]⟩
  rw [z]
  exact q _ G H (Grow.refl e) (.bl _)
theorem od_eqB {i j : Bool} : OpD K rEq (.bl i) (.bl j) (.bl (i == j)) := fun x y G H Q e hx hy q => by
  cases hx; cases hy
  refine ⟨rfl, ?_⟩
  rw [dec_bl]
  exact q _ G H (Grow.refl e) (.bl _)
theorem od_neB {i j : Bool} : OpD K rNe (.bl i) (.bl j) (.bl (!(i == j))) := fun x y G H Q e hx hy q => by
  cases hx; cases hy
  refine ⟨rfl, ?_⟩
  rw [dec_bl]
  exact q _ G H (Grow.refl e) (.bl _)
theorem od_neI {i j : Int} : OpD K rNe (.int i) (.int j) (.bl (!decide (i = j))) := fun x y G H Q e hx hy q => by
  cases hx; cases hy
  refine ⟨rfl, ?_⟩
  have z : decide (V.int i = V.int j) = decide (i = j) := by rw [dec_int, Bool.beq_eq_decide_eq]
  rw [z]
  exact q _ G H (Grow.refl e) (.bl _)
def isN : Da → Bool
  | .non => true
  | _ => false
theorem isN_V {G : Hp} {x : V} {d : Da} (h : At K G x d) : decide (x = V.non) = isN d := by
  cases h <;> rfl
theorem od_isN {d : Da} : OpD K (fun x y H Q => y = .non ∧ Q (.bl (decide (x = .non))) H) d .non (.bl (isN d)) := fun x y G H Q e hx hy q => by
  cases hy
  refine ⟨rfl, ?_⟩
  rw [isN_V hx]
  exact q _ G H (Grow.refl e) (.bl _)
theorem od_ltS {i j : Str} : OpD K (fun x y H Q => ∃ i j, x = .str i ∧ y = .str j ∧ Q (.bl (decide (i.cps.toList < j.cps.toList))) H) (.str i) (.str j) (.bl (decide (i.cps.toList < j.cps.toList))) := fun x y G H Q e hx hy q => by
  cases hx; cases hy
  exact ⟨i, j, rfl, rfl, q _ G H (Grow.refl e) (.bl _)⟩
theorem Same.sqL {G H : Hp} {a : Addr} {xs : List V} (e : Same G H) (h : G a = some (.lst xs)) : SqL K H a xs := SqL.of (e _ _ h)
theorem Same.sqT {G H : Hp} {a : Addr} {xs : List V} (e : Same G H) (h : G a = some (.tup xs)) : SqT K H a xs := SqT.of (e _ _ h)
/-- == at any depth -/
theorem od_eqD {d e : Da} {n m : Nat} (f : fit n d = true) (g : fit m e = true) (hn : n ≤ 60) (hm : m ≤ 60) : OpD K (rEqD K) d e (.bl (eqd d e)) := fun x y G H Q z hx hy q =>
  ⟨py d, py e, dp_of n d x f (hx.up z), dp_of m e y g (hy.up z), shaped_of f hn, shaped_of g hm, q _ G H (Grow.refl z) (.bl _)⟩
theorem od_neD {d e : Da} {n m : Nat} (f : fit n d = true) (g : fit m e = true) (hn : n ≤ 60) (hm : m ≤ 60) : OpD K (rNeD K) d e (.bl (!eqd d e)) := fun x y G H Q z hx hy q =>
  ⟨py d, py e, dp_of n d x f (hx.up z), dp_of m e y g (hy.up z), shaped_of f hn, shaped_of g hm, q _ G H (Grow.refl z) (.bl _)⟩
/-- in a list of data -/
theorem od_inD {d : Da} {ds : List Da} {n m : Nat} (f : fit n d = true) (g : fit m (.lst ds) = true) (hn : n ≤ 60) (hm : m ≤ 60) : OpD K (rInD K) d (.lst ds) (.bl (ds.any fun z => eqd z d)) := fun x y G H Q z hx hy q => by
  have h := dp_of m _ y g (hy.up z)
  have s := shaped_of g hm
  rw [py_lst] at h s
  refine ⟨py d, ds.map py, dp_of n d x f (hx.up z), h, shaped_of f hn, s, ?_⟩
  have e : ((ds.map py).any fun z => PyData.eqv z (py d)) = ds.any fun z => eqd z d := by rw [List.any_map]; rfl
  rw [e]
  exact q _ G H (Grow.refl z) (.bl _)
theorem od_niD {d : Da} {ds : List Da} {n m : Nat} (f : fit n d = true) (g : fit m (.lst ds) = true) (hn : n ≤ 60) (hm : m ≤ 60) : OpD K (rNotInD K) d (.lst ds) (.bl (!ds.any fun z => eqd z d)) := fun x y G H Q z hx hy q => by
  have h := dp_of m _ y g (hy.up z)
  have s := shaped_of g hm
  rw [py_lst] at h s
  refine ⟨py d, ds.map py, dp_of n d x f (hx.up z), h, shaped_of f hn, s, ?_⟩
  have e : ((ds.map py).any fun z => PyData.eqv z (py d)) = ds.any fun z => eqd z d := by rw [List.any_map]; rfl
  rw [e]
  exact q _ G H (Grow.refl z) (.bl _)
/-- a text in a tuple, a list of texts -/
def txs (l : List Str) : List Da := l.map .str
theorem inV_strs (x : Str) : ∀ l : List Str, inV (.str x) (l.map V.str) = decide (x ∈ l)
  | [] => by simp [inV]
  | y :: l => by
    have ih := inV_strs x l
    unfold inV at ih ⊢
    rw [List.map_cons, List.any_cons, ih]
    have e : eqV (V.str y) (V.str x) = (y == x) := rfl
    rw [e]
    by_cases h : y = x
    · subst h; simp
    · have h1 : (y == x) = false := by simpa using h
      have h2 : ¬ x = y := fun z => h z.symm
      simp [h1, h2]
theorem flat_strs : ∀ l : List Str, (l.map V.str).all flatV = true
  | [] => rfl
  | y :: l => by
    rw [List.map_cons, List.all_cons, flat_strs l]
    rfl
theorem od_inS {x : Str} {l : List Str} {d : Da} (hd : d = .tup (txs l) ∨ d = .lst (txs l)) : OpD K (rIn K false) (.str x) d (.bl (decide (x ∈ l))) := fun x' y G H Q z hx hy q => by
  cases hx
  have key : ∀ p xs, xs = l.map V.str → (SqL K H p xs ∨ SqT K H p xs) → rIn K false (.str x) (.ref p) H Q := fun p xs e hq => by
    subst e
    refine ⟨p, _, rfl, hq, rfl, flat_strs l, ?_⟩
    rw [inV_strs]
    exact q _ G H (Grow.refl z) (.bl _)
  rcases hd with rfl | rfl
  · cases hy with
    | @tup a xs _ h1 h2 => exact key a xs (AtL.strs_inv h2) (.inr (Same.sqT z h1))
  · cases hy with
    | @lst a xs _ h1 h2 => exact key a xs (AtL.strs_inv h2) (.inl (Same.sqL z h1))
theorem od_niS {x : Str} {l : List Str} {d : Da} (hd : d = .tup (txs l) ∨ d = .lst (txs l)) : OpD K (rIn K true) (.str x) d (.bl (!decide (x ∈ l))) := fun x' y G H Q z hx hy q => by
  cases hx
  have key : ∀ p xs, xs = l.map V.str → (SqL K H p xs ∨ SqT K H p xs) → rIn K true (.str x) (.ref p) H Q := fun p xs e hq => by
    subst e
    refine ⟨p, _, rfl, hq, rfl, flat_strs l, ?_⟩
    rw [inV_strs]
    exact q _ G H (Grow.refl z) (.bl _)
  rcases hd with rfl | rfl
  · cases hy with
    | @tup a xs _ h1 h2 => exact key a xs (AtL.strs_inv h2) (.inr (Same.sqT z h1))
  · cases hy with
    | @lst a xs _ h1 h2 => exact key a xs (AtL.strs_inv h2) (.inl (Same.sqL z h1))
/-- tuple + tuple; list + list; list * n; tuple * n -/
theorem od_catT {xs ys : List Da} (hz : xs.length + ys.length ≤ 100000) : OpD K (rCatA K) (.tup xs) (.tup ys) (.tup (xs ++ ys)) := fun x y G H Q z hx hy q => by
  cases hx with
  | @tup a vs _ h1 h2 =>
    cases hy with
    | @tup b ws _ k1 k2 =>
      refine ⟨a, b, vs, ws, rfl, rfl, Same.sqT z h1, Same.sqT z k1, by rw [h2.len, k2.len]; exact Nat.le_trans hz (by decide), fun e => ?_, fun _ e => ?_, fun _ _ p hp => ?_⟩
      · subst e
        cases h2
        exact q _ G H (Grow.refl z) (.tup k1 k2)
      · subst e
        cases k2
        rw [List.append_nil] at q
        exact q _ G H (Grow.refl z) (.tup h1 h2)
      · have g := Grow.new (o := .tup (vs ++ ws)) z hp
        exact q _ _ _ g (.tup upd_same ((h2.app k2).up g.gg))
theorem od_cat {xs ys : List Da} (hz : xs.length + ys.length ≤ 100000) : OpD K rCat (.lst xs) (.lst ys) (.lst (xs ++ ys)) := fun x y G H Q z hx hy q => by
  cases hx with
  | @lst a vs _ h1 h2 =>
    cases hy with
    | @lst b ws _ k1 k2 =>
      refine ⟨a, b, vs, ws, rfl, rfl, z _ _ h1, z _ _ k1, by rw [h2.len, k2.len]; exact Nat.le_trans hz (by decide), fun p hp => ?_⟩
      have g := Grow.new (o := .lst (vs ++ ws)) z hp
      exact q _ _ _ g (.lst upd_same ((h2.app k2).up g.gg))
theorem AtL.rep {G : Hp} {ds : List Da} {vs : List V} (h : AtL K G vs ds) : ∀ n : Nat, AtL K G (List.replicate n vs).flatten (List.replicate n ds).flatten
  | 0 => .nil
  | n + 1 => by
    rw [List.replicate_succ, List.replicate_succ, List.flatten_cons, List.flatten_cons]
    exact h.app (AtL.rep h n)
theorem od_rep {xs : List Da} {n : Nat} (hz : xs.length * n ≤ 100000) (hn : n ≤ 1000) : OpD K rRep (.lst xs) (.int n) (.lst (List.replicate n xs).flatten) := fun x y G H Q z hx hy q => by
  cases hy
  cases hx with
  | @lst a vs _ h1 h2 =>
    refine ⟨a, (n : Int), vs, rfl, rfl, z _ _ h1, by omega, by omega, by rw [h2.len, Int.toNat_natCast]; exact Nat.le_trans hz (by decide), fun p hp => ?_⟩
    rw [Int.toNat_natCast]
    have g := Grow.new (o := .lst (List.replicate n vs).flatten) z hp
    exact q _ _ _ g (.lst upd_same ((h2.rep n).up g.gg))
theorem od_repT {xs : List Da} {n : Nat} (hx0 : xs ≠ []) (h2n : 2 ≤ n) (hn : n ≤ 1000) (hl : xs.length ≤ 1000) : OpD K (rRepT K) (.tup xs) (.int n) (.tup (List.replicate n xs).flatten) := fun x y G H Q z hx hy q => by
  cases hy
  cases hx with
  | @tup a vs _ h1 h2 =>
    refine ⟨a, (n : Int), vs, rfl, rfl, Same.sqT z h1, fun e => ?_, by omega, by omega, by rw [h2.len]; exact hl, fun p hp => ?_⟩
    · subst e
      cases h2
      exact hx0 rfl
    · rw [Int.toNat_natCast]
      have g := Grow.new (o := .tup (List.replicate n vs).flatten) z hp
      exact q _ _ _ g (.tup upd_same ((h2.rep n).up g.gg))
end
/-- < of alike data -/
def rLtD (K : PySem.W.Frag) : R2 := fun x y H Q => ∃ d e, Dp K H x d ∧ Dp K H y e ∧ PySem.W.alike d e = true ∧ d ≠ .none ∧ min d.depth e.depth ≤ 60 ∧ Q (.bl (PySem.W.dataLt d e)) H
theorem op_ltD {X : Cx} (hu : X.A.units + 64 < cLine) : OpR X (compareOp .Lt) (rLtD X.K) := by
  intro pins s σ H x y v u Q I rx ry h
  obtain ⟨d, e, hd, he, ha, hn, hz, q⟩ := h
  obtain ⟨as, r1⟩ := Dp.reads I d x v hd rx
  obtain ⟨bs, r2⟩ := Dp.reads I e y u he ry
  exact PySem.W.lt_data r1 r2 ha hn (by omega) ⟨.bl _, H, I, rfl, q⟩
theorem od_ltD {K : PySem.W.Frag} {d e : Da} {n m : Nat} (f : fit n d = true) (g : fit m e = true) (hn : n ≤ 60) (ha : PySem.W.alike (py d) (py e) = true) (h0 : py d ≠ .none) : OpD K (rLtD K) d e (.bl (PySem.W.dataLt (py d) (py e))) := fun x y G H Q z hx hy q =>
  ⟨py d, py e, dp_of n d x f (hx.up z), dp_of m e y g (hy.up z), ha, h0, Nat.le_trans (Nat.min_le_left _ _) (Nat.le_trans (fit_lay n d f).2 hn), q _ G H (Grow.refl z) (.bl _)⟩
end Fs
set_option Elab.async false
set_option linter.all false
set_option maxRecDepth 100000
set_option maxHeartbeats 2000000
/-! What is walked; comprehensions; statements; loops; calls. -/
namespace Fs
open PySem PySem.Spec PyProof.Rows L2

/-! ### what is walked: n items -/
def Item (K : PySem.W.Frag) (G2 : Hp) (item : Nat → Da) : Nat → Hp → V → Hp → Prop := fun i H x H' => ∀ Gc, Same G2 Gc → Same Gc H → ∃ G', Grow Gc H G' H' ∧ At K G' x (item i)
def Src (X : Cx) (tg iter : Expr) (σ : L2.St) (G : Hp) (n : Nat) (item : Nat → Da) : Prop :=
  ∃ wi : TI, PI X tg iter wi ∧ ∀ H1, Same G H1 → ∀ R : It → Hp → Prop, (∀ J G2 H2, Grow G H1 G2 H2 → L2.Walk J n (fun H => Same G2 H) (Item X.K G2 item) → R J H2) → wi σ H1 R
theorem getD_some {ds : List Da} {i : Nat} (h : i < ds.length) : ds[i]? = some (ds.getD i .non) := by
  rw [List.getD_eq_getElem?_getD, List.getElem?_eq_getElem h] <;> rfl
section
variable {X : Cx} {a b e l tg : Expr} {es : List Expr} {σ : L2.St} {G G' H : Hp} {d : Da} {ds : List Da} {pos p tpos : Pos} {x : Str} {elts : List Expr} {kk : Nat}
theorem src_lst (h : Ev X l σ G (.lst ds)) : Src X tg l σ G ds.length (fun i => ds.getD i .non) := by
  refine ⟨_, pi_list WE.pe, fun H1 e1 R k => h H1 e1 _ fun v G2 H2 g hv => ?_⟩
  cases hv with
  | @lst a xs _ h1 h2 =>
    refine ⟨a, rfl, ⟨xs, Same.sqL g.gh h1⟩, k _ G2 H2 g ?_⟩
    have w := walk_list (K := X.K) (a := a) (xs := xs)
    rw [h2.len] at w
    refine w.mono (fun H hH => Same.sqL hH h1) fun i H x H' hi hG hy Gc s1 s2 => ?_
    obtain ⟨rfl, hx⟩ := hy
    obtain ⟨v, e1, hv⟩ := h2.get (getD_some hi)
    rw [hx] at e1
    cases e1
    exact ⟨Gc, Grow.refl s2, hv.up s1⟩
theorem src_tup (h : Ev X l σ G (.tup ds)) : Src X tg l σ G ds.length (fun i => ds.getD i .non) := by
  refine ⟨_, pi_tup WE.pe, fun H1 e1 R k => h H1 e1 _ fun v G2 H2 g hv => ?_⟩
  cases hv with
  | @tup a xs _ h1 h2 =>
    refine ⟨a, rfl, ⟨xs, Same.sqT g.gh h1⟩, k _ G2 H2 g ?_⟩
    have w := walk_tup (K := X.K) (a := a) (xs := xs)
    rw [h2.len] at w
    refine w.mono (fun H hH => Same.sqT hH h1) fun i H x H' hi hG hy Gc s1 s2 => ?_
    obtain ⟨rfl, hx⟩ := hy
    obtain ⟨v, e1, hv⟩ := h2.get (getD_some hi)
    rw [hx] at e1
    cases e1
    exact ⟨Gc, Grow.refl s2, hv.up s1⟩
theorem src_str {z : Str} (h : Ev X l σ G (.str z)) : Src X tg l σ G z.cps.size (fun i => .str ⟨#[z.cps.getD i 0]⟩) := by
  refine ⟨_, pi_str WE.pe, fun H1 e1 R k => h H1 e1 _ fun v G2 H2 g hv => ?_⟩
  cases hv
  refine ⟨z, rfl, k _ G2 H2 g ?_⟩
  refine (walk_str (z := z)).mono (fun _ _ => trivial) fun i H x H' hi hG hy Gc s1 s2 => ?_
  obtain ⟨rfl, c, hc, rfl⟩ := hy
  refine ⟨Gc, Grow.refl s2, ?_⟩
  have e : z.cps.getD i 0 = c := by rw [Array.getD_eq_getD_getElem?, hc] <;> rfl
  show At X.K Gc _ (.str ⟨#[z.cps.getD i 0]⟩)
  rw [e]
  exact .str _
theorem src_range {n : Nat} {j : Int} (h : EvA X [a] σ G [.int j]) (hj : j = (n : Int)) (hm : X.mg "range" = none) (hz : n ≤ 1000000) (hg : Gl X "range" := by rfl) (hs : starEach [a] X.env = [(false, eval a X.env)] := by rfl) : Src X tg (.Call (.Name "range" p) [a] [] pos) σ G n (fun i => .int (i : Int)) := by
  subst hj
  refine ⟨_, pi_range1 hg hm WA.pa hs, fun H1 e1 R k => h H1 e1 _ fun vs G2 H2 g hv => ?_⟩
  cases hv with
  | cons h1 h2 =>
    cases h2
    cases h1
    refine ⟨(n : Int), rfl, by omega, by omega, k _ G2 H2 g ?_⟩
    have w := walk_range (lo := 0) (n := ((n : Int)).toNat)
    rw [Int.toNat_natCast] at w
    refine w.mono (fun _ _ => trivial) fun i H x H' hi hG hy Gc s1 s2 => ?_
    obtain ⟨rfl, rfl⟩ := hy
    refine ⟨Gc, Grow.refl s2, ?_⟩
    show At X.K Gc (.int (0 + (i : Int))) (.int (i : Int))
    rw [Int.zero_add]
    exact .int _
theorem pair_item {K : PySem.W.Frag} {G2 : Hp} {xs ys : List V} {d1 d2 : Nat → Da} {n : Nat} (h1 : ∀ i v, i < n → xs[i]? = some v → At K G2 v (d1 i)) (h2 : ∀ i v, i < n → ys[i]? = some v → At K G2 v (d2 i)) {i : Nat} {H H' : Hp} {x : V} (hi : i < n)
    (hy : YPair (fun i => xs[i]?) (fun i => ys[i]?) i H x H') : Item K G2 (fun i => .tup [d1 i, d2 i]) i H x H' := fun Gc s1 s2 => by
  obtain ⟨T, u, v, rfl, hT, rfl, e1, e2⟩ := hy
  have g := Grow.new (o := .tup [u, v]) s2 hT
  exact ⟨_, g, .tup upd_same (.cons ((h1 i u hi e1).up (s1.trans g.gg)) (.cons ((h2 i v hi e2).up (s1.trans g.gg)) .nil))⟩
theorem at_lt {K : PySem.W.Frag} {G2 : Hp} {xs : List V} (h : AtL K G2 xs ds) (i : Nat) (v : V) (hv : xs[i]? = some v) : At K G2 v (ds.getD i .non) := by
  obtain ⟨d, e, hd⟩ := h.getV hv
  rw [List.getD_eq_getElem?_getD, e]
  exact hd
theorem walk_zipT {K : PySem.W.Frag} {a b : Addr} {xs ys : List V} {n : Nat} (hn : n = min xs.length ys.length) : L2.Walk (RZ.ItzT K a b) n (fun H => SqT K H a xs ∧ SqT K H b ys) (YPair (fun i => xs[i]?) (fun i => ys[i]?)) := by
  subst hn
  refine ⟨fun i _ hi q => ?_, fun _ q => ⟨xs, ys, q.1, q.2, by omega⟩, fun i H v H' _ q y => ?_⟩
  · have h1 : i < xs.length := by omega
    have h2 : i < ys.length := by omega
    exact ⟨xs, ys, xs[i], ys[i], q.1, q.2, by simp [h1], by simp [h2]⟩
  · obtain ⟨T, x, z, h1, h2, h3, h4, h5⟩ := y
    exact ⟨T, x, z, h1, h2, h3, h4 xs q.1, h5 ys q.2⟩
/-- zip of two lists, of two tuples -/
theorem src_zip {es1 es2 : List Da} {d1 d2 : Da} (h : EvA X [a, b] σ G [d1, d2]) (hd : (d1 = .lst es1 ∧ d2 = .lst es2) ∨ (d1 = .tup es1 ∧ d2 = .tup es2)) (hm : X.mg "zip" = none) (hg : Gl X "zip" := by rfl)
    (hs : starEach [a, b] X.env = (false, eval a X.env) :: starEach [b] X.env := by rfl) (hpl : (backTo pos (starEach [b] X.env)).any (·.1) = false := by rfl) :
    Src X (.Tuple elts kk tpos) (.Call (.Name "zip" p) [a, b] [] pos) σ G (min es1.length es2.length) (fun i => .tup [es1.getD i .non, es2.getD i .non]) := by
  refine ⟨_, RZ.pi_zipA hg hm WA.pa hs hpl, fun H1 e1 R k => h H1 e1 _ fun vs G2 H2 g hv => ?_⟩
  cases hv with
  | cons h1 h2 =>
    cases h2 with
    | cons h2 h3 =>
      cases h3
      rcases hd with ⟨rfl, rfl⟩ | ⟨rfl, rfl⟩
      · cases h1 with
        | @lst a xs _ a1 a2 =>
          cases h2 with
          | @lst b ys _ b1 b2 =>
            refine ⟨a, b, xs, ys, rfl, .inl ⟨Same.sqL g.gh a1, Same.sqL g.gh b1, k _ G2 H2 g ?_⟩⟩
            exact (walk_zip (K := X.K) (a := a) (b := b) (n := min es1.length es2.length) (by rw [a2.len, b2.len])).mono (fun H hH => ⟨Same.sqL hH a1, Same.sqL hH b1⟩) fun i H x H' hi _ hy => pair_item (fun i v _ e => at_lt a2 i v e) (fun i v _ e => at_lt b2 i v e) hi hy
      · cases h1 with
        | @tup a xs _ a1 a2 =>
          cases h2 with
          | @tup b ys _ b1 b2 =>
            refine ⟨a, b, xs, ys, rfl, .inr ⟨Same.sqT g.gh a1, Same.sqT g.gh b1, k _ G2 H2 g ?_⟩⟩
            exact (walk_zipT (K := X.K) (a := a) (b := b) (n := min es1.length es2.length) (by rw [a2.len, b2.len])).mono (fun H hH => ⟨Same.sqT hH a1, Same.sqT hH b1⟩) fun i H x H' hi _ hy => pair_item (fun i v _ e => at_lt a2 i v e) (fun i v _ e => at_lt b2 i v e) hi hy
theorem src_enumL (h : EvA X [a] σ G [.lst ds]) (hm : X.mg "enumerate" = none) (hg : Gl X "enumerate" := by rfl) (hs : starEach [a] X.env = [(false, eval a X.env)] := by rfl) :
    Src X (.Tuple elts kk tpos) (.Call (.Name "enumerate" p) [a] [] pos) σ G ds.length (fun i => .tup [.int (i : Int), ds.getD i .non]) := by
  refine ⟨_, pi_enum hg hm WA.pa hs, fun H1 e1 R k => h H1 e1 _ fun vs G2 H2 g hv => ?_⟩
  cases hv with
  | cons h1 h2 =>
    cases h2
    cases h1 with
    | @lst a xs _ a1 a2 =>
      refine ⟨a, xs, rfl, Same.sqL g.gh a1, k _ G2 H2 g ?_⟩
      have w := walk_enum (K := X.K) (a := a) (xs := xs)
      rw [a2.len] at w
      refine w.mono (fun H hH => Same.sqL hH a1) fun i H x H' hi _ hy Gc s1 s2 => ?_
      obtain ⟨T, u, v, rfl, hT, rfl, e1, e2⟩ := hy
      cases e1
      have g := Grow.new (o := .tup [.int (i : Nat), v]) s2 hT
      exact ⟨_, g, .tup upd_same (.cons (.int _) (.cons ((at_lt a2 i v e2).up (s1.trans g.gg)) .nil))⟩
end

/-! ### comprehensions -/
def WTs (X : Cx) (ifs : List Expr) : TT := fun σ H Q => ∀ (pins : List (Addr × Obj)) (s : Shared), Inv X pins σ H s →
  wpAny (model X.prog X.w) X.A (forIn ifs true fun c r => if r = true then do let ok ← isTrue c X.env (eval c X.env); pure (ForInStep.yield ok) else pure (ForInStep.yield r)) (TP X pins σ Q) X.xe s
theorem WTs.pts {X : Cx} {ifs : List Expr} : PTs X ifs (WTs X ifs) := ⟨fun pins s _ _ _ I h => h pins s I⟩
def EvTs (X : Cx) (ifs : List Expr) (σ : L2.St) (G : Hp) (b : Bool) : Prop := ∀ H1, Same G H1 → ∀ Q : Bool → Hp → Prop, (∀ G2 H2, Grow G H1 G2 H2 → Q b H2) → WTs X ifs σ H1 Q
theorem ets_nil {X : Cx} {σ : L2.St} {G : Hp} : EvTs X [] σ G true := fun H1 e1 Q q pins s I => pts_nil.run pins s σ H1 Q I (q G H1 (Grow.refl e1))
theorem ets_one {X : Cx} {c : Expr} {σ : L2.St} {G : Hp} {b : Bool} (h : EvB X c σ G b) : EvTs X [c] σ G b := fun H1 e1 Q q pins s I => (pts_one WT.pt).run pins s σ H1 Q I (h H1 e1 Q q)
theorem range_snoc {p : Nat → Bool} {f : Nat → Da} (i : Nat) : (((List.range (i + 1)).filter p).map f) = ((List.range i).filter p).map f ++ (if p i = true then [f i] else []) := by
  rw [List.range_succ, List.filter_append, List.map_append]
  by_cases h : p i = true
  · rw [if_pos h]
    simp [List.filter, h]
  · rw [if_neg h]
    simp [List.filter, h]
theorem range_ds {ds : List Da} {p : Da → Bool} {f : Da → Da} : (((List.range ds.length).filter fun i => p (ds.getD i .non)).map fun i => f (ds.getD i .non)) = (ds.filter p).map f := by
  have h : ds = (List.range ds.length).map fun i => ds.getD i .non := by
    apply List.ext_getElem
    · simp
    · intro i h1 h2
      simp [List.getD_eq_getElem?_getD, h1]
  conv => rhs; rw [h]
  rw [List.filter_map, List.map_map]
  rfl
abbrev Blk (X : Cx) (scope : Scope) (s0 : Shared) (H0 : Hp) (C : Addr) (cl : List (Str × Addr)) (fp : List Addr) : Cx := X.blk s0 H0 scope (compEnvC scope cl C X.env) fp
section
variable {X : Cx} {elt tg iter : Expr} {ifs : List Expr} {scope : Scope} {own : List (Str × Nat)} {σ : L2.St} {G : Hp} {n : Nat} {item : Nat → Da} {pos : Pos} {g : TG}
/-- one turn: the target takes the item, the tests say p i, the element is f i -/
def Turn1 (X : Cx) (scope : Scope) (elt : Expr) (ifs : List Expr) (vs : List Nat) (g : TG) (σ : L2.St) (G : Hp) (n : Nat) (item : Nat → Da) (p : Nat → Bool) (f : Nat → Da) : Prop :=
  ∀ i, i < n → ∀ Gc x H, Same G Gc → Same Gc H → At X.K Gc x (item i) → ∀ Q : L2.St → Hp → Prop,
    (∀ σ2, wipe σ2 vs = wipe σ vs → (∀ s0 H0 C cl fp, EvTs (Blk X scope s0 H0 C cl fp) ifs σ2 Gc (p i) ∧ (p i = true → Ev (Blk X scope s0 H0 C cl fp) elt σ2 Gc (f i))) → Q σ2 H) → g x (wipe σ vs) H Q
theorem lc_main {vs : List Nat} {p : Nat → Bool} {f : Nat → Da} {J : It} {H1 G2 H2 : Hp} {Q : VK} (hz : n ≤ 100000) (turn : Turn1 X scope elt ifs vs g σ G n item p f)
    (g2 : Grow G H1 G2 H2) (w : L2.Walk J n (fun H => Same G2 H) (Item X.K G2 item)) (q : ∀ v G3 H3, Grow G H1 G3 H3 → At X.K G3 v (.lst (((List.range n).filter p).map f)) → Q v H3) :
    ∀ D, H2 D = none → ∃ W : Nat → Nat → Hp → Prop, (∃ m, W 0 m (upd H2 D (.lst []))) ∧ ∀ i m H, W i m H →
      (J.stop i H ∧ Q (.ref D) H) ∨ (J.go i H ∧ ∃ Nx : Hp → Prop, (∀ H', Nx H' → ∃ m', m' < m ∧ W (i + 1) m' H') ∧ ∀ x H', J.yld i H x H' → g x (wipe σ vs) H' fun σ2 H2 => wipe σ2 vs = wipe σ vs ∧
        (fun σ H Q => ∀ s0 H0 C cl fp, WTs (Blk X scope s0 H0 C cl fp) ifs σ H Q) σ2 H2 fun b H3 =>
        if b = true then (fun σ H Q => ∀ s0 H0 C cl fp, WE (Blk X scope s0 H0 C cl fp) elt σ H Q) σ2 H3 fun y H4 => ∃ acc, H4 D = some (.lst acc) ∧ acc.length < sizeLine ∧ Nx (upd H4 D (.lst (acc ++ [y]))) else Nx H3) := by
  intro D hD
  have gD : G2 D = none := Same.free g2.gh hD
  refine lc_it (g := g) (vs := vs) (σ := σ) (tt := fun σ H Q => ∀ s0 H0 C cl fp, WTs (Blk X scope s0 H0 C cl fp) ifs σ H Q) (te := fun σ H Q => ∀ s0 H0 C cl fp, WE (Blk X scope s0 H0 C cl fp) elt σ H Q) (Qd := fun H => Q (.ref D) H) w (fun i H => ∃ Gc acc, Grow G2 H2 Gc H ∧ H D = some (.lst acc) ∧ Gc D = none ∧ acc.length ≤ i ∧ AtL X.K Gc acc (((List.range i).filter p).map f))
    ⟨G2, [], Grow.own g2.gh hD, upd_same, gD, Nat.le_refl _, .nil⟩ (fun i H _ h => ?_) (fun i x H H' hi h hy => ?_) (fun H h => ?_)
  · obtain ⟨Gc, acc, gr, _⟩ := h
    exact gr.gg.trans gr.gh
  · obtain ⟨Gc, acc, gr, eD, cD, hl, ha⟩ := h
    obtain ⟨G', g', hx⟩ := hy Gc gr.gg gr.gh
    have gD' : G' D = none := g'.unk cD (by rw [eD]; exact fun z => nomatch z)
    have eD' := g'.keeps eD
    refine turn i hi G' x H' ((g2.gg.trans gr.gg).trans g'.gg) g'.gh hx _ fun σ2 hw hb => ⟨hw, fun s0 H0 C cl fp => ?_⟩
    refine (hb s0 H0 C cl fp).1 H' g'.gh _ fun G3 H3 g3 => ?_
    have gD3 : G3 D = none := g3.unk gD' (by rw [eD']; exact fun z => nomatch z)
    by_cases hp : p i = true
    · rw [if_pos hp]
      intro s0 H0 C cl fp
      refine (((hb s0 H0 C cl fp).2 hp).up g3.gg) H3 g3.gh _ fun y G4 H4 g4 hy4 => ?_
      have e3 := g3.keeps eD'
      have e4 := g4.keeps e3
      have gD4 : G4 D = none := g4.unk gD3 (by rw [e3]; exact fun z => nomatch z)
      have gg := ((gr.trans g').trans g3).trans g4
      refine ⟨acc, e4, Nat.lt_of_le_of_lt hl (Nat.lt_of_lt_of_le hi (Nat.le_trans hz (by decide))), G4, acc ++ [y], gg.chg hD gD4, upd_same, gD4, by rw [List.length_append]; exact Nat.succ_le_succ hl, ?_⟩
      rw [range_snoc, if_pos hp]
      exact (ha.up ((g'.gg.trans g3.gg).trans g4.gg)).snoc hy4
    · rw [if_neg hp]
      refine ⟨G3, acc, (gr.trans g').trans g3, g3.keeps eD', gD3, Nat.le_succ_of_le hl, ?_⟩
      rw [range_snoc, if_neg hp, List.append_nil]
      exact ha.up (g'.gg.trans g3.gg)
  · obtain ⟨Gc, acc, gr, eD, cD, hl, ha⟩ := h
    have gf := gr.frz hD cD eD
    refine q _ _ _ (g2.trans gf) (.lst upd_same (ha.up fun b o z => ?_))
    rw [upd_ne (ne_of_none z cD)]
    exact z
/-- [elt for tg in iter if ..] -/
theorem ev_lc {p : Nat → Bool} {f : Nat → Da} (hsrc : Src X tg iter σ G n item) (hz : n ≤ 100000) (hc : X.calm = true) (hN : X.N.Nodup) (ok : BlkOk X.N X.env.scope scope own)
    (hg : ∀ s0 H0 C cl fp, PG (Blk X scope s0 H0 C cl fp) tg g) (turn : Turn1 X scope elt ifs (own.map (·.2)) g σ G n item p f) (hs : ∀ x, foldedSetIterable iter X.env x = pure x := by intro _; rfl) :
    Ev X (.ListComp elt [⟨tg, iter, ifs, 0⟩] scope pos) σ G (.lst (((List.range n).filter p).map f)) := fun H1 e1 Q q => by
  obtain ⟨wi, hi, hw⟩ := hsrc
  refine we_of (pe_lc (tt := fun σ H Q => ∀ s0 H0 C cl fp, WTs (Blk X scope s0 H0 C cl fp) ifs σ H Q) (te := fun σ H Q => ∀ s0 H0 C cl fp, WE (Blk X scope s0 H0 C cl fp) elt σ H Q) hc hN hi ok (fun s0 H0 C cl fp => hg s0 H0 C cl fp)
    (fun s0 H0 C cl fp => ⟨fun pins s σ H Q I h => h s0 H0 C cl fp pins s I⟩) (fun s0 H0 C cl fp => ⟨fun pins s σ H Q I h => h s0 H0 C cl fp pins s I⟩) hs) ?_
  exact hw H1 e1 _ fun J G2 H2 g2 w => lc_main hz turn g2 w q
/-- y = [elt for ..], y a plain local, on one line -/
theorem ws_setLc {p : Nat → Bool} {f : Nat → Da} {i : Nat} {y : Str} {py spos : Pos} {D : Ends} {H : Hp} (hy : X.N[i]? = some y) (hyl : X.env.scope.names.lookup y = some .local)
    (hsw : swapsWith (.ListComp elt [⟨tg, iter, ifs, 0⟩] scope pos) (some (.Name y py)) spos.line X.env = pure true) (hsrc : Src X tg iter σ G n item) (hz : n ≤ 100000) (hc : X.calm = true) (hN : X.N.Nodup) (ok : BlkOk X.N X.env.scope scope own)
    (hg : ∀ s0 H0 C cl fp, PG (Blk X scope s0 H0 C cl fp) tg g) (turn : Turn1 X scope elt ifs (own.map (·.2)) g σ G n item p f) (e1 : Same G H)
    (k : ∀ v G2 H2, Grow G H G2 H2 → At X.K G2 v (.lst (((List.range n).filter p).map f)) → D.nx (σ.set i (some v)) H2) (hs : ∀ x, foldedSetIterable iter X.env x = pure x := by intro _; rfl) :
    WS X (.Assign [.Name y py] (.ListComp elt [⟨tg, iter, ifs, 0⟩] scope pos) spos) D σ H := by
  obtain ⟨wi, hi, hw⟩ := hsrc
  refine ws_of (ps_setLc (tt := fun σ H Q => ∀ s0 H0 C cl fp, WTs (Blk X scope s0 H0 C cl fp) ifs σ H Q) (te := fun σ H Q => ∀ s0 H0 C cl fp, WE (Blk X scope s0 H0 C cl fp) elt σ H Q) hc hN hy hyl hsw hi ok (fun s0 H0 C cl fp => hg s0 H0 C cl fp)
    (fun s0 H0 C cl fp => ⟨fun pins s σ H Q I h => h s0 H0 C cl fp pins s I⟩) (fun s0 H0 C cl fp => ⟨fun pins s σ H Q I h => h s0 H0 C cl fp pins s I⟩) hs) ?_
  exact hw H e1 _ fun J G2 H2 g2 w => lc_main hz turn g2 w k
end
end Fs
set_option Elab.async false
set_option linter.all false
set_option maxRecDepth 100000
set_option maxHeartbeats 2000000
/-! Calls, built-ins, indices, slices, statements, loops. -/
namespace Fs
open PySem PySem.Spec PyProof.Rows L2

/-! ### a def and its promise, by name -/
structure Dfn (P : Program) (w : World) (K : PySem.W.Frag) (mg : Str → Option Value) (base : Heap) (CX : CXT) (k : Nat) (x : Str) (sp : Sp) : Prop where
  ex : ∃ (f : Addr) (fd : FuncData) (ps : List Str), FnOk P w K mg base CX k f fd ps sp ∧ mg x = some (.ref f) ∧ PySem.W.keepIn K (.ref f) = true ∧ Binds K fd ps []
/-- a pure def: from data to data -/
def SpF (K : PySem.W.Frag) (R : List Da → Da → Prop) : Sp := fun vs H Q _ => ∃ G ds d, Same G H ∧ AtL K G vs ds ∧ R ds d ∧ ∀ v G' H', Grow G H G' H' → At K G' v d → Q v H'
def CallD (K : PySem.W.Frag) (f : List V → Hp → VK → Prop) (ds : List Da) (r : Da) : Prop := ∀ xs G H (Q : VK), Same G H → AtL K G xs ds → (∀ v G2 H2, Grow G H G2 H2 → At K G2 v r → Q v H2) → f xs H Q
section
variable {X : Cx} {a b c e o : Expr} {es : List Expr} {σ : L2.St} {G G' H : Hp} {d r : Da} {ds : List Da} {pos p : Pos} {x : Str}
theorem we_call {CX : CXT} {k j : Nat} {sp : Sp} {E : XK} {Q : VK} (c : Dfn X.prog X.w X.K X.mg X.base CX k x sp) (hr : Room j X.A) (hk : k ≤ j) (hx : Passes CX X E) (h : WA X (e :: es) σ H fun vs H1 => sp vs H1 Q E) (hg : Gl X x := by rfl)
    (hdb : (x == ("__debug__" : Str)) = false := by decide) (he : starEach (e :: es) X.env = (false, eval e X.env) :: starEach es X.env := by rfl) (hpl : (backTo pos (starEach es X.env)).any (·.1) = false := by rfl) : WE X (.Call (.Name x p) (e :: es) [] pos) σ H Q := by
  obtain ⟨f, fd, ps, F, hm, hkp, hb⟩ := c.ex
  refine we_of (pe_call (F.mono hk) hr hg hm hkp hb .nil hx WA.pa hdb he hpl) ?_
  intro pos pins s I
  refine thn (h pos pins s I) fun us s' ⟨vs, H', J, rv, q⟩ => ⟨vs, H', J, rv, ?_⟩
  show sp (vs ++ []) H' Q E
  rw [List.append_nil]
  exact q
theorem ev_call {CX : CXT} {k j : Nat} {R : List Da → Da → Prop} {E : XK} (c : Dfn X.prog X.w X.K X.mg X.base CX k x (SpF X.K R)) (hr : Room j X.A) (hk : k ≤ j) (hx : Passes CX X E) (h : EvA X (e :: es) σ G ds) (hR : R ds r) (hg : Gl X x := by rfl)
    (hdb : (x == ("__debug__" : Str)) = false := by decide) (he : starEach (e :: es) X.env = (false, eval e X.env) :: starEach es X.env := by rfl) (hpl : (backTo pos (starEach es X.env)).any (·.1) = false := by rfl) : Ev X (.Call (.Name x p) (e :: es) [] pos) σ G r := fun H1 e1 Q q =>
  we_call c hr hk hx (h H1 e1 _ fun vs G2 H2 g hvs => ⟨G2, ds, r, g.gh, hvs, hR, fun v G3 H3 g3 hv => q v G3 H3 (g.trans g3) hv⟩) hg hdb he hpl
/-- f(), no argument -/
theorem ev_call0 {CX : CXT} {k j : Nat} {R : List Da → Da → Prop} {E : XK} (c : Dfn X.prog X.w X.K X.mg X.base CX k x (SpF X.K R)) (hr : Room j X.A) (hk : k ≤ j) (hx : Passes CX X E) (hR : R [] r) (hg : Gl X x := by rfl)
    (hdb : (x == ("__debug__" : Str)) = false := by decide) : Ev X (.Call (.Name x p) [] [] pos) σ G r := fun H1 e1 Q q => by
  obtain ⟨f, fd, ps, F, hm, hkp, hb⟩ := c.ex
  exact we_of (pe_call0 (F.mono hk) hr hg hm hkp hb .nil hx hdb) ⟨G, [], r, e1, .nil, hR, fun v G3 H3 g3 hv => q v G3 H3 g3 hv⟩
/-- built-in functions, types -/
theorem ev_blt {id : String} {f : List V → Hp → VK → Prop} (hc : CallR X (.builtin id) f) (hm : X.mg x = none) (ha : EvA X (e :: es) σ G ds) (hd : CallD X.K f ds r) (hg : Gl X x := by rfl) (hv : bootBuiltins x = some (.builtin id) := by decide +kernel) (hn : x ≠ "__name__" := by decide)
    (hdb : (x == ("__debug__" : Str)) = false := by decide) (he : starEach (e :: es) X.env = (false, eval e X.env) :: starEach es X.env := by rfl) (hpl : (backTo pos (starEach es X.env)).any (·.1) = false := by rfl) : Ev X (.Call (.Name x p) (e :: es) [] pos) σ G r := fun H1 e1 Q q =>
  we_of (pe_callB hc hg hm hv WA.pa hn hdb he hpl) (ha H1 e1 _ fun vs G2 H2 g hvs => hd vs G2 H2 Q g.gh hvs fun v G3 H3 g3 hv => q v G3 H3 (g.trans g3) hv)
theorem ev_ty {T : String} {f : List V → Hp → VK → Prop} (hc : CallR X (.type T) f) (hm : X.mg x = none) (ha : EvA X (e :: es) σ G ds) (hd : CallD X.K f ds r) (hg : Gl X x := by rfl) (hv : bootBuiltins x = some (.type T) := by decide +kernel) (hn : x ≠ "__name__" := by decide)
    (hdb : (x == ("__debug__" : Str)) = false := by decide) (he : starEach (e :: es) X.env = (false, eval e X.env) :: starEach es X.env := by rfl) (hpl : (backTo pos (starEach es X.env)).any (·.1) = false := by rfl) : Ev X (.Call (.Name x p) (e :: es) [] pos) σ G r := fun H1 e1 Q q =>
  we_of (pe_callTy hc hg hm hv WA.pa hn hdb he hpl) (ha H1 e1 _ fun vs G2 H2 g hvs => hd vs G2 H2 Q g.gh hvs fun v G3 H3 g3 hv => q v G3 H3 (g.trans g3) hv)

/-! isinstance -/
def tyn : Da → String
  | .non => "NoneType"
  | .bl _ => "bool"
  | .int _ => "int"
  | .str _ => "str"
  | .lst _ => "list"
  | .tup _ => "tuple"
  | .exc => "?"
theorem tyOf_at {K : PySem.W.Frag} {v : V} (h : At K G v d) (z : Same G H) (hne : d ≠ .exc) : TyOf K H v (.type (tyn d)) := by
  cases h with
  | non => exact .non
  | bl b => exact .bl b
  | int i => exact .int i
  | str x => exact .str x
  | lst h1 h2 => exact .lst (z _ _ h1)
  | tup h1 h2 => exact .tup (z _ _ h1)
  | exc _ => exact absurd rfl hne
theorem ev_isi {T : String} {y : Str} {k : Bool} {p2 : Pos} (h : Ev X e σ G d) (hne : d ≠ .exc) (hm : X.mg "isinstance" = none) (hm2 : X.mg y = none) (hk : kitB (tyn d) T = some k := by decide +kernel) (hg : Gl X "isinstance" := by rfl) (hg2 : Gl X y := by rfl) (hv : bootBuiltins y = some (.type T) := by decide +kernel)
    (hn : y ≠ "__name__" := by decide) (hdb : (y == ("__debug__" : Str)) = false := by decide) (he : starEach [e, .Name y p2] X.env = (false, eval e X.env) :: starEach [.Name y p2] X.env := by rfl) (he2 : starEach [.Name y p2] X.env = (false, eval (.Name y p2) X.env) :: starEach [] X.env := by rfl)
    (hpl : (backTo pos (starEach [.Name y p2] X.env)).any (·.1) = false := by rfl) : Ev X (.Call (.Name "isinstance" p) [e, .Name y p2] [] pos) σ G (.bl k) := fun H1 e1 Q q =>
  we_of (pe_callB call_isi hg hm (by decide +kernel) (pa_cons WE.pe (pa_cons (pe_bltn (v := .ty T) hg2 hm2 hv rfl hn hdb) pa_nil he2) he) (by decide) (by decide) he hpl)
    (h H1 e1 _ fun v G2 H2 g hv => ⟨v, .ty T, .type (tyn d), .type T, k, rfl, .ty T, .base (tyOf_at hv g.gh hne), kit_ty hk, q _ G2 H2 g (.bl k)⟩)
/-- isinstance(e, (S, T)) -/
theorem ev_isi2 {S T : String} {y z : Str} {k1 k2 : Bool} {p2 p3 p4 : Pos} {kk : Nat} (h : Ev X e σ G d) (hne : d ≠ .exc) (hm : X.mg "isinstance" = none) (hm2 : X.mg y = none) (hm3 : X.mg z = none) (hk1 : kitB (tyn d) S = some k1 := by decide +kernel) (hk2 : kitB (tyn d) T = some k2 := by decide +kernel)
    (hg : Gl X "isinstance" := by rfl) (hg2 : Gl X y := by rfl) (hg3 : Gl X z := by rfl) (hv : bootBuiltins y = some (.type S) := by decide +kernel) (hv3 : bootBuiltins z = some (.type T) := by decide +kernel)
    (hn : y ≠ "__name__" := by decide) (hn3 : z ≠ "__name__" := by decide) (hdb : (y == ("__debug__" : Str)) = false := by decide) (hdb3 : (z == ("__debug__" : Str)) = false := by decide)
    (he : starEach [e, .Tuple [.Name y p2, .Name z p3] kk p4] X.env = (false, eval e X.env) :: starEach [.Tuple [.Name y p2, .Name z p3] kk p4] X.env := by rfl)
    (he2 : starEach [.Tuple [.Name y p2, .Name z p3] kk p4] X.env = (false, eval (.Tuple [.Name y p2, .Name z p3] kk p4) X.env) :: starEach [] X.env := by rfl)
    (he3 : starEach [.Name y p2, .Name z p3] X.env = (false, eval (.Name y p2) X.env) :: starEach [.Name z p3] X.env := by rfl) (he4 : starEach [.Name z p3] X.env = (false, eval (.Name z p3) X.env) :: starEach [] X.env := by rfl)
    (hpl : (backTo pos (starEach [.Tuple [.Name y p2, .Name z p3] kk p4] X.env)).any (·.1) = false := by rfl) : Ev X (.Call (.Name "isinstance" p) [e, .Tuple [.Name y p2, .Name z p3] kk p4] [] pos) σ G (.bl (k1 || k2)) := fun H1 e1 Q q =>
  we_of (pe_callB call_isiT hg hm (by decide +kernel) (pa_cons WE.pe (pa_cons (pe_tup (pa_cons (pe_bltn (v := .ty S) hg2 hm2 hv rfl hn hdb) (pa_cons (pe_bltn (v := .ty T) hg3 hm3 hv3 rfl hn3 hdb3) pa_nil he4) he3)) pa_nil he2) he) (by decide) (by decide) he hpl)
    (h H1 e1 _ fun v G2 H2 g hv => ⟨by show 2 ≤ sizeLine; decide, fun t ht => by
      have g2 := Grow.own (o := .tup [.ty S, .ty T]) g.gh ht
      refine ⟨v, t, [.ty S, .ty T], .type (tyn d), [.type S, .type T], k1 || k2, rfl, upd_same, .cons (.ty S) (.cons (.ty T) .nil), .base (tyOf_at hv g2.gh hne), ?_, q _ G2 _ (g.trans g2) (.bl _)⟩
      refine kitAny_cons (kit_ty hk1) (fun e => ?_) (fun e => by rw [e] <;> rfl)
      subst e
      refine kitAny_cons (kit_ty hk2) (fun e => ?_) (fun e => by rw [e] <;> rfl)
      subst e
      exact kitAny_nil⟩)

/-! len, tuple, list, all, any, int, abs -/
theorem cd_len (hd : d = .tup ds ∨ d = .lst ds) : CallD X.K (fun xs H Q => ∃ p ys, xs = [.ref p] ∧ (SqL X.K H p ys ∨ SqT X.K H p ys) ∧ Q (.int ys.length) H) [d] (.int (ds.length : Int)) := fun xs G H Q z hx q => by
  cases hx with
  | cons h1 h2 =>
    cases h2
    rcases hd with rfl | rfl
    · cases h1 with
      | @tup a vs _ a1 a2 =>
        refine ⟨a, vs, rfl, .inr (Same.sqT z a1), ?_⟩
        rw [a2.len]
        exact q _ G H (Grow.refl z) (.int _)
    · cases h1 with
      | @lst a vs _ a1 a2 =>
        refine ⟨a, vs, rfl, .inl (Same.sqL z a1), ?_⟩
        rw [a2.len]
        exact q _ G H (Grow.refl z) (.int _)
theorem cd_lenS {z : Str} (hz : z.length ≤ 100000) : CallD X.K (fun xs H Q => ∃ z, xs = [.str z] ∧ z.length ≤ sizeLine ∧ Q (.int z.length) H) [.str z] (.int (z.length : Int)) := fun xs G H Q y hx q => by
  cases hx with
  | cons h1 h2 =>
    cases h2
    cases h1
    exact ⟨z, rfl, Nat.le_trans hz (by decide), q _ G H (Grow.refl y) (.int _)⟩
theorem cd_tuple (hd : d = .tup ds ∨ d = .lst ds) : CallD X.K (fun xs H Q => ∃ p ys, xs = [.ref p] ∧ ((SqL X.K H p ys ∧ ∀ l, H l = none → Q (.ref l) (upd H l (.tup ys))) ∨ (SqT X.K H p ys ∧ Q (.ref p) H))) [d] (.tup ds) := fun xs G H Q z hx q => by
  cases hx with
  | cons h1 h2 =>
    cases h2
    rcases hd with rfl | rfl
    · cases h1 with
      | @tup a vs _ a1 a2 => exact ⟨a, vs, rfl, .inr ⟨Same.sqT z a1, q _ G H (Grow.refl z) (.tup a1 a2)⟩⟩
    · cases h1 with
      | @lst a vs _ a1 a2 =>
        refine ⟨a, vs, rfl, .inl ⟨Same.sqL z a1, fun l hl => ?_⟩⟩
        have g := Grow.new (o := .tup vs) z hl
        exact q _ _ _ g (.tup upd_same (a2.up g.gg))
theorem cd_list (hd : d = .tup ds ∨ d = .lst ds) : CallD X.K (fun xs H Q => ∃ p ys, xs = [.ref p] ∧ (SqL X.K H p ys ∨ SqT X.K H p ys) ∧ ∀ l, H l = none → Q (.ref l) (upd H l (.lst ys))) [d] (.lst ds) := fun xs G H Q z hx q => by
  cases hx with
  | cons h1 h2 =>
    cases h2
    rcases hd with rfl | rfl
    · cases h1 with
      | @tup a vs _ a1 a2 =>
        refine ⟨a, vs, rfl, .inr (Same.sqT z a1), fun l hl => ?_⟩
        have g := Grow.new (o := .lst vs) z hl
        exact q _ _ _ g (.lst upd_same (a2.up g.gg))
    · cases h1 with
      | @lst a vs _ a1 a2 =>
        refine ⟨a, vs, rfl, .inl (Same.sqL z a1), fun l hl => ?_⟩
        have g := Grow.new (o := .lst vs) z hl
        exact q _ _ _ g (.lst upd_same (a2.up g.gg))
theorem cd_all {bs : List Bool} (hd : ds = bs.map Da.bl) : CallD X.K (rAll X.K) [.lst ds] (.bl (bs.all id)) := fun xs G H Q z hx q => by
  subst hd
  cases hx with
  | cons h1 h2 =>
    cases h2
    cases h1 with
    | @lst a vs _ a1 a2 =>
      have e := AtL.bls_inv a2
      subst e
      exact ⟨a, bs, rfl, Same.sqL z a1, q _ G H (Grow.refl z) (.bl _)⟩
theorem cd_any {bs : List Bool} (hd : ds = bs.map Da.bl) : CallD X.K (rAny X.K) [.lst ds] (.bl (bs.any id)) := fun xs G H Q z hx q => by
  subst hd
  cases hx with
  | cons h1 h2 =>
    cases h2
    cases h1 with
    | @lst a vs _ a1 a2 =>
      have e := AtL.bls_inv a2
      subst e
      exact ⟨a, bs, rfl, Same.sqL z a1, q _ G H (Grow.refl z) (.bl _)⟩
theorem cd_int {i : Int} : CallD X.K (fun xs H Q => (∃ i, xs = [.int i] ∧ Q (.int i) H) ∨ ∃ k, xs = [.bl k] ∧ Q (.int (if k then 1 else 0)) H) [.int i] (.int i) := fun xs G H Q z hx q => by
  cases hx with
  | cons h1 h2 =>
    cases h2
    cases h1
    exact .inl ⟨i, rfl, q _ G H (Grow.refl z) (.int _)⟩
theorem cd_intB {k : Bool} : CallD X.K (fun xs H Q => (∃ i, xs = [.int i] ∧ Q (.int i) H) ∨ ∃ k, xs = [.bl k] ∧ Q (.int (if k then 1 else 0)) H) [.bl k] (.int (if k then 1 else 0)) := fun xs G H Q z hx q => by
  cases hx with
  | cons h1 h2 =>
    cases h2
    cases h1
    exact .inr ⟨k, rfl, q _ G H (Grow.refl z) (.int _)⟩
theorem cd_abs {i : Int} : CallD X.K (fun xs H Q => ∃ i, xs = [.int i] ∧ Q (.int (if i < 0 then -i else i)) H) [.int i] (.int (if i < 0 then -i else i)) := fun xs G H Q z hx q => by
  cases hx with
  | cons h1 h2 =>
    cases h2
    cases h1
    exact ⟨i, rfl, q _ G H (Grow.refl z) (.int _)⟩

/-! indices, slices -/
theorem ev_ix {n : Nat} {i : Int} (ha : Ev X a σ G d) (hi : Ev X b σ G (.int i)) (hd : d = .tup ds ∨ d = .lst ds) (hn : i = (n : Int)) (hx : ds[n]? = some r) (hs : PlainIx b := by intro _ _; rfl) : Ev X (.Subscript a b pos) σ G r := fun H1 e1 Q q => by
  subst hn
  rcases hd with rfl | rfl
  · refine we_of (pe_ix ix_tup WE.pe WE.pe hs) (ha H1 e1 _ fun v G2 H2 g hv => (hi.up g.gg) H2 g.gh _ fun u G3 H3 g3 hu => ?_)
    cases hu
    cases hv with
    | @tup a vs _ a1 a2 =>
      obtain ⟨v, e2, hv⟩ := a2.get hx
      exact ⟨a, vs, (n : Int), v, rfl, rfl, Same.sqT g3.gh (g3.gg _ _ a1), atI_nat e2, q v G3 H3 (g.trans g3) (hv.up g3.gg)⟩
  · refine we_of (pe_ix ix_list WE.pe WE.pe hs) (ha H1 e1 _ fun v G2 H2 g hv => (hi.up g.gg) H2 g.gh _ fun u G3 H3 g3 hu => ?_)
    cases hu
    cases hv with
    | @lst a vs _ a1 a2 =>
      obtain ⟨v, e2, hv⟩ := a2.get hx
      exact ⟨a, vs, (n : Int), v, rfl, rfl, Same.sqL g3.gh (g3.gg _ _ a1), atI_nat e2, q v G3 H3 (g.trans g3) (hv.up g3.gg)⟩
/-- ds[lo:hi], lo and hi natural numbers or left out -/
def cut (ds : List Da) (lo hi : Nat) : List Da := (ds.drop (min lo ds.length)).take (min hi ds.length - min lo ds.length)
inductive EvP (X : Cx) (σ : L2.St) (G : Hp) : Option Expr → Option Int → Prop
  | none : EvP X σ G none none
  | some {e : Expr} {i : Int} : Ev X e σ G (.int i) → EvP X σ G (some e) (some i)
def WP (X : Cx) (o : Option Expr) : TO := match o with
  | none => tNoPart
  | some e => tPart (WE X e)
theorem WP.po {o : Option Expr} : PO X o (WP X o) := by
  cases o with
  | none => exact po_none
  | some e => exact po_some WE.pe
theorem EvP.use {o : Option Expr} {k : Option Int} (h : EvP X σ G o k) (H1 : Hp) (e1 : Same G H1) (Q : Option Int → Hp → Prop) (q : ∀ H2, Same H1 H2 → Q k H2) : WP X o σ H1 Q := by
  cases h with
  | none => exact q H1 (Same.refl _)
  | some h =>
    refine h H1 e1 _ fun v G2 H2 g hv => ?_
    cases hv
    exact ⟨_, rfl, q H2 g.hh⟩
def cutD (ds : List Da) (lo hi : Option Int) : List Da := (ds.drop (HT.sIx ds.length 0 lo)).take (HT.sIx ds.length ds.length hi - HT.sIx ds.length 0 lo)
theorem cutD_at {K : PySem.W.Frag} {vs : List V} (h : AtL K G vs ds) (lo hi : Option Int) : AtL K G (cutV vs lo hi) (cutD ds lo hi) := by
  unfold cutV cutD
  rw [h.len]
  exact (h.drop _).take _
theorem ev_sl {lo hi : Option Expr} {i j : Option Int} {p2 : Pos} (ha : Ev X a σ G d) (hd : (d = .tup ds ∧ r = .tup (cutD ds i j)) ∨ (d = .lst ds ∧ r = .lst (cutD ds i j))) (hlo : EvP X σ G lo i) (hhi : EvP X σ G hi j) : Ev X (.Subscript a (.Slice lo hi none p2) pos) σ G r := fun H1 e1 Q q => by
  rcases hd with ⟨rfl, rfl⟩ | ⟨rfl, rfl⟩
  · refine we_of (pe_slice sl_tupA WE.pe WP.po WP.po) (ha H1 e1 _ fun v G2 H2 g hv => ?_)
    refine hlo.use H2 ((g.gg).trans g.gh) _ fun H3 s3 => hhi.use H3 ((g.gg.trans g.gh).trans s3) _ fun H4 s4 => ?_
    have g4 : Grow G H1 G2 H4 := ⟨(g.hh.trans s3).trans s4, g.gg, (g.gh.trans s3).trans s4, g.fr⟩
    cases hv with
    | @tup a vs _ a1 a2 =>
      refine ⟨a, vs, rfl, Same.sqT g4.gh a1, fun hw => ?_, fun _ p hp => ?_⟩
      · have e : cutD ds i j = ds := by
          unfold cutD
          rw [a2.len] at hw
          rw [hw.1, hw.2, List.drop_zero, Nat.sub_zero, List.take_length]
        rw [e] at q
        exact q _ G2 H4 g4 (.tup a1 a2)
      · have gn := Grow.new (o := .tup (cutV vs i j)) g4.gh hp
        exact q _ _ _ (g4.trans gn) (.tup upd_same ((cutD_at a2 i j).up gn.gg))
  · refine we_of (pe_slice sl_list WE.pe WP.po WP.po) (ha H1 e1 _ fun v G2 H2 g hv => ?_)
    refine hlo.use H2 ((g.gg).trans g.gh) _ fun H3 s3 => hhi.use H3 ((g.gg.trans g.gh).trans s3) _ fun H4 s4 => ?_
    have g4 : Grow G H1 G2 H4 := ⟨(g.hh.trans s3).trans s4, g.gg, (g.gh.trans s3).trans s4, g.fr⟩
    cases hv with
    | @lst a vs _ a1 a2 =>
      refine ⟨a, vs, rfl, Same.sqL g4.gh a1, fun p hp => ?_⟩
      have gn := Grow.new (o := .lst (cutV vs i j)) g4.gh hp
      exact q _ _ _ (g4.trans gn) (.lst upd_same ((cutD_at a2 i j).up gn.gg))
end

/-! ### statements -/
section
variable {X : Cx} {a b c e : Expr} {st : Stmt} {rest body : List Stmt} {σ : L2.St} {G H : Hp} {d : Da} {pos p : Pos} {x : Str} {D : Ends}
theorem sts_nil (h : D.nx σ H) : WSs X [] D σ H := wss_of pss_nil h
theorem sts_cons (h : WS X st { D with nx := fun σ' H' => WSs X rest D σ' H' } σ H) : WSs X (st :: rest) D σ H := wss_of (pss_cons WS.ps WSs.pss) h
theorem sts_one (h : WS X st D σ H) : WSs X [st] D σ H := wss_of (pss_one WS.ps) h
theorem ws_ret (h : Ev X e σ G d) (z : Same G H) (k : ∀ v G2 H2, Grow G H G2 H2 → At X.K G2 v d → D.rt v H2) : WS X (.Return (some e) pos) D σ H := ws_of (ps_ret WE.pe) (h H z _ k)
theorem ws_retW (h : WE X e σ H D.rt) : WS X (.Return (some e) pos) D σ H := ws_of (ps_ret WE.pe) h
theorem ws_setW {i : Nat} {pos' : Pos} (hN : X.N.Nodup) (hi : X.N[i]? = some x) (hx : Loc X.env.scope x) (h : WE X e σ H fun v H2 => D.nx (σ.set i (some v)) H2)
    (hs : swapsWith e (some (.Name x pos')) pos.line X.env = pure false := by rfl) (hf : X.fn x = true ∨ X.env.scope.names.lookup x = some .local := by first | exact .inl rfl | exact .inr rfl | assumption) : WS X (.Assign [.Name x pos'] e pos) D σ H :=
  ws_of (ps_set hN hi hx WE.pe hs hf) h
theorem ws_set {i : Nat} {pos' : Pos} (h : Ev X e σ G d) (z : Same G H) (hN : X.N.Nodup) (hi : X.N[i]? = some x) (hx : Loc X.env.scope x) (k : ∀ v G2 H2, Grow G H G2 H2 → At X.K G2 v d → D.nx (σ.set i (some v)) H2)
    (hs : swapsWith e (some (.Name x pos')) pos.line X.env = pure false := by rfl) (hf : X.fn x = true ∨ X.env.scope.names.lookup x = some .local := by first | exact .inl rfl | exact .inr rfl | assumption) : WS X (.Assign [.Name x pos'] e pos) D σ H :=
  ws_setW hN hi hx (h H z _ k) hs hf
theorem ws_if {k : Bool} {as bs : List Stmt} (h : EvB X c σ G k) (z : Same G H) (h1 : k = true → ∀ G2 H2, Grow G H G2 H2 → WSs X as D σ H2) (h2 : k = false → ∀ G2 H2, Grow G H G2 H2 → WSs X bs D σ H2) : WS X (.If c as bs pos) D σ H :=
  ws_of (ps_if WT.pt WSs.pss WSs.pss) (h H z _ fun G2 H2 g => by
    cases k with
    | true => exact iteT (h1 rfl G2 H2 g)
    | false => exact iteF (h2 rfl G2 H2 g))
theorem ws_ifW {as bs : List Stmt} (h : WT X c σ H fun k H2 => if k = true then WSs X as D σ H2 else WSs X bs D σ H2) : WS X (.If c as bs pos) D σ H := ws_of (ps_if WT.pt WSs.pss WSs.pss) h
/-- target, target = e, by the target's own rule -/
theorem ws_asg {tg : Expr} {g : TG} (h : Ev X e σ G d) (z : Same G H) (hg : PG X tg g) (k : ∀ v G2 H2, Grow G H G2 H2 → At X.K G2 v d → g v σ H2 D.nx) (hs : swapsWithSole [tg] e pos.line X.env = pure false := by rfl) (hw : swappedStores [tg] e X.env = pure none := by rfl)
    (h1 : (assignEach [tg] X.env).map (·.2) = [assign tg X.env] := by rfl) : WS X (.Assign [tg] e pos) D σ H := ws_of (ps_asg WE.pe hg hs hw h1) (h H z _ k)
theorem ws_asgW {tg : Expr} {g : TG} (hg : PG X tg g) (h : WE X e σ H fun v H2 => g v σ H2 D.nx) (hs : swapsWithSole [tg] e pos.line X.env = pure false := by rfl) (hw : swappedStores [tg] e X.env = pure none := by rfl)
    (h1 : (assignEach [tg] X.env).map (·.2) = [assign tg X.env] := by rfl) : WS X (.Assign [tg] e pos) D σ H := ws_of (ps_asg WE.pe hg hs hw h1) h
theorem ws_drop (h : WE X e σ H fun _ H2 => D.nx σ H2) (hs : swapsWith e none pos.line X.env = pure false := by rfl) : WS X (.Expr e pos) D σ H := ws_of (ps_expr WE.pe hs) h
/-- a tuple taken apart: the names at js -/
def setAll : L2.St → List (Nat × V) → L2.St
  | σ, [] => σ
  | σ, (i, v) :: r => setAll (σ.set i (some v)) r
def gNames : List Nat → TGs
  | [] => gNil
  | i :: js => gCons (gName i) (gNames js)
theorem gNames_ok : ∀ {js : List Nat} {vs : List V} {σ : L2.St} {H : Hp} {Q : L2.St → Hp → Prop}, vs.length = js.length → Q (setAll σ (js.zip vs)) H → gNames js vs σ H Q
  | [], [], _, _, _, _, q => ⟨rfl, q⟩
  | _ :: _, [], _, _, _, e, _ => by cases e
  | [], _ :: _, _, _, _, e, _ => by cases e
  | i :: js, v :: vs, σ, H, Q, e, q => ⟨v, vs, rfl, gNames_ok (js := js) (Nat.succ.inj e) q⟩
theorem gTup_at {n : Nat} {t : TGs} {v : V} {ds : List Da} {Q : L2.St → Hp → Prop} (h : At X.K G v (.tup ds)) (z : Same G H) (hn : ds.length = n) (k : ∀ vs, AtL X.K G vs ds → t vs σ H Q) : gTup X.K n t v σ H Q := by
  cases h with
  | @tup a vs _ a1 a2 => exact ⟨a, vs, rfl, Same.sqT z a1, by rw [a2.len, hn], k vs a2⟩
theorem gUnl_at {n : Nat} {t : TGs} {v : V} {ds : List Da} {Q : L2.St → Hp → Prop} (h : At X.K G v (.lst ds)) (z : Same G H) (hn : ds.length = n) (k : ∀ vs, AtL X.K G vs ds → t vs σ H Q) : gUnl X.K n t v σ H Q := by
  cases h with
  | @lst a vs _ a1 a2 => exact ⟨a, vs, rfl, Same.sqL z a1, by rw [a2.len, hn], k vs a2⟩
/-- for tg in iter: body -/
theorem ws_for {tg iter : Expr} {g : TG} {n : Nat} {item : Nat → Da} (hsrc : Src X tg iter σ G n item) (z : Same G H) (hp : PassesOwn (model X.prog X.w) X.A X.env X.xe) (hc : X.calm = true) (hg : PG X tg g) (Pv : Nat → L2.St → Hp → Hp → Prop)
    (h0 : ∀ G2 H2, Grow G H G2 H2 → Pv 0 σ G2 H2)
    (turn : ∀ i σ' Gc H' x Gx Hx (N : L2.St → Hp → Prop), i < n → Pv i σ' Gc H' → Same Gc H' → Grow Gc H' Gx Hx → At X.K Gx x (item i) → (∀ σ3 G3 H3, Same Gc G3 → Same G3 H3 → Pv (i + 1) σ3 G3 H3 → N σ3 H3) →
      g x σ' Hx fun σ2 H2 => WSs X body { D with nx := N, ct := N, bk := D.nx } σ2 H2)
    (hd : ∀ σ' Gc H', Pv n σ' Gc H' → Same Gc H' → D.nx σ' H') (hs : ∀ x, foldedSetIterable iter X.env x = pure x := by intro _; rfl) : WS X (.For tg iter body [] pos) D σ H := by
  obtain ⟨wi, hi, hw⟩ := hsrc
  refine ws_of (ps_for hp hc hi hg WSs.pss hs) (hw H z _ fun J G2 H2 g2 w => ?_)
  refine for_it w (fun i σ' H' => ∃ Gc, Same G2 Gc ∧ Same Gc H' ∧ Pv i σ' Gc H') ⟨G2, Same.refl _, g2.gh, h0 G2 H2 g2⟩ (fun i σ' H' _ h => ?_) (fun i x σ' H' Hx hi h hy => ?_) (fun σ' H' h => ?_)
  · obtain ⟨Gc, s1, s2, _⟩ := h
    exact s1.trans s2
  · obtain ⟨Gc, s1, s2, hP⟩ := h
    obtain ⟨Gx, gx, hx⟩ := hy Gc s1 s2
    exact turn i σ' Gc H' x Gx Hx _ hi hP s2 gx hx fun σ3 G3 H3 q1 q2 q3 => ⟨G3, s1.trans q1, q2, q3⟩
  · obtain ⟨Gc, s1, s2, hP⟩ := h
    exact hd σ' Gc H' hP s2
/-- while c: body -/
theorem ws_while (Pv : Nat → L2.St → Hp → Prop) (hp : PassesOwn (model X.prog X.w) X.A X.env X.xe) (h0 : ∃ m, Pv m σ H)
    (turn : ∀ m σ' H', Pv m σ' H' → WT X c σ' H' fun k H2 => if k = true then ∀ N : L2.St → Hp → Prop, (∀ m' σ3 H3, m' < m → Pv m' σ3 H3 → N σ3 H3) → WSs X body { D with nx := N, ct := N, bk := D.nx } σ' H2 else D.nx σ' H2) : WS X (.While c body [] pos) D σ H :=
  ws_of (ps_while hp WT.pt WSs.pss) ⟨Pv, h0, fun m σ' H' h => WT.imp (turn m σ' H' h) fun k H2 q => by
    cases k with
    | true => exact ⟨fun σ3 H3 => ∃ m', m' < m ∧ Pv m' σ3 H3, fun σ3 H3 h3 => h3, q _ fun m' σ3 H3 a b => ⟨m', a, b⟩⟩
    | false => exact q⟩
end
end Fs
set_option Elab.async false
set_option linter.all false
set_option maxRecDepth 100000
set_option maxHeartbeats 2000000
/-! The defs' names by slot. -/
namespace Fs
open PySem PySem.Spec PyProof.Rows L2
abbrev n_is_number : List Str := ["value"]
theorem sc_is_number : FnScope n_is_number ["value"] (defScope s_is_number) := ⟨rfl, rfl, rfl, by decide +kernel, rfl, by decide +kernel, by decide +kernel⟩
abbrev n_is_name : List Str := ["value", "letter"]
theorem sc_is_name : FnScope n_is_name ["value"] (defScope s_is_name) := ⟨rfl, rfl, rfl, by decide +kernel, rfl, by decide +kernel, by decide +kernel⟩
abbrev n_is_rising : List Str := ["row", "one", "other"]
theorem sc_is_rising : FnScope n_is_rising ["row"] (defScope s_is_rising) := ⟨rfl, rfl, rfl, by decide +kernel, rfl, by decide +kernel, by decide +kernel⟩
abbrev n_is_name_set : List Str := ["value", "own"]
theorem sc_is_name_set : FnScope n_is_name_set ["value"] (defScope s_is_name_set) := ⟨rfl, rfl, rfl, by decide +kernel, rfl, by decide +kernel, by decide +kernel⟩
abbrev n_tupled : List Str := ["value", "part"]
theorem sc_tupled : FnScope n_tupled ["value"] (defScope s_tupled) := ⟨rfl, rfl, rfl, by decide +kernel, rfl, by decide +kernel, by decide +kernel⟩
abbrev n_is_step : List Str := ["thing", "known", "many"]
theorem sc_is_step : FnScope n_is_step ["thing", "known", "many"] (defScope s_is_step) := ⟨rfl, rfl, rfl, by decide +kernel, rfl, by decide +kernel, by decide +kernel⟩
abbrev n_is_part : List Str := ["thing", "call", "step"]
theorem sc_is_part : FnScope n_is_part ["thing"] (defScope s_is_part) := ⟨rfl, rfl, rfl, by decide +kernel, rfl, by decide +kernel, by decide +kernel⟩
abbrev n_unjoinable : List Str := ["one", "other", "mine", "its", "k", "call"]
theorem sc_unjoinable : FnScope n_unjoinable ["one", "other"] (defScope s_unjoinable) := ⟨rfl, rfl, rfl, by decide +kernel, rfl, by decide +kernel, by decide +kernel⟩
abbrev n_check_joinable : List Str := ["one", "other", "call"]
theorem sc_check_joinable : FnScope n_check_joinable ["one", "other"] (defScope s_check_joinable) := ⟨rfl, rfl, rfl, by decide +kernel, rfl, by decide +kernel, by decide +kernel⟩
abbrev n_common_calls : List Str := ["one", "other", "known", "call"]
theorem sc_common_calls : FnScope n_common_calls ["one", "other"] (defScope s_common_calls) := ⟨rfl, rfl, rfl, by decide +kernel, rfl, by decide +kernel, by decide +kernel⟩
abbrev n_leads : List Str := ["part", "standing", "call", "before", "own", "after"]
theorem sc_leads : FnScope n_leads ["part", "standing", "call"] (defScope s_leads) := ⟨rfl, rfl, rfl, by decide +kernel, rfl, by decide +kernel, by decide +kernel⟩
abbrev n_is_within : List Str := ["some", "more", "call"]
theorem sc_is_within : FnScope n_is_within ["some", "more"] (defScope s_is_within) := ⟨rfl, rfl, rfl, by decide +kernel, rfl, by decide +kernel, by decide +kernel⟩
abbrev n_standing_still : List Str := ["some", "call"]
theorem sc_standing_still : FnScope n_standing_still ["some"] (defScope s_standing_still) := ⟨rfl, rfl, rfl, by decide +kernel, rfl, by decide +kernel, by decide +kernel⟩
abbrev n_outside_calls : List Str := ["one", "other", "known", "k", "call"]
theorem sc_outside_calls : FnScope n_outside_calls ["one", "other"] (defScope s_outside_calls) := ⟨rfl, rfl, rfl, by decide +kernel, rfl, by decide +kernel, by decide +kernel⟩
abbrev n_is_around_both : List Str := ["one", "other", "thing", "takes", "makes", "every", "call"]
theorem sc_is_around_both : FnScope n_is_around_both ["one", "other", "thing"] (defScope s_is_around_both) := ⟨rfl, rfl, rfl, by decide +kernel, rfl, by decide +kernel, by decide +kernel⟩
abbrev n_quiet_both : List Str := ["one", "other"]
theorem sc_quiet_both : FnScope n_quiet_both ["one", "other"] (defScope s_quiet_both) := ⟨rfl, rfl, rfl, by decide +kernel, rfl, by decide +kernel, by decide +kernel⟩
abbrev n_are_apart : List Str := ["three", "place", "i", "one", "before", "call", "after", "j", "other"]
theorem sc_are_apart : FnScope n_are_apart ["three", "place"] (defScope s_are_apart) := ⟨rfl, rfl, rfl, by decide +kernel, rfl, by decide +kernel, by decide +kernel⟩
abbrev n_moved : List Str := ["place", "i", "after"]
theorem sc_moved : FnScope n_moved ["place", "i", "after"] (defScope s_moved) := ⟨rfl, rfl, rfl, by decide +kernel, rfl, by decide +kernel, by decide +kernel⟩
abbrev n_moves_of_three : List Str := ["three", "place", "found", "i", "one", "before", "call", "after", "j", "other", "its"]
theorem sc_moves_of_three : FnScope n_moves_of_three ["three", "place"] (defScope s_moves_of_three) := ⟨rfl, rfl, rfl, by decide +kernel, rfl, by decide +kernel, by decide +kernel⟩
abbrev n_fits_both : List Str := ["one", "other", "around", "three", "found", "fresh", "place", "after"]
theorem sc_fits_both : FnScope n_fits_both ["one", "other", "around"] (defScope s_fits_both) := ⟨rfl, rfl, rfl, by decide +kernel, rfl, by decide +kernel, by decide +kernel⟩
abbrev n_law_box : List Str := ["_law_script", "_law_k", "_law_cell"]
theorem sc_law_box : FnScope n_law_box ["_law_script", "_law_k"] (defScope s_law_box) := ⟨rfl, rfl, rfl, by decide +kernel, rfl, by decide +kernel, by decide +kernel⟩
abbrev n_law_take : List Str := ["_law_tub", "_law_top_to", "_law_drawn", "_law_once", "_law_odd", "_law_twice"]
theorem sc_law_take : FnScope n_law_take ["_law_tub", "_law_top_to"] (defScope s_law_take) := ⟨rfl, rfl, rfl, by decide +kernel, rfl, by decide +kernel, by decide +kernel⟩
abbrev n_law_cells : List Str := ["_law_script", "_law_most_so", "_law_cells_so", "_law_k", "_law_far_so", "_law_spot_so"]
theorem sc_law_cells : FnScope n_law_cells ["_law_script", "_law_most_so"] (defScope s_law_cells) := ⟨rfl, rfl, rfl, by decide +kernel, rfl, by decide +kernel, by decide +kernel⟩
abbrev n_law_of : List Str := ["_law_tub", "_law_few_so"]
theorem sc_law_of : FnScope n_law_of ["_law_tub", "_law_few_so"] (defScope s_law_of) := ⟨rfl, rfl, rfl, by decide +kernel, rfl, by decide +kernel, by decide +kernel⟩
abbrev n_law_same : List Str := ["_law_got", "_law_due", "_law_like", "_law_mine", "_law_its"]
theorem sc_law_same : FnScope n_law_same ["_law_got", "_law_due"] (defScope s_law_same) := ⟨rfl, rfl, rfl, by decide +kernel, rfl, by decide +kernel, by decide +kernel⟩
abbrev n_law_lists : List Str := ["_law_matter", "_law_bit"]
theorem sc_law_lists : FnScope n_law_lists ["_law_matter"] (defScope s_law_lists) := ⟨rfl, rfl, rfl, by decide +kernel, rfl, by decide +kernel, by decide +kernel⟩
abbrev n_law_half : List Str := ["_law_matter", "_law_bit"]
theorem sc_law_half : FnScope n_law_half ["_law_matter"] (defScope s_law_half) := ⟨rfl, rfl, rfl, by decide +kernel, rfl, by decide +kernel, by decide +kernel⟩
abbrev n_law_set : List Str := ["_law_tub", "_law_tags", "_law_odd_so", "_law_tag"]
theorem sc_law_set : FnScope n_law_set ["_law_tub", "_law_tags", "_law_odd_so"] (defScope s_law_set) := ⟨rfl, rfl, rfl, by decide +kernel, rfl, by decide +kernel, by decide +kernel⟩
abbrev n_law_part : List Str := ["_law_tub", "_law_takes_so", "_law_makes_so", "_law_many_so", "_law_wide_so", "_law_found", "_law_lap", "_law_tag"]
theorem sc_law_part : FnScope n_law_part ["_law_tub", "_law_takes_so", "_law_makes_so", "_law_many_so"] (defScope s_law_part) := ⟨rfl, rfl, rfl, by decide +kernel, rfl, by decide +kernel, by decide +kernel⟩
abbrev n_law_two : List Str := ["_law_tub", "_law_many_so", "_law_names_so", "_law_tag", "_law_k"]
theorem sc_law_two : FnScope n_law_two ["_law_tub", "_law_many_so"] (defScope s_law_two) := ⟨rfl, rfl, rfl, by decide +kernel, rfl, by decide +kernel, by decide +kernel⟩
abbrev n_law_goes : List Str := ["_law_near", "_law_k", "_law_tag", "_law_own"]
theorem sc_law_goes : FnScope n_law_goes ["_law_near", "_law_k", "_law_tag"] (defScope s_law_goes) := ⟨rfl, rfl, rfl, by decide +kernel, rfl, by decide +kernel, by decide +kernel⟩
abbrev n_law_kit : List Str := ["_law_client_so", "_law_server_so", "_law_waiting_so", "_law_both_so", "_law_twoway_so"]
theorem sc_law_kit : FnScope n_law_kit [] (defScope s_law_kit) := ⟨rfl, rfl, rfl, by decide +kernel, rfl, by decide +kernel, by decide +kernel⟩
abbrev n_law_three : List Str := ["_law_parts_so", "_law_found", "_law_new_so", "_law_later_so", "_law_here_so", "_law_i", "_law_near", "_law_own", "_law_goes_so"]
theorem sc_law_three : FnScope n_law_three ["_law_parts_so"] (defScope s_law_three) := ⟨rfl, rfl, rfl, by decide +kernel, rfl, by decide +kernel, by decide +kernel⟩
abbrev n_law_heard_by : List Str := ["_law_parts_so", "_law_here_so", "_law_i", "_law_own", "_law_found", "_law_j", "_law_far", "_law_its_so", "_law_there_so"]
theorem sc_law_heard_by : FnScope n_law_heard_by ["_law_parts_so", "_law_here_so", "_law_i", "_law_own"] (defScope s_law_heard_by) := ⟨rfl, rfl, rfl, by decide +kernel, rfl, by decide +kernel, by decide +kernel⟩
abbrev n_law_outer : List Str := ["_law_near", "_law_far", "_law_both_so", "_law_takes_so", "_law_tag"]
theorem sc_law_outer : FnScope n_law_outer ["_law_near", "_law_far"] (defScope s_law_outer) := ⟨rfl, rfl, rfl, by decide +kernel, rfl, by decide +kernel, by decide +kernel⟩
abbrev n_law_heard : List Str := ["_law_door", "_law_mine_so", "_law_its_so", "_law_caught", "_law_said_so", "error"]
theorem sc_law_heard : FnScope n_law_heard ["_law_door", "_law_mine_so", "_law_its_so"] (defScope s_law_heard) := ⟨rfl, rfl, rfl, by decide +kernel, rfl, by decide +kernel, by decide +kernel⟩
abbrev n_law_by_hand_right : List Str := ["_law_client_so", "_law_server_so", "_law_waiting_so", "_law_twoway_so", "_law_goes_so", "_law_changes_so", "_law_some_so", "_law_got", "_law_due", "_law_later_so", "_law_slow_so", "_law_near", "_law_far", "_law_rows_so", "_law_own", "_law_k"]
theorem sc_law_by_hand_right : FnScope n_law_by_hand_right [] (defScope s_law_by_hand_right) := ⟨rfl, rfl, rfl, by decide +kernel, rfl, by decide +kernel, by decide +kernel⟩
abbrev n_law_more_right : List Str := ["_law_waiting_so", "_law_twoway_so", "_law_changes_so", "_law_client_so", "_law_odd", "_law_got", "_law_due", "_law_soft", "_law_own", "_law_door"]
theorem sc_law_more_right : FnScope n_law_more_right ["_law_waiting_so", "_law_twoway_so", "_law_changes_so", "_law_client_so"] (defScope s_law_more_right) := ⟨rfl, rfl, rfl, by decide +kernel, rfl, by decide +kernel, by decide +kernel⟩
abbrev n_law_right : List Str := ["_law_tub", "_law_turn", "_law_near", "_law_far", "_law_takes_so", "_law_makes_so", "_law_some_so", "_law_own", "_law_due", "_law_got", "_law_lap", "_law_tag"]
theorem sc_law_right : FnScope n_law_right ["_law_tub"] (defScope s_law_right) := ⟨rfl, rfl, rfl, by decide +kernel, rfl, by decide +kernel, by decide +kernel⟩
abbrev n_law : List Str := ["_law_script", "_law_cells_so", "_law_k"]
theorem sc_law : FnScope n_law ["_law_script"] (defScope s_law) := ⟨rfl, rfl, rfl, by decide +kernel, rfl, by decide +kernel, by decide +kernel⟩
end Fs
set_option Elab.async false
set_option linter.all false
set_option maxRecDepth 100000
set_option maxHeartbeats 2000000
/-! The judgements over a store of data: E (expressions), S (statements); no heap in sight. -/
namespace Fs
open PySem PySem.Spec PyProof.Rows L2

/-- what a name holds: nothing told, known data, an own list at p -/
inductive Cl where
  | no | kn (d : Da) | ow (p : Addr) (ds : List Da)
abbrev De := List Cl
structure StK (K : PySem.W.Frag) (G : Hp) (σ : L2.St) (δ : De) : Prop where
  ln : σ.length = δ.length
  kn : ∀ (i : Nat) (d : Da), δ[i]? = some (Cl.kn d) → ∃ v, σ[i]? = some (some v) ∧ At K G v d
theorem get_set {α : Type} {l : List α} {i j : Nat} {a b : α} (h : (l.set i a)[j]? = some b) : (i = j ∧ a = b ∧ i < l.length) ∨ (i ≠ j ∧ l[j]? = some b) := by
  rw [List.getElem?_set] at h
  by_cases e : i = j
  · rw [if_pos e] at h
    by_cases g : i < l.length
    · rw [if_pos g] at h
      exact .inl ⟨e, Option.some.inj h, g⟩
    · rw [if_neg g] at h
      cases h
  · rw [if_neg e] at h
    exact .inr ⟨e, h⟩
def wipeD (δ : De) : List Nat → De
  | [] => δ
  | v :: vs => (wipeD δ vs).set v .no
def setAllD : De → List (Nat × Da) → De
  | δ, [] => δ
  | δ, (i, d) :: r => setAllD (δ.set i (.kn d)) r
section
variable {K : PySem.W.Frag} {G G' H : Hp} {σ : L2.St} {δ : De} {d : Da} {v : V}
theorem StK.up (S : StK K G σ δ) (e : Same G G') : StK K G' σ δ := ⟨S.ln, fun i d h => by
  obtain ⟨v, h1, h2⟩ := S.kn i d h
  exact ⟨v, h1, h2.up e⟩⟩
theorem StK.set (S : StK K G σ δ) (h : At K G v d) (i : Nat) : StK K G (σ.set i (some v)) (δ.set i (.kn d)) := ⟨by rw [List.length_set, List.length_set, S.ln], fun j e h2 => by
  rcases get_set h2 with ⟨rfl, e2, hl⟩ | ⟨hn, h2⟩
  · cases e2
    exact ⟨v, List.getElem?_set_self (by rw [S.ln]; exact hl), h⟩
  · obtain ⟨u, h3, h4⟩ := S.kn j e h2
    exact ⟨u, by rw [List.getElem?_set_ne hn]; exact h3, h4⟩⟩
theorem StK.no (S : StK K G σ δ) (i : Nat) (x : Option V) : StK K G (σ.set i x) (δ.set i .no) := ⟨by rw [List.length_set, List.length_set, S.ln], fun j e h2 => by
  rcases get_set h2 with ⟨rfl, e2, hl⟩ | ⟨hn, h2⟩
  · cases e2
  · obtain ⟨u, h3, h4⟩ := S.kn j e h2
    exact ⟨u, by rw [List.getElem?_set_ne hn]; exact h3, h4⟩⟩
theorem StK.wipe (S : StK K G σ δ) : ∀ vs : List Nat, StK K G (wipe σ vs) (wipeD δ vs)
  | [] => S
  | v :: vs => (S.wipe vs).no v none
theorem StK.setAll : ∀ {js : List Nat} {vs : List V} {ds : List Da} {σ : L2.St} {δ : De}, StK K G σ δ → AtL K G vs ds → js.length = ds.length → StK K G (setAll σ (js.zip vs)) (setAllD δ (js.zip ds))
  | [], _, _, _, _, S, _, _ => S
  | j :: js, _, _, σ, δ, S, h, e => by
    cases h with
    | nil => cases e
    | cons h1 h2 => exact StK.setAll (js := js) (S.set h1 j) h2 (Nat.succ.inj e)
theorem wipe_ext {σ τ : L2.St} : ∀ {vs : List Nat}, σ.length = τ.length → (∀ j, j ∉ vs → σ[j]? = τ[j]?) → wipe σ vs = wipe τ vs
  | vs, hl, h => by
    apply List.ext_getElem?
    intro j
    by_cases hj : j ∈ vs
    · clear h
      induction vs with
      | nil => cases hj
      | cons v vs ih =>
        show ((wipe σ vs).set v none)[j]? = ((wipe τ vs).set v none)[j]?
        by_cases e : v = j
        · subst e
          rw [List.getElem?_set, List.getElem?_set, if_pos rfl, if_pos rfl, wipe_length, wipe_length, hl]
        · rw [List.getElem?_set_ne e, List.getElem?_set_ne e]
          rcases List.mem_cons.mp hj with q | q
          · exact absurd q.symm e
          · exact ih q
    · rw [wipe_out hj, wipe_out hj]
      exact h j hj
theorem wipe_in {σ : L2.St} {vs : List Nat} {j : Nat} {x : Option V} (hj : j ∈ vs) : wipe (σ.set j x) vs = wipe σ vs :=
  wipe_ext (by rw [List.length_set]) fun i hi => List.getElem?_set_ne fun e => hi (by rw [← e]; exact hj)
theorem wipe_idem {σ : L2.St} {vs : List Nat} : wipe (wipe σ vs) vs = wipe σ vs := wipe_ext (wipe_length σ vs) fun i hi => wipe_out hi
theorem wipe_setAll : ∀ {js : List Nat} {ws : List V} {σ : L2.St} {vs : List Nat}, (∀ j ∈ js, j ∈ vs) → wipe (setAll σ (js.zip ws)) vs = wipe σ vs
  | [], _, _, _, _ => rfl
  | _ :: _, [], _, _, _ => rfl
  | j :: js, w :: ws, σ, vs, h => by
    show wipe (setAll (σ.set j (some w)) (js.zip ws)) vs = _
    rw [wipe_setAll (js := js) fun i hi => h i (List.mem_cons_of_mem _ hi), wipe_in (h j (List.mem_cons_self ..))]
end

/-! ### expressions -/
def E (X : Cx) (e : Expr) (δ : De) (d : Da) : Prop := ∀ σ G, StK X.K G σ δ → Ev X e σ G d
def EB (X : Cx) (e : Expr) (δ : De) (k : Bool) : Prop := ∀ σ G, StK X.K G σ δ → EvB X e σ G k
def EW (X : Cx) (e : Expr) (δ : De) (k : Bool) : Prop := ∀ σ G, StK X.K G σ δ → EvW X e σ G k
def EA (X : Cx) (es : List Expr) (δ : De) (ds : List Da) : Prop := ∀ σ G, StK X.K G σ δ → EvA X es σ G ds
def ETs (X : Cx) (es : List Expr) (δ : De) (k : Bool) : Prop := ∀ σ G, StK X.K G σ δ → EvTs X es σ G k
def SrcE (X : Cx) (tg iter : Expr) (δ : De) (items : List Da) : Prop := ∀ σ G, StK X.K G σ δ → ∃ item, Src X tg iter σ G items.length item ∧ ∀ i, i < items.length → item i = items.getD i .non
section
variable {X : Cx} {a b c e l tg o : Expr} {es : List Expr} {δ : De} {d d1 d2 d3 r : Da} {ds items : List Da} {pos p tpos : Pos} {x : Str} {elts : List Expr} {kk : Nat}
theorem E.is (h : E X e δ d) (k : d = d1) : E X e δ d1 := k ▸ h
theorem EB.is {b1 b2 : Bool} (h : EB X e δ b1) (k : b1 = b2) : EB X e δ b2 := k ▸ h
theorem EA.is {es2 : List Da} (h : EA X es δ ds) (k : ds = es2) : EA X es δ es2 := k ▸ h
theorem e_var (i : Nat) (h : δ[i]? = some (.kn d)) (hN : X.N[i]? = some x := by rfl) (hv : Vis X.env.scope x := by first | exact Or.inl rfl | exact Or.inr (Or.inl rfl) | exact Or.inr (Or.inr rfl))
    (hd : (x == ("__debug__" : Str)) = false := by decide) (hcd : (x == ("__classdict__" : Str)) = false := by decide) : E X (.Name x pos) δ d := fun σ G S => by
  obtain ⟨v, h1, h2⟩ := S.kn i d h
  exact ev_var h1 h2 hN hv hd hcd
theorem e_int {i : Int} {j : Nat} : E X (.Constant (.int i) j pos) δ (.int i) := fun _ _ _ => ev_int
theorem e_bl {i : Bool} {j : Nat} : E X (.Constant (.bool i) j pos) δ (.bl i) := fun _ _ _ => ev_bl
theorem e_str {z : Str} {j : Nat} : E X (.Constant (.str z) j pos) δ (.str z) := fun _ _ _ => ev_str
theorem e_non {j : Nat} : E X (.Constant .none j pos) δ .non := fun _ _ _ => ev_non
theorem e_gint {i : Int} (hm : ∃ t, X.mg x = some (.int i t)) (hg : Gl X x := by rfl) (hd : (x == ("__debug__" : Str)) = false := by decide) : E X (.Name x pos) δ (.int i) := fun _ _ _ => ev_gint hm hg hd
theorem e_gstr {z : Str} (hm : ∃ t, X.mg x = some (.str z t)) (hg : Gl X x := by rfl) (hd : (x == ("__debug__" : Str)) = false := by decide) : E X (.Name x pos) δ (.str z) := fun _ _ _ => ev_gstr hm hg hd
theorem e_op {op : Operator} {f : R2} (hf : OpR X (binaryOp op) f) (ha : E X a δ d1) (hb : E X b δ d2) (ho : OpD X.K f d1 d2 r) : E X (.BinOp a op b pos) δ r := fun σ G S => ev_op hf (ha σ G S) (hb σ G S) ho
theorem e_cmp {op : CmpOp} {f : R2} (hf : OpR X (compareOp op) f) (ha : E X a δ d1) (hb : E X b δ d2) (ho : OpD X.K f d1 d2 r) (hm : behindInMarks op b = false := by first | exact nomark _ | rfl) : E X (.Compare a [op] [b] pos) δ r := fun σ G S => ev_cmp hf (ha σ G S) (hb σ G S) ho hm
theorem eb_cmpE {op : CmpOp} {f : R2} {k : Bool} (hf : OpR X (compareOp op) f) (ha : E X a δ d1) (hb : E X b δ d2) (ho : OpD X.K f d1 d2 (.bl k)) (hm : behindInMarks op b = false := by first | exact nomark _ | rfl) : EB X (.Compare a [op] [b] pos) δ k := fun σ G S => eb_cmp hf (ha σ G S) (hb σ G S) ho hm
theorem e_chain {op op' : CmpOp} {f f' : R2} {k k' : Bool} (hf : OpR X (compareOp op) f) (hf' : OpR X (compareOp op') f') (ha : E X a δ d1) (hb : E X b δ d2) (hc : E X c δ d3) (ho : OpD X.K f d1 d2 (.bl k)) (ho' : OpD X.K f' d2 d3 (.bl k'))
    (hm : lastMarks [op, op'] [b, c] = false := by with_unfolding_all rfl) : E X (.Compare a [op, op'] [b, c] pos) δ (.bl (k && k')) := fun σ G S => ev_chain hf hf' (ha σ G S) (hb σ G S) (hc σ G S) ho ho' hm
theorem b_val {k : Bool} (h : E X e δ (.bl k)) (he : ∀ whole, isTrue e X.env whole = (do let v ← whole; standAt e.pos; holding [v] (truthy v)) := by intro _; rfl) : EB X e δ k := fun σ G S => eb_val (h σ G S) he
theorem b_w {k : Bool} (h : EW X e δ k) : EB X e δ k := fun σ G S => eb_w (h σ G S)
theorem w_and1 {k : Bool} (h : EB X e δ k) : EW X (.BoolOp .And [e] pos) δ k := fun σ G S => ew_and1 (h σ G S)
theorem w_or1 {k : Bool} (h : EB X e δ k) : EW X (.BoolOp .Or [e] pos) δ k := fun σ G S => ew_or1 (h σ G S)
theorem w_and {k k' : Bool} (h : EB X a δ k) (h' : k = true → EW X (.BoolOp .And (b :: es) pos) δ k') : EW X (.BoolOp .And (a :: b :: es) pos) δ (k && k') := fun σ G S => ew_and (h σ G S) fun q => h' q σ G S
theorem w_or {k k' : Bool} (h : EB X a δ k) (h' : k = false → EW X (.BoolOp .Or (b :: es) pos) δ k') : EW X (.BoolOp .Or (a :: b :: es) pos) δ (k || k') := fun σ G S => ew_or (h σ G S) fun q => h' q σ G S
theorem b_not {k : Bool} (h : EB X a δ k) : EB X (.UnaryOp .Not a pos) δ (!k) := fun σ G S => eb_not (h σ G S)
theorem e_one {op : BoolOp} (h : E X a δ d) : E X (.BoolOp op [a] pos) δ d := fun σ G S => ev_one (h σ G S)
theorem e_and {k : Bool} (h : E X a δ (.bl k)) (h' : k = true → E X (.BoolOp .And (b :: es) pos) δ d) (hd : k = false → d = .bl false) : E X (.BoolOp .And (a :: b :: es) pos) δ d := fun σ G S => ev_and (h σ G S) (fun q => h' q σ G S) hd
theorem e_or {k : Bool} (h : E X a δ (.bl k)) (h' : k = false → E X (.BoolOp .Or (b :: es) pos) δ d) (hd : k = true → d = .bl true) : E X (.BoolOp .Or (a :: b :: es) pos) δ d := fun σ G S => ev_or (h σ G S) (fun q => h' q σ G S) hd
theorem e_andB {k k' : Bool} (h : E X a δ (.bl k)) (h' : k = true → E X (.BoolOp .And (b :: es) pos) δ (.bl k')) : E X (.BoolOp .And (a :: b :: es) pos) δ (.bl (k && k')) := e_and h (fun q => by subst q; exact h' rfl) fun q => by subst q; rfl
theorem e_not {k : Bool} (h : E X a δ (.bl k)) : E X (.UnaryOp .Not a pos) δ (.bl (!k)) := fun σ G S => ev_not (h σ G S)
theorem e_ife {k : Bool} (h : EB X c δ k) (h1 : k = true → E X a δ d) (h2 : k = false → E X b δ d) : E X (.IfExp c a b pos) δ d := fun σ G S => ev_ife (h σ G S) (fun q => h1 q σ G S) fun q => h2 q σ G S
theorem a_nil : EA X [] δ [] := fun _ _ _ => ea_nil
theorem a_cons (h : E X e δ d) (k : EA X es δ ds) (hs : starEach (e :: es) X.env = (false, eval e X.env) :: starEach es X.env := by rfl) : EA X (e :: es) δ (d :: ds) := fun σ G S => ea_cons (h σ G S) (k σ G S) hs
theorem a_star {xs : List Da} (h : E X e δ d) (hd : d = .tup xs ∨ d = .lst xs) (k : EA X es δ ds) (hs : starEach (.Starred e p :: es) X.env = (true, eval e X.env) :: starEach es X.env := by rfl) : EA X (.Starred e p :: es) δ (xs ++ ds) := fun σ G S => ea_star (h σ G S) hd (k σ G S) hs
theorem e_tup {k : Nat} (h : EA X es δ ds) (hz : ds.length ≤ 100000) : E X (.Tuple es k pos) δ (.tup ds) := fun σ G S => ev_tup (h σ G S) hz
theorem e_lst (h : EA X es δ ds) (hz : ds.length ≤ 100000) : E X (.List es pos) δ (.lst ds) := fun σ G S => ev_lst (h σ G S) hz
theorem e_call {CX : CXT} {k j : Nat} {R : List Da → Da → Prop} {EX : XK} (c : Dfn X.prog X.w X.K X.mg X.base CX k x (SpF X.K R)) (hr : Room j X.A) (hk : k ≤ j) (hx : Passes CX X EX) (h : EA X (e :: es) δ ds) (hR : R ds r) (hg : Gl X x := by rfl)
    (hdb : (x == ("__debug__" : Str)) = false := by decide) (he : starEach (e :: es) X.env = (false, eval e X.env) :: starEach es X.env := by rfl) (hpl : (backTo pos (starEach es X.env)).any (·.1) = false := by rfl) : E X (.Call (.Name x p) (e :: es) [] pos) δ r := fun σ G S => ev_call c hr hk hx (h σ G S) hR hg hdb he hpl
theorem e_call0 {CX : CXT} {k j : Nat} {R : List Da → Da → Prop} {EX : XK} (c : Dfn X.prog X.w X.K X.mg X.base CX k x (SpF X.K R)) (hr : Room j X.A) (hk : k ≤ j) (hx : Passes CX X EX) (hR : R [] r) (hg : Gl X x := by rfl)
    (hdb : (x == ("__debug__" : Str)) = false := by decide) : E X (.Call (.Name x p) [] [] pos) δ r := fun σ G S => ev_call0 c hr hk hx hR hg hdb
theorem e_blt {id : String} {f : List V → Hp → VK → Prop} (hc : CallR X (.builtin id) f) (hm : X.mg x = none) (ha : EA X (e :: es) δ ds) (hd : CallD X.K f ds r) (hg : Gl X x := by rfl) (hv : bootBuiltins x = some (.builtin id) := by decide +kernel) (hn : x ≠ "__name__" := by decide)
    (hdb : (x == ("__debug__" : Str)) = false := by decide) (he : starEach (e :: es) X.env = (false, eval e X.env) :: starEach es X.env := by rfl) (hpl : (backTo pos (starEach es X.env)).any (·.1) = false := by rfl) : E X (.Call (.Name x p) (e :: es) [] pos) δ r := fun σ G S => ev_blt hc hm (ha σ G S) hd hg hv hn hdb he hpl
theorem e_ty {T : String} {f : List V → Hp → VK → Prop} (hc : CallR X (.type T) f) (hm : X.mg x = none) (ha : EA X (e :: es) δ ds) (hd : CallD X.K f ds r) (hg : Gl X x := by rfl) (hv : bootBuiltins x = some (.type T) := by decide +kernel) (hn : x ≠ "__name__" := by decide)
    (hdb : (x == ("__debug__" : Str)) = false := by decide) (he : starEach (e :: es) X.env = (false, eval e X.env) :: starEach es X.env := by rfl) (hpl : (backTo pos (starEach es X.env)).any (·.1) = false := by rfl) : E X (.Call (.Name x p) (e :: es) [] pos) δ r := fun σ G S => ev_ty hc hm (ha σ G S) hd hg hv hn hdb he hpl
theorem e_isi {T : String} {y : Str} {k : Bool} {p2 : Pos} (h : E X e δ d) (hne : d ≠ .exc) (hm : X.mg "isinstance" = none) (hm2 : X.mg y = none) (hk : kitB (tyn d) T = some k := by decide +kernel) (hg : Gl X "isinstance" := by rfl) (hg2 : Gl X y := by rfl) (hv : bootBuiltins y = some (.type T) := by decide +kernel)
    (hn : y ≠ "__name__" := by decide) (hdb : (y == ("__debug__" : Str)) = false := by decide) (he : starEach [e, .Name y p2] X.env = (false, eval e X.env) :: starEach [.Name y p2] X.env := by rfl) (he2 : starEach [.Name y p2] X.env = (false, eval (.Name y p2) X.env) :: starEach [] X.env := by rfl)
    (hpl : (backTo pos (starEach [.Name y p2] X.env)).any (·.1) = false := by rfl) : E X (.Call (.Name "isinstance" p) [e, .Name y p2] [] pos) δ (.bl k) := fun σ G S => ev_isi (h σ G S) hne hm hm2 hk hg hg2 hv hn hdb he he2 hpl
theorem e_isi2 {S T : String} {y z : Str} {k1 k2 : Bool} {p2 p3 p4 : Pos} {kk : Nat} (h : E X e δ d) (hne : d ≠ .exc) (hm : X.mg "isinstance" = none) (hm2 : X.mg y = none) (hm3 : X.mg z = none) (hk1 : kitB (tyn d) S = some k1 := by decide +kernel) (hk2 : kitB (tyn d) T = some k2 := by decide +kernel)
    (hg : Gl X "isinstance" := by rfl) (hg2 : Gl X y := by rfl) (hg3 : Gl X z := by rfl) (hv : bootBuiltins y = some (.type S) := by decide +kernel) (hv3 : bootBuiltins z = some (.type T) := by decide +kernel)
    (hn : y ≠ "__name__" := by decide) (hn3 : z ≠ "__name__" := by decide) (hdb : (y == ("__debug__" : Str)) = false := by decide) (hdb3 : (z == ("__debug__" : Str)) = false := by decide)
    (he : starEach [e, .Tuple [.Name y p2, .Name z p3] kk p4] X.env = (false, eval e X.env) :: starEach [.Tuple [.Name y p2, .Name z p3] kk p4] X.env := by rfl)
    (he2 : starEach [.Tuple [.Name y p2, .Name z p3] kk p4] X.env = (false, eval (.Tuple [.Name y p2, .Name z p3] kk p4) X.env) :: starEach [] X.env := by rfl)
    (he3 : starEach [.Name y p2, .Name z p3] X.env = (false, eval (.Name y p2) X.env) :: starEach [.Name z p3] X.env := by rfl) (he4 : starEach [.Name z p3] X.env = (false, eval (.Name z p3) X.env) :: starEach [] X.env := by rfl)
    (hpl : (backTo pos (starEach [.Tuple [.Name y p2, .Name z p3] kk p4] X.env)).any (·.1) = false := by rfl) : E X (.Call (.Name "isinstance" p) [e, .Tuple [.Name y p2, .Name z p3] kk p4] [] pos) δ (.bl (k1 || k2)) := fun σ G St => ev_isi2 (h σ G St) hne hm hm2 hm3 hk1 hk2 hg hg2 hg3 hv hv3 hn hn3 hdb hdb3 he he2 he3 he4 hpl
theorem e_ix (n : Nat) {i : Int} (ha : E X a δ d) (hi : E X b δ (.int i)) (hd : d = .tup ds ∨ d = .lst ds) (hn : i = (n : Int)) (hx : ds[n]? = some r) (hs : PlainIx b := by intro _ _; rfl) : E X (.Subscript a b pos) δ r := fun σ G S => ev_ix (ha σ G S) (hi σ G S) hd hn hx hs
def EP (X : Cx) (o : Option Expr) (δ : De) (k : Option Int) : Prop := ∀ σ G, StK X.K G σ δ → EvP X σ G o k
theorem p_none : EP X none δ none := fun _ _ _ => .none
theorem p_some {i : Int} (h : E X e δ (.int i)) : EP X (some e) δ (some i) := fun σ G S => .some (h σ G S)
theorem e_sl {lo hi : Option Expr} {i j : Option Int} {p2 : Pos} (ha : E X a δ d) (hd : (d = .tup ds ∧ r = .tup (cutD ds i j)) ∨ (d = .lst ds ∧ r = .lst (cutD ds i j))) (hlo : EP X lo δ i) (hhi : EP X hi δ j) : E X (.Subscript a (.Slice lo hi none p2) pos) δ r := fun σ G S => ev_sl (ha σ G S) hd (hlo σ G S) (hhi σ G S)
theorem ts_nil : ETs X [] δ true := fun _ _ _ => ets_nil
theorem ts_one {k : Bool} (h : EB X c δ k) : ETs X [c] δ k := fun σ G S => ets_one (h σ G S)

/-! what is walked -/
theorem r_lst (h : E X l δ (.lst ds)) : SrcE X tg l δ ds := fun σ G S => ⟨_, src_lst (h σ G S), fun _ _ => rfl⟩
theorem r_tup (h : E X l δ (.tup ds)) : SrcE X tg l δ ds := fun σ G S => ⟨_, src_tup (h σ G S), fun _ _ => rfl⟩
theorem r_str {z : Str} (h : E X l δ (.str z)) : SrcE X tg l δ (z.cps.toList.map fun c => .str ⟨#[c]⟩) := fun σ G S => by
  refine ⟨fun i => .str ⟨#[z.cps.getD i 0]⟩, ?_, fun i hi => ?_⟩
  · have w := src_str (tg := tg) (h σ G S)
    rw [List.length_map, Array.length_toList]
    exact w
  · rw [List.length_map, Array.length_toList] at hi
    rw [List.getD_eq_getElem?_getD, List.getElem?_map, Array.getElem?_toList]
    show Da.str ⟨#[z.cps.getD i 0]⟩ = _
    rw [Array.getD_eq_getD_getElem?, Array.getElem?_eq_getElem hi]
    rfl
theorem r_range (n : Nat) {j : Int} (h : EA X [a] δ [.int j]) (hj : j = (n : Int)) (hm : X.mg "range" = none) (hz : n ≤ 1000000) (hg : Gl X "range" := by rfl) (hs : starEach [a] X.env = [(false, eval a X.env)] := by rfl) : SrcE X tg (.Call (.Name "range" p) [a] [] pos) δ ((List.range n).map fun (i : Nat) => Da.int (i : Int)) := fun σ G S => by
  refine ⟨fun i => .int (i : Int), ?_, fun i hi => ?_⟩
  · rw [List.length_map, List.length_range]
    exact src_range (h σ G S) hj hm hz hg hs
  · rw [List.length_map, List.length_range] at hi
    rw [List.getD_eq_getElem?_getD, List.getElem?_map, List.getElem?_range hi]
    rfl
theorem r_zip {es1 es2 : List Da} (h : EA X [a, b] δ [d1, d2]) (hd : (d1 = .lst es1 ∧ d2 = .lst es2) ∨ (d1 = .tup es1 ∧ d2 = .tup es2)) (hm : X.mg "zip" = none) (hg : Gl X "zip" := by rfl)
    (hs : starEach [a, b] X.env = (false, eval a X.env) :: starEach [b] X.env := by rfl) (hpl : (backTo pos (starEach [b] X.env)).any (·.1) = false := by rfl) :
    SrcE X (.Tuple elts kk tpos) (.Call (.Name "zip" p) [a, b] [] pos) δ (List.zipWith (fun u v => .tup [u, v]) es1 es2) := fun σ G S => by
  refine ⟨fun i => .tup [es1.getD i .non, es2.getD i .non], ?_, fun i hi => ?_⟩
  · rw [List.length_zipWith]
    exact src_zip (h σ G S) hd hm hg hs hpl
  · rw [List.length_zipWith] at hi
    have h1 : i < es1.length := by omega
    have h2 : i < es2.length := by omega
    have e1 := List.getElem?_eq_getElem h1
    have e2 := List.getElem?_eq_getElem h2
    simp [List.getD_eq_getElem?_getD, List.getElem?_zipWith, e1, e2]
theorem r_enumL (h : EA X [a] δ [.lst ds]) (hm : X.mg "enumerate" = none) (hg : Gl X "enumerate" := by rfl) (hs : starEach [a] X.env = [(false, eval a X.env)] := by rfl) :
    SrcE X (.Tuple elts kk tpos) (.Call (.Name "enumerate" p) [a] [] pos) δ (ds.mapIdx fun i d => .tup [.int (i : Int), d]) := fun σ G S => by
  refine ⟨fun i => .tup [.int (i : Int), ds.getD i .non], ?_, fun i hi => ?_⟩
  · rw [List.length_mapIdx]
    exact src_enumL (h σ G S) hm hg hs
  · rw [List.length_mapIdx] at hi
    simp [List.getD_eq_getElem?_getD, hi]
end

/-! ### comprehensions -/
section
variable {X : Cx} {elt tg iter : Expr} {ifs : List Expr} {scope : Scope} {own : List (Str × Nat)} {δ : De} {items : List Da} {pos tpos : Pos}
theorem range_items {items : List Da} {item : Nat → Da} {p : Da → Bool} {f : Da → Da} (h : ∀ i, i < items.length → item i = items.getD i .non) :
    (((List.range items.length).filter fun i => p (item i)).map fun i => f (item i)) = (items.filter p).map f := by
  rw [← range_ds]
  have e1 : (List.range items.length).filter (fun i => p (item i)) = (List.range items.length).filter fun i => p (items.getD i .non) := List.filter_congr fun i hi => by rw [h i (List.mem_range.mp hi)]
  rw [e1]
  refine List.map_congr_left fun i hi => ?_
  rw [h i (List.mem_range.mp (List.mem_filter.mp hi).1)]
/-- [elt for x in iter if ..], x one name -/
theorem e_lc (i : Nat) {p : Da → Bool} {f : Da → Da} (hsrc : SrcE X tg iter δ items) (hz : items.length ≤ 100000) (hN : X.N.Nodup) (ok : BlkOk X.N X.env.scope scope own)
    (turn : ∀ x ∈ items, ∀ s0 H0 C cl fp, ETs (Blk X scope s0 H0 C cl fp) ifs ((wipeD δ (own.map (·.2))).set i (.kn x)) (p x) ∧ (p x = true → E (Blk X scope s0 H0 C cl fp) elt ((wipeD δ (own.map (·.2))).set i (.kn x)) (f x)))
    (hg : ∀ s0 H0 C cl fp, PG (Blk X scope s0 H0 C cl fp) tg (gName i)) (hi : i ∈ own.map (·.2) := by decide) (hc : X.calm = true := by rfl) (hs : ∀ x, foldedSetIterable iter X.env x = pure x := by intro _; rfl) :
    E X (.ListComp elt [⟨tg, iter, ifs, 0⟩] scope pos) δ (.lst ((items.filter p).map f)) := fun σ G S => by
  obtain ⟨item, hsr, hit⟩ := hsrc σ G S
  have w := ev_lc (elt := elt) (ifs := ifs) (pos := pos) (p := fun i => p (item i)) (f := fun i => f (item i)) hsr hz hc hN ok hg (fun j hj Gc x H e1 e2 hx Q q => ?_) hs
  · rw [range_items hit] at w
    exact w
  · show Q ((wipe σ (own.map (·.2))).set i (some x)) H
    refine q _ (by rw [wipe_in hi, wipe_idem]) fun s0 H0 C cl fp => ?_
    have hm : item j ∈ items := by
      rw [hit j hj, List.getD_eq_getElem?_getD, List.getElem?_eq_getElem hj]
      exact List.getElem_mem hj
    have S2 : StK (Blk X scope s0 H0 C cl fp).K Gc ((wipe σ (own.map (·.2))).set i (some x)) ((wipeD δ (own.map (·.2))).set i (.kn (item j))) := ((S.up e1).wipe _).set hx i
    exact ⟨(turn _ hm s0 H0 C cl fp).1 _ _ S2, fun hp => (turn _ hm s0 H0 C cl fp).2 hp _ _ S2⟩
/-- the items are tuples, the target a tuple of names -/
theorem e_lcT (js : List Nat) {p : Da → Bool} {f : Da → Da} (hsrc : SrcE X tg iter δ items) (hz : items.length ≤ 100000) (hN : X.N.Nodup) (ok : BlkOk X.N X.env.scope scope own)
    (turn : ∀ x ∈ items, ∃ ds, x = .tup ds ∧ ds.length = js.length ∧ ∀ s0 H0 C cl fp, ETs (Blk X scope s0 H0 C cl fp) ifs (setAllD (wipeD δ (own.map (·.2))) (js.zip ds)) (p x) ∧ (p x = true → E (Blk X scope s0 H0 C cl fp) elt (setAllD (wipeD δ (own.map (·.2))) (js.zip ds)) (f x)))
    (hg : ∀ s0 H0 C cl fp, PG (Blk X scope s0 H0 C cl fp) tg (gTup X.K js.length (gNames js))) (hi : ∀ i ∈ js, i ∈ own.map (·.2) := by decide) (hc : X.calm = true := by rfl) (hs : ∀ x, foldedSetIterable iter X.env x = pure x := by intro _; rfl) :
    E X (.ListComp elt [⟨tg, iter, ifs, 0⟩] scope pos) δ (.lst ((items.filter p).map f)) := fun σ G S => by
  obtain ⟨item, hsr, hit⟩ := hsrc σ G S
  have w := ev_lc (elt := elt) (ifs := ifs) (pos := pos) (p := fun i => p (item i)) (f := fun i => f (item i)) hsr hz hc hN ok hg (fun j hj Gc x H e1 e2 hx Q q => ?_) hs
  · rw [range_items hit] at w
    exact w
  · have hm : item j ∈ items := by
      rw [hit j hj, List.getD_eq_getElem?_getD, List.getElem?_eq_getElem hj]
      exact List.getElem_mem hj
    obtain ⟨ds, ed, hl, ht⟩ := turn _ hm
    rw [ed] at hx
    refine gTup_at hx e2 hl fun vs hvs => gNames_ok (by rw [hvs.len, hl]) ?_
    refine q _ (by rw [wipe_setAll hi, wipe_idem]) fun s0 H0 C cl fp => ?_
    have S2 : StK (Blk X scope s0 H0 C cl fp).K Gc (setAll (wipe σ (own.map (·.2))) (js.zip vs)) (setAllD (wipeD δ (own.map (·.2))) (js.zip ds)) := ((S.up e1).wipe _).setAll hvs hl.symm
    exact ⟨(ht s0 H0 C cl fp).1 _ _ S2, fun hp => (ht s0 H0 C cl fp).2 hp _ _ S2⟩
end
end Fs
set_option Elab.async false
set_option linter.all false
set_option maxRecDepth 100000
set_option maxHeartbeats 2000000
/-! Statements over a store of data, with own lists. -/
namespace Fs
open PySem PySem.Spec PyProof.Rows L2

structure Sto (K : PySem.W.Frag) (Hb G H : Hp) (σ : L2.St) (δ : De) : Prop where
  sk : StK K G σ δ
  ow : ∀ (i : Nat) (p : Addr) (ds : List Da), δ[i]? = some (Cl.ow p ds) → σ[i]? = some (some (.ref p)) ∧ Hb p = none ∧ G p = none ∧ ∃ xs, H p = some (.lst xs) ∧ AtL K G xs ds
  ap : ∀ (i j : Nat) (p q : Addr) (ds es : List Da), i ≠ j → δ[i]? = some (Cl.ow p ds) → δ[j]? = some (Cl.ow q es) → p ≠ q
mutual
def lf : Da → Bool
  | .lst _ => false
  | .exc => false
  | .tup ds => lfL ds
  | _ => true
def lfL : List Da → Bool
  | [] => true
  | d :: ds => lf d && lfL ds
end
theorem lfL_all : ∀ ds : List Da, lfL ds = ds.all lf
  | [] => by rw [lfL] <;> rfl
  | d :: ds => by rw [lfL, lfL_all ds] <;> rfl
section
variable {K : PySem.W.Frag} {G G' H : Hp}
mutual
theorem At.strip (h0 : ∀ a xs, G a = some (.tup xs) → G' a = some (.tup xs)) : ∀ (d : Da) {v : V}, lf d = true → At K G v d → At K G' v d
  | .non, _, _, h => by cases h; exact .non
  | .bl b, _, _, h => by cases h; exact .bl b
  | .int i, _, _, h => by cases h; exact .int i
  | .str x, _, _, h => by cases h; exact .str x
  | .lst ds, _, f, h => by rw [lf] at f; cases f
  | .tup ds, _, f, h => by
    cases h with
    | tup h1 h2 =>
      rw [lf] at f
      exact .tup (h0 _ _ h1) (AtL.strip h0 ds f h2)
  | .exc, _, f, h => by rw [lf] at f; cases f
theorem AtL.strip (h0 : ∀ a xs, G a = some (.tup xs) → G' a = some (.tup xs)) : ∀ (ds : List Da) {vs : List V}, lfL ds = true → AtL K G vs ds → AtL K G' vs ds
  | [], _, _, h => by cases h; exact .nil
  | d :: ds, _, f, h => by
    rw [lfL, Bool.and_eq_true] at f
    cases h with
    | cons h1 h2 => exact .cons (At.strip h0 d f.1 h1) (AtL.strip h0 ds f.2 h2)
end
end
theorem AtL.setAt {K : PySem.W.Frag} {G : Hp} {v : V} {d : Da} : ∀ {ds : List Da} {vs : List V} (m : Nat), AtL K G vs ds → At K G v d → AtL K G (vs.set m v) (ds.set m d)
  | _, _, _, .nil, _ => .nil
  | _, _, 0, .cons _ h2, h => .cons h h2
  | _, _, m + 1, .cons h1 h2, h => .cons h1 (h2.setAt m h)
theorem Grow.rebase {Gb Hb Gx Hx G3 H3 : Hp} (a : Grow Gb Hb Gx Hx) (b : Grow Gx Hb G3 H3) : Grow Gb Hb G3 H3 := ⟨b.hh, a.gg.trans b.gg, b.gh, fun x hx => by
  rcases b.fr x hx with h | h
  · exact a.fr x h
  · exact .inr h⟩
theorem Grow.start {Gb Hb Gx Hx : Hp} (a : Grow Gb Hb Gx Hx) : Grow Gx Hb Gx Hx := ⟨a.hh, Same.refl _, a.gh, fun _ h => .inl h⟩
def fz (δ : De) : De := δ.map fun c => match c with
  | .ow _ ds => .kn (.lst ds)
  | c => c
section
variable {K : PySem.W.Frag} {Gb Hb G G' G2 H H2 : Hp} {σ : L2.St} {δ : De} {d : Da} {ds : List Da} {v : V} {i : Nat} {p : Addr}
def Owned (δ : De) (a : Addr) : Prop := ∃ (i : Nat) (ds : List Da), δ[i]? = some (Cl.ow a ds)
theorem Sto.unk (S : Sto K Hb G H σ δ) {a : Addr} (h : Owned δ a) : Hb a = none ∧ G a = none ∧ ∃ xs, H a = some (.lst xs) := by
  obtain ⟨i, ds, e⟩ := h
  obtain ⟨_, h1, h2, xs, h3, _⟩ := S.ow i a ds e
  exact ⟨h1, h2, xs, h3⟩
/-- behind an expression -/
theorem Sto.up (S : Sto K Hb G H σ δ) (g : Grow G H G2 H2) : Sto K Hb G2 H2 σ δ := ⟨S.sk.up g.gg, fun i p ds e => by
  obtain ⟨h0, h1, h2, xs, h3, h4⟩ := S.ow i p ds e
  exact ⟨h0, h1, g.unk h2 (by rw [h3]; exact fun z => nomatch z), xs, g.keeps h3, h4.up g.gg⟩, S.ap⟩
theorem Sto.set (S : Sto K Hb G H σ δ) (h : At K G v d) (i : Nat) : Sto K Hb G H (σ.set i (some v)) (δ.set i (.kn d)) := ⟨S.sk.set h i, fun j p ds e => by
  rcases get_set e with ⟨rfl, e2, hl⟩ | ⟨hn, e2⟩
  · cases e2
  · obtain ⟨h0, h1⟩ := S.ow j p ds e2
    exact ⟨by rw [List.getElem?_set_ne hn]; exact h0, h1⟩, fun j l p q ds es hn e1 e2 => by
  rcases get_set e1 with ⟨rfl, e3, hl⟩ | ⟨hn1, e3⟩
  · cases e3
  · rcases get_set e2 with ⟨rfl, e4, hl⟩ | ⟨hn2, e4⟩
    · cases e4
    · exact S.ap j l p q ds es hn e3 e4⟩
/-- an own list, new -/
theorem Sto.setO (S : Sto K Hb G H σ δ) {xs : List V} (hb : Hb p = none) (hg : G p = none) (hh : H p = some (.lst xs)) (hx : AtL K G xs ds) (hq : ¬ Owned δ p) (i : Nat) : Sto K Hb G H (σ.set i (some (.ref p))) (δ.set i (.ow p ds)) := ⟨⟨by rw [List.length_set, List.length_set, S.sk.ln], fun j e h2 => by
    rcases get_set h2 with ⟨rfl, e2, hl⟩ | ⟨hn, h2⟩
    · cases e2
    · obtain ⟨u, h3, h4⟩ := S.sk.kn j e h2
      exact ⟨u, by rw [List.getElem?_set_ne hn]; exact h3, h4⟩⟩, fun j q es e => by
  rcases get_set e with ⟨rfl, e2, hl⟩ | ⟨hn, e2⟩
  · cases e2
    exact ⟨List.getElem?_set_self (by rw [S.sk.ln]; exact hl), hb, hg, xs, hh, hx⟩
  · obtain ⟨h0, h1⟩ := S.ow j q es e2
    exact ⟨by rw [List.getElem?_set_ne hn]; exact h0, h1⟩, fun j l q r ds es hn e1 e2 => by
  rcases get_set e1 with ⟨rfl, e3, hl⟩ | ⟨hn1, e3⟩
  · cases e3
    rcases get_set e2 with ⟨rfl, e4, hl⟩ | ⟨hn2, e4⟩
    · exact absurd rfl hn
    · exact fun e => hq ⟨l, es, by rw [e]; exact e4⟩
  · rcases get_set e2 with ⟨rfl, e4, hl⟩ | ⟨hn2, e4⟩
    · cases e4
      exact fun e => hq ⟨j, ds, by rw [← e]; exact e3⟩
    · exact S.ap j l q r ds es hn e3 e4⟩
/-- an own list changes -/
theorem Sto.chg (S : Sto K Hb G H σ δ) {es : List Da} {xs : List V} (h : δ[i]? = some (Cl.ow p es)) (hx : AtL K G xs ds) : Sto K Hb G (upd H p (.lst xs)) σ (δ.set i (.ow p ds)) := ⟨⟨by rw [List.length_set, S.sk.ln], fun j e h2 => by
    rcases get_set h2 with ⟨rfl, e2, hl⟩ | ⟨hn, h2⟩
    · cases e2
    · exact S.sk.kn j e h2⟩, fun j q es' e => by
  obtain ⟨h0, h1, h2, ys, h3, h4⟩ := S.ow i p es h
  rcases get_set e with ⟨rfl, e2, hl⟩ | ⟨hn, e2⟩
  · cases e2
    exact ⟨h0, h1, h2, xs, upd_same, hx⟩
  · obtain ⟨k0, k1, k2, ys, k3, k4⟩ := S.ow j q es' e2
    exact ⟨k0, k1, k2, ys, by rw [upd_ne fun e => S.ap i j p q es es' hn h e2 e.symm]; exact k3, k4⟩, fun j l q r ds' es' hn e1 e2 => by
  rcases get_set e1 with ⟨rfl, e3, hl⟩ | ⟨hn1, e3⟩
  · cases e3
    rcases get_set e2 with ⟨rfl, e4, hl⟩ | ⟨hn2, e4⟩
    · exact absurd rfl hn
    · exact S.ap i l p r es es' hn h e4
  · rcases get_set e2 with ⟨rfl, e4, hl⟩ | ⟨hn2, e4⟩
    · cases e4
      exact S.ap j i q p ds' es hn e3 h
    · exact S.ap j l q r ds' es' hn e3 e4⟩
theorem Grow.chgO (g : Grow Gb Hb G H) {o : HO} (hb : Hb p = none) (hg : G p = none) : Grow Gb Hb G (upd H p o) := g.chg hb hg
/-- an own list becomes known -/
theorem Sto.frz (S : Sto K Hb G H σ δ) (g : Grow Gb Hb G H) {es : List Da} (h : δ[i]? = some (Cl.ow p es)) : ∃ G', Grow Gb Hb G' H ∧ Sto K Hb G' H σ (δ.set i (.kn (.lst es))) := by
  obtain ⟨h0, h1, h2, xs, h3, h4⟩ := S.ow i p es h
  have gs : Same G (upd G p (.lst xs)) := fun b o z => by
    rw [upd_ne (ne_of_none z h2)]
    exact z
  refine ⟨upd G p (.lst xs), g.frz h1 h2 h3, ⟨S.sk.ln.trans (by rw [List.length_set]), fun j e q => ?_⟩, fun j q es' e => ?_, fun j l q r ds es' hn e1 e2 => ?_⟩
  · rcases get_set q with ⟨rfl, e2, hl⟩ | ⟨hn, q⟩
    · cases e2
      exact ⟨_, h0, .lst upd_same (h4.up gs)⟩
    · obtain ⟨u, k1, k2⟩ := S.sk.kn j e q
      exact ⟨u, k1, k2.up gs⟩
  · rcases get_set e with ⟨rfl, e2, hl⟩ | ⟨hn, e2⟩
    · cases e2
    · obtain ⟨k0, k1, k2, ys, k3, k4⟩ := S.ow j q es' e2
      exact ⟨k0, k1, by rw [upd_ne fun e => S.ap i j p q es es' hn h e2 e.symm]; exact k2, ys, k3, k4.up gs⟩
  · rcases get_set e1 with ⟨rfl, e3, hl⟩ | ⟨hn1, e3⟩
    · cases e3
    · rcases get_set e2 with ⟨rfl, e4, hl⟩ | ⟨hn2, e4⟩
      · cases e4
      · exact S.ap j l q r ds es' hn e3 e4
open Classical in
/-- all own lists read at once, for an expression -/
theorem Sto.fz (S : Sto K Hb G H σ δ) (g : Grow Gb Hb G H) : ∃ G', StK K G' σ (fz δ) ∧ Same G' H ∧ ∀ G2 H2, Grow G' H G2 H2 → ∃ Gn, Grow Gb Hb Gn H2 ∧ Sto K Hb Gn H2 σ δ ∧ Same G Gn ∧ (∀ a xs, G2 a = some (.tup xs) → Gn a = some (.tup xs)) := by
  have gs : Same G (fun a => if Owned δ a then H a else G a) := fun b o z => by
    show (if Owned δ b then H b else G b) = some o
    rw [if_neg fun q => by rw [(S.unk q).2.1] at z; cases z]
    exact z
  refine ⟨fun a => if Owned δ a then H a else G a, ⟨?_, fun i d h => ?_⟩, fun b o z => ?_, fun G2 H2 g2 => ⟨fun a => if Owned δ a then none else G2 a, ⟨g.hh.trans g2.hh, fun b o z => ?_, fun b o z => ?_, fun b hb => ?_⟩, ⟨S.sk.up ?_, fun i p ds e => ?_, S.ap⟩, ?_, fun a xs z => ?_⟩⟩
  · unfold Fs.fz
    rw [List.length_map]
    exact S.sk.ln
  · unfold Fs.fz at h
    rw [List.getElem?_map] at h
    cases e : δ[i]? with
    | none => rw [e] at h; cases h
    | some c =>
      rw [e] at h
      cases c with
      | no => cases h
      | kn e' =>
        cases h
        obtain ⟨v, h1, h2⟩ := S.sk.kn i _ e
        exact ⟨v, h1, h2.up gs⟩
      | ow p es =>
        cases h
        obtain ⟨h0, h1, h2, xs, h3, h4⟩ := S.ow i p es e
        refine ⟨_, h0, .lst ?_ (h4.up gs)⟩
        show (if Owned δ p then H p else G p) = _
        rw [if_pos ⟨i, es, e⟩]
        exact h3
  · have z' : (if Owned δ b then H b else G b) = some o := z
    split at z'
    · exact z'
    · exact g.gh b o z'
  · show (if Owned δ b then none else G2 b) = some o
    have z1 := g.gg b o z
    rw [if_neg fun q => by rw [(S.unk q).2.1] at z1; cases z1]
    exact g2.gg b o (gs b o z1)
  · have z' : (if Owned δ b then none else G2 b) = some o := z
    split at z'
    · cases z'
    · exact g2.gh b o z'
  · have hb' : (if Owned δ b then none else G2 b) ≠ none := hb
    by_cases q : Owned δ b
    · rw [if_pos q] at hb'
      exact absurd rfl hb'
    · rw [if_neg q] at hb'
      rcases g2.fr b hb' with h | h
      · have h' : (if Owned δ b then H b else G b) ≠ none := h
        rw [if_neg q] at h'
        exact g.fr b h'
      · exact .inr (Same.free g.hh h)
  · intro b o z
    show (if Owned δ b then none else G2 b) = some o
    rw [if_neg fun q => by rw [(S.unk q).2.1] at z; cases z]
    exact g2.gg b o (gs b o z)
  · obtain ⟨h0, h1, h2, xs, h3, h4⟩ := S.ow i p ds e
    refine ⟨h0, h1, if_pos ⟨i, ds, e⟩, xs, g2.keeps h3, h4.up fun b o z => ?_⟩
    show (if Owned δ b then none else G2 b) = some o
    rw [if_neg fun q => by rw [(S.unk q).2.1] at z; cases z]
    exact g2.gg b o (gs b o z)
  · intro b o z
    show (if Owned δ b then none else G2 b) = some o
    rw [if_neg fun q => by rw [(S.unk q).2.1] at z; cases z]
    exact g2.gg b o (gs b o z)
  · show (if Owned δ a then none else G2 a) = _
    rw [if_neg fun q => by
      obtain ⟨_, _, ys, h3⟩ := S.unk q
      have h4 := g2.keeps h3
      rw [g2.gh a _ z] at h4
      cases h4]
    exact z
end

/-! ### statements -/
structure Post where
  nx : De → Prop
  rt : De → Da → Prop
def S (X : Cx) (sts : List Stmt) (δ : De) (O : Post) : Prop := ∀ Gb Hb σ G H (D : Ends), Grow Gb Hb G H → Sto X.K Hb G H σ δ →
  (∀ δ' σ' G' H', O.nx δ' → Grow Gb Hb G' H' → Sto X.K Hb G' H' σ' δ' → D.nx σ' H') →
  (∀ δ' d σ' v G' H', O.rt δ' d → Grow Gb Hb G' H' → Sto X.K Hb G' H' σ' δ' → At X.K G' v d → D.rt v H') → WSs X sts D σ H
/-- an expression that makes a list of its own -/
def EO (X : Cx) (e : Expr) (δ : De) (ds : List Da) : Prop := ∀ σ G, StK X.K G σ δ → ∀ H1, Same G H1 → ∀ Q : VK, (∀ p xs G2 H2, Grow G H1 G2 H2 → G2 p = none → H1 p = none → H2 p = some (.lst xs) → AtL X.K G2 xs ds → Q (.ref p) H2) → WE X e σ H1 Q
section
variable {X : Cx} {a b c e : Expr} {es : List Expr} {st : Stmt} {rest body : List Stmt} {δ : De} {d d1 d2 : Da} {ds ds1 ds2 items : List Da} {pos p2 pt : Pos} {x y : Str} {O : Post} {i j : Nat}
theorem o_lst (h : EA X es δ ds) (hz : ds.length ≤ 100000) : EO X (.List es pos) δ ds := fun σ G St H1 e1 Q q =>
  we_of (pe_lst WA.pa) (h σ G St H1 e1 _ fun vs G2 H2 g hvs => ⟨by rw [hvs.len]; exact Nat.le_trans hz (by decide), fun p hp =>
    q p vs G2 _ (g.trans (Grow.own g.gh hp)) (Same.free g.gh hp) (g.free hp) upd_same hvs⟩)
theorem o_cat (ha : E X a δ (.lst ds1)) (hb : E X b δ (.lst ds2)) (hz : ds1.length + ds2.length ≤ 100000) : EO X (.BinOp a .Add b pos) δ (ds1 ++ ds2) := fun σ G St H1 e1 Q q =>
  we_of (pe_op op_cat WE.pe WE.pe) (ha σ G St H1 e1 _ fun v G2 H2 g2 hv => ((hb σ G St).up g2.gg) H2 g2.gh _ fun u G3 H3 g3 hu => by
    cases hv with
    | @lst pa xs _ h1 h2 =>
      cases hu with
      | @lst pb ys _ k1 k2 =>
        refine ⟨pa, pb, xs, ys, rfl, rfl, g3.gh _ _ (g3.gg _ _ h1), g3.gh _ _ k1, by rw [h2.len, k2.len]; exact Nat.le_trans hz (by decide), fun p hp => ?_⟩
        exact q p (xs ++ ys) G3 _ ((g2.trans g3).trans (Grow.own g3.gh hp)) (Same.free g3.gh hp) ((g2.trans g3).free hp) upd_same ((h2.up g3.gg).app k2))
/-- list(e) -/
theorem o_list {p : Pos} (h : E X e δ d) (hd : d = .tup ds ∨ d = .lst ds) (hm : X.mg "list" = none) (hg : Gl X "list" := by rfl) (he : starEach [e] X.env = (false, eval e X.env) :: starEach [] X.env := by rfl) (hpl : (backTo pos (starEach [] X.env)).any (·.1) = false := by rfl) : EO X (.Call (.Name "list" p) [e] [] pos) δ ds := fun σ G St H1 e1 Q q =>
  we_of (pe_callTy call_list_of hg hm (by decide +kernel) WA.pa (by decide) (by decide) he hpl) (ea_cons (h σ G St) ea_nil he H1 e1 _ fun vs G2 H2 g hvs => by
    cases hvs with
    | cons h1 h2 =>
      cases h2
      rcases hd with rfl | rfl
      · cases h1 with
        | @tup a ws _ a1 a2 => exact ⟨a, ws, rfl, .inr (Same.sqT g.gh a1), fun l hl => q l ws G2 _ (g.trans (Grow.own g.gh hl)) (Same.free g.gh hl) (g.free hl) upd_same a2⟩
      · cases h1 with
        | @lst a ws _ a1 a2 => exact ⟨a, ws, rfl, .inl (Same.sqL g.gh a1), fun l hl => q l ws G2 _ (g.trans (Grow.own g.gh hl)) (Same.free g.gh hl) (g.free hl) upd_same a2⟩)

theorem s_nil (h : O.nx δ) : S X [] δ O := fun Gb Hb σ G H D g St n r => sts_nil (n δ σ G H h g St)
/-- an own list becomes known for good -/
theorem s_fz (i : Nat) {p : Addr} (h : δ[i]? = some (Cl.ow p ds)) (k : S X rest (δ.set i (.kn (.lst ds))) O) : S X rest δ O := fun Gb Hb σ G H D g St n r => by
  obtain ⟨G', g', S'⟩ := St.frz g h
  exact k Gb Hb σ G' H D g' S' n r
theorem s_ret (h : E X e δ d) (hO : O.rt δ d) : S X (.Return (some e) pos :: rest) δ O := fun Gb Hb σ G H D g St n r =>
  sts_cons (ws_ret (h σ G St.sk) g.gh fun v G2 H2 g2 hv => r δ d σ v G2 H2 hO (g.trans g2) (St.up g2) hv)
/-- return e, e reads own lists -/
theorem s_retF (h : E X e (fz δ) d) (hd : lf d = true) (hO : O.rt δ d) : S X (.Return (some e) pos :: rest) δ O := fun Gb Hb σ G H D g St n r => by
  obtain ⟨G', sk, s1, k⟩ := St.fz g
  refine sts_cons (ws_ret (h σ G' sk) s1 fun v G2 H2 g2 hv => ?_)
  obtain ⟨Gn, g3, S3, s3, st⟩ := k G2 H2 g2
  exact r δ d σ v Gn H2 hO g3 S3 (At.strip st d hd hv)
theorem s_if {k : Bool} {as bs : List Stmt} (h : EB X c (fz δ) k) (h1 : k = true → S X as δ ⟨fun δ' => S X rest δ' O, O.rt⟩) (h2 : k = false → S X bs δ ⟨fun δ' => S X rest δ' O, O.rt⟩) : S X (.If c as bs pos :: rest) δ O := fun Gb Hb σ G H D g St n r => by
  obtain ⟨G', sk, s1, kk⟩ := St.fz g
  refine sts_cons (ws_if (h σ G' sk) s1 (fun e G2 H2 g2 => ?_) fun e G2 H2 g2 => ?_)
  · obtain ⟨Gn, g3, S3, s3, st⟩ := kk G2 H2 g2
    exact h1 e Gb Hb σ Gn H2 _ g3 S3 (fun δ' σ' G' H' q g' S' => q Gb Hb σ' G' H' D g' S' n r) r
  · obtain ⟨Gn, g3, S3, s3, st⟩ := kk G2 H2 g2
    exact h2 e Gb Hb σ Gn H2 _ g3 S3 (fun δ' σ' G' H' q g' S' => q Gb Hb σ' G' H' D g' S' n r) r
theorem s_set (i : Nat) (h : E X e δ d) (hN : X.N.Nodup) (k : S X rest (δ.set i (.kn d)) O) (hi : X.N[i]? = some x := by rfl) (hx : Loc X.env.scope x := by first | exact Or.inl rfl | exact Or.inr rfl)
    (hs : swapsWith e (some (.Name x p2)) pos.line X.env = pure false := by rfl) (hf : X.fn x = true ∨ X.env.scope.names.lookup x = some .local := by first | exact .inl rfl | exact .inr rfl | assumption) : S X (.Assign [.Name x p2] e pos :: rest) δ O := fun Gb Hb σ G H D g St n r =>
  sts_cons (ws_set (h σ G St.sk) g.gh hN hi hx (fun v G2 H2 g2 hv => k Gb Hb _ G2 H2 D (g.trans g2) ((St.up g2).set hv i) n r) hs hf)
/-- x = e, e reads own lists -/
theorem s_setF (i : Nat) (h : E X e (fz δ) d) (hd : lf d = true) (hN : X.N.Nodup) (k : S X rest (δ.set i (.kn d)) O) (hi : X.N[i]? = some x := by rfl) (hx : Loc X.env.scope x := by first | exact Or.inl rfl | exact Or.inr rfl)
    (hs : swapsWith e (some (.Name x p2)) pos.line X.env = pure false := by rfl) (hf : X.fn x = true ∨ X.env.scope.names.lookup x = some .local := by first | exact .inl rfl | exact .inr rfl | assumption) : S X (.Assign [.Name x p2] e pos :: rest) δ O := fun Gb Hb σ G H D g St n r => by
  obtain ⟨G', sk, s1, kk⟩ := St.fz g
  refine sts_cons (ws_set (h σ G' sk) s1 hN hi hx (fun v G2 H2 g2 hv => ?_) hs hf)
  obtain ⟨Gn, g3, S3, s3, st⟩ := kk G2 H2 g2
  exact k Gb Hb _ Gn H2 D g3 (S3.set (At.strip st d hd hv) i) n r
/-- x = [..], own -/
theorem s_setO (i : Nat) (h : EO X e δ ds) (hN : X.N.Nodup) (k : ∀ p, S X rest (δ.set i (.ow p ds)) O) (hi : X.N[i]? = some x := by rfl) (hx : Loc X.env.scope x := by first | exact Or.inl rfl | exact Or.inr rfl)
    (hs : swapsWith e (some (.Name x p2)) pos.line X.env = pure false := by rfl) (hf : X.fn x = true ∨ X.env.scope.names.lookup x = some .local := by first | exact .inl rfl | exact .inr rfl | assumption) : S X (.Assign [.Name x p2] e pos :: rest) δ O := fun Gb Hb σ G H D g St n r =>
  sts_cons (ws_setW hN hi hx (h σ G St.sk H g.gh _ fun p xs G2 H2 g2 z1 z2 z3 z4 => k p Gb Hb _ G2 H2 D (g.trans g2) ((St.up g2).setO (g.free z2) z1 z3 z4 (fun ⟨j, es, e⟩ => by
    obtain ⟨_, _, _, ys, q, _⟩ := St.ow j p es e
    rw [z2] at q
    cases q) i) n r) hs hf)
/-- the expression's value is dropped -/
theorem s_drop (h : E X e δ d) (k : S X rest δ O) (hs : swapsWith e none pos.line X.env = pure false := by rfl) : S X (.Expr e pos :: rest) δ O := fun Gb Hb σ G H D g St n r =>
  sts_cons (ws_drop (h σ G St.sk H g.gh _ fun v G2 H2 g2 hv => k Gb Hb σ G2 H2 D (g.trans g2) (St.up g2) n r) hs)
/-- x, y = a, b, plain locals -/
theorem s_par (i j : Nat) {px py : Pos} {kt k2 pt2} (h : EA X [a, b] δ [d1, d2]) (hN : X.N.Nodup) (k : S X rest ((δ.set i (.kn d1)).set j (.kn d2)) O) (hc : X.calm = true := by rfl) (hi : X.N[i]? = some x := by rfl) (hj : X.N[j]? = some y := by rfl) (hij : i ≠ j := by decide)
    (hx : X.env.scope.names.lookup x = some .local := by rfl) (hy : X.env.scope.names.lookup y = some .local := by rfl) (hw : swappedStores [.Tuple [.Name x px, .Name y py] kt pt] (.Tuple [a, b] k2 pt2) X.env = pure (some [x, y]) := by rfl)
    (hs : swapsWithSole [.Tuple [.Name x px, .Name y py] kt pt] (.Tuple [a, b] k2 pt2) pos.line X.env = pure false := by rfl) : S X (.Assign [.Tuple [.Name x px, .Name y py] kt pt] (.Tuple [a, b] k2 pt2) pos :: rest) δ O := fun Gb Hb σ G H D g St n r =>
  sts_cons (ws_of (ps_par hc hN hi hj hij hx hy WA.pa hw hs) (h σ G St.sk H g.gh _ fun vs G2 H2 g2 hvs => by
    cases hvs with
    | cons h1 h2 =>
      cases h2 with
      | cons h2 h3 =>
        cases h3
        exact ⟨_, _, rfl, k Gb Hb _ G2 H2 D (g.trans g2) (((St.up g2).set h1 i).set h2 j) n r⟩))
/-- x, y = [..], [..], both own -/
theorem s_parO (i j : Nat) {px py : Pos} {kt k2 pt2} (h1 : EO X a δ ds1) (h2 : EO X b δ ds2) (hN : X.N.Nodup) (k : ∀ p q, S X rest ((δ.set i (.ow p ds1)).set j (.ow q ds2)) O) (hc : X.calm = true := by rfl) (hi : X.N[i]? = some x := by rfl) (hj : X.N[j]? = some y := by rfl) (hij : i ≠ j := by decide)
    (hx : X.env.scope.names.lookup x = some .local := by rfl) (hy : X.env.scope.names.lookup y = some .local := by rfl) (hw : swappedStores [.Tuple [.Name x px, .Name y py] kt pt] (.Tuple [a, b] k2 pt2) X.env = pure (some [x, y]) := by rfl)
    (hs : swapsWithSole [.Tuple [.Name x px, .Name y py] kt pt] (.Tuple [a, b] k2 pt2) pos.line X.env = pure false := by rfl)
    (he1 : starEach [a, b] X.env = (false, eval a X.env) :: starEach [b] X.env := by rfl) (he2 : starEach [b] X.env = (false, eval b X.env) :: starEach [] X.env := by rfl) : S X (.Assign [.Tuple [.Name x px, .Name y py] kt pt] (.Tuple [a, b] k2 pt2) pos :: rest) δ O := fun Gb Hb σ G H D g St n r =>
  sts_cons (ws_of (ps_par hc hN hi hj hij hx hy (pa_cons WE.pe (pa_cons WE.pe pa_nil he2) he1) hw hs) (h1 σ G St.sk H g.gh _ fun p xs G2 H2 g2 z1 z2 z3 z4 => h2 σ G2 (St.sk.up g2.gg) H2 g2.gh _ fun q ys G3 H3 g3 w1 w2 w3 w4 => by
    have no1 : ¬ Owned δ p := fun ⟨l, es, e⟩ => by
      obtain ⟨_, _, _, us, q, _⟩ := St.ow l p es e
      rw [z2] at q
      cases q
    have S1 := (St.up g2).setO (i := i) (g.free z2) z1 z3 z4 no1
    have hpq : q ≠ p := fun e => by
      rw [e, z3] at w2
      cases w2
    have no2 : ¬ Owned (δ.set i (.ow p ds1)) q := fun ⟨l, es, e⟩ => by
      obtain ⟨_, _, _, us, q', _⟩ := S1.ow l q es e
      rw [w2] at q'
      cases q'
    exact ⟨_, _, rfl, k p q Gb Hb _ G3 H3 D ((g.trans g2).trans g3) ((S1.up g3).setO (i := j) ((g.trans g2).free w2) w1 w3 w4 no2) n r⟩))
/-- x, y, .. = e, a tuple's items -/
theorem s_tup (js : List Nat) {tg : Expr} (h : E X e δ (.tup ds)) (hl : ds.length = js.length) (hg : PG X tg (gTup X.K js.length (gNames js))) (k : S X rest (setAllD δ (js.zip ds)) O)
    (hs : swapsWithSole [tg] e pos.line X.env = pure false := by rfl) (hw : swappedStores [tg] e X.env = pure none := by rfl) (h1 : (assignEach [tg] X.env).map (·.2) = [assign tg X.env] := by rfl) : S X (.Assign [tg] e pos :: rest) δ O := fun Gb Hb σ G H D g St n r =>
  sts_cons (ws_asg (h σ G St.sk) g.gh hg (fun v G2 H2 g2 hv => gTup_at hv g2.gh hl fun vs hvs => gNames_ok (by rw [hvs.len, hl]) (by
    have key : ∀ (js : List Nat) (vs : List V) (ds : List Da) (σ : L2.St) (δ : De), Sto X.K Hb G2 H2 σ δ → AtL X.K G2 vs ds → Sto X.K Hb G2 H2 (setAll σ (js.zip vs)) (setAllD δ (js.zip ds)) := by
      intro js
      induction js with
      | nil => intro _ _ _ _ h _; exact h
      | cons j js ih =>
        intro vs ds σ δ h ha
        cases ha with
        | nil => exact h
        | cons a1 a2 => exact ih _ _ _ _ (h.set a1 j) a2
    exact k Gb Hb _ G2 H2 D (g.trans g2) (key js vs ds σ δ (St.up g2) hvs) n r)) hs hw h1)
/-- x, y, .. = e, a list's items -/
theorem s_unl (js : List Nat) {tg : Expr} (h : E X e δ (.lst ds)) (hl : ds.length = js.length) (hg : PG X tg (gUnl X.K js.length (gNames js))) (k : S X rest (setAllD δ (js.zip ds)) O)
    (hs : swapsWithSole [tg] e pos.line X.env = pure false := by rfl) (hw : swappedStores [tg] e X.env = pure none := by rfl) (h1 : (assignEach [tg] X.env).map (·.2) = [assign tg X.env] := by rfl) : S X (.Assign [tg] e pos :: rest) δ O := fun Gb Hb σ G H D g St n r =>
  sts_cons (ws_asg (h σ G St.sk) g.gh hg (fun v G2 H2 g2 hv => gUnl_at hv g2.gh hl fun vs hvs => gNames_ok (by rw [hvs.len, hl]) (by
    have key : ∀ (js : List Nat) (vs : List V) (ds : List Da) (σ : L2.St) (δ : De), Sto X.K Hb G2 H2 σ δ → AtL X.K G2 vs ds → Sto X.K Hb G2 H2 (setAll σ (js.zip vs)) (setAllD δ (js.zip ds)) := by
      intro js
      induction js with
      | nil => intro _ _ _ _ h _; exact h
      | cons j js ih =>
        intro vs ds σ δ h ha
        cases ha with
        | nil => exact h
        | cons a1 a2 => exact ih _ _ _ _ (h.set a1 j) a2
    exact k Gb Hb _ G2 H2 D (g.trans g2) (key js vs ds σ δ (St.up g2) hvs) n r)) hs hw h1)
/-- x.append(e) -/
theorem s_app (i : Nat) {p : Addr} {p3 p4 p5 : Pos} (ho : δ[i]? = some (Cl.ow p ds)) (h : E X e (fz δ) d) (hd : lf d = true) (hz : ds.length < 100000) (k : S X rest (δ.set i (.ow p (ds ++ [d]))) O) (hN : X.N[i]? = some x := by rfl)
    (hv : Vis X.env.scope x := by first | exact Or.inl rfl | exact Or.inr (Or.inl rfl) | exact Or.inr (Or.inr rfl)) (hs : swapsWith (.Call (.Attribute (.Name x p3) "append" p4) [e] [] p5) none pos.line X.env = pure false := by rfl) (hd1 : (x == ("__debug__" : Str)) = false := by decide) (hcd : (x == ("__classdict__" : Str)) = false := by decide)
    (hbase : attributeBase (.Name x p3) "append" X.env (eval (.Name x p3) X.env) = eval (.Name x p3) X.env := by rfl)
    (hfew : ((backTo p5 (starEach [e] X.env)).all (fun x => !x.1) && (backToKw p5 (keywordEach [] X.env)).all (fun x => x.1.isSome) && decide (([e]).length + ([] : List Keyword).length + (if ([] : List Keyword).isEmpty then 0 else 1) < 30)) = true := by rfl)
    (hline : (p4.endLine == p5.line) = true := by rfl) (hse : starEach [e] X.env = (false, eval e X.env) :: starEach [] X.env := by rfl) (hpl : (backTo p5 (starEach [] X.env)).any (·.1) = false := by rfl) : S X (.Expr (.Call (.Attribute (.Name x p3) "append" p4) [e] [] p5) pos :: rest) δ O := fun Gb Hb σ G H D g St n r => by
  obtain ⟨h0, h1, h2, xs, h3, h4⟩ := St.ow i p ds ho
  obtain ⟨G', sk, s1, kk⟩ := St.fz g
  refine sts_cons (ws_drop (we_of (pe_bm PySem.F.plainAttrs_list PySem.F.slot_list_append PySem.F.type_list_append mt_append (pe_var hN hv hd1 hcd) (pa_cons WE.pe pa_nil hse) hbase hfew hline hse hpl) ?_) hs)
  refine ⟨_, h0, ?_, h σ G' sk H s1 _ fun v G2 H2 g2 hv => ?_⟩
  · exact .inl ⟨rfl, xs, SqL.of h3⟩
  · obtain ⟨Gn, g3, S3, s3, st⟩ := kk G2 H2 g2
    obtain ⟨_, _, k2, xs2, k3, k4⟩ := S3.ow i p ds ho
    refine ⟨p, xs2, v, rfl, rfl, k3, by rw [k4.len]; exact Nat.lt_of_lt_of_le hz (by decide), ?_⟩
    exact k Gb Hb σ Gn _ D (g3.chgO h1 k2) (S3.chg ho (k4.snoc (At.strip st d hd hv))) n r
/-- x.extend(e) -/
theorem s_ext (i : Nat) {p : Addr} {p3 p4 p5 : Pos} {es : List Da} (ho : δ[i]? = some (Cl.ow p ds)) (h : E X e (fz δ) (.lst es)) (hd : lfL es = true) (hz : ds.length + es.length ≤ 100000) (k : S X rest (δ.set i (.ow p (ds ++ es))) O) (hN : X.N[i]? = some x := by rfl)
    (hv : Vis X.env.scope x := by first | exact Or.inl rfl | exact Or.inr (Or.inl rfl) | exact Or.inr (Or.inr rfl)) (hs : swapsWith (.Call (.Attribute (.Name x p3) "extend" p4) [e] [] p5) none pos.line X.env = pure false := by rfl) (hd1 : (x == ("__debug__" : Str)) = false := by decide) (hcd : (x == ("__classdict__" : Str)) = false := by decide)
    (hbase : attributeBase (.Name x p3) "extend" X.env (eval (.Name x p3) X.env) = eval (.Name x p3) X.env := by rfl)
    (hfew : ((backTo p5 (starEach [e] X.env)).all (fun x => !x.1) && (backToKw p5 (keywordEach [] X.env)).all (fun x => x.1.isSome) && decide (([e]).length + ([] : List Keyword).length + (if ([] : List Keyword).isEmpty then 0 else 1) < 30)) = true := by rfl)
    (hline : (p4.endLine == p5.line) = true := by rfl) (hse : starEach [e] X.env = (false, eval e X.env) :: starEach [] X.env := by rfl) (hpl : (backTo p5 (starEach [] X.env)).any (·.1) = false := by rfl) : S X (.Expr (.Call (.Attribute (.Name x p3) "extend" p4) [e] [] p5) pos :: rest) δ O := fun Gb Hb σ G H D g St n r => by
  obtain ⟨h0, h1, h2, xs, h3, h4⟩ := St.ow i p ds ho
  obtain ⟨G', sk, s1, kk⟩ := St.fz g
  refine sts_cons (ws_drop (we_of (pe_bm PySem.F.plainAttrs_list PySem.F.slot_list_extend PySem.F.type_list_extend mt_extend (pe_var hN hv hd1 hcd) (pa_cons WE.pe pa_nil hse) hbase hfew hline hse hpl) ?_) hs)
  refine ⟨_, h0, ?_, h σ G' sk H s1 _ fun v G2 H2 g2 hv => ?_⟩
  · exact .inl ⟨rfl, xs, SqL.of h3⟩
  · obtain ⟨Gn, g3, S3, s3, st⟩ := kk G2 H2 g2
    obtain ⟨_, _, k2, xs2, k3, k4⟩ := S3.ow i p ds ho
    cases hv with
    | @lst b ys _ b1 b2 =>
      refine ⟨p, b, xs2, ys, rfl, rfl, k3, g2.gh _ _ b1, by rw [k4.len, b2.len]; exact Nat.le_trans hz (by decide), ?_⟩
      exact k Gb Hb σ Gn _ D (g3.chgO h1 k2) (S3.chg ho (k4.app (AtL.strip st es hd b2))) n r
/-- y = x.pop() -/
theorem s_pop (i j : Nat) {p : Addr} {p3 p4 p5 : Pos} (ho : δ[i]? = some (Cl.ow p (ds ++ [d]))) (hNd : X.N.Nodup) (k : S X rest ((δ.set i (.ow p ds)).set j (.kn d)) O) (hN : X.N[i]? = some x := by rfl) (hNj : X.N[j]? = some y := by rfl)
    (hv : Vis X.env.scope x := by first | exact Or.inl rfl | exact Or.inr (Or.inl rfl) | exact Or.inr (Or.inr rfl)) (hy : Loc X.env.scope y := by first | exact Or.inl rfl | exact Or.inr rfl) (hs : swapsWith (.Call (.Attribute (.Name x p3) "pop" p4) [] [] p5) (some (.Name y p2)) pos.line X.env = pure false := by rfl) (hd1 : (x == ("__debug__" : Str)) = false := by decide) (hcd : (x == ("__classdict__" : Str)) = false := by decide)
    (hf : X.fn y = true ∨ X.env.scope.names.lookup y = some .local := by first | exact .inl rfl | exact .inr rfl | assumption)
    (hbase : attributeBase (.Name x p3) "pop" X.env (eval (.Name x p3) X.env) = eval (.Name x p3) X.env := by rfl)
    (hline : (p4.endLine == p5.line) = true := by rfl) : S X (.Assign [.Name y p2] (.Call (.Attribute (.Name x p3) "pop" p4) [] [] p5) pos :: rest) δ O := fun Gb Hb σ G H D g St n r => by
  obtain ⟨h0, h1, h2, xs, h3, h4⟩ := St.ow i p _ ho
  refine sts_cons (ws_setW hNd hNj hy (we_of (pe_bm0 PySem.F.plainAttrs_list PySem.F.slot_list_pop PySem.F.type_list_pop mt_pop (pe_var hN hv hd1 hcd) hbase hline) ?_) hs hf)
  refine ⟨_, h0, ?_, ?_⟩
  · exact .inl ⟨rfl, xs, SqL.of h3⟩
  · have hl := h4.len
    rw [List.length_append] at hl
    have hl' : xs.length - 1 = ds.length := by simp at hl; omega
    obtain ⟨v, e1, hv1⟩ := h4.get (i := ds.length) (d := d) (by simp)
    refine ⟨p, xs, v, rfl, rfl, h3, by rw [hl']; exact e1, ?_⟩
    have hx : AtL X.K G xs.dropLast ds := by
      have t := h4.take ds.length
      rw [List.take_left] at t
      rw [List.dropLast_eq_take, hl']
      exact t
    exact k Gb Hb _ G _ D (g.chgO h1 h2) ((St.chg ho hx).set (v := v) (by exact hv1) j) n r
/-- x[b] = e, x an own list -/
theorem s_setIx (i : Nat) (m : Nat) {p : Addr} {p3 p4 : Pos} {iv : Int} (ho : δ[i]? = some (Cl.ow p ds)) (h : E X e (fz δ) d) (hd : lf d = true) (hb : E X b (fz δ) (.int iv)) (hiv : iv = (m : Int)) (hm : m < ds.length) (k : S X rest (δ.set i (.ow p (ds.set m d))) O) (hN : X.N[i]? = some x := by rfl)
    (hv : Vis X.env.scope x := by first | exact Or.inl rfl | exact Or.inr (Or.inl rfl) | exact Or.inr (Or.inr rfl)) (hd1 : (x == ("__debug__" : Str)) = false := by decide) (hcd : (x == ("__classdict__" : Str)) = false := by decide)
    (ha : ∀ v, assign (.Subscript (.Name x p3) b p4) X.env v = (do
      let ov ← holding [v] (eval (.Name x p3) X.env)
      let iv ← holding [v, ov] (eval b X.env)
      standAt p4
      holding [v, ov, iv] (setItem ov iv v)
      release [v, ov, iv] []) := by intro _; rfl)
    (hs : swapsWithSole [.Subscript (.Name x p3) b p4] e pos.line X.env = pure false := by rfl) (hw : swappedStores [.Subscript (.Name x p3) b p4] e X.env = pure none := by rfl)
    (h1 : (assignEach [.Subscript (.Name x p3) b p4] X.env).map (·.2) = [assign (.Subscript (.Name x p3) b p4) X.env] := by rfl) : S X (.Assign [.Subscript (.Name x p3) b p4] e pos :: rest) δ O := fun Gb Hb σ G H D g St n r => by
  obtain ⟨h0, z1, z2, xs, z3, z4⟩ := St.ow i p ds ho
  obtain ⟨G', sk, s1, kk⟩ := St.fz g
  refine sts_cons (ws_of (ps_asg WE.pe (pg_sub (pe_var hN hv hd1 hcd) WE.pe set_list ha) hs hw h1) ?_)
  refine h σ G' sk H s1 _ fun v G2 H2 g2 hv => ⟨_, h0, ?_⟩
  refine hb σ G2 (sk.up g2.gg) H2 g2.gh _ fun u G3 H3 g3 hu => ?_
  cases hu
  obtain ⟨Gn, g4, S4, s4, st⟩ := kk G3 H3 (g2.trans g3)
  obtain ⟨_, _, k2, xs2, k3, k4⟩ := S4.ow i p ds ho
  subst hiv
  refine ⟨p, xs2, (m : Int), m, rfl, rfl, k3, ?_, ?_⟩
  · have hl : m < xs2.length := by rw [k4.len]; exact hm
    unfold ixN
    simp [hl]
  · have hx : AtL X.K Gn (xs2.set m v) (ds.set m d) := k4.setAt m (At.strip st d hd (hv.up g3.gg))
    exact k Gb Hb σ Gn _ D (g4.chgO z1 k2) (S4.chg ho hx) n r
/-- for x in iter: body -/
theorem s_for (i : Nat) {iter : Expr} (hsrc : SrcE X (.Name x p2) iter δ items) (hN : X.N.Nodup) (hp : PassesOwn (model X.prog X.w) X.A X.env X.xe) (I : Nat → De → Prop) (h0 : I 0 δ)
    (turn : ∀ j y δ', items[j]? = some y → I j δ' → S X body (δ'.set i (.kn y)) ⟨I (j + 1), O.rt⟩) (k : ∀ δ', I items.length δ' → S X rest δ' O)
    (hi : X.N[i]? = some x := by rfl) (hx : Loc X.env.scope x := by first | exact Or.inl rfl | exact Or.inr rfl) (hc : X.calm = true := by rfl) (hf : X.fn x = true ∨ X.env.scope.names.lookup x = some .local := by first | exact .inl rfl | exact .inr rfl | assumption) (hs : ∀ x, foldedSetIterable iter X.env x = pure x := by intro _; rfl) : S X (.For (.Name x p2) iter body [] pos :: rest) δ O := fun Gb Hb σ G H D g St n r => by
  obtain ⟨item, hsr, hit⟩ := hsrc σ G St.sk
  refine sts_cons (ws_for (g := gName i) hsr g.gh hp hc (pg_name hN hi hx hf) (fun j σ' Gc H' => ∃ δ', I j δ' ∧ Grow Gb Hb Gc H' ∧ Sto X.K Hb Gc H' σ' δ') (fun G2 H2 g2 => ⟨δ, h0, g.trans g2, St.up g2⟩) (fun j σ' Gc H' x' Gx Hx N hj hP _ gx hx' kN => ?_) (fun σ' Gc H' hP _ => ?_) hs)
  · obtain ⟨δ', hI, g1, S1⟩ := hP
    rw [hit j hj] at hx'
    have gx' := g1.trans gx
    refine turn j (items.getD j .non) δ' (getD_some hj) hI Gx Hb _ Gx Hx _ gx'.start ((S1.up gx).set hx' i) (fun δ3 σ3 G3 H3 q g3 S3 => ?_) fun δ3 d3 σ3 v3 G3 H3 q g3 S3 hv => r δ3 d3 σ3 v3 G3 H3 q (gx'.rebase g3) S3 hv
    exact kN σ3 G3 H3 (gx.gg.trans g3.gg) g3.gh ⟨δ3, q, gx'.rebase g3, S3⟩
  · obtain ⟨δ', hI, g1, S1⟩ := hP
    exact k δ' hI Gb Hb σ' Gc H' D g1 S1 n r
/-- for x, y, .. in iter: body -/
theorem s_forT (js : List Nat) {tg iter : Expr} (hsrc : SrcE X tg iter δ items) (hp : PassesOwn (model X.prog X.w) X.A X.env X.xe) (hg : PG X tg (gTup X.K js.length (gNames js))) (I : Nat → De → Prop) (h0 : I 0 δ)
    (turn : ∀ j y δ', items[j]? = some y → I j δ' → ∃ ds, y = .tup ds ∧ ds.length = js.length ∧ S X body (setAllD δ' (js.zip ds)) ⟨I (j + 1), O.rt⟩) (k : ∀ δ', I items.length δ' → S X rest δ' O)
    (hc : X.calm = true := by rfl) (hs : ∀ x, foldedSetIterable iter X.env x = pure x := by intro _; rfl) : S X (.For tg iter body [] pos :: rest) δ O := fun Gb Hb σ G H D g St n r => by
  obtain ⟨item, hsr, hit⟩ := hsrc σ G St.sk
  refine sts_cons (ws_for hsr g.gh hp hc hg (fun j σ' Gc H' => ∃ δ', I j δ' ∧ Grow Gb Hb Gc H' ∧ Sto X.K Hb Gc H' σ' δ') (fun G2 H2 g2 => ⟨δ, h0, g.trans g2, St.up g2⟩) (fun j σ' Gc H' x' Gx Hx N hj hP _ gx hx' kN => ?_) (fun σ' Gc H' hP _ => ?_) hs)
  · obtain ⟨δ', hI, g1, S1⟩ := hP
    rw [hit j hj] at hx'
    have gx' := g1.trans gx
    obtain ⟨ds, ed, hl, ht⟩ := turn j (items.getD j .non) δ' (getD_some hj) hI
    rw [ed] at hx'
    refine gTup_at hx' gx'.gh hl fun vs hvs => gNames_ok (by rw [hvs.len, hl]) ?_
    have key : ∀ (js : List Nat) (vs : List V) (ds : List Da) (σ : L2.St) (δ : De), Sto X.K Hb Gx Hx σ δ → AtL X.K Gx vs ds → Sto X.K Hb Gx Hx (setAll σ (js.zip vs)) (setAllD δ (js.zip ds)) := by
      intro js
      induction js with
      | nil => intro _ _ _ _ h _; exact h
      | cons j js ih =>
        intro vs ds σ δ h ha
        cases ha with
        | nil => exact h
        | cons a1 a2 => exact ih _ _ _ _ (h.set a1 j) a2
    refine ht Gx Hb _ Gx Hx _ gx'.start (key js vs ds σ' δ' (S1.up gx) hvs) (fun δ3 σ3 G3 H3 q g3 S3 => ?_) fun δ3 d3 σ3 v3 G3 H3 q g3 S3 hv => r δ3 d3 σ3 v3 G3 H3 q (gx'.rebase g3) S3 hv
    exact kN σ3 G3 H3 (gx.gg.trans g3.gg) g3.gh ⟨δ3, q, gx'.rebase g3, S3⟩
  · obtain ⟨δ', hI, g1, S1⟩ := hP
    exact k δ' hI Gb Hb σ' Gc H' D g1 S1 n r
/-- while c: body -/
theorem s_while (hp : PassesOwn (model X.prog X.w) X.A X.env X.xe) (I : Nat → De → Prop) (h0 : ∃ m, I m δ)
    (turn : ∀ m δ', I m δ' → ∃ k, EB X c (fz δ') k ∧ (k = true → S X body δ' ⟨fun δ3 => ∃ m', m' < m ∧ I m' δ3, O.rt⟩) ∧ (k = false → S X rest δ' O)) : S X (.While c body [] pos :: rest) δ O := fun Gb Hb σ G H D g St n r => by
  refine sts_cons (ws_while (fun m σ' H' => ∃ δ' Gc, I m δ' ∧ Grow Gb Hb Gc H' ∧ Sto X.K Hb Gc H' σ' δ') hp ?_ fun m σ' H' hP => ?_)
  · obtain ⟨m, hm⟩ := h0
    exact ⟨m, δ, G, hm, g, St⟩
  · obtain ⟨δ', Gc, hI, g1, S1⟩ := hP
    obtain ⟨k, hk, h1, h2⟩ := turn m δ' hI
    obtain ⟨G', sk, s1, kk⟩ := S1.fz g1
    refine hk σ' G' sk H' s1 _ fun G2 H2 g2 => ?_
    obtain ⟨Gn, g3, S3, s3, st⟩ := kk G2 H2 g2
    cases k with
    | true => exact iteT fun N kN => h1 rfl Gb Hb σ' Gn H2 _ g3 S3 (fun δ3 σ3 G3 H3 q g4 S4 => by
        obtain ⟨m', hm', hI'⟩ := q
        exact kN m' σ3 H3 hm' ⟨δ3, G3, hI', g4, S4⟩) r
    | false => exact iteF (h2 rfl Gb Hb σ' Gn H2 D g3 S3 n r)
end
end Fs
set_option Elab.async false
set_option linter.all false
set_option maxRecDepth 100000
set_option maxHeartbeats 2000000
/-! The top's names; from a body to a def's promise. -/
namespace Fs
open PySem PySem.Spec PyProof.Rows L2

/-- what is told of the class at C -/
structure NJ (K : PySem.W.Frag) (C : Addr) : Prop where
  ex : ExcC K C
  oe : OexC K C
  kS : PySem.W.kitOne K (.ref C) (.type "str") = some false
  kT : PySem.W.kitOne K (.ref C) (.type "tuple") = some false
structure Tp (K : PySem.W.Frag) (mg : Str → Option Value) : Prop where
  c : He.SaysD fa fn K
  nj : NJ K (He.ga K "NotJoinable")
  ex : ∃ h : Heap, K.In h ∧ h.Ns mainGlobals mg
section
variable {K : PySem.W.Frag} {mg : Str → Option Value}
theorem Tp.glo (T : Tp K mg) (i : Nat) {x : Str} (h : fa[i]? = some (.glo x) := by rfl) : mg x = some (.ref (He.ga K x)) := by
  obtain ⟨hp, X, G⟩ := T.ex
  exact He.glo_ok X G (T.c.fact i h)
theorem Tp.fre (T : Tp K mg) (i : Nat) {x : Str} (h : fa[i]? = some (.free x) := by rfl) : mg x = none := by
  obtain ⟨hp, X, G⟩ := T.ex
  exact He.free_ok X G (T.c.fact i h)
theorem Tp.int (T : Tp K mg) (i : Nat) {x : Str} {z : Int} (h : fa[i]? = some (.int x z) := by rfl) : ∃ t, mg x = some (.int z t) := by
  obtain ⟨hp, X, G⟩ := T.ex
  exact He.int_ok X G (T.c.fact i h)
theorem Tp.str (T : Tp K mg) (i : Nat) {x z : Str} (h : fa[i]? = some (.str x z) := by rfl) : ∃ t, mg x = some (.str z t) := by
  obtain ⟨hp, X, G⟩ := T.ex
  exact He.str_ok X G (T.c.fact i h)
theorem Tp.isinstance (T : Tp K mg) : mg "isinstance" = none := T.fre 40
theorem Tp.tint (T : Tp K mg) : mg "int" = none := T.fre 41
theorem Tp.tbool (T : Tp K mg) : mg "bool" = none := T.fre 42
theorem Tp.tstr (T : Tp K mg) : mg "str" = none := T.fre 43
theorem Tp.tlist (T : Tp K mg) : mg "list" = none := T.fre 44
theorem Tp.ttup (T : Tp K mg) : mg "tuple" = none := T.fre 45
theorem Tp.len (T : Tp K mg) : mg "len" = none := T.fre 46
theorem Tp.all (T : Tp K mg) : mg "all" = none := T.fre 47
theorem Tp.any (T : Tp K mg) : mg "any" = none := T.fre 48
theorem Tp.zip (T : Tp K mg) : mg "zip" = none := T.fre 49
theorem Tp.sorted (T : Tp K mg) : mg "sorted" = none := T.fre 50
theorem Tp.tset (T : Tp K mg) : mg "set" = none := T.fre 51
theorem Tp.enumerate (T : Tp K mg) : mg "enumerate" = none := T.fre 52
theorem Tp.range (T : Tp K mg) : mg "range" = none := T.fre 53
theorem Tp.abs (T : Tp K mg) : mg "abs" = none := T.fre 54
theorem Tp.super (T : Tp K mg) : mg "super" = none := T.fre 55
theorem Tp.value (T : Tp K mg) : mg "ValueError" = none := T.fre 56
theorem Tp.letters (T : Tp K mg) : ∃ t, mg "LETTERS" = some (.str "abcdefghijklmnopqrstuvwxyz" t) := T.str 57
theorem Tp.longest (T : Tp K mg) : ∃ t, mg "LONGEST" = some (.int 8 t) := T.int 58
theorem Tp.within (T : Tp K mg) : ∃ t, mg "WITHIN" = some (.str "" t) := T.str 59
theorem Tp.step (T : Tp K mg) : ∃ t, mg "STEP" = some (.int 3 t) := T.int 60
theorem Tp.parts (T : Tp K mg) : ∃ t, mg "PARTS" = some (.int 4 t) := T.int 61
theorem Tp.three (T : Tp K mg) : ∃ t, mg "THREE" = some (.int 3 t) := T.int 62
end
def rIsX (K : PySem.W.Frag) (C : Addr) : List V → Hp → VK → Prop := fun xs H Q => ∃ a dd fs T b, xs = [.ref a, .ty T] ∧ H a = some (exo a C (some dd)) ∧ H dd = some (exd dd fs) ∧ PySem.W.kitOne K (.ref C) (.type T) = some b ∧ Q (.bl b) H
theorem call_isX {X : Cx} {C : Addr} (N : NJ X.K C) : CallR X (.builtin "isinstance") (rIsX X.K C) := by
  intro pins s σ H xs us Q I r h
  obtain ⟨a, dd, fs, T, b, rfl, h1, h2, hk, q⟩ := h
  obtain ⟨u1, u2, rfl, r1, r2⟩ := vals2 r
  cases r1
  cases (show u2 = Value.type T from r2)
  obtain ⟨t1, e1⟩ := exo_at I.hok h1
  obtain ⟨mA, ⟨o, es, ep, e2, _⟩, _⟩ := exd_at I.hok h2
  have E := N.ex
  have J : PySem.W.InstAt s.heap a { cls := .ref C, dict := some dd, data := .fields #[.ref t1, .none, .none, .none, .bool false, .none] } C (some o) := ⟨e1, rfl, rfl, e2⟩
  exact PySem.W.kia_one (PySem.W.kitx_exc (by obtain ⟨cd, hc, _⟩ := PySem.W.any_some E.hd; rw [hc]; rfl) E.hg E.hk E.hs E.ha E.hn E.ht E.hm) I.kIn J hk (fun z => nomatch z) fun tk => ⟨.bl b, H, I.tok tk, rfl, q⟩
theorem e_isiX {X : Cx} {e : Expr} {δ : De} {pos p : Pos} {T : String} {y : Str} {k : Bool} {p2 : Pos} (N : NJ X.K (He.ga X.K "NotJoinable")) (h : E X e δ .exc) (hk : PySem.W.kitOne X.K (.ref (He.ga X.K "NotJoinable")) (.type T) = some k) (hm : X.mg "isinstance" = none) (hm2 : X.mg y = none) (hg : Gl X "isinstance" := by rfl) (hg2 : Gl X y := by rfl) (hv : bootBuiltins y = some (.type T) := by decide +kernel)
    (hn : y ≠ "__name__" := by decide) (hdb : (y == ("__debug__" : Str)) = false := by decide) (he : starEach [e, .Name y p2] X.env = (false, eval e X.env) :: starEach [.Name y p2] X.env := by rfl) (he2 : starEach [.Name y p2] X.env = (false, eval (.Name y p2) X.env) :: starEach [] X.env := by rfl)
    (hpl : (backTo pos (starEach [.Name y p2] X.env)).any (·.1) = false := by rfl) : E X (.Call (.Name "isinstance" p) [e, .Name y p2] [] pos) δ (.bl k) := fun σ G St H1 e1 Q q =>
  we_of (pe_callB (call_isX N) hg hm (by decide +kernel) (pa_cons WE.pe (pa_cons (pe_bltn (v := .ty T) hg2 hm2 hv rfl hn hdb) pa_nil he2) he) (by decide) (by decide) he hpl)
    (h σ G St H1 e1 _ fun v G2 H2 g hv => by
      cases hv with
      | @exc a h3 =>
        obtain ⟨d, fs, q1, q2⟩ := h3
        exact ⟨a, d, fs, T, k, rfl, g.gh _ _ q1, g.gh _ _ q2, hk, q _ G2 H2 g (.bl k)⟩)
def isInt : Da → Bool
  | .int _ => true
  | .bl _ => true
  | _ => false
def isBl : Da → Bool
  | .bl _ => true
  | _ => false
def isStr : Da → Bool
  | .str _ => true
  | _ => false
def isTup : Da → Bool
  | .tup _ => true
  | _ => false
def isLst : Da → Bool
  | .lst _ => true
  | _ => false
theorem kit_int : ∀ {d : Da}, d ≠ .exc → kitB (tyn d) "int" = some (isInt d)
  | .non, _ => (by decide +kernel : kitB "NoneType" "int" = some false)
  | .bl _, _ => (by decide +kernel : kitB "bool" "int" = some true)
  | .int _, _ => (by decide +kernel : kitB "int" "int" = some true)
  | .str _, _ => (by decide +kernel : kitB "str" "int" = some false)
  | .lst _, _ => (by decide +kernel : kitB "list" "int" = some false)
  | .tup _, _ => (by decide +kernel : kitB "tuple" "int" = some false)
  | .exc, h => absurd rfl h
theorem kit_bool : ∀ {d : Da}, d ≠ .exc → kitB (tyn d) "bool" = some (isBl d)
  | .non, _ => (by decide +kernel : kitB "NoneType" "bool" = some false)
  | .bl _, _ => (by decide +kernel : kitB "bool" "bool" = some true)
  | .int _, _ => (by decide +kernel : kitB "int" "bool" = some false)
  | .str _, _ => (by decide +kernel : kitB "str" "bool" = some false)
  | .lst _, _ => (by decide +kernel : kitB "list" "bool" = some false)
  | .tup _, _ => (by decide +kernel : kitB "tuple" "bool" = some false)
  | .exc, h => absurd rfl h
theorem kit_str : ∀ {d : Da}, d ≠ .exc → kitB (tyn d) "str" = some (isStr d)
  | .non, _ => (by decide +kernel : kitB "NoneType" "str" = some false)
  | .bl _, _ => (by decide +kernel : kitB "bool" "str" = some false)
  | .int _, _ => (by decide +kernel : kitB "int" "str" = some false)
  | .str _, _ => (by decide +kernel : kitB "str" "str" = some true)
  | .lst _, _ => (by decide +kernel : kitB "list" "str" = some false)
  | .tup _, _ => (by decide +kernel : kitB "tuple" "str" = some false)
  | .exc, h => absurd rfl h
theorem kit_tup : ∀ {d : Da}, d ≠ .exc → kitB (tyn d) "tuple" = some (isTup d)
  | .non, _ => (by decide +kernel : kitB "NoneType" "tuple" = some false)
  | .bl _, _ => (by decide +kernel : kitB "bool" "tuple" = some false)
  | .int _, _ => (by decide +kernel : kitB "int" "tuple" = some false)
  | .str _, _ => (by decide +kernel : kitB "str" "tuple" = some false)
  | .lst _, _ => (by decide +kernel : kitB "list" "tuple" = some false)
  | .tup _, _ => (by decide +kernel : kitB "tuple" "tuple" = some true)
  | .exc, h => absurd rfl h
theorem kit_lst : ∀ {d : Da}, d ≠ .exc → kitB (tyn d) "list" = some (isLst d)
  | .non, _ => (by decide +kernel : kitB "NoneType" "list" = some false)
  | .bl _, _ => (by decide +kernel : kitB "bool" "list" = some false)
  | .int _, _ => (by decide +kernel : kitB "int" "list" = some false)
  | .str _, _ => (by decide +kernel : kitB "str" "list" = some false)
  | .lst _, _ => (by decide +kernel : kitB "list" "list" = some true)
  | .tup _, _ => (by decide +kernel : kitB "tuple" "list" = some false)
  | .exc, h => absurd rfl h
section
variable {X : Cx} {e : Expr} {δ : De} {d : Da} {pos p p2 : Pos}
theorem e_isTup (T : Tp X.K X.mg) (h : E X e δ d) (hg : Gl X "isinstance" := by rfl) (hg2 : Gl X "tuple" := by rfl)
    (he : starEach [e, .Name "tuple" p2] X.env = (false, eval e X.env) :: starEach [.Name "tuple" p2] X.env := by rfl) (he2 : starEach [.Name "tuple" p2] X.env = (false, eval (.Name "tuple" p2) X.env) :: starEach [] X.env := by rfl)
    (hpl : (backTo pos (starEach [.Name "tuple" p2] X.env)).any (·.1) = false := by rfl) : E X (.Call (.Name "isinstance" p) [e, .Name "tuple" p2] [] pos) δ (.bl (isTup d)) := by
  by_cases q : d = .exc
  · subst q
    exact e_isiX T.nj h T.nj.kT T.isinstance T.ttup hg hg2 (by decide +kernel) (by decide) (by decide) he he2 hpl
  · exact e_isi h q T.isinstance T.ttup (kit_tup q) hg hg2 (by decide +kernel) (by decide) (by decide) he he2 hpl
theorem e_isStr (T : Tp X.K X.mg) (h : E X e δ d) (hg : Gl X "isinstance" := by rfl) (hg2 : Gl X "str" := by rfl)
    (he : starEach [e, .Name "str" p2] X.env = (false, eval e X.env) :: starEach [.Name "str" p2] X.env := by rfl) (he2 : starEach [.Name "str" p2] X.env = (false, eval (.Name "str" p2) X.env) :: starEach [] X.env := by rfl)
    (hpl : (backTo pos (starEach [.Name "str" p2] X.env)).any (·.1) = false := by rfl) : E X (.Call (.Name "isinstance" p) [e, .Name "str" p2] [] pos) δ (.bl (isStr d)) := by
  by_cases q : d = .exc
  · subst q
    exact e_isiX T.nj h T.nj.kS T.isinstance T.tstr hg hg2 (by decide +kernel) (by decide) (by decide) he he2 hpl
  · exact e_isi h q T.isinstance T.tstr (kit_str q) hg hg2 (by decide +kernel) (by decide) (by decide) he he2 hpl
end
theorem blk_ok {N : List Str} {sc scope : Scope} {own : List (Str × Nat)} (h : decide (scope.kind = .function ∧ (∀ y ∈ scope.names, scope.names.lookup y.1 = some y.2) ∧ (∀ p ∈ own, N[p.2]? = some p.1) ∧ (∀ y ∈ scope.names, y.2 = .free → sc.names.lookup y.1 = some .cell ∨ sc.names.lookup y.1 = some .free) ∧ ∀ y ∈ scope.names, y.2 = .local ∨ y.2 = .cell → y.1 ∈ own.map (·.1) ∨ y.1 ∉ N) = true) : BlkOk N sc scope own := by
  obtain ⟨h1, h2, h3, h4, h5⟩ := of_decide_eq_true h
  exact ⟨h1, h2, h3, h4, h5⟩
section
variable {X : Cx} {e l : Expr} {es : List Expr} {δ : De} {d : Da} {ds : List Da} {pos p p2 : Pos}
theorem e_len (T : Tp X.K X.mg) (h : E X e δ d) (hd : d = .tup ds ∨ d = .lst ds) (hg : Gl X "len" := by rfl) (he : starEach [e] X.env = (false, eval e X.env) :: starEach [] X.env := by rfl) (hpl : (backTo pos (starEach [] X.env)).any (·.1) = false := by rfl) : E X (.Call (.Name "len" p) [e] [] pos) δ (.int (ds.length : Int)) :=
  e_blt call_len_seq T.len (a_cons h a_nil he) (cd_len hd) hg (by decide +kernel) (by decide) (by decide) he hpl
theorem e_lenS {z : Str} (T : Tp X.K X.mg) (h : E X e δ (.str z)) (hz : z.length ≤ 100000) (hg : Gl X "len" := by rfl) (he : starEach [e] X.env = (false, eval e X.env) :: starEach [] X.env := by rfl) (hpl : (backTo pos (starEach [] X.env)).any (·.1) = false := by rfl) : E X (.Call (.Name "len" p) [e] [] pos) δ (.int (z.length : Int)) :=
  e_blt call_len_str T.len (a_cons h a_nil he) (cd_lenS hz) hg (by decide +kernel) (by decide) (by decide) he hpl
theorem e_all (T : Tp X.K X.mg) (bs : List Bool) (h : E X e δ (.lst ds)) (hd : ds = bs.map Da.bl) (hc : X.calm = true := by rfl) (hg : Gl X "all" := by rfl) (he : starEach [e] X.env = (false, eval e X.env) :: starEach [] X.env := by rfl) (hpl : (backTo pos (starEach [] X.env)).any (·.1) = false := by rfl) : E X (.Call (.Name "all" p) [e] [] pos) δ (.bl (bs.all id)) :=
  e_blt (cr_all hc) T.all (a_cons h a_nil he) (cd_all hd) hg (by decide +kernel) (by decide) (by decide) he hpl
theorem e_any (T : Tp X.K X.mg) (bs : List Bool) (h : E X e δ (.lst ds)) (hd : ds = bs.map Da.bl) (hc : X.calm = true := by rfl) (hg : Gl X "any" := by rfl) (he : starEach [e] X.env = (false, eval e X.env) :: starEach [] X.env := by rfl) (hpl : (backTo pos (starEach [] X.env)).any (·.1) = false := by rfl) : E X (.Call (.Name "any" p) [e] [] pos) δ (.bl (bs.any id)) :=
  e_blt (cr_any hc) T.any (a_cons h a_nil he) (cd_any hd) hg (by decide +kernel) (by decide) (by decide) he hpl
theorem e_tuple (T : Tp X.K X.mg) (h : E X e δ d) (hd : d = .tup ds ∨ d = .lst ds) (hg : Gl X "tuple" := by rfl) (he : starEach [e] X.env = (false, eval e X.env) :: starEach [] X.env := by rfl) (hpl : (backTo pos (starEach [] X.env)).any (·.1) = false := by rfl) : E X (.Call (.Name "tuple" p) [e] [] pos) δ (.tup ds) :=
  e_ty call_tuple_of T.ttup (a_cons h a_nil he) (cd_tuple hd) hg (by decide +kernel) (by decide) (by decide) he hpl
theorem e_list (T : Tp X.K X.mg) (h : E X e δ d) (hd : d = .tup ds ∨ d = .lst ds) (hg : Gl X "list" := by rfl) (he : starEach [e] X.env = (false, eval e X.env) :: starEach [] X.env := by rfl) (hpl : (backTo pos (starEach [] X.env)).any (·.1) = false := by rfl) : E X (.Call (.Name "list" p) [e] [] pos) δ (.lst ds) :=
  e_ty call_list_of T.tlist (a_cons h a_nil he) (cd_list hd) hg (by decide +kernel) (by decide) (by decide) he hpl
theorem e_intI {i : Int} (T : Tp X.K X.mg) (h : E X e δ (.int i)) (hg : Gl X "int" := by rfl) (he : starEach [e] X.env = (false, eval e X.env) :: starEach [] X.env := by rfl) (hpl : (backTo pos (starEach [] X.env)).any (·.1) = false := by rfl) : E X (.Call (.Name "int" p) [e] [] pos) δ (.int i) :=
  e_ty call_int1 T.tint (a_cons h a_nil he) cd_int hg (by decide +kernel) (by decide) (by decide) he hpl
theorem e_intB {k : Bool} (T : Tp X.K X.mg) (h : E X e δ (.bl k)) (hg : Gl X "int" := by rfl) (he : starEach [e] X.env = (false, eval e X.env) :: starEach [] X.env := by rfl) (hpl : (backTo pos (starEach [] X.env)).any (·.1) = false := by rfl) : E X (.Call (.Name "int" p) [e] [] pos) δ (.int (if k then 1 else 0)) :=
  e_ty call_int1 T.tint (a_cons h a_nil he) cd_intB hg (by decide +kernel) (by decide) (by decide) he hpl
theorem e_abs {i : Int} (T : Tp X.K X.mg) (h : E X e δ (.int i)) (hg : Gl X "abs" := by rfl) (he : starEach [e] X.env = (false, eval e X.env) :: starEach [] X.env := by rfl) (hpl : (backTo pos (starEach [] X.env)).any (·.1) = false := by rfl) : E X (.Call (.Name "abs" p) [e] [] pos) δ (.int (if i < 0 then -i else i)) :=
  e_blt call_abs T.abs (a_cons h a_nil he) cd_abs hg (by decide +kernel) (by decide) (by decide) he hpl
end
theorem eb_chain {X : Cx} {a b c : Expr} {σ : L2.St} {G : Hp} {d1 d2 d3 : Da} {pos : Pos} {op op' : CmpOp} {f f' : R2} {k k' : Bool} (hf : OpR X (compareOp op) f) (hf' : OpR X (compareOp op') f') (ha : Ev X a σ G d1) (hb : Ev X b σ G d2) (hc : Ev X c σ G d3) (ho : OpD X.K f d1 d2 (.bl k)) (ho' : OpD X.K f' d2 d3 (.bl k'))
    (hm : lastMarks [op, op'] [b, c] = false := by with_unfolding_all rfl) : EvB X (.Compare a [op, op'] [b, c] pos) σ G (k && k') := fun H1 e1 Q q => by
  refine wt_of (pt_chain hf hf' WE.pe WE.pe WE.pe hm) ?_
  show tChain f f' (WE X a) (WE X b) (WE X c) σ H1 _
  refine ha H1 e1 _ fun v G2 H2 g2 hv => (hb.up g2.gg) H2 g2.gh _ fun u G3 H3 g3 hu => ho v u G3 H3 _ g3.gh (hv.up g3.gg) hu fun z G4 H4 g4 hz => ?_
  cases hz
  refine ⟨k, rfl, ?_⟩
  have g := (g2.trans g3).trans g4
  cases k with
  | false => exact iteF ⟨false, rfl, q G4 H4 g⟩
  | true =>
    refine iteT ?_
    exact (hc.up g.gg) H4 g.gh _ fun y G5 H5 g5 hy => ho' u y G5 H5 _ g5.gh ((hu.up g4.gg).up g5.gg) hy fun z G6 H6 g6 hz => by
      cases hz
      exact ⟨k', rfl, q G6 H6 ((g.trans g5).trans g6)⟩
theorem b_chain {X : Cx} {a b c : Expr} {δ : De} {d1 d2 d3 : Da} {pos : Pos} {op op' : CmpOp} {f f' : R2} {k k' : Bool} (hf : OpR X (compareOp op) f) (hf' : OpR X (compareOp op') f') (ha : E X a δ d1) (hb : E X b δ d2) (hc : E X c δ d3) (ho : OpD X.K f d1 d2 (.bl k)) (ho' : OpD X.K f' d2 d3 (.bl k'))
    (hm : lastMarks [op, op'] [b, c] = false := by with_unfolding_all rfl) : EB X (.Compare a [op, op'] [b, c] pos) δ (k && k') := fun σ G S => eb_chain hf hf' (ha σ G S) (hb σ G S) (hc σ G S) ho ho' hm
theorem od_sign {K : PySem.W.Frag} {c : Nat} {z : Str} : OpD K (fun x y H Q => ∃ (c : Nat) (z : Str), x = .str ⟨#[c]⟩ ∧ y = .str z ∧ Q (.bl (decide (c ∈ z.cps.toList))) H) (.str ⟨#[c]⟩) (.str z) (.bl (decide (c ∈ z.cps.toList))) := fun x y G H Q e hx hy q => by
  cases hx; cases hy
  exact ⟨c, z, rfl, rfl, q _ G H (Grow.refl e) (.bl _)⟩
/-- what a def's start store is: its arguments, then nothing -/
def entry (N : List Str) (ds : List Da) : De := ds.map .kn ++ List.replicate (N.length - ds.length) .no
def retP (r : Da) : Post := ⟨fun _ => r = .non, fun _ d => d = r⟩
theorem at_get {K : PySem.W.Frag} {G : Hp} : ∀ {ds : List Da} {vs : List V} {i : Nat} {d : Da}, AtL K G vs ds → ds[i]? = some d → ∃ v, vs[i]? = some v ∧ At K G v d := fun h e => h.get e
theorem start_kn {K : PySem.W.Frag} {G : Hp} {N : List Str} {ds : List Da} {vs : List V} (h : AtL K G vs ds) : StK K G (L2.start N vs) (entry N ds) := by
  refine ⟨?_, fun i d e => ?_⟩
  · unfold L2.start entry
    rw [List.length_append, List.length_append, List.length_map, List.length_map, List.length_replicate, List.length_replicate, h.len]
  · unfold entry at e
    unfold L2.start
    by_cases hi : i < ds.length
    · rw [List.getElem?_append_left (by rw [List.length_map]; exact hi), List.getElem?_map] at e
      cases q : ds[i]? with
      | none => rw [q] at e; cases e
      | some u =>
        rw [q] at e
        cases e
        obtain ⟨v, e1, hv⟩ := h.get q
        refine ⟨v, ?_, hv⟩
        rw [List.getElem?_append_left (by rw [List.length_map, h.len]; exact hi), List.getElem?_map, e1]
        rfl
    · rw [List.getElem?_append_right (by rw [List.length_map]; omega), List.getElem?_replicate] at e
      split at e <;> cases e
theorem entry_no_ow {N : List Str} {ds : List Da} {i : Nat} {p : Addr} {es : List Da} (h : (entry N ds)[i]? = some (Cl.ow p es)) : False := by
  have hm := List.mem_of_getElem? h
  unfold entry at hm
  rcases List.mem_append.mp hm with q | q
  · obtain ⟨d, _, e⟩ := List.mem_map.mp q
    cases e
  · cases (List.mem_replicate.mp q).2
section
variable {P : Program} {w : World} {K : PySem.W.Frag} {mg : Str → Option Value} {base : Heap}
/-- the context a def's body is walked in -/
abbrev Wx (P : Program) (w : World) (K : PySem.W.Frag) (mg : Str → Option Value) (base : Heap) (N : List Str) (x : Str) (scope : Scope) (f : Addr) (cdv : Value) (A : Around) (outer : List Env) (s : Shared) (H : Hp) (EX : XK) : Cx := (cxOf CX0 P w K mg base N x scope f cdv A outer s H EX).nox
theorem dfn_of {k : Nat} {x : Str} {params : Arguments} {body : List Stmt} {scope : Scope} {N ps : List Str} {R : List Da → Da → Prop} {f : Addr} {fd : FuncData} (F : FunD K x x params body scope [] [] f fd) (hg : mg x = some (.ref f)) (sc : FnScope N ps scope) (hl : ∀ ds r, R ds r → ds.length = ps.length)
    (hb : ∀ (kV doc pm : Value) (an : Option Addr) (cdv ct : Value) (us : List Value), us.length = ps.length → bindArgs (PySem.W.fnOf x x params body scope .none kV doc pm an cdv ct) ⟨us, []⟩ = pure (ps.zip us))
    (walk : ∀ f cdv A outer s H EX, Room k (Wx P w K mg base N x scope f cdv A outer s H EX).A → ∀ ds r, R ds r → S (Wx P w K mg base N x scope f cdv A outer s H EX) body (entry N ds) (retP r)) : Dfn P w K mg base CX0 (k + 1) x (SpF K R) := by
  refine ⟨f, fd, ps, ?_, hg, F.kp, FunD.bindsN F hb⟩
  refine F.ok sc (fun vs H Q EX h => ?_) fun cdv A outer s H vs Q EX hr h => ⟨_, PSs.nox WSs.pss, ?_⟩
  · obtain ⟨G, ds, d, _, hv, hR, _⟩ := h
    rw [hv.len, hl ds d hR]
  · obtain ⟨G, ds, d, e, hv, hR, hQ⟩ := h
    refine walk f cdv A outer s H EX hr ds d hR G H _ G H _ (Grow.refl e) ⟨start_kn hv, fun i p es q => (entry_no_ow q).elim, fun i j p q ds es _ h1 _ => (entry_no_ow h1).elim⟩ (fun δ' σ' G' H' q g _ => ?_) fun δ' r σ' v G' H' q g _ hv' => ?_
    · have q' : d = .non := q
      rw [q'] at hQ
      exact hQ .non G' H' g .non
    · have q' : r = d := q
      rw [q'] at hv'
      exact hQ v G' H' g hv'
end
end Fs
set_option Elab.async false
set_option linter.all false
set_option maxRecDepth 100000
set_option maxHeartbeats 2000000
/-! The walks: plain, parts. -/
namespace Fs
open PySem PySem.Spec PyProof.Rows L2
section
variable {P : Program} {w : World} {K : PySem.W.Frag} {mg : Str → Option Value} {base : Heap}
theorem nt {b : Bool} (h : (!b) = true) : b = false := by cases b <;> first | rfl | cases h
theorem nf {b : Bool} (h : (!b) = false) : b = true := by cases b <;> first | rfl | cases h
def isNum : Da → Bool
  | .int _ => true
  | _ => false
theorem f_is_number (T : Tp K mg) {k : Nat} : Dfn P w K mg base CX0 (k + 1) "is_number" (SpF K fun ds r => ∃ d, ds = [d] ∧ d ≠ .exc ∧ r = .bl (isNum d)) := by
  obtain ⟨fd, F⟩ := T.c.def_ 0 (d := d_is_number) rfl
  refine dfn_of F (T.glo 0) sc_is_number ?_ (fun _ _ _ _ _ _ us hl => match us, hl with | [_], _ => rfl) ?_
  · rintro ds r ⟨d, rfl, _⟩; rfl
  · rintro f cdv A outer s H EX hr ds r ⟨d, rfl, hd, rfl⟩
    refine s_ret (E.is (e_andB (e_isi (e_var 0 rfl) hd T.isinstance T.tint (kit_int hd)) fun _ => e_one (e_not (e_isi (e_var 0 rfl) hd T.isinstance T.tbool (kit_bool hd)))) ?_) rfl
    cases d <;> rfl

def az : Str := "abcdefghijklmnopqrstuvwxyz"
def isName : Da → Bool
  | .str z => decide (1 ≤ z.length) && decide (z.length ≤ 8) && z.cps.toList.all fun c => decide (c ∈ az.cps.toList)
  | _ => false
def inAz : Da → Da
  | .str c => .bl (decide (c.cps.toList.headD 0 ∈ az.cps.toList))
  | _ => .bl false
theorem f_is_name (T : Tp K mg) {k : Nat} : Dfn P w K mg base CX0 (k + 1) "is_name" (SpF K fun ds r => ∃ d, ds = [d] ∧ (∀ z, d = .str z → z.length ≤ 1000) ∧ r = .bl (isName d)) := by
  obtain ⟨fd, F⟩ := T.c.def_ 1 (d := d_is_name) rfl
  refine dfn_of F (T.glo 1) sc_is_name ?_ (fun _ _ _ _ _ _ us hl => match us, hl with | [_], _ => rfl) ?_
  · rintro ds r ⟨d, rfl, _⟩; rfl
  · rintro f cdv A outer s H EX hr ds r ⟨d, rfl, hz, rfl⟩
    by_cases hs : isStr d = true
    · cases d with
      | str z =>
        have hz := hz z rfl
        refine s_if (k := !(decide (1 ≤ z.length) && decide (z.length ≤ 8))) (EB.is (b_w (w_or (b_not (b_val (e_isStr T (e_var 0 rfl)))) fun _ => w_or1 (b_not (b_chain op_le op_le e_int (e_lenS T (e_var 0 rfl) (by omega)) (e_gint T.longest) od_le od_le)))) ?_) (fun h => s_ret e_bl ?_)
          (fun h => s_nil (s_ret (E.is (e_all T (z.cps.toList.map fun c => decide (c ∈ az.cps.toList)) (e_lc 1 (p := fun _ => true) (f := inAz) (r_str (e_var 0 rfl)) ?_ sc_is_name.nd (blk_ok (own := [("letter", 1)]) (by kernel_rfl)) (fun x hx s0 H0 C cl fp => ⟨ts_nil, fun _ => ?_⟩) (fun _ _ _ _ _ => pg_name sc_is_name.nd rfl (Or.inl rfl))) ?_) ?_) rfl))
        · show (!true || !(decide ((1 : Int) ≤ (z.length : Int)) && decide ((z.length : Int) ≤ 8))) = _
          have e1 : decide ((1 : Int) ≤ (z.length : Int)) = decide (1 ≤ z.length) := decide_eq_decide.mpr (by omega)
          have e2 : decide ((z.length : Int) ≤ (8 : Int)) = decide (z.length ≤ 8) := decide_eq_decide.mpr (by omega)
          rw [e1, e2]; rfl
        · show Da.bl false = Da.bl (decide (1 ≤ z.length) && decide (z.length ≤ 8) && z.cps.toList.all fun c => decide (c ∈ az.cps.toList))
          rw [nt h]; rfl
        · rw [List.length_map, Array.length_toList]
          have e : z.cps.size = z.length := rfl
          omega
        · obtain ⟨c, hc, rfl⟩ := List.mem_map.mp hx
          exact e_cmp op_in_sign (e_var 1 rfl) (e_gstr T.letters) od_sign
        · rw [List.filter_eq_self.mpr (fun _ _ => rfl), List.map_map, List.map_map]
          rfl
        · show _ = Da.bl (decide (1 ≤ z.length) && decide (z.length ≤ 8) && z.cps.toList.all fun c => decide (c ∈ az.cps.toList))
          rw [nf h, List.all_map]
          rfl
      | _ => cases hs
    · have hs' : isStr d = false := by simpa using hs
      refine s_if (k := true) (EB.is (b_w (w_or (k' := true) (b_not (b_val (e_isStr T (e_var 0 rfl)))) fun h => ?_)) ?_) (fun h => s_ret e_bl ?_) (fun h => nomatch h)
      · rw [hs'] at h; cases h
      · rw [hs']; rfl
      · cases d <;> first | rfl | exact absurd rfl hs

/-! ### order of data -/
def dlt (a b : Da) : Bool := PySem.W.dataLt (py a) (py b)
def ris (es : List Da) : Bool := (List.zipWith (fun u v => dlt u v) es es.tail).all id
/-- comparable, place by place -/
def alk (es : List Da) : Prop := ∀ u ∈ es, fit 3 u = true ∧ py u ≠ .none ∧ ∀ v ∈ es, PySem.W.alike (py u) (py v) = true
theorem cut_tail {ds : List Da} : cutD ds (some 1) none = ds.tail := by
  unfold cutD
  have e : HT.sIx ds.length 0 (some 1) = min 1 ds.length := HT.sIx_nat ds.length 0 1
  rw [e, HT.sIx_none]
  cases ds with
  | nil => rfl
  | cons d ds =>
    have e2 : min 1 (d :: ds).length = 1 := by simp
    rw [e2]
    simp
theorem zip_mem {α : Type} : ∀ {es fs : List α} {β : Type} {g : α → α → β} {x : β}, x ∈ List.zipWith g es fs → ∃ u ∈ es, ∃ v ∈ fs, x = g u v
  | [], _, _, _, _, h => by simp at h
  | _ :: _, [], _, _, _, h => by simp at h
  | u :: es, v :: fs, β, g, x, h => by
    rw [List.zipWith_cons_cons] at h
    rcases List.mem_cons.mp h with rfl | h
    · exact ⟨u, List.mem_cons_self .., v, List.mem_cons_self .., rfl⟩
    · obtain ⟨a, ha, b, hb, e⟩ := zip_mem h
      exact ⟨a, List.mem_cons_of_mem _ ha, b, List.mem_cons_of_mem _ hb, e⟩
def ltP : Da → Da
  | .tup [u, v] => .bl (dlt u v)
  | _ => .non
theorem f_is_rising (T : Tp K mg) {k : Nat} : Dfn P w K mg base CX0 (k + 1) "is_rising" (SpF K fun ds r => ∃ es, ds = [.tup es] ∧ alk es ∧ es.length ≤ 1000 ∧ r = .bl (ris es)) := by
  obtain ⟨fd, F⟩ := T.c.def_ 2 (d := d_is_rising) rfl
  refine dfn_of F (T.glo 2) sc_is_rising ?_ (fun _ _ _ _ _ _ us hl => match us, hl with | [_], _ => rfl) ?_
  · rintro ds r ⟨d, rfl, _⟩; rfl
  · rintro f cdv A outer s H EX hr ds r ⟨es, rfl, ha, hz, rfl⟩
    refine s_ret (E.is (e_all T (List.zipWith (fun u v => dlt u v) es es.tail) (e_lcT [1, 2] (p := fun _ => true) (f := ltP)
      (r_zip (es1 := es) (es2 := es.tail) (a_cons (e_var 0 rfl) (a_cons (e_sl (e_var 0 rfl) (.inl ⟨rfl, congrArg Da.tup cut_tail.symm⟩) (p_some e_int) p_none) a_nil)) (.inr ⟨rfl, rfl⟩) T.zip) ?_ sc_is_rising.nd (blk_ok (own := [("one", 1), ("other", 2)]) (by kernel_rfl)) (fun x hx => ?_)
      (fun _ _ _ _ _ => pg_tup rfl (pgs_cons (pg_name sc_is_rising.nd rfl (Or.inl rfl)) (pgs_cons (pg_name sc_is_rising.nd rfl (Or.inl rfl)) pgs_nil)))) ?_) rfl) rfl
    · rw [List.length_zipWith]
      omega
    · obtain ⟨u, hu, v, hv, rfl⟩ := zip_mem hx
      have hv' := List.mem_of_mem_tail hv
      obtain ⟨f1, n1, a1⟩ := ha u hu
      obtain ⟨f2, n2, a2⟩ := ha v hv'
      exact ⟨[u, v], rfl, rfl, fun s0 H0 C cl fp => ⟨ts_nil, fun _ => e_cmp (op_ltD hr.units) (e_var 1 rfl) (e_var 2 rfl) (od_ltD f1 f2 (by decide) (a1 v hv') n1)⟩⟩
    · rw [List.filter_eq_self.mpr (fun _ _ => rfl), List.map_zipWith, List.map_zipWith]
      rfl
def isNameSet : Da → Bool
  | .tup es => es.all isName && ris es
  | _ => false
def smN (d : Da) : Prop := ∀ es, d = .tup es → es.length ≤ 1000 ∧ ∀ e ∈ es, ∀ z, e = .str z → z.length ≤ 1000
theorem name_str {d : Da} (h : isName d = true) : ∃ z, d = .str z ∧ 1 ≤ z.length ∧ z.length ≤ 8 ∧ ∀ c ∈ z.cps.toList, c ∈ az.cps.toList := by
  cases d with
  | str z =>
    have h : (decide (1 ≤ z.length) && decide (z.length ≤ 8) && z.cps.toList.all fun c => decide (c ∈ az.cps.toList)) = true := h
    rw [Bool.and_eq_true, Bool.and_eq_true, decide_eq_true_eq, decide_eq_true_eq, List.all_eq_true] at h
    exact ⟨z, rfl, h.1.1, h.1.2, fun c hc => of_decide_eq_true (h.2 c hc)⟩
  | _ => cases h
theorem az_lt : ∀ c ∈ az.cps.toList, c < 0x110000 := by decide +kernel
theorem names_txs : ∀ {es : List Da}, es.all isName = true → ∃ l : List Str, es = txs l ∧ ∀ z ∈ l, PySem.PyData.strOk z = true
  | [], _ => ⟨[], rfl, fun _ h => by cases h⟩
  | d :: es, h => by
    rw [List.all_cons, Bool.and_eq_true] at h
    obtain ⟨z, rfl, _, _, hc⟩ := name_str h.1
    obtain ⟨l, rfl, hl⟩ := names_txs h.2
    refine ⟨z :: l, rfl, fun y hy => ?_⟩
    rcases List.mem_cons.mp hy with rfl | hy
    · show y.cps.all (· < 0x110000) = true
      rw [← Array.all_toList, List.all_eq_true]
      exact fun c h => decide_eq_true (az_lt c (hc c h))
    · exact hl y hy
theorem alk_txs {l : List Str} (h : ∀ z ∈ l, PySem.PyData.strOk z = true) : alk (txs l) := fun u hu => by
  obtain ⟨z, hz, rfl⟩ := List.mem_map.mp hu
  refine ⟨by rw [fit]; exact h z hz, by rw [py]; exact fun e => (nomatch e), fun v hv => ?_⟩
  obtain ⟨y, hy, rfl⟩ := List.mem_map.mp hv
  rw [py, py]
  simp [PySem.W.alike]
theorem f_is_name_set (T : Tp K mg) {k : Nat} : Dfn P w K mg base CX0 (k + 2) "is_name_set" (SpF K fun ds r => ∃ d, ds = [d] ∧ smN d ∧ r = .bl (isNameSet d)) := by
  obtain ⟨fd, F⟩ := T.c.def_ 3 (d := d_is_name_set) rfl
  refine dfn_of F (T.glo 3) sc_is_name_set ?_ (fun _ _ _ _ _ _ us hl => match us, hl with | [_], _ => rfl) ?_
  · rintro ds r ⟨d, rfl, _⟩; rfl
  · rintro f cdv A outer s H EX hr ds r ⟨d, rfl, hz, rfl⟩
    refine s_ret (E.is (e_andB (k' := isNameSet d) (e_isTup T (e_var 0 rfl)) fun ht => ?_) ?_) rfl
    · cases d with
      | tup es =>
        obtain ⟨h1, h2⟩ := hz es rfl
        refine E.is (e_andB (k' := ris es) (e_all T (es.map isName) (e_lc 1 (p := fun _ => true) (f := fun d => .bl (isName d)) (r_tup (e_var 0 rfl)) (by omega) sc_is_name_set.nd (blk_ok (own := [("own", 1)]) (by kernel_rfl)) (fun x hx s0 H0 C cl fp => ⟨ts_nil, fun _ => ?_⟩) (fun _ _ _ _ _ => pg_name sc_is_name_set.nd rfl (Or.inl rfl))) ?_) fun hn => ?_) ?_
        · exact e_call (f_is_name (k := 0) T) hr (by omega) pass0 (a_cons (e_var 1 rfl) a_nil) ⟨x, rfl, h2 x hx, rfl⟩
        · rw [List.filter_eq_self.mpr (fun _ _ => rfl), List.map_map]
          rfl
        · rw [List.all_map] at hn
          obtain ⟨l, rfl, hl⟩ := names_txs hn
          exact e_one (e_call (f_is_rising (k := 0) T) hr (by omega) pass0 (a_cons (e_var 0 rfl) a_nil) ⟨_, rfl, alk_txs hl, h1, rfl⟩)
        · rw [List.all_map]
          rfl
      | _ => cases ht
    · cases d with
      | tup es =>
        show Da.bl (true && isNameSet _) = _
        rfl
      | _ => rfl
end
end Fs
set_option Elab.async false
set_option linter.all false
set_option maxRecDepth 100000
set_option maxHeartbeats 2000000
/-! Two for clauses in one comprehension; sorted texts. -/
namespace Fs
open PySem PySem.Spec PyProof.Rows L2
def WI (X : Cx) (tg iter : Expr) : TI := fun σ H R => ∀ (pins : List (Addr × Obj)) (s : Shared), Inv X pins σ H s →
  wpAny (model X.prog X.w) X.A (eval iter X.env) (fun v s1 => wpAny (model X.prog X.w) X.A (pyIter v) (PIE X pins σ tg R) X.xe s1) X.xe s
theorem WI.pi {X : Cx} {tg iter : Expr} : PI X tg iter (WI X tg iter) := ⟨fun pins s _ _ _ I h => h pins s I⟩
section
variable {X : Cx} {elt tg iter tg1 iter1 : Expr} {ifs1 : List Expr} {scope : Scope} {own : List (Str × Nat)} {δ : De} {items : List Da} {pos : Pos}
theorem take_snoc {α : Type} {l : List α} {k : Nat} {x : α} (h : l[k]? = some x) : l.take (k + 1) = l.take k ++ [x] := by
  rw [List.take_succ, h] <;> rfl
/-- [elt for x in iter for y in iter1 if ..] -/
theorem e_lc2 (i j : Nat) {inner : Da → List Da} {p : Da → Da → Bool} {f : Da → Da → Da} (hsrc : SrcE X tg iter δ items) (hz : items.length ≤ 300) (hz1 : ∀ x ∈ items, (inner x).length ≤ 300) (hN : X.N.Nodup) (ok : BlkOk X.N X.env.scope scope own)
    (hin : ∀ x ∈ items, ∀ s0 H0 C cl fp, SrcE (Blk X scope s0 H0 C cl fp) tg1 iter1 ((wipeD δ (own.map (·.2))).set i (.kn x)) (inner x))
    (turn : ∀ x ∈ items, ∀ y ∈ inner x, ∀ s0 H0 C cl fp, ETs (Blk X scope s0 H0 C cl fp) ifs1 (((wipeD δ (own.map (·.2))).set i (.kn x)).set j (.kn y)) (p x y) ∧ (p x y = true → E (Blk X scope s0 H0 C cl fp) elt (((wipeD δ (own.map (·.2))).set i (.kn x)).set j (.kn y)) (f x y)))
    (hg : ∀ s0 H0 C cl fp, PG (Blk X scope s0 H0 C cl fp) tg (gName i)) (hg1 : ∀ s0 H0 C cl fp, PG (Blk X scope s0 H0 C cl fp) tg1 (gName j)) (hi : i ∈ own.map (·.2) := by decide) (hj : j ∈ own.map (·.2) := by decide) (hc : X.calm = true := by rfl) (hs : ∀ x, foldedSetIterable iter X.env x = pure x := by intro _; rfl)
    (hs1 : ∀ env x, foldedSetIterable iter1 env x = pure x := by intro _ _; rfl) :
    E X (.ListComp elt [⟨tg, iter, [], 0⟩, ⟨tg1, iter1, ifs1, 0⟩] scope pos) δ (.lst (items.flatMap fun x => ((inner x).filter (p x)).map (f x))) := fun σ G S H1 e1 Q q => by
  obtain ⟨item, ⟨wi, hwi, hw⟩, hit⟩ := hsrc σ G S
  refine we_of (pe_lc2 (g := gName i) (g1 := gName j) (vs1 := [j]) (wi1 := fun σ H R => ∀ s0 H0 C cl fp, WI (Blk X scope s0 H0 C cl fp) tg1 iter1 σ H R) (tt := fun σ H Q => ∀ s0 H0 C cl fp, WTs (Blk X scope s0 H0 C cl fp) [] σ H Q) (tt1 := fun σ H Q => ∀ s0 H0 C cl fp, WTs (Blk X scope s0 H0 C cl fp) ifs1 σ H Q) (te := fun σ H Q => ∀ s0 H0 C cl fp, WE (Blk X scope s0 H0 C cl fp) elt σ H Q) hc hN hwi ok
    (fun l hl => by rw [List.mem_singleton.mp hl]; exact hj) hg (fun s0 H0 C cl fp => ⟨fun pins s σ H Q I h => h s0 H0 C cl fp pins s I⟩) (fun s0 H0 C cl fp => ⟨fun pins s σ H R I h => h s0 H0 C cl fp pins s I⟩) hg1
    (fun s0 H0 C cl fp => ⟨fun pins s σ H Q I h => h s0 H0 C cl fp pins s I⟩) (fun s0 H0 C cl fp => ⟨fun pins s σ H Q I h => h s0 H0 C cl fp pins s I⟩) hs hs1) ?_
  refine hw H1 e1 _ fun J G2 H2 g2 w D hD => ?_
  have gD : G2 D = none := Same.free g2.gh hD
  generalize hF : (fun x => ((inner x).filter (p x)).map (f x)) = F at q
  refine ⟨fun k m H => m = items.length - k ∧ k ≤ items.length ∧ ∃ Gc acc, Grow G2 H2 Gc H ∧ H D = some (.lst acc) ∧ Gc D = none ∧ acc.length ≤ 300 * k ∧ AtL X.K Gc acc ((items.take k).flatMap F), ⟨items.length, rfl, Nat.zero_le _, G2, [], Grow.own g2.gh hD, upd_same, gD, Nat.le_refl _, .nil⟩, ?_⟩
  rintro k m H ⟨rfl, hk, Gc, acc, gr, eD, cD, hl, ha⟩
  by_cases hlt : k < items.length
  · refine .inr ⟨w.goes k H hlt (gr.gg.trans gr.gh), fun H' => k + 1 ≤ items.length ∧ ∃ Gc acc, Grow G2 H2 Gc H' ∧ H' D = some (.lst acc) ∧ Gc D = none ∧ acc.length ≤ 300 * (k + 1) ∧ AtL X.K Gc acc ((items.take (k + 1)).flatMap F), fun H' p' => ⟨items.length - (k + 1), by omega, rfl, p'.1, p'.2⟩, fun x H' y => ?_⟩
    obtain ⟨Gx, gx, hx⟩ := w.yields k H x H' hlt (gr.gg.trans gr.gh) y Gc gr.gg gr.gh
    rw [hit k hlt] at hx
    have hx0 : items[k]? = some (items.getD k .non) := getD_some hlt
    generalize items.getD k .non = x0 at hx hx0
    have hm : x0 ∈ items := List.mem_of_getElem? hx0
    have gDx : Gx D = none := gx.unk cD (by rw [eD]; exact fun z => nomatch z)
    have eDx := gx.keeps eD
    show wipe ((wipe σ (own.map (·.2))).set i (some x)) (own.map (·.2)) = _ ∧ _
    refine ⟨by rw [wipe_in hi, wipe_idem], fun s0 H0 C cl fp => ?_⟩
    refine (ets_nil (X := Blk X scope s0 H0 C cl fp)) H' gx.gh _ fun G3 H3 g3 => iteT fun s0 H0 C cl fp => ?_
    have S2 : StK (Blk X scope s0 H0 C cl fp).K G3 ((wipe σ (own.map (·.2))).set i (some x)) ((wipeD δ (own.map (·.2))).set i (.kn x0)) := ((((S.up (((g2.gg.trans gr.gg).trans gx.gg).trans g3.gg)).wipe _).set (hx.up g3.gg) i))
    obtain ⟨item1, ⟨wi1, hwi1, hw1⟩, hit1⟩ := hin x0 hm s0 H0 C cl fp _ G3 S2
    intro pins s I
    refine hwi1.run pins s _ _ _ I (hw1 H3 g3.gh _ fun J1 G4 H4 g4 w1 => ?_)
    have g24 := ((gr.trans gx).trans g3).trans g4
    have eD4 := g4.keeps (g3.keeps eDx)
    have gD4 : G4 D = none := g4.unk (g3.unk gDx (by rw [eDx]; exact fun z => nomatch z)) (by rw [g3.keeps eDx]; exact fun z => nomatch z)
    have S4 := S2.up g4.gg
    refine ⟨fun l k' H => k' = (inner x0).length - l ∧ l ≤ (inner x0).length ∧ ∃ Gc acc, Grow G2 H2 Gc H ∧ Same G4 Gc ∧ H D = some (.lst acc) ∧ Gc D = none ∧ acc.length ≤ 300 * k + l ∧ AtL X.K Gc acc ((items.take k).flatMap F ++ (((inner x0).take l).filter (p x0)).map (f x0)), ⟨_, rfl, Nat.zero_le _, G4, acc, g24, Same.refl _, eD4, gD4, hl, by
      rw [List.take_zero]
      show AtL X.K G4 acc ((items.take k).flatMap F ++ [])
      rw [List.append_nil]
      exact ha.up ((gx.gg.trans g3.gg).trans g4.gg)⟩, ?_⟩
    rintro l k' H5 ⟨rfl, hl1, G5, acc5, gr5, s45, eD5, cD5, hl5, ha5⟩
    by_cases hlt1 : l < (inner x0).length
    · refine .inr ⟨w1.goes l H5 hlt1 (s45.trans gr5.gh), fun H' => l + 1 ≤ (inner x0).length ∧ ∃ Gc acc, Grow G2 H2 Gc H' ∧ Same G4 Gc ∧ H' D = some (.lst acc) ∧ Gc D = none ∧ acc.length ≤ 300 * k + (l + 1) ∧ AtL X.K Gc acc ((items.take k).flatMap F ++ (((inner x0).take (l + 1)).filter (p x0)).map (f x0)), fun H' p' => ⟨(inner x0).length - (l + 1), by omega, rfl, p'.1, p'.2⟩, fun y H6 hy => ?_⟩
      obtain ⟨Gy, gy, hy'⟩ := w1.yields l H5 y H6 hlt1 (s45.trans gr5.gh) hy G5 s45 gr5.gh
      rw [hit1 l hlt1] at hy'
      have hy0 : (inner x0)[l]? = some ((inner x0).getD l .non) := getD_some hlt1
      generalize (inner x0).getD l .non = y0 at hy' hy0
      have hm1 : y0 ∈ inner x0 := List.mem_of_getElem? hy0
      have gDy : Gy D = none := gy.unk cD5 (by rw [eD5]; exact fun z => nomatch z)
      have eDy := gy.keeps eD5
      have S6 : ∀ s0 H0 C cl fp, StK (Blk X scope s0 H0 C cl fp).K Gy ((wipe ((wipe σ (own.map (·.2))).set i (some x)) [j]).set j (some y)) (((wipeD δ (own.map (·.2))).set i (.kn x0)).set j (.kn y0)) := fun s0 H0 C cl fp => by
        have h : StK X.K Gy ((wipe ((wipe σ (own.map (·.2))).set i (some x)) [j]).set j (some y)) ((((wipeD δ (own.map (·.2))).set i (.kn x0)).set j .no).set j (.kn y0)) := ((S4.up (s45.trans gy.gg)).no j none).set hy' j
        rw [List.set_set] at h
        exact h
      show wipe ((wipe ((wipe σ (own.map (·.2))).set i (some x)) [j]).set j (some y)) [j] = _ ∧ _
      refine ⟨by rw [wipe_in (List.mem_singleton.mpr rfl), wipe_idem], fun s0 H0 C cl fp => ?_⟩
      refine (turn x0 hm y0 hm1 s0 H0 C cl fp).1 _ _ (S6 s0 H0 C cl fp) H6 gy.gh _ fun G7 H7 g7 => ?_
      have gD7 : G7 D = none := g7.unk gDy (by rw [eDy]; exact fun z => nomatch z)
      have eD7 := g7.keeps eDy
      have hsn : ((inner x0).take (l + 1)) = (inner x0).take l ++ [y0] := take_snoc hy0
      by_cases hp : p x0 y0 = true
      · rw [if_pos hp]
        intro s0 H0 C cl fp
        refine (turn x0 hm y0 hm1 s0 H0 C cl fp).2 hp _ _ ((S6 s0 H0 C cl fp).up g7.gg) H7 g7.gh _ fun z G8 H8 g8 hz8 => ?_
        have eD8 := g8.keeps eD7
        have gD8 : G8 D = none := g8.unk gD7 (by rw [eD7]; exact fun z => nomatch z)
        have hb : acc5.length < 100000 := by
          have := hz1 x0 hm
          omega
        refine ⟨acc5, eD8, Nat.lt_of_lt_of_le hb (by decide), hlt1, G8, acc5 ++ [z], (((gr5.trans gy).trans g7).trans g8).chg hD gD8, ((s45.trans gy.gg).trans g7.gg).trans g8.gg, upd_same, gD8, by rw [List.length_append]; exact Nat.succ_le_succ hl5, ?_⟩
        rw [hsn, List.filter_append, List.map_append, ← List.append_assoc]
        have e1 : List.map (f x0) (List.filter (p x0) [y0]) = [f x0 y0] := by simp [List.filter, hp]
        rw [e1]
        exact (ha5.up ((gy.gg.trans g7.gg).trans g8.gg)).snoc hz8
      · rw [if_neg hp]
        refine ⟨hlt1, G7, acc5, (gr5.trans gy).trans g7, (s45.trans gy.gg).trans g7.gg, eD7, gD7, Nat.le_succ_of_le hl5, ?_⟩
        rw [hsn, List.filter_append, List.map_append, ← List.append_assoc]
        have e1 : List.map (f x0) (List.filter (p x0) [y0]) = [] := by simp [List.filter, hp]
        rw [e1, List.append_nil]
        exact ha5.up (gy.gg.trans g7.gg)
    · have e : l = (inner x0).length := by omega
      subst e
      refine .inl ⟨w1.stops H5 (s45.trans gr5.gh), hlt, G5, acc5, gr5, eD5, cD5, ?_, ?_⟩
      · have := hz1 x0 hm
        omega
      · rw [take_snoc hx0, List.flatMap_append]
        rw [List.take_length] at ha5
        have e1 : List.flatMap F [x0] = ((inner x0).filter (p x0)).map (f x0) := by rw [← hF]; simp
        rw [e1]
        exact ha5
  · have e : k = items.length := by omega
    subst e
    refine .inl ⟨w.stops H (gr.gg.trans gr.gh), ?_⟩
    rw [List.take_length] at ha
    have gf := gr.frz hD cD eD
    refine q _ _ _ (g2.trans gf) (.lst upd_same (ha.up fun b o z => ?_))
    rw [upd_ne (ne_of_none z cD)]
    exact z
end

/-! ### sorted texts -/
def sle (a b : Str) : Bool := !decide (b.cps.toList < a.cps.toList)
def insS (x : Str) : List Str → List Str
  | [] => [x]
  | y :: l => if sle x y then x :: y :: l else y :: insS x l
def srt : List Str → List Str
  | [] => []
  | x :: l => insS x (srt l)
theorem insS_perm (x : Str) : ∀ l, (insS x l).Perm (x :: l)
  | [] => .refl _
  | y :: l => by
    unfold insS
    split
    · exact .refl _
    · exact ((insS_perm x l).cons y).trans (.swap x y l)
theorem srt_perm : ∀ l, (srt l).Perm l
  | [] => .refl _
  | x :: l => (insS_perm x (srt l)).trans ((srt_perm l).cons x)
theorem str_ext {x y : Str} (h : x.cps.toList = y.cps.toList) : x = y := PySem.W.str_of_cps h
theorem sle_refl (a : Str) : sle a a = true := by
  unfold sle
  rw [decide_eq_false (List.lt_irrefl _)]
  rfl
theorem sle_iff {a b : Str} : sle a b = true ↔ a.cps.toList ≤ b.cps.toList := by
  unfold sle
  rw [Bool.not_eq_true', decide_eq_false_iff_not, List.not_lt]
theorem sle_trans {a b c : Str} (h : sle a b = true) (k : sle b c = true) : sle a c = true := sle_iff.mpr (List.le_trans (sle_iff.mp h) (sle_iff.mp k))
theorem sle_total (a b : Str) : sle a b = true ∨ sle b a = true := by
  rw [sle_iff, sle_iff]
  exact List.le_total _ _
theorem sle_anti {a b : Str} (h : sle a b = true) (k : sle b a = true) : a = b := str_ext (List.le_antisymm (sle_iff.mp h) (sle_iff.mp k))
theorem insS_sorted (x : Str) : ∀ {l}, l.Pairwise (fun a b => sle a b = true) → (insS x l).Pairwise (fun a b => sle a b = true)
  | [], _ => List.pairwise_singleton _ _
  | y :: l, h => by
    unfold insS
    rw [List.pairwise_cons] at h
    split
    · rename_i e
      refine List.pairwise_cons.mpr ⟨fun z hz => ?_, List.pairwise_cons.mpr h⟩
      rcases List.mem_cons.mp hz with rfl | hz
      · exact e
      · exact sle_trans e (h.1 z hz)
    · rename_i e
      refine List.pairwise_cons.mpr ⟨fun z hz => ?_, insS_sorted x h.2⟩
      rcases List.mem_cons.mp ((insS_perm x l).mem_iff.mp hz) with rfl | hz
      · exact (sle_total _ _).resolve_left e
      · exact h.1 z hz
theorem srt_sorted : ∀ l, (srt l).Pairwise (fun a b => sle a b = true)
  | [] => .nil
  | x :: l => insS_sorted x (srt_sorted l)
theorem srt_uniq {l ys : List Str} (hp : ys.Perm l) (hs : ys.Pairwise (fun a b => sle a b = true)) : ys = srt l :=
  List.Perm.eq_of_pairwise (le := fun a b => sle a b = true) (fun a b _ _ h k => sle_anti h k) hs (srt_sorted l) (hp.trans (srt_perm l).symm)
end Fs
set_option Elab.async false
set_option linter.all false
set_option maxRecDepth 100000
set_option maxHeartbeats 2000000
/-! The walks: steps, parts, joined. -/
namespace Fs
open PySem PySem.Spec PyProof.Rows L2
theorem rising_pw : ∀ {r : List Str} {p : Str}, risingS p r = true → (p :: r).Pairwise (fun a b => sle a b = true)
  | [], p, _ => List.pairwise_singleton _ _
  | x :: r, p, h => by
    have h : (!ltCps x.cps.toList p.cps.toList && risingS x r) = true := h
    rw [Bool.and_eq_true] at h
    have ih := rising_pw h.2
    have e : sle p x = true := by
      unfold sle
      rw [← ltCps_eq]
      exact h.1
    refine List.pairwise_cons.mpr ⟨fun z hz => ?_, ih⟩
    rcases List.mem_cons.mp hz with rfl | hz
    · exact e
    · exact sle_trans e ((List.pairwise_cons.mp ih).1 z hz)
theorem sorted_pw : ∀ {ys : List Str}, sortedS ys = true → ys.Pairwise (fun a b => sle a b = true)
  | [], _ => .nil
  | _ :: _, h => rising_pw h
theorem cd_sortS {X : Cx} {l : List Str} (hl : l.length < 64) : CallD X.K (rSortedS X.K) [.lst (txs l)] (.lst (txs (srt l))) := fun xs G H Q z hx q => by
  cases hx with
  | cons h1 h2 =>
    cases h2
    cases h1 with
    | @lst a vs _ a1 a2 =>
      have e := AtL.strs_inv a2
      subst e
      refine ⟨a, l, rfl, Same.sqL z a1, hl, fun ys p hp hs hH => ?_⟩
      have e := srt_uniq hp (sorted_pw hs)
      subst e
      have g := Grow.new (o := .lst ((srt l).map V.str)) z hH
      exact q _ _ _ g (.lst upd_same (AtL.strs _))
section
variable {X : Cx} {e : Expr} {δ : De} {pos p : Pos}
theorem e_sortS (T : Tp X.K X.mg) {l : List Str} (h : E X e δ (.lst (txs l))) (hl : l.length < 64) (hg : Gl X "sorted" := by rfl) (he : starEach [e] X.env = (false, eval e X.env) :: starEach [] X.env := by rfl) (hpl : (backTo pos (starEach [] X.env)).any (·.1) = false := by rfl) : E X (.Call (.Name "sorted" p) [e] [] pos) δ (.lst (txs (srt l))) :=
  e_blt cr_sortedS T.sorted (a_cons h a_nil he) (cd_sortS hl) hg (by decide +kernel) (by decide) (by decide) he hpl
end
section
variable {P : Program} {w : World} {K : PySem.W.Frag} {mg : Str → Option Value} {base : Heap}
/-- one is_step -/
def isStep (kn : List Str) (m : Int) : Da → Bool
  | .tup [.int a, .str s, .int b] => (decide (s = "") || decide (s ∈ kn)) && ((decide (0 ≤ a) && decide (a < m)) && (decide (0 ≤ b) && decide (b < m)))
  | _ => false
theorem isStep_no {kn : List Str} {m : Int} {d : Da} (h : ∀ a s b, d ≠ .tup [.int a, .str s, .int b]) : isStep kn m d = false := by
  unfold isStep
  split
  · exact absurd rfl (h _ _ _)
  · rfl
theorem f_is_step (T : Tp K mg) {k : Nat} : Dfn P w K mg base CX0 (k + 2) "is_step" (SpF K fun ds r => ∃ d kn m, ds = [d, .tup (txs kn), .int m] ∧ (∀ es, d = .tup es → ∀ e ∈ es, e ≠ .exc) ∧ r = .bl (isStep kn m d)) := by
  obtain ⟨fd, F⟩ := T.c.def_ 5 (d := d_is_step) rfl
  refine dfn_of F (T.glo 5) sc_is_step ?_ (fun _ _ _ _ _ _ us hl => match us, hl with | [_, _, _], _ => rfl) ?_
  · rintro ds r ⟨d, kn, m, rfl, _⟩; rfl
  · rintro f cdv A outer s H EX hr ds r ⟨d, kn, m, rfl, hx, rfl⟩
    by_cases ht : ∃ es, d = .tup es
    rotate_left
    · have hn : isTup d = false := by
        cases d with
        | tup es => exact absurd ⟨es, rfl⟩ ht
        | _ => rfl
      refine s_if (k := true) (EB.is (b_w (w_or (k' := true) (b_not (b_val (e_isTup T (e_var 0 rfl)))) fun h => ?_)) ?_) (fun h => s_ret e_bl ?_) (fun h => nomatch h)
      · rw [hn] at h; cases h
      · rw [hn]; rfl
      · cases d <;> first | rfl | exact absurd ⟨_, rfl⟩ ht
    · obtain ⟨es, rfl⟩ := ht
      by_cases hl : es.length = 3
      rotate_left
      · refine s_if (k := true) (EB.is (b_w (w_or (b_not (b_val (e_isTup T (e_var 0 rfl)))) fun h => w_or (k' := true) (eb_cmpE op_ne (e_len T (e_var 0 rfl) (.inl rfl)) (e_gint T.step) od_neI) fun h => ?_)) ?_) (fun h => s_ret e_bl ?_) (fun h => nomatch h)
        · have h := of_decide_eq_true (nf h)
          exact absurd (by exact_mod_cast h) hl
        · simp
        · show Da.bl false = Da.bl (isStep kn m (.tup es))
          rw [isStep_no]
          intro a s b e
          cases e
          exact hl rfl
      · match es, hl with
        | [a, b, c], _ =>
          have ha := hx _ rfl a (by simp)
          have hc := hx _ rfl c (by simp)
          refine s_if (k := !isStr b) (EB.is (b_w (w_or (b_not (b_val (e_isTup T (e_var 0 rfl)))) fun h => w_or (eb_cmpE op_ne (e_len T (e_var 0 rfl) (.inl rfl)) (e_gint T.step) od_neI) fun h => w_or1 (b_not (b_val (e_isStr T (e_ix 1 (e_var 0 rfl) e_int (.inl rfl) rfl rfl)))))) ?_) (fun h => s_ret e_bl ?_) (fun h => s_nil ?_)
          · rfl
          · have h := nt h
            show Da.bl false = Da.bl (isStep kn m _)
            rw [isStep_no]
            intro a s b e
            cases e
            cases h
          · cases b with
            | str t =>
              refine s_if (k := !isNum a || !isNum c || !(decide (t = "") || decide (t ∈ kn))) (EB.is (b_w (w_or (b_not (b_val (e_call (f_is_number (k := 0) T) hr (by omega) pass0 (a_cons (e_ix 0 (e_var 0 rfl) e_int (.inl rfl) rfl rfl) a_nil) ⟨a, rfl, ha, rfl⟩))) fun h1 => w_or (b_not (b_val (e_call (f_is_number (k := 0) T) hr (by omega) pass0 (a_cons (e_ix 2 (e_var 0 rfl) e_int (.inl rfl) rfl rfl) a_nil) ⟨c, rfl, hc, rfl⟩))) fun h2 =>
                w_or1 (b_not (b_w (w_or (eb_cmpE op_eq (e_ix 1 (e_var 0 rfl) e_int (.inl rfl) rfl rfl) (e_gstr T.within) od_eqS) fun _ => w_or1 (eb_cmpE op_in_seq (e_ix 1 (e_var 0 rfl) e_int (.inl rfl) rfl rfl) (e_var 1 rfl) (od_inS (.inl rfl)))))))) ?_) (fun h => s_ret e_bl ?_) (fun h => s_nil ?_)
              · rw [Bool.or_assoc]
              · show Da.bl false = Da.bl (isStep kn m _)
                by_cases q : ∃ i j, a = .int i ∧ c = .int j
                · obtain ⟨i, j, rfl, rfl⟩ := q
                  have h : (!(decide (t = "") || decide (t ∈ kn))) = true := h
                  show Da.bl false = Da.bl ((decide (t = "") || decide (t ∈ kn)) && _)
                  rw [nt h]; rfl
                · rw [isStep_no]
                  intro i s j e
                  cases e
                  exact q ⟨i, j, rfl, rfl⟩
              · have h := h
                cases a <;> first | cases h | skip
                cases c <;> first | cases h | skip
                rename_i a c
                have h : (!(decide (t = "") || decide (t ∈ kn))) = false := h
                refine s_ret (E.is (e_andB (e_chain op_le op_lt e_int (e_ix 0 (e_var 0 rfl) e_int (.inl rfl) rfl rfl) (e_var 2 rfl) od_le od_lt) fun _ => e_one (e_chain op_le op_lt e_int (e_ix 2 (e_var 0 rfl) e_int (.inl rfl) rfl rfl) (e_var 2 rfl) od_le od_lt)) ?_) rfl
                show _ = Da.bl ((decide (t = "") || decide (t ∈ kn)) && _)
                rw [nf h]; rfl
            | _ => cases h
end
end Fs
set_option Elab.async false
set_option linter.all false
set_option maxRecDepth 100000
set_option maxHeartbeats 2000000
/-! The walk of is_part. -/
namespace Fs
open PySem PySem.Spec PyProof.Rows L2
section
variable {P : Program} {w : World} {K : PySem.W.Frag} {mg : Str → Option Value} {base : Heap}
def strs' : Da → List Str
  | .tup ds => ds.filterMap fun d => match d with
    | .str z => some z
    | _ => none
  | _ => []
theorem strs_txs (l : List Str) : strs' (.tup (txs l)) = l := by
  show (txs l).filterMap _ = l
  unfold txs
  rw [List.filterMap_map]
  exact List.filterMap_some ..
def isPart : Da → Bool
  | .tup [t, m, .int c, .tup sts] => isNameSet t && isNameSet m && !((strs' t).any fun x => decide (x ∈ strs' m)) && decide (1 ≤ c) && (sts.all (isStep (strs' t ++ strs' m) c) && ris sts)
  | _ => false
theorem isPart_no {d : Da} (h : ∀ t m c sts, d ≠ .tup [t, m, .int c, .tup sts]) : isPart d = false := by
  unfold isPart
  split
  · exact absurd rfl (h _ _ _ _)
  · rfl
theorem isPart_eq (t m : Da) (c : Int) (sts : List Da) : isPart (.tup [t, m, .int c, .tup sts]) = (isNameSet t && isNameSet m && !((strs' t).any fun x => decide (x ∈ strs' m)) && decide (1 ≤ c) && (sts.all (isStep (strs' t ++ strs' m) c) && ris sts)) := rfl
theorem nameSet_txs {d : Da} (h : isNameSet d = true) : ∃ l, d = .tup (txs l) ∧ (∀ z ∈ l, PySem.PyData.strOk z = true) ∧ (txs l).all isName = true := by
  cases d with
  | tup es =>
    have h : (es.all isName && ris es) = true := h
    rw [Bool.and_eq_true] at h
    obtain ⟨l, rfl, hl⟩ := names_txs h.1
    exact ⟨l, rfl, hl, h.1⟩
  | _ => cases h
theorem step_shape {kn : List Str} {m : Int} {d : Da} (h : isStep kn m d = true) : ∃ a s b, d = .tup [.int a, .str s, .int b] := by
  by_cases q : ∃ a s b, d = .tup [.int a, .str s, .int b]
  · exact q
  · rw [isStep_no fun a s b e => q ⟨a, s, b, e⟩] at h
    cases h
theorem alk_steps {sts : List Da} {kn : List Str} {m : Int} (h : sts.all (isStep kn m) = true) (ho : ∀ x ∈ sts, ∀ es, x = .tup es → ∀ y ∈ es, ∀ z, y = .str z → PySem.PyData.strOk z = true) : alk sts := fun u hu => by
  obtain ⟨a, s, b, rfl⟩ := step_shape (List.all_eq_true.mp h u hu)
  have hs := ho _ hu _ rfl (.str s) (by simp) s rfl
  refine ⟨?_, by rw [py]; exact fun e => (nomatch e), fun v hv => ?_⟩
  · simp [fit, hs]
  · obtain ⟨a', s', b', rfl⟩ := step_shape (List.all_eq_true.mp h v hv)
    simp [py, pyL, PySem.W.alike, PySem.W.alikeAll]
structure OkP (d : Da) : Prop where
  s0 : ∀ t m c e, d = .tup [t, m, c, e] → smN t ∧ smN m ∧ c ≠ .exc
  s3 : ∀ t m c sts, d = .tup [t, m, c, .tup sts] → sts.length ≤ 1000 ∧ ∀ x ∈ sts, ∀ es, x = .tup es → ∀ y ∈ es, y ≠ .exc ∧ ∀ z, y = .str z → PySem.PyData.strOk z = true
theorem len4 {es : List Da} (h : es.length = 4) : ∃ t m c e, es = [t, m, c, e] := by
  match es, h with
  | [t, m, c, e], _ => exact ⟨t, m, c, e, rfl⟩
theorem f_is_part (T : Tp K mg) {k : Nat} : Dfn P w K mg base CX0 (k + 3) "is_part" (SpF K fun ds r => ∃ d, ds = [d] ∧ OkP d ∧ r = .bl (isPart d)) := by
  obtain ⟨fd, F⟩ := T.c.def_ 6 (d := d_is_part) rfl
  refine dfn_of F (T.glo 6) sc_is_part ?_ (fun _ _ _ _ _ _ us hl => match us, hl with | [_], _ => rfl) ?_
  · rintro ds r ⟨d, rfl, _⟩; rfl
  · rintro f cdv A outer s H EX hr ds r ⟨d, rfl, hx, rfl⟩
    by_cases ht : ∃ es, d = .tup es
    rotate_left
    · have hn : isTup d = false := by
        cases d with
        | tup es => exact absurd ⟨es, rfl⟩ ht
        | _ => rfl
      refine s_if (k := true) (EB.is (b_w (w_or (k' := true) (b_not (b_val (e_isTup T (e_var 0 rfl)))) fun h => ?_)) ?_) (fun h => s_ret e_bl ?_) (fun h => nomatch h)
      · rw [hn] at h; cases h
      · rw [hn]; rfl
      · show Da.bl false = Da.bl (isPart d)
        rw [isPart_no]
        intro t m c sts e
        exact ht ⟨_, e⟩
    obtain ⟨es, rfl⟩ := ht
    by_cases hl : es.length = 4
    rotate_left
    · refine s_if (k := true) (EB.is (b_w (w_or (b_not (b_val (e_isTup T (e_var 0 rfl)))) fun h => w_or (k' := true) (eb_cmpE op_ne (e_len T (e_var 0 rfl) (.inl rfl)) (e_gint T.parts) od_neI) fun h => ?_)) ?_) (fun h => s_ret e_bl ?_) (fun h => nomatch h)
      · have h := of_decide_eq_true (nf h)
        exact absurd (by exact_mod_cast h) hl
      · simp
      · show Da.bl false = Da.bl (isPart (.tup es))
        rw [isPart_no]
        intro t m c sts e
        cases e
        exact hl rfl
    obtain ⟨t, m, c, e, rfl⟩ := len4 hl
    obtain ⟨st, sm, hc⟩ := hx.s0 t m c e rfl
    refine s_if (k := !isNameSet t || !isNameSet m) (EB.is (b_w (w_or (b_not (b_val (e_isTup T (e_var 0 rfl)))) fun h => w_or (eb_cmpE op_ne (e_len T (e_var 0 rfl) (.inl rfl)) (e_gint T.parts) od_neI) fun h =>
      w_or (b_not (b_val (e_call (f_is_name_set (k := 0) T) hr (by omega) pass0 (a_cons (e_ix 0 (e_var 0 rfl) e_int (.inl rfl) rfl rfl) a_nil) ⟨t, rfl, st, rfl⟩))) fun h => w_or1 (b_not (b_val (e_call (f_is_name_set (k := 0) T) hr (by omega) pass0 (a_cons (e_ix 1 (e_var 0 rfl) e_int (.inl rfl) rfl rfl) a_nil) ⟨m, rfl, sm, rfl⟩))))) ?_) (fun h => s_ret e_bl ?_) (fun h => s_nil ?_)
    · rfl
    · show Da.bl false = Da.bl (isPart _)
      by_cases q : ∃ i sts, c = .int i ∧ e = .tup sts
      · obtain ⟨i, sts, rfl, rfl⟩ := q
        rw [isPart_eq]
        cases h1 : isNameSet t with
        | false => rfl
        | true =>
          cases h2 : isNameSet m with
          | false => rfl
          | true => rw [h1, h2] at h; cases h
      · rw [isPart_no]
        intro a b i sts e
        cases e
        exact q ⟨i, sts, rfl, rfl⟩
    rw [Bool.or_eq_false_iff] at h
    have ht := nf h.1
    have hm := nf h.2
    obtain ⟨tl, rfl, otl, _⟩ := nameSet_txs ht
    obtain ⟨ml, rfl, oml, _⟩ := nameSet_txs hm
    obtain ⟨st1, _⟩ := st _ rfl
    obtain ⟨sm1, _⟩ := sm _ rfl
    by_cases qc : ∃ i, c = .int i
    rotate_left
    · have hn : isNum c = false := by
        cases c with
        | int i => exact absurd ⟨i, rfl⟩ qc
        | _ => rfl
      refine s_if (k := true) (EB.is (b_w (w_or (b_val (e_any T (tl.map fun x => decide (x ∈ ml)) (e_lc 1 (p := fun _ => true) (f := fun d => match d with
          | .str z => .bl (decide (z ∈ ml))
          | _ => .non) (r_tup (e_ix 0 (e_var 0 rfl) e_int (.inl rfl) rfl rfl)) (by omega) sc_is_part.nd (blk_ok (own := [("call", 1)]) (by kernel_rfl)) (fun x hx s0 H0 C cl fp => ⟨ts_nil, fun _ => ?_⟩) (fun _ _ _ _ _ => pg_name sc_is_part.nd rfl (Or.inl rfl))) ?_)) fun _ =>
          w_or (k' := true) (b_not (b_val (e_call (f_is_number (k := 0) T) hr (by omega) pass0 (a_cons (e_ix 2 (e_var 0 rfl) e_int (.inl rfl) rfl rfl) a_nil) ⟨c, rfl, hc, rfl⟩))) fun h => ?_)) ?_) (fun h => s_ret e_bl ?_) (fun h => nomatch h)
      · obtain ⟨z, hz, rfl⟩ := List.mem_map.mp hx
        exact e_cmp op_in_seq (e_var 1 rfl) (e_ix 1 (e_var 0 rfl) e_int (.inl rfl) rfl rfl) (od_inS (.inl rfl))
      · rw [List.filter_eq_self.mpr (fun _ _ => rfl), List.map_map]
        unfold txs
        rw [List.map_map]
        rfl
      · rw [hn] at h; cases h
      · rw [hn]; simp
      · show Da.bl false = Da.bl (isPart _)
        rw [isPart_no]
        intro a b i sts e
        cases e
        exact qc ⟨i, rfl⟩
    obtain ⟨n, rfl⟩ := qc
    refine s_if (k := (tl.any fun x => decide (x ∈ ml)) || decide (n < 1)) (EB.is (b_w (w_or (b_val (e_any T (tl.map fun x => decide (x ∈ ml)) (e_lc 1 (p := fun _ => true) (f := fun d => match d with
          | .str z => .bl (decide (z ∈ ml))
          | _ => .non) (r_tup (e_ix 0 (e_var 0 rfl) e_int (.inl rfl) rfl rfl)) (by omega) sc_is_part.nd (blk_ok (own := [("call", 1)]) (by kernel_rfl)) (fun x hx s0 H0 C cl fp => ⟨ts_nil, fun _ => ?_⟩) (fun _ _ _ _ _ => pg_name sc_is_part.nd rfl (Or.inl rfl))) ?_)) fun _ =>
          w_or (b_not (b_val (e_call (f_is_number (k := 0) T) hr (by omega) pass0 (a_cons (e_ix 2 (e_var 0 rfl) e_int (.inl rfl) rfl rfl) a_nil) ⟨.int n, rfl, hc, rfl⟩))) fun h => w_or1 (eb_cmpE op_lt (e_ix 2 (e_var 0 rfl) e_int (.inl rfl) rfl rfl) e_int od_lt))) ?_) (fun h => s_ret e_bl ?_) (fun h => s_nil ?_)
    · obtain ⟨z, hz, rfl⟩ := List.mem_map.mp hx
      exact e_cmp op_in_seq (e_var 1 rfl) (e_ix 1 (e_var 0 rfl) e_int (.inl rfl) rfl rfl) (od_inS (.inl rfl))
    · rw [List.filter_eq_self.mpr (fun _ _ => rfl), List.map_map]
      unfold txs
      rw [List.map_map]
      rfl
    · rw [List.any_map]
      rfl
    · show Da.bl false = Da.bl (isPart _)
      by_cases q : ∃ sts, e = .tup sts
      · obtain ⟨sts, rfl⟩ := q
        rw [isPart_eq, strs_txs, strs_txs]
        have e1 : decide (1 ≤ n) = !decide (n < 1) := by
          by_cases h : n < 1
          · rw [decide_eq_true h, decide_eq_false (by omega)]; rfl
          · rw [decide_eq_false h, decide_eq_true (by omega)]; rfl
        rw [e1]
        revert h
        cases (tl.any fun x => decide (x ∈ ml)) <;> cases decide (n < 1) <;> simp
      · rw [isPart_no]
        intro a b i sts e
        cases e
        exact q ⟨sts, rfl⟩
    rw [Bool.or_eq_false_iff] at h
    have h5 := h
    refine s_if (k := !isTup e) (b_not (b_val (e_isTup T (e_ix 3 (e_var 0 rfl) e_int (.inl rfl) rfl rfl)))) (fun h => s_ret e_bl ?_) (fun h => s_nil ?_)
    · show Da.bl false = Da.bl (isPart _)
      rw [isPart_no]
      intro a b i sts e
      cases e
      cases h
    cases e with
    | tup sts =>
      obtain ⟨l3, x3⟩ := hx.s3 _ _ _ sts rfl
      refine s_ret (E.is (e_andB (k' := ris sts) (e_all T (sts.map (isStep (tl ++ ml) n)) (e_lc 2 (p := fun _ => true) (f := fun d => .bl (isStep (tl ++ ml) n d)) (r_tup (e_ix 3 (e_var 0 rfl) e_int (.inl rfl) rfl rfl)) (by omega) sc_is_part.nd (blk_ok (own := [("step", 2)]) (by kernel_rfl)) (fun x hx s0 H0 C cl fp => ⟨ts_nil, fun _ => ?_⟩) (fun _ _ _ _ _ => pg_name sc_is_part.nd rfl (Or.inl rfl))) ?_) fun hn =>
        e_one (e_call (f_is_rising (k := 0) T) hr (by omega) pass0 (a_cons (e_ix 3 (e_var 0 rfl) e_int (.inl rfl) rfl rfl) a_nil) ⟨_, rfl, ?_, l3, rfl⟩)) ?_) rfl
      · refine e_call (f_is_step (k := 0) T) hr (by omega) pass0 (a_cons (e_var 2 rfl) (a_cons (e_op op_catA (e_ix 0 (e_var 0 rfl) e_int (.inl rfl) rfl rfl) (e_ix 1 (e_var 0 rfl) e_int (.inl rfl) rfl rfl) (od_catT (by omega))) (a_cons (e_ix 2 (e_var 0 rfl) e_int (.inl rfl) rfl rfl) a_nil))) ⟨x, tl ++ ml, n, ?_, fun es he y hy => (x3 x hx es he y hy).1, rfl⟩
        unfold txs
        rw [List.map_append]
      · rw [List.filter_eq_self.mpr (fun _ _ => rfl), List.map_map]
        rfl
      · rw [List.all_map] at hn
        exact alk_steps hn fun x hx es he y hy => (x3 x hx es he y hy).2
      · show _ = Da.bl (isPart _)
        rw [isPart_eq, strs_txs, strs_txs, ht, hm, List.all_map]
        have e1 : decide (1 ≤ n) = true := decide_eq_true (by have := of_decide_eq_false h5.2; omega)
        rw [e1, h5.1]
        rfl
    | _ => cases h
end
end Fs
set_option Elab.async false
set_option linter.all false
set_option maxRecDepth 100000
set_option maxHeartbeats 2000000
/-! The walks: tupled, joined, outside. -/
namespace Fs
open PySem PySem.Spec PyProof.Rows L2
/-- at most n deep, nothing long, no error within -/
def ok : Nat → Da → Bool
  | _, .non => true
  | _, .bl _ => true
  | _, .int _ => true
  | _, .str x => PySem.PyData.strOk x && decide (x.length ≤ 1000)
  | n + 1, .lst xs => decide (xs.length ≤ 1000) && xs.all (ok n)
  | n + 1, .tup xs => decide (xs.length ≤ 1000) && xs.all (ok n)
  | 0, .lst _ => false
  | 0, .tup _ => false
  | _, .exc => false
theorem ok_fit : ∀ (n : Nat) (d : Da), ok n d = true → fit n d = true
  | _, .non, _ => by rw [fit]
  | _, .bl b, _ => by rw [fit]
  | _, .int i, _ => by rw [fit]
  | _, .str x, h => by
    rw [ok, Bool.and_eq_true] at h
    rw [fit]
    exact h.1
  | n + 1, .lst xs, h => by
    rw [ok, Bool.and_eq_true] at h
    rw [fit]
    exact List.all_eq_true.mpr fun x hx => ok_fit n x (List.all_eq_true.mp h.2 x hx)
  | n + 1, .tup xs, h => by
    rw [ok, Bool.and_eq_true] at h
    rw [fit]
    exact List.all_eq_true.mpr fun x hx => ok_fit n x (List.all_eq_true.mp h.2 x hx)
  | 0, .lst _, h => by rw [ok] at h; cases h
  | 0, .tup _, h => by rw [ok] at h; cases h
  | _, .exc, h => by rw [ok] at h; cases h
theorem ok_exc {n : Nat} {d : Da} (h : ok n d = true) : d ≠ .exc := fun e => by subst e; rw [ok] at h; cases h
mutual
def tpl : Da → Da
  | .lst xs => .tup (tplL xs)
  | .tup xs => .tup (tplL xs)
  | d => d
def tplL : List Da → List Da
  | [] => []
  | d :: ds => tpl d :: tplL ds
end
theorem tplL_eq : ∀ xs : List Da, tplL xs = xs.map tpl
  | [] => by rw [tplL] <;> rfl
  | d :: ds => by rw [tplL, tplL_eq ds] <;> rfl
theorem tpl_lst (xs : List Da) : tpl (.lst xs) = .tup (xs.map tpl) := by rw [tpl, tplL_eq]
theorem tpl_tup (xs : List Da) : tpl (.tup xs) = .tup (xs.map tpl) := by rw [tpl, tplL_eq]
def isSeq : Da → Bool
  | .lst _ => true
  | .tup _ => true
  | _ => false
theorem isSeq_or (d : Da) : (isLst d || isTup d) = isSeq d := by cases d <;> rfl
theorem tpl_id {d : Da} (h : isSeq d = false) : tpl d = d := by
  cases d with
  | lst xs => cases h
  | tup xs => cases h
  | _ => simp [tpl]
theorem ok0 {d : Da} (h : ok 0 d = true) : isSeq d = false := by
  cases d with
  | lst xs => rw [ok] at h; cases h
  | tup xs => rw [ok] at h; cases h
  | _ => rfl
theorem filter_tt {α : Type} (l : List α) : (l.filter fun _ => true) = l := List.filter_eq_self.mpr fun _ _ => rfl
section
variable {P : Program} {w : World} {K : PySem.W.Frag} {mg : Str → Option Value} {base : Heap}
theorem tup_map {n : Nat} {d : Da} {ds : List Da} (f : Da → Da) : True := trivial
theorem f_tupled (T : Tp K mg) : ∀ (n : Nat) {k : Nat}, Dfn P w K mg base CX0 (k + n + 1) "tupled" (SpF K fun ds r => ∃ d, ds = [d] ∧ ok n d = true ∧ r = tpl d) := by
  intro n
  induction n with
  | zero =>
    intro k
    obtain ⟨fd, F⟩ := T.c.def_ 4 (d := d_tupled) rfl
    refine dfn_of F (T.glo 4) sc_tupled ?_ (fun _ _ _ _ _ _ us hl => match us, hl with | [_], _ => rfl) ?_
    · rintro ds r ⟨d, rfl, _⟩; rfl
    · rintro f cdv A outer s H EX hr ds r ⟨d, rfl, hd, rfl⟩
      refine s_ret (e_ife (b_val (e_isi2 (e_var 0 rfl) (ok_exc hd) T.isinstance T.tlist T.ttup (kit_lst (ok_exc hd)) (kit_tup (ok_exc hd)))) (fun h => ?_) fun h => E.is (e_var 0 rfl) ?_) rfl
      · rw [isSeq_or] at h
        rw [ok0 hd] at h
        cases h
      · rw [isSeq_or] at h
        exact (tpl_id h).symm
  | succ n ih =>
    intro k
    obtain ⟨fd, F⟩ := T.c.def_ 4 (d := d_tupled) rfl
    refine dfn_of F (T.glo 4) sc_tupled ?_ (fun _ _ _ _ _ _ us hl => match us, hl with | [_], _ => rfl) ?_
    · rintro ds r ⟨d, rfl, _⟩; rfl
    · rintro f cdv A outer s H EX hr ds r ⟨d, rfl, hd, rfl⟩
      have key : ∀ es, (d = .tup es ∨ d = .lst es) → tpl d = .tup (es.map tpl) ∧ es.length ≤ 1000 ∧ ∀ x ∈ es, ok n x = true := by
        intro es he
        rcases he with rfl | rfl
        · rw [ok, Bool.and_eq_true, decide_eq_true_eq, List.all_eq_true] at hd
          exact ⟨tpl_tup es, hd.1, hd.2⟩
        · rw [ok, Bool.and_eq_true, decide_eq_true_eq, List.all_eq_true] at hd
          exact ⟨tpl_lst es, hd.1, hd.2⟩
      refine s_ret (e_ife (b_val (e_isi2 (e_var 0 rfl) (ok_exc hd) T.isinstance T.tlist T.ttup (kit_lst (ok_exc hd)) (kit_tup (ok_exc hd)))) (fun h => ?_) fun h => E.is (e_var 0 rfl) ?_) rfl
      · rw [isSeq_or] at h
        have hs : ∃ es, d = .tup es ∨ d = .lst es := by
          cases d with
          | tup es => exact ⟨es, .inl rfl⟩
          | lst es => exact ⟨es, .inr rfl⟩
          | _ => cases h
        obtain ⟨es, he⟩ := hs
        obtain ⟨e1, e2, e3⟩ := key es he
        rw [e1]
        have src : ∀ {tg l : Expr} {X : Cx} {δ : De}, E X l δ d → SrcE X tg l δ es := fun h => by
          rcases he with rfl | rfl
          · exact r_tup h
          · exact r_lst h
        refine E.is (e_tuple T (e_lc 1 (p := fun _ => true) (f := tpl) (src (e_var 0 rfl)) (by omega) sc_tupled.nd (blk_ok (own := [("part", 1)]) (by kernel_rfl)) (fun x hx s0 H0 C cl fp => ⟨ts_nil, fun _ => ?_⟩) (fun _ _ _ _ _ => pg_name sc_tupled.nd rfl (Or.inl rfl))) (.inr rfl)) ?_
        · exact e_call (ih (k := 0)) hr (by omega) pass0 (a_cons (e_var 1 rfl) a_nil) ⟨x, rfl, e3 x hx, rfl⟩
        · rw [filter_tt]
      · rw [isSeq_or] at h
        exact (tpl_id h).symm

/-! ### parts -/
abbrev Stp := Int × Str × Int
structure Pt where
  t : List Str
  m : List Str
  n : Int
  s : List Stp
deriving DecidableEq
def encS (q : Stp) : Da := .tup [.int q.1, .str q.2.1, .int q.2.2]
def enc (p : Pt) : Da := .tup [.tup (txs p.t), .tup (txs p.m), .int p.n, .tup (p.s.map encS)]
def txq (d : Da) (l : List Str) : Prop := d = .tup (txs l) ∨ d = .lst (txs l)
/-- d is the part p, in tuples or lists -/
def Raw (d : Da) (p : Pt) : Prop := ok 3 d = true ∧ tpl d = enc p ∧ ∃ a b c e, (d = .tup [a, b, c, e] ∨ d = .lst [a, b, c, e]) ∧ txq a p.t ∧ txq b p.m
structure PtOk (p : Pt) : Prop where
  t : p.t.length ≤ 20 ∧ ∀ z ∈ p.t, PySem.PyData.strOk z = true ∧ z.length ≤ 1000
  m : p.m.length ≤ 20 ∧ ∀ z ∈ p.m, PySem.PyData.strOk z = true ∧ z.length ≤ 1000
  s : p.s.length ≤ 100 ∧ ∀ q ∈ p.s, PySem.PyData.strOk q.2.1 = true ∧ q.2.1.length ≤ 1000
def unj (p q : Pt) : List Str := srt (p.t.filter (fun x => decide (x ∈ q.t)) ++ p.m.filter (fun x => decide (x ∈ q.m)))
theorem flat2 {α : Type} (F : Da → List α) : List.flatMap F [Da.int 0, Da.int 1] = F (.int 0) ++ F (.int 1) := by simp
def at2 (a b : List Str) : Da → List Da
  | .int 0 => txs a
  | _ => txs b
def memD (m : List Str) : Da → Bool
  | .str z => decide (z ∈ m)
  | _ => false
def mem2 (a b : List Str) : Da → Da → Bool
  | .int 0 => memD a
  | _ => memD b
theorem txs_filter {l m : List Str} : (txs l).filter (memD m) = txs (l.filter fun x => decide (x ∈ m)) := by
  unfold txs
  rw [List.filter_map]
  rfl
theorem txs_app (l m : List Str) : txs (l ++ m) = txs l ++ txs m := List.map_append
theorem txs_len (l : List Str) : (txs l).length = l.length := List.length_map ..
theorem f_unjoinable (T : Tp K mg) {k : Nat} : Dfn P w K mg base CX0 (k + 6) "unjoinable" (SpF K fun ds r => ∃ d e p q, ds = [d, e] ∧ Raw d p ∧ Raw e q ∧ PtOk p ∧ PtOk q ∧ r = .tup (txs (unj p q))) := by
  obtain ⟨fd, F⟩ := T.c.def_ 7 (d := d_unjoinable) rfl
  refine dfn_of F (T.glo 7) sc_unjoinable ?_ (fun _ _ _ _ _ _ us hl => match us, hl with | [_, _], _ => rfl) ?_
  · rintro ds r ⟨d, e, p, q, rfl, _⟩; rfl
  · rintro f cdv A outer s H EX hr ds r ⟨d, e, p, q, rfl, hd, he, hp, hq, rfl⟩
    refine s_tup [2, 3] (e_tup (a_cons (e_call (f_tupled (k := 0) T 3) hr (by omega) pass0 (a_cons (e_var 0 rfl) a_nil) ⟨d, rfl, hd.1, rfl⟩) (a_cons (e_call (f_tupled (k := 0) T 3) hr (by omega) pass0 (a_cons (e_var 1 rfl) a_nil) ⟨e, rfl, he.1, rfl⟩) a_nil)) (by simp)) rfl
      (pg_tup rfl (pgs_cons (pg_name sc_unjoinable.nd rfl (Or.inr rfl)) (pgs_cons (pg_name sc_unjoinable.nd rfl (Or.inr rfl)) pgs_nil))) ?_
    rw [hd.2.1, he.2.1]
    refine s_ret (e_tuple T (e_sortS T (l := p.t.filter (fun x => decide (x ∈ q.t)) ++ p.m.filter (fun x => decide (x ∈ q.m))) (E.is (e_lc2 4 5 (items := [.int 0, .int 1]) (inner := at2 p.t p.m) (p := mem2 q.t q.m) (f := fun _ y => y) (r_tup (e_tup (a_cons e_int (a_cons e_int a_nil)) (by simp))) (by simp) ?_ sc_unjoinable.nd (blk_ok (own := [("k", 4), ("call", 5)]) (by kernel_rfl)) (fun x hx s0 H0 C cl fp => ?_) (fun x hx y hy s0 H0 C cl fp => ?_)
      (fun _ _ _ _ _ => pg_name sc_unjoinable.nd rfl (Or.inl rfl)) (fun _ _ _ _ _ => pg_name sc_unjoinable.nd rfl (Or.inl rfl))) ?_) ?_) (.inr rfl)) rfl
    · intro x hx
      have h1 := hp.t.1
      have h2 := hp.m.1
      rcases List.mem_cons.mp hx with rfl | hx
      · show (txs p.t).length ≤ 300
        rw [txs_len]; omega
      · rcases List.mem_cons.mp hx with rfl | hx
        · show (txs p.m).length ≤ 300
          rw [txs_len]; omega
        · cases hx
    · rcases List.mem_cons.mp hx with rfl | hx
      · exact r_tup (e_ix 0 (e_var 2 rfl) (e_var 4 rfl) (.inl rfl) rfl rfl)
      · rcases List.mem_cons.mp hx with rfl | hx
        · exact r_tup (e_ix 1 (e_var 2 rfl) (e_var 4 rfl) (.inl rfl) rfl rfl)
        · cases hx
    · rcases List.mem_cons.mp hx with rfl | hx
      · obtain ⟨z, hz, rfl⟩ := List.mem_map.mp (show y ∈ p.t.map Da.str from hy)
        exact ⟨ts_one (eb_cmpE op_in_seq (e_var 5 rfl) (e_ix 0 (e_var 3 rfl) (e_var 4 rfl) (.inl rfl) rfl rfl) (od_inS (.inl rfl))), fun _ => e_var 5 rfl⟩
      · rcases List.mem_cons.mp hx with rfl | hx
        · obtain ⟨z, hz, rfl⟩ := List.mem_map.mp (show y ∈ p.m.map Da.str from hy)
          exact ⟨ts_one (eb_cmpE op_in_seq (e_var 5 rfl) (e_ix 1 (e_var 3 rfl) (e_var 4 rfl) (.inl rfl) rfl rfl) (od_inS (.inl rfl))), fun _ => e_var 5 rfl⟩
        · cases hx
    · rw [flat2, txs_app, ← txs_filter, ← txs_filter, List.map_id', List.map_id']
      rfl
    · have h1 := hp.t.1
      have h2 := hp.m.1
      have h3 := List.length_filter_le (fun x => decide (x ∈ q.t)) p.t
      have h4 := List.length_filter_le (fun x => decide (x ∈ q.m)) p.m
      rw [List.length_append]
      omega
end
end Fs
set_option Elab.async false
set_option linter.all false
set_option maxRecDepth 100000
set_option maxHeartbeats 2000000
/-! The walks: joined, around. -/
namespace Fs
open PySem PySem.Spec PyProof.Rows L2
section
variable {P : Program} {w : World} {K : PySem.W.Frag} {mg : Str → Option Value} {base : Heap}
theorem f_check (T : Tp K mg) {k : Nat} : Dfn P w K mg base CX0 (k + 7) "check_joinable" (SpF K fun ds r => ∃ d e p q, ds = [d, e] ∧ Raw d p ∧ Raw e q ∧ PtOk p ∧ PtOk q ∧ unj p q = [] ∧ r = .non) := by
  obtain ⟨fd, F⟩ := T.c.def_ 8 (d := d_check_joinable) rfl
  refine dfn_of F (T.glo 8) sc_check_joinable ?_ (fun _ _ _ _ _ _ us hl => match us, hl with | [_, _], _ => rfl) ?_
  · rintro ds r ⟨d, e, p, q, rfl, _⟩; rfl
  · rintro f cdv A outer s H EX hr ds r ⟨d, e, p, q, rfl, hd, he, hp, hq, hu, rfl⟩
    refine s_for 2 (items := []) (r_tup (E.is (e_call (f_unjoinable (k := 0) T) hr (by omega) pass0 (a_cons (e_var 0 rfl) (a_cons (e_var 1 rfl) a_nil)) ⟨d, e, p, q, rfl, hd, he, hp, hq, rfl⟩) (by rw [hu]; rfl))) sc_check_joinable.nd PassesOwn.never (fun j δ' => j = 0) rfl (fun j y δ' h _ => by cases h) (fun δ' _ => s_nil rfl)
def com (p q : Pt) : List Str := srt ((p.t ++ p.m).filter fun x => decide (x ∈ q.t ++ q.m))
theorem f_common (T : Tp K mg) {k : Nat} : Dfn P w K mg base CX0 (k + 1) "common_calls" (SpF K fun ds r => ∃ p q, ds = [enc p, enc q] ∧ PtOk p ∧ PtOk q ∧ r = .tup (txs (com p q))) := by
  obtain ⟨fd, F⟩ := T.c.def_ 9 (d := d_common_calls) rfl
  refine dfn_of F (T.glo 9) sc_common_calls ?_ (fun _ _ _ _ _ _ us hl => match us, hl with | [_, _], _ => rfl) ?_
  · rintro ds r ⟨p, q, rfl, _⟩; rfl
  · rintro f cdv A outer s H EX hr ds r ⟨p, q, rfl, hp, hq, rfl⟩
    have h1 := hp.t.1
    have h2 := hp.m.1
    have h3 := hq.t.1
    have h4 := hq.m.1
    refine s_set 2 (d := .lst (txs (q.t ++ q.m))) (E.is (e_lst (a_star (e_ix 0 (e_var 1 rfl) e_int (.inl rfl) rfl rfl) (.inl rfl) (a_star (e_ix 1 (e_var 1 rfl) e_int (.inl rfl) rfl rfl) (.inl rfl) a_nil)) ?_) ?_) sc_common_calls.nd ?_
    · simp only [List.length_append, txs_len, List.length_nil]
      omega
    · rw [List.append_nil, txs_app]
    refine s_ret (e_tuple T (e_sortS T (l := (p.t ++ p.m).filter fun x => decide (x ∈ q.t ++ q.m)) (E.is (e_lc 3 (items := txs (p.t ++ p.m)) (p := memD (q.t ++ q.m)) (f := fun d => d) (r_lst (E.is (e_lst (a_star (e_ix 0 (e_var 0 rfl) e_int (.inl rfl) rfl rfl) (.inl rfl) (a_star (e_ix 1 (e_var 0 rfl) e_int (.inl rfl) rfl rfl) (.inl rfl) a_nil)) ?_) ?_)) ?_ sc_common_calls.nd (blk_ok (own := [("call", 3)]) (by kernel_rfl)) (fun x hx s0 H0 C cl fp => ?_) (fun _ _ _ _ _ => pg_name sc_common_calls.nd rfl (Or.inl rfl))) ?_) ?_) (.inr rfl)) rfl
    · simp only [List.length_append, txs_len, List.length_nil]
      omega
    · rw [List.append_nil, txs_app]
    · rw [txs_len, List.length_append]
      omega
    · obtain ⟨z, hz, rfl⟩ := List.mem_map.mp hx
      exact ⟨ts_one (eb_cmpE op_in_seq (e_var 3 rfl) (e_var 2 rfl) (od_inS (.inr rfl))), fun _ => e_var 3 rfl⟩
    · rw [txs_filter, List.map_id']
    · have h5 := List.length_filter_le (fun x => decide (x ∈ q.t ++ q.m)) (p.t ++ p.m)
      rw [List.length_append] at h5
      omega
def leadsI (s : List Stp) (x : Int) (c : Str) : List Int := (s.filter fun q => decide (q.1 = x) && decide (q.2.1 = c)).map fun q => q.2.2
def stpP (g : Stp → Bool) : Da → Bool
  | .tup [.int a, .str s, .int b] => g (a, s, b)
  | _ => false
def stpF (g : Stp → Da) : Da → Da
  | .tup [.int a, .str s, .int b] => g (a, s, b)
  | _ => .non
theorem steps_fm {s : List Stp} {g : Stp → Bool} {h : Stp → Da} : ((s.map encS).filter (stpP g)).map (stpF h) = (s.filter g).map h := by
  rw [List.filter_map, List.map_map]
  rfl
theorem f_leads (T : Tp K mg) {k : Nat} : Dfn P w K mg base CX0 (k + 1) "leads" (SpF K fun ds r => ∃ p x c, ds = [enc p, .int x, .str c] ∧ PtOk p ∧ r = .lst ((leadsI p.s x c).map .int)) := by
  obtain ⟨fd, F⟩ := T.c.def_ 10 (d := d_leads) rfl
  refine dfn_of F (T.glo 10) sc_leads ?_ (fun _ _ _ _ _ _ us hl => match us, hl with | [_, _, _], _ => rfl) ?_
  · rintro ds r ⟨p, x, c, rfl, _⟩; rfl
  · rintro f cdv A outer s H EX hr ds r ⟨p, x, c, rfl, hp, rfl⟩
    have h1 := hp.s.1
    refine s_ret (E.is (e_lcT [3, 4, 5] (p := stpP fun q => decide (q.1 = x) && decide (q.2.1 = c)) (f := stpF fun q => .int q.2.2) (r_tup (e_ix 3 (e_var 0 rfl) e_int (.inl rfl) rfl rfl)) (by rw [List.length_map]; omega) sc_leads.nd (blk_ok (own := [("before", 3), ("own", 4), ("after", 5)]) (by kernel_rfl)) (fun y hy => ?_)
      (fun _ _ _ _ _ => pg_tup rfl (pgs_cons (pg_name sc_leads.nd rfl (Or.inl rfl)) (pgs_cons (pg_name sc_leads.nd rfl (Or.inl rfl)) (pgs_cons (pg_name sc_leads.nd rfl (Or.inl rfl)) pgs_nil))))) ?_) rfl
    · obtain ⟨q, hq, rfl⟩ := List.mem_map.mp hy
      exact ⟨_, rfl, rfl, fun s0 H0 C cl fp => ⟨ts_one (b_w (w_and (eb_cmpE op_eq (e_var 3 rfl) (e_var 1 rfl) od_eqI) fun _ => w_and1 (eb_cmpE op_eq (e_var 4 rfl) (e_var 2 rfl) od_eqS))), fun _ => e_var 5 rfl⟩⟩
    · rw [steps_fm]
      unfold leadsI
      rw [List.map_map]
      rfl
theorem f_is_within (T : Tp K mg) {k : Nat} : Dfn P w K mg base CX0 (k + 1) "is_within" (SpF K fun ds r => ∃ a b, ds = [.tup (txs a), .tup (txs b)] ∧ a.length ≤ 1000 ∧ r = .bl (a.all fun x => decide (x ∈ b))) := by
  obtain ⟨fd, F⟩ := T.c.def_ 11 (d := d_is_within) rfl
  refine dfn_of F (T.glo 11) sc_is_within ?_ (fun _ _ _ _ _ _ us hl => match us, hl with | [_, _], _ => rfl) ?_
  · rintro ds r ⟨p, q, rfl, _⟩; rfl
  · rintro f cdv A outer s H EX hr ds r ⟨a, b, rfl, hz, rfl⟩
    refine s_ret (E.is (e_all T (a.map fun x => decide (x ∈ b)) (e_lc 2 (p := fun _ => true) (f := fun d => .bl (memD b d)) (r_tup (e_var 0 rfl)) (by rw [txs_len]; omega) sc_is_within.nd (blk_ok (own := [("call", 2)]) (by kernel_rfl)) (fun x hx s0 H0 C cl fp => ⟨ts_nil, fun _ => ?_⟩) (fun _ _ _ _ _ => pg_name sc_is_within.nd rfl (Or.inl rfl))) ?_) ?_) rfl
    · obtain ⟨z, hz, rfl⟩ := List.mem_map.mp hx
      exact e_cmp op_in_seq (e_var 2 rfl) (e_var 1 rfl) (od_inS (.inl rfl))
    · rw [filter_tt]
      unfold txs
      rw [List.map_map, List.map_map]
      rfl
    · rw [List.all_map]
      rfl
def still (l : List Str) : Pt := ⟨l, [], 1, l.map fun c => (0, c, 0)⟩
theorem f_still (T : Tp K mg) {k : Nat} : Dfn P w K mg base CX0 (k + 1) "standing_still" (SpF K fun ds r => ∃ a, ds = [.tup (txs a)] ∧ a.length ≤ 1000 ∧ r = enc (still a)) := by
  obtain ⟨fd, F⟩ := T.c.def_ 12 (d := d_standing_still) rfl
  refine dfn_of F (T.glo 12) sc_standing_still ?_ (fun _ _ _ _ _ _ us hl => match us, hl with | [_], _ => rfl) ?_
  · rintro ds r ⟨p, rfl, _⟩; rfl
  · rintro f cdv A outer s H EX hr ds r ⟨a, rfl, hz, rfl⟩
    refine s_ret (E.is (e_tup (a_cons (e_tuple T (e_var 0 rfl) (.inl rfl)) (a_cons (e_tup a_nil (by simp)) (a_cons e_int (a_cons (e_tuple T (e_lc 1 (p := fun _ => true) (f := fun d => .tup [.int 0, d, .int 0]) (r_tup (e_var 0 rfl)) (by rw [txs_len]; omega) sc_standing_still.nd (blk_ok (own := [("call", 1)]) (by kernel_rfl)) (fun x hx s0 H0 C cl fp => ⟨ts_nil, fun _ => ?_⟩) (fun _ _ _ _ _ => pg_name sc_standing_still.nd rfl (Or.inl rfl))) (.inr rfl)) a_nil)))) (by simp)) ?_) rfl
    · exact e_tup (a_cons e_int (a_cons (e_var 1 rfl) (a_cons e_int a_nil))) (by simp)
    · rw [filter_tt]
      unfold enc still txs
      rw [List.map_map, List.map_map]
      rfl
def outT (p q : Pt) : List Str := srt ((p.t ++ q.t).filter fun x => !decide (x ∈ com p q))
def outM (p q : Pt) : List Str := srt ((p.m ++ q.m).filter fun x => !decide (x ∈ com p q))
theorem txs_filterN {l m : List Str} : (txs l).filter (fun d => !memD m d) = txs (l.filter fun x => !decide (x ∈ m)) := by
  unfold txs
  rw [List.filter_map]
  rfl
def out2 (p q : Pt) : Da → Da
  | .int 0 => .tup (txs (outT p q))
  | _ => .tup (txs (outM p q))
theorem f_outside (T : Tp K mg) {k : Nat} : Dfn P w K mg base CX0 (k + 2) "outside_calls" (SpF K fun ds r => ∃ p q, ds = [enc p, enc q] ∧ PtOk p ∧ PtOk q ∧ r = .lst [.tup (txs (outT p q)), .tup (txs (outM p q))]) := by
  obtain ⟨fd, F⟩ := T.c.def_ 13 (d := d_outside_calls) rfl
  refine dfn_of F (T.glo 13) sc_outside_calls ?_ (fun _ _ _ _ _ _ us hl => match us, hl with | [_, _], _ => rfl) ?_
  · rintro ds r ⟨p, q, rfl, _⟩; rfl
  · rintro f cdv A outer s H EX hr ds r ⟨p, q, rfl, hp, hq, rfl⟩
    have h1 := hp.t.1
    have h2 := hp.m.1
    have h3 := hq.t.1
    have h4 := hq.m.1
    refine s_set 2 (e_call (f_common (k := 0) T) hr (by omega) pass0 (a_cons (e_var 0 rfl) (a_cons (e_var 1 rfl) a_nil)) ⟨p, q, rfl, hp, hq, rfl⟩) sc_outside_calls.nd ?_
    refine s_ret (E.is (e_lc 3 (items := [.int 0, .int 1]) (p := fun _ => true) (f := out2 p q) (r_tup (e_tup (a_cons e_int (a_cons e_int a_nil)) (by simp))) (by simp) sc_outside_calls.nd (blk_ok (own := [("k", 3)]) (by kernel_rfl)) (fun x hx s0 H0 C cl fp => ⟨ts_nil, fun _ => ?_⟩) (fun _ _ _ _ _ => pg_name sc_outside_calls.nd rfl (Or.inl rfl))) rfl) rfl
    rcases List.mem_cons.mp hx with rfl | hx
    · refine e_tuple T (e_sortS T (l := (p.t ++ q.t).filter fun x => !decide (x ∈ com p q)) (E.is (e_lc 4 (items := txs (p.t ++ q.t)) (p := fun d => !memD (com p q) d) (f := fun d => d) (r_tup (E.is (e_tup (a_star (e_ix 0 (e_var 0 rfl) (e_var 3 rfl) (.inl rfl) rfl rfl) (.inl rfl) (a_star (e_ix 0 (e_var 1 rfl) (e_var 3 rfl) (.inl rfl) rfl rfl) (.inl rfl) a_nil)) ?_) ?_)) ?_ sc_outside_calls.nd (blk_ok (own := [("call", 4)]) (by kernel_rfl)) (fun x hx s0 H0 C cl fp => ?_) (fun _ _ _ _ _ => pg_name sc_outside_calls.nd rfl (Or.inl rfl))) ?_) ?_) (.inr rfl)
      · simp only [List.length_append, txs_len, List.length_nil]
        omega
      · rw [List.append_nil, txs_app]
      · rw [txs_len, List.length_append]
        omega
      · obtain ⟨z, hz, rfl⟩ := List.mem_map.mp hx
        exact ⟨ts_one (eb_cmpE op_notIn_seq (e_var 4 rfl) (e_var 2 rfl) (od_niS (.inl rfl))), fun _ => e_var 4 rfl⟩
      · rw [txs_filterN, List.map_id']
      · have h5 := List.length_filter_le (fun x => !decide (x ∈ com p q)) (p.t ++ q.t)
        rw [List.length_append] at h5
        omega
    · rcases List.mem_cons.mp hx with rfl | hx
      · refine e_tuple T (e_sortS T (l := (p.m ++ q.m).filter fun x => !decide (x ∈ com p q)) (E.is (e_lc 4 (items := txs (p.m ++ q.m)) (p := fun d => !memD (com p q) d) (f := fun d => d) (r_tup (E.is (e_tup (a_star (e_ix 1 (e_var 0 rfl) (e_var 3 rfl) (.inl rfl) rfl rfl) (.inl rfl) (a_star (e_ix 1 (e_var 1 rfl) (e_var 3 rfl) (.inl rfl) rfl rfl) (.inl rfl) a_nil)) ?_) ?_)) ?_ sc_outside_calls.nd (blk_ok (own := [("call", 4)]) (by kernel_rfl)) (fun x hx s0 H0 C cl fp => ?_) (fun _ _ _ _ _ => pg_name sc_outside_calls.nd rfl (Or.inl rfl))) ?_) ?_) (.inr rfl)
        · simp only [List.length_append, txs_len, List.length_nil]
          omega
        · rw [List.append_nil, txs_app]
        · rw [txs_len, List.length_append]
          omega
        · obtain ⟨z, hz, rfl⟩ := List.mem_map.mp hx
          exact ⟨ts_one (eb_cmpE op_notIn_seq (e_var 4 rfl) (e_var 2 rfl) (od_niS (.inl rfl))), fun _ => e_var 4 rfl⟩
        · rw [txs_filterN, List.map_id']
        · have h5 := List.length_filter_le (fun x => !decide (x ∈ com p q)) (p.m ++ q.m)
          rw [List.length_append] at h5
          omega
      · cases hx
end
end Fs
set_option Elab.async false
set_option linter.all false
set_option maxRecDepth 100000
set_option maxHeartbeats 2000000
/-! The walks: is_around_both, quiet_both. -/
namespace Fs
open PySem PySem.Spec PyProof.Rows L2
section
variable {P : Program} {w : World} {K : PySem.W.Frag} {mg : Str → Option Value} {base : Heap}
theorem insS_len (x : Str) (l : List Str) : (insS x l).length = l.length + 1 := (insS_perm x l).length_eq
theorem srt_len (l : List Str) : (srt l).length = l.length := (srt_perm l).length_eq
theorem outT_len {p q : Pt} (hp : PtOk p) (hq : PtOk q) : (outT p q).length ≤ 40 := by
  have h1 := hp.t.1
  have h3 := hq.t.1
  unfold outT
  rw [srt_len]
  have h5 := List.length_filter_le (fun x => !decide (x ∈ com p q)) (p.t ++ q.t)
  rw [List.length_append] at h5
  omega
theorem outM_len {p q : Pt} (hp : PtOk p) (hq : PtOk q) : (outM p q).length ≤ 40 := by
  have h1 := hp.m.1
  have h3 := hq.m.1
  unfold outM
  rw [srt_len]
  have h5 := List.length_filter_le (fun x => !decide (x ∈ com p q)) (p.m ++ q.m)
  rw [List.length_append] at h5
  omega
def quiet (p q : Pt) : Pt := still (outM p q)
theorem f_quiet (T : Tp K mg) {k : Nat} : Dfn P w K mg base CX0 (k + 8) "quiet_both" (SpF K fun ds r => ∃ d e p q, ds = [d, e] ∧ Raw d p ∧ Raw e q ∧ PtOk p ∧ PtOk q ∧ unj p q = [] ∧ r = enc (quiet p q)) := by
  obtain ⟨fd, F⟩ := T.c.def_ 15 (d := d_quiet_both) rfl
  refine dfn_of F (T.glo 15) sc_quiet_both ?_ (fun _ _ _ _ _ _ us hl => match us, hl with | [_, _], _ => rfl) ?_
  · rintro ds r ⟨d, e, p, q, rfl, _⟩; rfl
  · rintro f cdv A outer s H EX hr ds r ⟨d, e, p, q, rfl, hd, he, hp, hq, hu, rfl⟩
    refine s_drop (e_call (f_check (k := 0) T) hr (by omega) pass0 (a_cons (e_var 0 rfl) (a_cons (e_var 1 rfl) a_nil)) ⟨d, e, p, q, rfl, hd, he, hp, hq, hu, rfl⟩) ?_
    refine s_ret (e_call (f_still (k := 0) T) hr (by omega) pass0 (a_cons (e_ix 1 (e_call (f_outside (k := 0) T) hr (by omega) pass0 (a_cons (e_call (f_tupled (k := 0) T 3) hr (by omega) pass0 (a_cons (e_var 0 rfl) a_nil) ⟨d, rfl, hd.1, rfl⟩) (a_cons (e_call (f_tupled (k := 0) T 3) hr (by omega) pass0 (a_cons (e_var 1 rfl) a_nil) ⟨e, rfl, he.1, rfl⟩) a_nil)) ⟨p, q, ?_, hp, hq, rfl⟩) e_int (.inr rfl) rfl rfl) a_nil) ⟨outM p q, rfl, ?_, rfl⟩) rfl
    · rw [hd.2.1, he.2.1]
    · have := outM_len hp hq
      omega
def thT : Da → List Str
  | .tup (t :: _) => strs' t
  | _ => []
def thM : Da → List Str
  | .tup (_ :: m :: _) => strs' m
  | _ => []
def every (p q : Pt) : List Str := p.t ++ p.m ++ (q.t ++ q.m)
def around (p q : Pt) (th : Da) : Bool := isPart th && ((thM th).all fun x => decide (x ∈ outT p q)) && ((outM p q).all fun x => decide (x ∈ thT th)) && !((every p q).any fun x => decide (x ∈ thT th) && !decide (x ∈ outM p q))
theorem part_shape {th : Da} (h : isPart th = true) : ∃ t m c sts, th = .tup [.tup (txs t), .tup (txs m), .int c, .tup sts] := by
  by_cases q : ∃ t m c sts, th = .tup [t, m, .int c, .tup sts]
  · obtain ⟨t, m, c, sts, rfl⟩ := q
    rw [isPart_eq] at h
    simp only [Bool.and_eq_true] at h
    obtain ⟨l, rfl, _⟩ := nameSet_txs h.1.1.1.1
    obtain ⟨l', rfl, _⟩ := nameSet_txs h.1.1.1.2
    exact ⟨l, l', c, sts, rfl⟩
  · rw [isPart_no fun t m c sts e => q ⟨t, m, c, sts, e⟩] at h
    cases h
theorem bnot_or (a b c d : Bool) : (!(!a || !b || !c) && d) = (a && b && c && d) := by cases a <;> cases b <;> cases c <;> rfl
theorem txq_ix {X : Cx} {e : Expr} {δ : De} {d : Da} {l : List Str} (h : E X e δ d) (hl : txq d l) {es : List Expr} {ds : List Da} {p : Pos} (k : EA X es δ ds) (hs : starEach (.Starred e p :: es) X.env = (true, eval e X.env) :: starEach es X.env := by rfl) : EA X (.Starred e p :: es) δ (txs l ++ ds) := a_star h hl k hs
def aroundF (a b : List Str) : Da → Da
  | .str z => .bl (decide (z ∈ a) && !decide (z ∈ b))
  | _ => .non
theorem f_around (T : Tp K mg) {k : Nat} : Dfn P w K mg base CX0 (k + 8) "is_around_both" (SpF K fun ds r => ∃ d e th p q, ds = [d, e, th] ∧ Raw d p ∧ Raw e q ∧ PtOk p ∧ PtOk q ∧ unj p q = [] ∧ OkP th ∧ r = .bl (around p q th)) := by
  obtain ⟨fd, F⟩ := T.c.def_ 14 (d := d_is_around_both) rfl
  refine dfn_of F (T.glo 14) sc_is_around_both ?_ (fun _ _ _ _ _ _ us hl => match us, hl with | [_, _, _], _ => rfl) ?_
  · rintro ds r ⟨d, e, th, p, q, rfl, _⟩; rfl
  · rintro f cdv A outer s H EX hr ds r ⟨d, e, th, p, q, rfl, hd, he, hp, hq, hu, hx, rfl⟩
    have h1 := hp.t.1
    have h2 := hp.m.1
    have h3 := hq.t.1
    have h4 := hq.m.1
    have hz := outM_len hp hq
    refine s_drop (e_call (f_check (k := 0) T) hr (by omega) pass0 (a_cons (e_var 0 rfl) (a_cons (e_var 1 rfl) a_nil)) ⟨d, e, p, q, rfl, hd, he, hp, hq, hu, rfl⟩) ?_
    refine s_unl [3, 4] (ds := [.tup (txs (outT p q)), .tup (txs (outM p q))]) (e_call (f_outside (k := 0) T) hr (by omega) pass0 (a_cons (e_call (f_tupled (k := 0) T 3) hr (by omega) pass0 (a_cons (e_var 0 rfl) a_nil) ⟨d, rfl, hd.1, rfl⟩) (a_cons (e_call (f_tupled (k := 0) T 3) hr (by omega) pass0 (a_cons (e_var 1 rfl) a_nil) ⟨e, rfl, he.1, rfl⟩) a_nil)) ⟨p, q, by rw [hd.2.1, he.2.1], hp, hq, rfl⟩) rfl
      (pg_unl rfl (pgs_cons (pg_name sc_is_around_both.nd rfl (Or.inl rfl)) (pgs_cons (pg_name sc_is_around_both.nd rfl (Or.inr rfl)) pgs_nil))) ?_
    by_cases hth : isPart th = true
    rotate_left
    · have hf : isPart th = false := by simpa using hth
      refine s_if (k := true) (EB.is (b_w (w_or (k' := true) (b_not (b_val (e_call (f_is_part (k := 0) T) hr (by omega) pass0 (a_cons (e_var 2 rfl) a_nil) ⟨th, rfl, hx, rfl⟩))) fun h => ?_)) ?_) (fun h => s_ret e_bl ?_) (fun h => nomatch h)
      · rw [hf] at h; cases h
      · rw [hf]; rfl
      · show Da.bl false = Da.bl (around p q th)
        unfold around
        rw [hf]; rfl
    obtain ⟨tl, ml, c, sts, rfl⟩ := part_shape hth
    have hl : tl.length ≤ 1000 ∧ ml.length ≤ 1000 := by
      obtain ⟨z1, z2, _⟩ := hx.s0 _ _ _ _ rfl
      have z1 := (z1 _ rfl).1
      have z2 := (z2 _ rfl).1
      rw [txs_len] at z1 z2
      exact ⟨z1, z2⟩
    refine s_if (k := !true || !(ml.all fun x => decide (x ∈ outT p q)) || !((outM p q).all fun x => decide (x ∈ tl))) (EB.is (b_w (w_or (b_not (b_val (e_call (f_is_part (k := 0) T) hr (by omega) pass0 (a_cons (e_var 2 rfl) a_nil) ⟨_, rfl, hx, rfl⟩))) fun _ =>
      w_or (b_not (b_val (e_call (f_is_within (k := 0) T) hr (by omega) pass0 (a_cons (e_ix 1 (e_var 2 rfl) e_int (.inl rfl) rfl rfl) (a_cons (e_var 3 rfl) a_nil)) ⟨ml, outT p q, rfl, hl.2, rfl⟩))) fun _ =>
      w_or1 (b_not (b_val (e_call (f_is_within (k := 0) T) hr (by omega) pass0 (a_cons (e_var 4 rfl) (a_cons (e_ix 0 (e_var 2 rfl) e_int (.inl rfl) rfl rfl) a_nil)) ⟨outM p q, tl, rfl, by omega, rfl⟩))))) ?_) (fun h => s_ret e_bl ?_) (fun h => s_nil ?_)
    · rw [hth, Bool.or_assoc]
    · show Da.bl false = Da.bl (around p q _)
      unfold around
      rw [hth]
      show Da.bl false = Da.bl (true && ((strs' (.tup (txs ml))).all fun x => decide (x ∈ outT p q)) && ((outM p q).all fun x => decide (x ∈ strs' (.tup (txs tl)))) && _)
      rw [strs_txs, strs_txs]
      revert h
      cases (ml.all fun x => decide (x ∈ outT p q)) <;> cases ((outM p q).all fun x => decide (x ∈ tl)) <;> intro h <;> first | rfl | cases h
    obtain ⟨a1, b1, c1, e1, hd1, hd2, hd3⟩ := hd.2.2
    obtain ⟨a2, b2, c2, e2, he1, he2, he3⟩ := he.2.2
    have sd : d = .tup [a1, b1, c1, e1] ∨ d = .lst [a1, b1, c1, e1] := hd1
    refine s_set 5 (d := .lst (txs (every p q))) (E.is (e_lst (txq_ix (e_ix 0 (e_var 0 rfl) e_int hd1 rfl rfl) hd2 (txq_ix (e_ix 1 (e_var 0 rfl) e_int hd1 rfl rfl) hd3 (txq_ix (e_ix 0 (e_var 1 rfl) e_int he1 rfl rfl) he2 (txq_ix (e_ix 1 (e_var 1 rfl) e_int he1 rfl rfl) he3 a_nil)))) ?_) ?_) sc_is_around_both.nd ?_
    · simp only [List.length_append, txs_len, List.length_nil]
      omega
    · unfold every
      rw [List.append_nil, txs_app, txs_app, txs_app, List.append_assoc]
    refine s_ret (E.is (e_not (e_any T ((every p q).map fun x => decide (x ∈ tl) && !decide (x ∈ outM p q)) (e_lc 6 (p := fun _ => true) (f := aroundF tl (outM p q)) (r_lst (e_var 5 rfl)) ?_ sc_is_around_both.nd (blk_ok (own := [("call", 6)]) (by kernel_rfl)) (fun x hx s0 H0 C cl fp => ⟨ts_nil, fun _ => ?_⟩) (fun _ _ _ _ _ => pg_name sc_is_around_both.nd rfl (Or.inl rfl))) ?_)) ?_) rfl
    · rw [txs_len]
      unfold every
      simp only [List.length_append]
      omega
    · obtain ⟨z, hz, rfl⟩ := List.mem_map.mp hx
      exact e_andB (e_cmp op_in_seq (e_var 6 rfl) (e_ix 0 (e_var 2 rfl) e_int (.inl rfl) rfl rfl) (od_inS (.inl rfl))) fun _ => e_one (e_cmp op_notIn_seq (e_var 6 rfl) (e_var 4 rfl) (od_niS (.inl rfl)))
    · rw [filter_tt]
      unfold txs
      rw [List.map_map, List.map_map]
      rfl
    · show _ = Da.bl (around p q _)
      unfold around
      rw [hth]
      show _ = Da.bl (true && ((strs' (.tup (txs ml))).all fun x => decide (x ∈ outT p q)) && ((outM p q).all fun x => decide (x ∈ strs' (.tup (txs tl)))) && !((every p q).any fun x => decide (x ∈ strs' (.tup (txs tl))) && !decide (x ∈ outM p q)))
      rw [strs_txs, strs_txs, List.any_map]
      revert h
      cases (ml.all fun x => decide (x ∈ outT p q)) <;> cases ((outM p q).all fun x => decide (x ∈ tl)) <;> intro h <;> first | rfl | cases h
end
end Fs
set_option Elab.async false
set_option linter.all false
set_option maxRecDepth 100000
set_option maxHeartbeats 2000000
/-! enumerate over a tuple. -/
namespace Fs
open PySem PySem.Spec PyProof.Rows L2
open AutoSeq1 (wpAny_loadPart')
theorem meets_enumB {v : Value} {o : Obj} {H : Heap → Prop} (B : Begins v o H) :
    Meets (Builtin.«enumerate.__new__» ⟨[.type "enumerate", v], []⟩) (fun _ R s => H s.heap ∧
      R (.ok (.ret (.ref (s.heap.push o).objs.size))) { s with heap := (s.heap.push o).push { cls := .type "enumerate", data := .fields #[.none, .bool false, .ref s.heap.objs.size, rawInt 0, .none, .none] } }) :=
  .of_wp fun prog w A R s h => by
    obtain ⟨hp, g, d, tk, os⟩ := s; obtain ⟨h1, h⟩ := h
    have hsub := sub_enumerate
    have q1 : ∀ {A' : Around} {E : Value → Shared → Prop} {Q : Value → Shared → Prop}, Q (.ref hp.objs.size) ⟨hp.push o, g, d, tk, os⟩ → wpAny (model prog w) A' (pyIter v) Q E ⟨hp, g, d, tk, os⟩ :=
      fun q => B.iter prog w _ _ ⟨hp, g, d, tk, os⟩ _ h1 q
    wp_walk using q1
    refine wpAny_stack_any fun st => wpAny_pure ?_
    split
    · rename_i c _ _ _ _ _
      cases (c == Value.type "enumerate")
      · wp_walk using q1
        exact ⟨_, rfl, h⟩
      · wp_walk using q1
        exact ⟨_, rfl, h⟩
    · wp_walk using q1
      exact ⟨_, rfl, h⟩
theorem call_enumB {prog : Program} {w : World} {A : Around} {E : Value → Shared → Prop} {s : Shared} {v : Value} {o : Obj} {H : Heap → Prop} {Q : Value → Shared → Prop} (B : Begins v o H) (h1 : H s.heap)
    (h : ∀ h', IsEnum h' (s.heap.objs.size + 1) s.heap.objs.size 0 .none → h'.get? s.heap.objs.size = some o → h'.objs.size = s.heap.objs.size + 2 →
      (∀ b o, s.heap.get? b = some o → h'.get? b = some o) → Q (.ref (s.heap.objs.size + 1)) { s with heap := h' }) :
    wpAny (model prog w) A (call (.type "enumerate") [v]) Q E s := by
  refine callType_new F.called_enumerate (by decide) (F.typeCall_enumerate_1 _) (F.newCall_enumerate_1 _) (fun obj => F.args_object_init_2 obj _) F.entry_enumerate_new
    (meets_enumB B) ⟨h1, ?_⟩
  have hz : (s.heap.push o).objs.size = s.heap.objs.size + 1 := Heap.size_push ..
  show _ ∧ _
  rw [hz]
  have he : IsEnum ((s.heap.push o).push { cls := .type "enumerate", data := .fields #[.none, .bool false, .ref s.heap.objs.size, rawInt 0, .none, .none] }) (s.heap.objs.size + 1) s.heap.objs.size 0 .none := by
    have := Heap.get?_push_size (s.heap.push o) (o := { cls := .type "enumerate", data := .fields #[.none, .bool false, .ref s.heap.objs.size, rawInt 0, .none, .none] }) rfl
    rw [hz] at this; exact this
  refine ⟨⟨_, he, rfl⟩, h _ he (Heap.get?_push_of_some _ (Heap.get?_push_size _ B.free)) (by rw [Heap.size_push, hz]) fun b o x => Heap.get?_push_of_some _ (Heap.get?_push_of_some _ x)⟩
def IteT (K : PySem.W.Frag) (a : Addr) : It :=
  ⟨fun i H => ∃ (xs : List V) (x : V), SqT K H a xs ∧ xs[i]? = some x, fun i H v H' => ∃ T x, v = .ref T ∧ H T = none ∧ H' = upd H T (.tup [.int (i : Nat), x]) ∧ ∀ xs, SqT K H a xs → xs[i]? = some x, fun i H => ∃ xs : List V, SqT K H a xs ∧ xs.length = i⟩
theorem tup_it_ne {h : Heap} {a it : Addr} {i : Nat} {items : Array Value} (h1 : h.IsTupleIter it a i) (h2 : h.IsTuple a items) : a ≠ it := fun e => by
  subst e
  obtain ⟨o, ho, hc, _⟩ := h1
  obtain ⟨o2, ho2, hc2, _⟩ := h2
  rw [ho] at ho2
  cases ho2
  rw [hc] at hc2
  exact absurd (Value.type.inj hc2) (by decide)
theorem tup_en_ne {h : Heap} {a e it : Addr} {c : Int} {old : Value} {items : Array Value} (h1 : IsEnum h e it c old) (h2 : h.IsTuple a items) : e ≠ a := fun q => by
  subst q
  obtain ⟨o2, ho2, hc2, _⟩ := h2
  have h1' : h.get? e = some _ := h1
  rw [h1'] at ho2
  cases ho2
  exact absurd (Value.type.inj hc2) (by decide)
theorem turn_enumT {P : Program} {w : World} {K : PySem.W.Frag} {elts : List Expr} {kk : Nat} {tpos : Pos} (a e it : Addr) :
    Turn P w K (.Tuple elts kk tpos) (IteT K a) [e, it] e (fun i h => (∃ old, IsEnum h e it ((i : Nat) : Int) old) ∧ h.IsTupleIter it a i ∧ e ≠ it) where
  mem := by simp
  obj := fun i h st b hb => by
    obtain ⟨⟨old, he⟩, ⟨o, ho, hc, hd⟩, _⟩ := st
    have e' : b = e ∨ b = it := by simpa using hb
    rcases e' with z | z
    · rw [z]; exact ⟨_, he, fun v q => nomatch q⟩
    · rw [z]; exact ⟨o, ho, fun v q => by rw [hd] at q; cases q⟩
  keep := fun i h h' st k => let ⟨⟨old, he⟩, hi, hne⟩ := st; ⟨⟨old, k e (by simp) _ he⟩, hi.at fun o q => k it (by simp) o q, hne⟩
  item := by
    intro X hP hw hK hc i pins s σ H E I hf st hg
    subst hP hw hK
    obtain ⟨⟨old, he⟩, hit, hne⟩ := st
    obtain ⟨xs, x, hq, hx⟩ := hg
    obtain ⟨its, rv, p, hz⟩ := I.tuple hq
    have p' : s.heap.IsTuple a its.toArray := p
    obtain ⟨u, hu, ru⟩ := rv.get hx
    have hel : e < s.heap.objs.size := Heap.lt_size he
    have hil : it < s.heap.objs.size := by obtain ⟨_, q, _⟩ := hit; exact Heap.lt_size q
    have hai := tup_it_ne hit p'
    have hlt : i < its.toArray.size := by
      rw [List.size_toArray]
      exact (List.getElem?_eq_some_iff.mp hu).1
    refine wpAny_pyNext_enum_itemC (Draws.tuple (A := X.A.in1) (show X.A.in1.handled = none from I.ok.hd hc) it a hai its.toArray) he ⟨hit, p'⟩ hlt hne (by simp [hne, tup_en_ne he p']) fun v h' tk hPv ho hst' hT hsz hk => ?_
    have ev : v = u := by
      have q1 : its.toArray[i]? = some v := hPv
      have q2 : its.toArray[i]? = some u := by simpa using hu
      rw [q1] at q2
      exact Option.some.inj q2
    subst ev
    refine ⟨_, rfl, wpAny_letOwnedTupleGo_enum (s := { s with heap := h', toks := tk + 1 }) ho fun h'' he' sb => ?_⟩
    have hT2 : h''.get? s.heap.objs.size = some { cls := .type "tuple", data := .seq #[.int i tk, v] } := (sb.2 _ (Nat.ne_of_gt hel)).trans hT
    have new : ObjOk X.prog X.w (upd H s.heap.objs.size (.tup [.int (i : Nat), x])) h'' s.heap.objs.size (.tup [.int (i : Nat), x]) :=
      ⟨by show 2 ≤ sizeLine; decide, [.int i tk, v], .cons ⟨_, rfl⟩ (.cons ru .nil), ⟨_, hT2, rfl, _, rfl⟩⟩
    have I1 : Inv X pins σ (upd H s.heap.objs.size (.tup [.int (i : Nat), x])) { s with heap := h'', toks := tk + 1 } :=
      I.turnedNew (ch := [e, it]) (fun b ob hb q => (sb.2 b (fun z => hb (by simp [z]))).trans (hk b ob (fun z => hb (by simp [z])) (fun z => hb (by simp [z])) q)) hf (Nat.le_refl _) new
    refine ⟨.ref s.heap.objs.size, _, I1, rfl, ⟨_, x, rfl, I.hok.fresh (Nat.le_refl _), rfl, fun ys hy => by rw [I.tuple_inj hy hq]; exact hx⟩, ⟨⟨v, ?_⟩, hst'.1.at fun o q => (sb.2 it (Ne.symm hne)).trans q, hne⟩, fun b hb => ?_⟩
    · have e1 : ((i + 1 : Nat) : Int) = (i : Int) + 1 := by omega
      rw [e1]; exact he'
    · have hb' : b < s.heap.objs.size := by
        have e' : b = e ∨ b = it := by simpa using hb
        rcases e' with z | z
        · rw [z]; exact hel
        · rw [z]; exact hil
      rw [upd_ne (Nat.ne_of_lt hb')]
      exact (hf b hb).1
  done := by
    intro X hP hw hK hc i pins s σ H E I hf st hg
    subst hP hw hK
    obtain ⟨⟨old, he⟩, hit, hne⟩ := st
    obtain ⟨xs, hq, hx⟩ := hg
    obtain ⟨its, rv, p, hz⟩ := I.tuple hq
    have p' : s.heap.IsTuple a its.toArray := p
    obtain ⟨f0, f1, f2, f3, f4, f5⟩ := hf it (by simp)
    have hl := rv.length
    have hai := tup_it_ne hit p'
    have hn : its.toArray.size = i := by rw [List.size_toArray, ← hl, hx]
    refine wpAny_pyNext_enum_endD (Draws.tuple (A := X.A.in1) (show X.A.in1.handled = none from I.ok.hd hc) it a hai its.toArray) he ⟨by rw [hn]; exact hit, p'⟩ fun h' eb => ⟨rfl, I.turned (t' := s.toks) (fun b o hb q => eb b o hb q) f0 f1 f3 f4 f5⟩
  self := fun A i s Q E st h => let ⟨⟨_, he⟩, _⟩ := st; wpAny_pyIter_enum he h
def iEnumT (K : PySem.W.Frag) (ta : TA) : TI := fun σ H R => ta σ H fun vs H1 => ∃ a xs, vs = [.ref a] ∧ SqT K H1 a xs ∧ R (IteT K a) H1
theorem pi_enumT {X : Cx} {e : Expr} {ta : TA} {p pos tpos : Pos} {elts : List Expr} {kk : Nat} (hg : Gl X "enumerate") (hm : X.mg "enumerate" = none) (ha : PA X [e] ta) (hs : starEach [e] X.env = [(false, eval e X.env)] := by rfl) :
    PI X (.Tuple elts kk tpos) (.Call (.Name "enumerate" p) [e] [] pos) (iEnumT X.K ta) := by
  refine ⟨fun pins s σ H R I h => ?_⟩
  refine Call_ (ld_blt I hg hm boot_enumerate (PyProof.Rows.callWith_type1 (thn (ha.run pos pins s σ H _ I h) fun us s1 ⟨vs, H1, I1, r1, q1⟩ => ?_) hs rfl))
  obtain ⟨a, xs, ex, hq, q⟩ := q1
  subst ex
  cases r1 with
  | cons r rr =>
    cases rr
    cases r
    obtain ⟨its, rv, p', hz⟩ := I1.tuple hq
    have p'' : s1.heap.IsTuple a its.toArray := p'
    refine call_enumB (begins_tuple a its.toArray) p'' fun h' he hit hsz hk => wpAny_pyIter_enum he ?_
    have I2 : Inv X pins σ H1 { s1 with heap := h' } := I1.kept (t' := s1.toks) hk
    refine ⟨s1.heap.objs.size + 1, [s1.heap.objs.size + 1, s1.heap.objs.size], _, _, H1, rfl, I2, turn_enumT a (s1.heap.objs.size + 1) s1.heap.objs.size, ⟨⟨.none, he⟩, ⟨_, hit, rfl, rfl⟩, Nat.succ_ne_self _⟩, fun b hb => ?_, q⟩
    have e' : b = s1.heap.objs.size + 1 ∨ b = s1.heap.objs.size := by simpa using hb
    have hle : s1.heap.objs.size ≤ b := by
      rcases e' with z | z
      · rw [z]; exact Nat.le_add_right _ _
      · rw [z]; exact Nat.le_refl _
    exact I1.fpOk hle (I1.hok.fresh hle)
theorem walk_enumT {K : PySem.W.Frag} {a : Addr} {xs : List V} : L2.Walk (IteT K a) xs.length (fun H => SqT K H a xs) (YPair (fun i => some (.int (i : Nat))) (fun i => xs[i]?)) := by
  refine ⟨fun i _ hi q => ⟨xs, xs[i], q, by simp [hi]⟩, fun _ q => ⟨xs, q, rfl⟩, fun i H v H' _ q y => ?_⟩
  obtain ⟨T, x, h1, h2, h3, h4⟩ := y
  exact ⟨T, .int (i : Nat), x, h1, h2, h3, rfl, h4 xs q⟩
theorem r_enumT {X : Cx} {a : Expr} {δ : De} {ds : List Da} {pos p tpos : Pos} {elts : List Expr} {kk : Nat} (h : EA X [a] δ [.tup ds]) (hm : X.mg "enumerate" = none) (hg : Gl X "enumerate" := by rfl) (hs : starEach [a] X.env = [(false, eval a X.env)] := by rfl) :
    SrcE X (.Tuple elts kk tpos) (.Call (.Name "enumerate" p) [a] [] pos) δ (ds.mapIdx fun i d => .tup [.int (i : Int), d]) := fun σ G S => by
  refine ⟨fun i => .tup [.int (i : Int), ds.getD i .non], ⟨_, pi_enumT hg hm WA.pa hs, fun H1 e1 R k => h σ G S H1 e1 _ fun vs G2 H2 g hv => ?_⟩, fun i hi => ?_⟩
  · cases hv with
    | cons h1 h2 =>
      cases h2
      cases h1 with
      | @tup a xs _ a1 a2 =>
        refine ⟨a, xs, rfl, Same.sqT g.gh a1, k _ G2 H2 g ?_⟩
        have w := walk_enumT (K := X.K) (a := a) (xs := xs)
        rw [a2.len] at w
        rw [List.length_mapIdx]
        refine w.mono (fun H hH => Same.sqT hH a1) fun i H x H' hi _ hy Gc s1 s2 => ?_
        obtain ⟨T, u, v, rfl, hT, rfl, e1, e2⟩ := hy
        cases e1
        have g := Grow.new (o := .tup [.int (i : Nat), v]) s2 hT
        exact ⟨_, g, .tup upd_same (.cons (.int _) (.cons ((at_lt a2 i v e2).up (s1.trans g.gg)) .nil))⟩
  · rw [List.length_mapIdx] at hi
    simp [List.getD_eq_getElem?_getD, hi]
end Fs
set_option Elab.async false
set_option linter.all false
set_option maxRecDepth 100000
set_option maxHeartbeats 2000000
/-! The walks: moved, are_apart, moves_of_three. -/
namespace Fs
open PySem PySem.Spec PyProof.Rows L2
def pl (x : List Int) : Da := .tup (x.map .int)
def thr (ps : List Pt) : Da := .tup (ps.map enc)
abbrev Zt := Nat × Pt × Int
def zz (ps : List Pt) (x : List Int) : List Zt := (ps.zip x).mapIdx fun i y => (i, y.1, y.2)
def deaf (z : List Zt) (c : Str) : Bool := z.any fun o => decide (c ∈ o.2.1.t) && (leadsI o.2.1.s o.2.2 c).isEmpty
def apS (z : List Zt) (o : Zt) (q : Stp) : Bool := (decide (q.1 = o.2.2) && decide (q.2.1 ∈ o.2.1.m)) && deaf z q.2.1
def apart (ps : List Pt) (x : List Int) : Bool := (zz ps x).any fun o => o.2.1.s.any (apS (zz ps x) o)
def mvS (z : List Zt) (x : List Int) (o : Zt) (q : Stp) : List (List Int) :=
  if (decide (q.1 = o.2.2) && decide (q.2.1 = "")) = true then [x.set o.1 q.2.2]
  else if (decide (q.1 = o.2.2) && decide (q.2.1 ∈ o.2.1.m)) = true then z.flatMap fun u => if decide (q.2.1 ∈ u.2.1.t) = true then (leadsI u.2.1.s u.2.2 q.2.1).map fun its => (x.set o.1 q.2.2).set u.1 its else []
  else []
def moves (ps : List Pt) (x : List Int) : List (List Int) := (zz ps x).flatMap fun o => o.2.1.s.flatMap (mvS (zz ps x) x o)
theorem any_take {α : Type} {l : List α} {j : Nat} {y : α} {f : α → Bool} (h : l[j]? = some y) : (l.take (j + 1)).any f = ((l.take j).any f || f y) := by
  rw [take_snoc h, List.any_append]
  simp
theorem flat_take {α β : Type} {l : List α} {j : Nat} {y : α} {f : α → List β} (h : l[j]? = some y) : (l.take (j + 1)).flatMap f = (l.take j).flatMap f ++ f y := by
  rw [take_snoc h, List.flatMap_append]
  simp
theorem zz_len {ps : List Pt} {x : List Int} (h : x.length = ps.length) : (zz ps x).length = ps.length := by
  unfold zz
  rw [List.length_mapIdx, List.length_zip, h, Nat.min_self]
theorem item_at {ps : List Pt} {x : List Int} (h : x.length = ps.length) {j : Nat} {y : Da} (e : ((ps.map enc).mapIdx fun i d => Da.tup [.int (i : Int), d])[j]? = some y) :
    ∃ one a, y = .tup [.int (j : Int), enc one] ∧ one ∈ ps ∧ (zz ps x)[j]? = some (j, one, a) ∧ x[j]? = some a ∧ j < x.length := by
  rw [List.getElem?_mapIdx, List.getElem?_map] at e
  cases q : ps[j]? with
  | none => rw [q] at e; cases e
  | some one =>
    rw [q] at e
    have e := (Option.some.inj e).symm
    have hj : j < ps.length := (List.getElem?_eq_some_iff.mp q).1
    have hx : j < x.length := by omega
    have hx' : x[j]? = some x[j] := List.getElem?_eq_getElem hx
    refine ⟨one, x[j], e, List.mem_of_getElem? q, ?_, hx', hx⟩
    unfold zz
    rw [List.getElem?_mapIdx, List.getElem?_zip_eq_some (z := (one, x[j])) |>.mpr ⟨q, hx'⟩]
    rfl
theorem len0 (l : List Int) : decide ((l.length : Int) = 0) = l.isEmpty := by
  cases l with
  | nil => rfl
  | cons a l => exact decide_eq_false (by rw [List.length_cons]; omega)
theorem pl_at {x : List Int} {j : Nat} {a : Int} (h : x[j]? = some a) : (x.map Da.int)[j]? = some (.int a) := by
  rw [List.getElem?_map, h] <;> rfl
section
variable {P : Program} {w : World} {K : PySem.W.Frag} {mg : Str → Option Value} {base : Heap}
theorem cut_to {ds : List Da} {i : Nat} : cutD ds none (some (i : Int)) = ds.take i := by
  unfold cutD
  rw [HT.sIx_none, HT.sIx_nat, List.drop_zero, Nat.sub_zero]
  rw [List.take_eq_take_iff]
  omega
theorem cut_from {ds : List Da} {i : Nat} : cutD ds (some (i : Int)) none = ds.drop i := by
  unfold cutD
  rw [HT.sIx_none, HT.sIx_nat]
  by_cases h : i ≤ ds.length
  · rw [Nat.min_eq_left h]
    exact List.take_of_length_le (by rw [List.length_drop]; exact Nat.le_refl _)
  · rw [Nat.min_eq_right (by omega), Nat.sub_self, List.take_zero, List.drop_eq_nil_of_le (by omega)]
theorem f_moved (T : Tp K mg) {k : Nat} : Dfn P w K mg base CX0 (k + 1) "moved" (SpF K fun ds r => ∃ (x : List Int) (i : Nat) (a : Int), ds = [pl x, .int i, .int a] ∧ i < x.length ∧ x.length ≤ 100 ∧ r = pl (x.set i a)) := by
  obtain ⟨fd, F⟩ := T.c.def_ 17 (d := d_moved) rfl
  refine dfn_of F (T.glo 17) sc_moved ?_ (fun _ _ _ _ _ _ us hl => match us, hl with | [_, _, _], _ => rfl) ?_
  · rintro ds r ⟨x, i, a, rfl, _⟩; rfl
  · rintro f cdv A outer s H EX hr ds r ⟨x, i, a, rfl, hi, hz, rfl⟩
    have hi1 : ((i : Int) + 1) = ((i + 1 : Nat) : Int) := by omega
    refine s_ret (E.is (e_op op_catA (e_op op_catA (e_sl (e_var 0 rfl) (.inl ⟨rfl, rfl⟩) p_none (p_some (e_var 1 rfl))) (e_tup (a_cons (e_var 2 rfl) a_nil) (by simp)) (od_catT ?_)) (e_sl (e_var 0 rfl) (.inl ⟨rfl, rfl⟩) (p_some (e_op op_add (e_var 1 rfl) e_int od_add)) p_none) (od_catT ?_)) ?_) rfl
    · rw [cut_to, List.length_take, List.length_map]
      simp
      omega
    · rw [cut_to, hi1, cut_from]
      simp
      omega
    · rw [cut_to, hi1, cut_from]
      unfold pl
      rw [← List.map_take, ← List.map_drop, List.set_eq_take_append_cons_drop, if_pos hi]
      simp
theorem zz_mem {ps : List Pt} {x : List Int} {o : Zt} (h : o ∈ zz ps x) : o.2.1 ∈ ps := by
  unfold zz at h
  obtain ⟨i, hi, e⟩ := List.mem_mapIdx.mp h
  rw [← e]
  exact (List.of_mem_zip (List.getElem_mem (by simpa using hi))).1
/-- the calls' hearers, over the store [three, place, i, one, before, call, after, j, other, ..] -/
theorem f_apart (T : Tp K mg) {k : Nat} : Dfn P w K mg base CX0 (k + 2) "are_apart" (SpF K fun ds r => ∃ (ps : List Pt) (x : List Int), ds = [thr ps, pl x] ∧ x.length = ps.length ∧ (∀ p ∈ ps, PtOk p) ∧ r = .bl (apart ps x)) := by
  obtain ⟨fd, F⟩ := T.c.def_ 16 (d := d_are_apart) rfl
  refine dfn_of F (T.glo 16) sc_are_apart ?_ (fun _ _ _ _ _ _ us hl => match us, hl with | [_, _], _ => rfl) ?_
  · rintro ds r ⟨x, i, rfl, _⟩; rfl
  · rintro f cdv A outer s H EX hr ds r ⟨ps, x, rfl, hl, hps, rfl⟩
    refine s_forT [2, 3] (items := (ps.map enc).mapIdx fun i d => Da.tup [.int (i : Int), d]) (r_enumT (a_cons (e_var 0 rfl) a_nil) T.enumerate) PassesOwn.never (pg_tup rfl (pgs_cons (pg_name sc_are_apart.nd rfl (Or.inl rfl)) (pgs_cons (pg_name sc_are_apart.nd rfl (Or.inl rfl)) pgs_nil)))
      (fun j δ' => (∃ c2 c3 c4 c5 c6 c7 c8, δ' = [.kn (thr ps), .kn (pl x), c2, c3, c4, c5, c6, c7, c8]) ∧ ((zz ps x).take j).any (fun o => o.2.1.s.any (apS (zz ps x) o)) = false) ⟨⟨_, _, _, _, _, _, _, rfl⟩, rfl⟩ (fun j y δ' hy hI => ?_) (fun δ' hI => ?_)
    rotate_left
    · obtain ⟨⟨c2, c3, c4, c5, c6, c7, c8, rfl⟩, ha⟩ := hI
      refine s_ret e_bl ?_
      show Da.bl false = Da.bl (apart ps x)
      unfold apart
      rw [List.length_mapIdx, List.length_map, ← zz_len hl, List.take_length] at ha
      rw [ha]
    obtain ⟨⟨c2, c3, c4, c5, c6, c7, c8, rfl⟩, ha⟩ := hI
    obtain ⟨one, a, rfl, hone, hz, hxj, hj⟩ := item_at hl hy
    refine ⟨_, rfl, rfl, ?_⟩
    refine s_forT [4, 5, 6] (items := one.s.map encS) (r_tup (e_ix 3 (e_var 3 rfl) e_int (.inl rfl) rfl rfl)) PassesOwn.never (pg_tup rfl (pgs_cons (pg_name sc_are_apart.nd rfl (Or.inl rfl)) (pgs_cons (pg_name sc_are_apart.nd rfl (Or.inl rfl)) (pgs_cons (pg_name sc_are_apart.nd rfl (Or.inl rfl)) pgs_nil))))
      (fun l δ' => (∃ c4 c5 c6 c7 c8, δ' = [.kn (thr ps), .kn (pl x), .kn (.int j), .kn (enc one), c4, c5, c6, c7, c8]) ∧ (one.s.take l).any (apS (zz ps x) (j, one, a)) = false) ⟨⟨_, _, _, _, _, rfl⟩, rfl⟩ (fun l y δ' hy hI => ?_) (fun δ' hI => ?_)
    rotate_left
    · obtain ⟨⟨c4, c5, c6, c7, c8, rfl⟩, hb⟩ := hI
      refine s_nil ⟨⟨_, _, _, _, _, _, _, rfl⟩, ?_⟩
      rw [List.length_map, List.take_length] at hb
      rw [any_take hz, ha, hb]
      rfl
    obtain ⟨⟨c4, c5, c6, c7, c8, rfl⟩, hb⟩ := hI
    rw [List.getElem?_map] at hy
    cases hq : one.s[l]? with
    | none => rw [hq] at hy; cases hy
    | some q =>
      rw [hq] at hy
      cases hy
      refine ⟨_, rfl, rfl, ?_⟩
      have hqm := List.mem_of_getElem? hq
      refine s_if (k := decide (q.1 = a) && decide (q.2.1 ∈ one.m)) (b_w (w_and (eb_cmpE op_eq (e_var 4 rfl) (e_ix j (e_var 1 rfl) (e_var 2 rfl) (.inl rfl) rfl (pl_at hxj)) od_eqI) fun _ => w_and1 (eb_cmpE op_in_seq (e_var 5 rfl) (e_ix 1 (e_var 3 rfl) e_int (.inl rfl) rfl rfl) (od_inS (.inl rfl))))) (fun hc => ?_) (fun hc => s_nil (s_nil ⟨⟨_, _, _, _, _, rfl⟩, ?_⟩))
      rotate_left
      · rw [any_take hq, hb]
        show (false || ((decide (q.1 = a) && decide (q.2.1 ∈ one.m)) && _)) = false
        rw [hc]
        rfl
      refine s_forT [7, 8] (items := (ps.map enc).mapIdx fun i d => Da.tup [.int (i : Int), d]) (r_enumT (a_cons (e_var 0 rfl) a_nil) T.enumerate) PassesOwn.never (pg_tup rfl (pgs_cons (pg_name sc_are_apart.nd rfl (Or.inl rfl)) (pgs_cons (pg_name sc_are_apart.nd rfl (Or.inl rfl)) pgs_nil)))
        (fun m δ' => (∃ c7 c8, δ' = [.kn (thr ps), .kn (pl x), .kn (.int j), .kn (enc one), .kn (.int q.1), .kn (.str q.2.1), .kn (.int q.2.2), c7, c8]) ∧ ((zz ps x).take m).any (fun o => decide (q.2.1 ∈ o.2.1.t) && (leadsI o.2.1.s o.2.2 q.2.1).isEmpty) = false) ⟨⟨_, _, rfl⟩, rfl⟩ (fun m y δ' hy hI => ?_) (fun δ' hI => ?_)
      rotate_left
      · obtain ⟨⟨c7, c8, rfl⟩, hd⟩ := hI
        refine s_nil (s_nil ⟨⟨_, _, _, _, _, rfl⟩, ?_⟩)
        rw [List.length_mapIdx, List.length_map, ← zz_len hl, List.take_length] at hd
        rw [any_take hq, hb]
        show (false || (_ && deaf (zz ps x) q.2.1)) = false
        unfold deaf
        rw [hd, Bool.and_false]
        rfl
      obtain ⟨⟨c7, c8, rfl⟩, hd⟩ := hI
      obtain ⟨oth, b, rfl, hoth, hz2, hxm, hm⟩ := item_at hl hy
      refine ⟨_, rfl, rfl, ?_⟩
      refine s_if (k := decide (q.2.1 ∈ oth.t) && (leadsI oth.s b q.2.1).isEmpty) (EB.is (b_w (w_and (eb_cmpE op_in_seq (e_var 5 rfl) (e_ix 0 (e_var 8 rfl) e_int (.inl rfl) rfl rfl) (od_inS (.inl rfl))) fun _ => w_and1 (eb_cmpE op_eq (e_len T (e_call (f_leads (k := 0) T) hr (by omega) pass0 (a_cons (e_var 8 rfl) (a_cons (e_ix m (e_var 1 rfl) (e_var 7 rfl) (.inl rfl) rfl (pl_at hxm)) (a_cons (e_var 5 rfl) a_nil))) ⟨oth, b, q.2.1, rfl, hps oth hoth, rfl⟩) (.inr rfl)) e_int od_eqI))) ?_) (fun hf => s_ret e_bl ?_) (fun hf => s_nil (s_nil ⟨⟨_, _, rfl⟩, ?_⟩))
      · congr 1
        rw [List.length_map]
        exact len0 _
      · show Da.bl true = Da.bl (apart ps x)
        have e : apart ps x = true := by
          unfold apart
          refine List.any_eq_true.mpr ⟨_, List.mem_of_getElem? hz, List.any_eq_true.mpr ⟨q, hqm, ?_⟩⟩
          show ((decide (q.1 = a) && decide (q.2.1 ∈ one.m)) && deaf (zz ps x) q.2.1) = true
          rw [hc]
          exact List.any_eq_true.mpr ⟨_, List.mem_of_getElem? hz2, hf⟩
        rw [e]
      · rw [any_take hz2, hd, hf]
        rfl
end
end Fs
set_option Elab.async false
set_option linter.all false
set_option maxRecDepth 100000
set_option maxHeartbeats 2000000
/-! The walk: moves_of_three. -/
namespace Fs
open PySem PySem.Spec PyProof.Rows L2
theorem lfL_ints : ∀ l : List Int, lfL (l.map .int) = true
  | [] => by rw [List.map_nil, lfL]
  | i :: l => by
    rw [List.map_cons, lfL, lfL_ints l]
    simp [lf]
theorem lf_pl (x : List Int) : lf (pl x) = true := by
  unfold pl
  rw [lf]
  exact lfL_ints x
theorem lfL_pls : ∀ l : List (List Int), lfL (l.map pl) = true
  | [] => by rw [List.map_nil, lfL]
  | i :: l => by
    rw [List.map_cons, lfL, lfL_pls l, lf_pl]
    rfl
theorem leads_len (s : List Stp) (x : Int) (c : Str) : (leadsI s x c).length ≤ s.length := by
  unfold leadsI
  rw [List.length_map]
  exact List.length_filter_le _ _
section
variable {P : Program} {w : World} {K : PySem.W.Frag} {mg : Str → Option Value} {base : Heap}
theorem f_moves (T : Tp K mg) {k : Nat} : Dfn P w K mg base CX0 (k + 2) "moves_of_three" (SpF K fun ds r => ∃ (ps : List Pt) (x : List Int), ds = [thr ps, pl x] ∧ x.length = ps.length ∧ ps.length = 3 ∧ (∀ p ∈ ps, PtOk p) ∧ r = .lst ((moves ps x).map pl)) := by
  obtain ⟨fd, F⟩ := T.c.def_ 18 (d := d_moves_of_three) rfl
  refine dfn_of F (T.glo 18) sc_moves_of_three ?_ (fun _ _ _ _ _ _ us hl => match us, hl with | [_, _], _ => rfl) ?_
  · rintro ds r ⟨x, i, rfl, _⟩; rfl
  · rintro f cdv A outer s H EX hr ds r ⟨ps, x, rfl, hl, h3, hps, rfl⟩
    have nd := sc_moves_of_three.nd
    refine s_setO 2 (o_lst a_nil (by simp)) nd (fun p => ?_)
    refine s_forT [3, 4] (items := (ps.map enc).mapIdx fun i d => Da.tup [.int (i : Int), d]) (r_enumT (a_cons (e_var 0 rfl) a_nil) T.enumerate) PassesOwn.never (pg_tup rfl (pgs_cons (pg_name nd rfl (Or.inr rfl)) (pgs_cons (pg_name nd rfl (Or.inl rfl)) pgs_nil)))
      (fun j δ' => ∃ c3 c4 c5 c6 c7 c8 c9 c10 Fl, δ' = [.kn (thr ps), .kn (pl x), .ow p (Fl.map pl), c3, c4, c5, c6, c7, c8, c9, c10] ∧ Fl = ((zz ps x).take j).flatMap (fun o => o.2.1.s.flatMap (mvS (zz ps x) x o)) ∧ Fl.length ≤ 30000 * j) ⟨_, _, _, _, _, _, _, _, [], rfl, rfl, Nat.le_refl _⟩ (fun j y δ' hy hI => ?_) (fun δ' hI => ?_)
    rotate_left
    · obtain ⟨c3, c4, c5, c6, c7, c8, c9, c10, Fl, rfl, hF, hz⟩ := hI
      refine s_fz 2 rfl (s_ret (E.is (e_var 2 rfl) ?_) rfl)
      rw [List.length_mapIdx, List.length_map, ← zz_len hl, List.take_length] at hF
      rw [hF]
      rfl
    obtain ⟨c3, c4, c5, c6, c7, c8, c9, c10, Fl, rfl, hF, hz⟩ := hI
    obtain ⟨one, a, rfl, hone, hzj, hxj, hj⟩ := item_at hl hy
    refine ⟨_, rfl, rfl, ?_⟩
    have hj3 : j < 3 := by omega
    have hs1 := (hps one hone).s.1
    refine s_forT [5, 6, 7] (items := one.s.map encS) (r_tup (e_ix 3 (e_var 4 rfl) e_int (.inl rfl) rfl rfl)) PassesOwn.never (pg_tup rfl (pgs_cons (pg_name nd rfl (Or.inl rfl)) (pgs_cons (pg_name nd rfl (Or.inl rfl)) (pgs_cons (pg_name nd rfl (Or.inr rfl)) pgs_nil))))
      (fun l δ' => ∃ c5 c6 c7 c8 c9 c10 Gl, δ' = [.kn (thr ps), .kn (pl x), .ow p (Gl.map pl), .kn (.int j), .kn (enc one), c5, c6, c7, c8, c9, c10] ∧ Gl = Fl ++ (one.s.take l).flatMap (mvS (zz ps x) x (j, one, a)) ∧ Gl.length ≤ 30000 * j + 300 * l) ⟨_, _, _, _, _, _, Fl, rfl, by simp, by omega⟩ (fun l y δ' hy hI => ?_) (fun δ' hI => ?_)
    rotate_left
    · obtain ⟨c5, c6, c7, c8, c9, c10, Gl, rfl, hG, hz2⟩ := hI
      refine s_nil ⟨_, _, _, _, _, _, _, _, Gl, rfl, ?_, ?_⟩
      · rw [List.length_map, List.take_length] at hG
        rw [hG, hF, flat_take hzj]
      · rw [List.length_map] at hz2
        omega
    obtain ⟨c5, c6, c7, c8, c9, c10, Gl, rfl, hG, hz2⟩ := hI
    rw [List.getElem?_map] at hy
    cases hq : one.s[l]? with
    | none => rw [hq] at hy; cases hy
    | some q =>
      rw [hq] at hy
      cases hy
      refine ⟨_, rfl, rfl, ?_⟩
      have hqm := List.mem_of_getElem? hq
      have hll : l < one.s.length := (List.getElem?_eq_some_iff.mp hq).1
      refine s_if (k := decide (q.1 = a) && decide (q.2.1 = "")) (b_w (w_and (eb_cmpE op_eq (e_var 5 rfl) (e_ix j (e_var 1 rfl) (e_var 3 rfl) (.inl rfl) rfl (pl_at hxj)) od_eqI) fun _ => w_and1 (eb_cmpE op_eq (e_var 6 rfl) e_str od_eqS))) (fun hc => ?_) (fun hc => ?_)
      · refine s_app 2 rfl (d := pl (x.set j q.2.2)) (e_call (f_moved (k := 0) T) hr (by omega) pass0 (a_cons (e_var 1 rfl) (a_cons (e_var 3 rfl) (a_cons (e_var 7 rfl) a_nil))) ⟨x, j, q.2.2, rfl, hj, by omega, rfl⟩) (lf_pl _) (by rw [List.length_map]; omega) (s_nil (s_nil ⟨.kn (.int q.1), .kn (.str q.2.1), .kn (.int q.2.2), c8, c9, c10, Gl ++ [x.set j q.2.2], ?_, ?_, ?_⟩))
        · rw [List.map_append]; rfl
        · rw [flat_take hq, hG, List.append_assoc]
          congr 2
          unfold mvS
          rw [if_pos hc]
        · rw [List.length_append]
          simp
          omega
      refine s_if (k := decide (q.1 = a) && decide (q.2.1 ∈ one.m)) (b_w (w_and (eb_cmpE op_eq (e_var 5 rfl) (e_ix j (e_var 1 rfl) (e_var 3 rfl) (.inl rfl) rfl (pl_at hxj)) od_eqI) fun _ => w_and1 (eb_cmpE op_in_seq (e_var 6 rfl) (e_ix 1 (e_var 4 rfl) e_int (.inl rfl) rfl rfl) (od_inS (.inl rfl))))) (fun hc2 => ?_) (fun hc2 => s_nil (s_nil (s_nil ⟨_, _, _, _, _, _, Gl, rfl, ?_, by omega⟩)))
      rotate_left
      · have e : mvS (zz ps x) x (j, one, a) q = [] := by
          unfold mvS
          rw [if_neg (by rw [hc]; exact Bool.false_ne_true), if_neg (by rw [hc2]; exact Bool.false_ne_true)]
        rw [flat_take hq, e, List.append_nil, hG]
      have emv : mvS (zz ps x) x (j, one, a) q = (zz ps x).flatMap fun u => if decide (q.2.1 ∈ u.2.1.t) = true then (leadsI u.2.1.s u.2.2 q.2.1).map fun its => (x.set j q.2.2).set u.1 its else [] := by
        unfold mvS
        rw [if_neg (by rw [hc]; exact Bool.false_ne_true), if_pos hc2]
      refine s_forT [8, 9] (items := (ps.map enc).mapIdx fun i d => Da.tup [.int (i : Int), d]) (r_enumT (a_cons (e_var 0 rfl) a_nil) T.enumerate) PassesOwn.never (pg_tup rfl (pgs_cons (pg_name nd rfl (Or.inr rfl)) (pgs_cons (pg_name nd rfl (Or.inl rfl)) pgs_nil)))
        (fun m δ' => ∃ c8 c9 c10 Hl, δ' = [.kn (thr ps), .kn (pl x), .ow p (Hl.map pl), .kn (.int j), .kn (enc one), .kn (.int q.1), .kn (.str q.2.1), .kn (.int q.2.2), c8, c9, c10] ∧ Hl = Gl ++ ((zz ps x).take m).flatMap (fun u => if decide (q.2.1 ∈ u.2.1.t) = true then (leadsI u.2.1.s u.2.2 q.2.1).map fun its => (x.set j q.2.2).set u.1 its else []) ∧ Hl.length ≤ 30000 * j + 300 * l + 100 * m) ⟨_, _, _, Gl, rfl, by simp, by omega⟩ (fun m y δ' hy hI => ?_) (fun δ' hI => ?_)
      rotate_left
      · obtain ⟨c8, c9, c10, Hl, rfl, hH, hz3⟩ := hI
        refine s_nil (s_nil (s_nil ⟨_, _, _, _, _, _, Hl, rfl, ?_, ?_⟩))
        · rw [List.length_mapIdx, List.length_map, ← zz_len hl, List.take_length] at hH
          rw [hH, hG, flat_take hq, emv, List.append_assoc]
        · rw [List.length_mapIdx, List.length_map, h3] at hz3
          omega
      obtain ⟨c8, c9, c10, Hl, rfl, hH, hz3⟩ := hI
      obtain ⟨oth, b, rfl, hoth, hzm, hxm, hm⟩ := item_at hl hy
      refine ⟨_, rfl, rfl, ?_⟩
      have hm3 : m < 3 := by omega
      have hs2 := (hps oth hoth).s.1
      have hll2 := leads_len oth.s b q.2.1
      refine s_if (k := decide (q.2.1 ∈ oth.t)) (eb_cmpE op_in_seq (e_var 6 rfl) (e_ix 0 (e_var 9 rfl) e_int (.inl rfl) rfl rfl) (od_inS (.inl rfl))) (fun hf => ?_) (fun hf => s_nil (s_nil ⟨_, _, _, Hl, rfl, ?_, by omega⟩))
      rotate_left
      · rw [flat_take hzm, ← List.append_assoc, ← hH]
        show Hl = Hl ++ (if decide (q.2.1 ∈ oth.t) = true then _ else [])
        rw [if_neg (by rw [hf]; exact Bool.false_ne_true), List.append_nil]
      refine s_ext 2 rfl (es := (leadsI oth.s b q.2.1).map fun its => pl ((x.set j q.2.2).set m its)) (E.is (e_lc 10 (items := (leadsI oth.s b q.2.1).map .int) (p := fun _ => true) (f := fun d => match d with
          | .int its => pl ((x.set j q.2.2).set m its)
          | _ => .non) (r_lst (e_call (f_leads (k := 0) T) hr (by omega) pass0 (a_cons (e_var 9 rfl) (a_cons (e_ix m (e_var 1 rfl) (e_var 8 rfl) (.inl rfl) rfl (pl_at hxm)) (a_cons (e_var 6 rfl) a_nil))) ⟨oth, b, q.2.1, rfl, hps oth hoth, rfl⟩)) (by rw [List.length_map]; omega) nd (blk_ok (own := [("its", 10)]) (by kernel_rfl)) (fun y hy s0 H0 C cl fp => ⟨ts_nil, fun _ => ?_⟩) (fun _ _ _ _ _ => pg_name nd rfl (Or.inl rfl))) ?_) ?_ ?_ (s_nil (s_nil ⟨.kn (.int m), .kn (enc oth), c10, Hl ++ (leadsI oth.s b q.2.1).map (fun its => (x.set j q.2.2).set m its), ?_, ?_, ?_⟩))
      · obtain ⟨its, hits, rfl⟩ := List.mem_map.mp hy
        exact e_call (f_moved (k := 0) T) hr (by omega) pass0 (a_cons (e_call (f_moved (k := 0) T) hr (by omega) pass0 (a_cons (e_var 1 rfl) (a_cons (e_var 3 rfl) (a_cons (e_var 7 rfl) a_nil))) ⟨x, j, q.2.2, rfl, hj, by omega, rfl⟩) (a_cons (e_var 8 rfl) (a_cons (e_var 10 rfl) a_nil))) ⟨x.set j q.2.2, m, its, rfl, by rw [List.length_set]; exact hm, by rw [List.length_set]; omega, rfl⟩
      · rw [filter_tt, List.map_map]
        rfl
      · have e : (leadsI oth.s b q.2.1).map (fun its => pl ((x.set j q.2.2).set m its)) = ((leadsI oth.s b q.2.1).map fun its => (x.set j q.2.2).set m its).map pl := by rw [List.map_map]; rfl
        rw [e]
        exact lfL_pls _
      · rw [List.length_map, List.length_map]
        omega
      · rw [List.map_append, List.map_map]
        rfl
      · rw [flat_take hzm, ← List.append_assoc, ← hH]
        show _ = Hl ++ (if decide (q.2.1 ∈ oth.t) = true then _ else [])
        rw [if_pos hf]
      · rw [List.length_append, List.length_map]
        omega
end
end Fs
set_option Elab.async false
set_option linter.all false
set_option maxRecDepth 100000
set_option maxHeartbeats 2000000
/-! The plain law: places that are reached, parts that fit. -/
namespace Fs
open PySem PySem.Spec PyProof.Rows
inductive Reach (ps : List Pt) : List Int → Prop
  | zero : Reach ps [0, 0, 0]
  | step {x y : List Int} : Reach ps x → y ∈ moves ps x → Reach ps y
def Fits (ps : List Pt) : Prop := ∀ x, Reach ps x → apart ps x = false
open Classical in
noncomputable def fitsB (ps : List Pt) : Bool := decide (Fits ps)
open Classical in
theorem fitsB_true {ps : List Pt} (h : Fits ps) : fitsB ps = true := by unfold fitsB; exact decide_eq_true h
open Classical in
theorem fitsB_false {ps : List Pt} (h : ¬ Fits ps) : fitsB ps = false := by unfold fitsB; exact decide_eq_false h
/-- the steps stay between 0 and the part's number -/
def Inb (p : Pt) : Prop := 1 ≤ p.n ∧ ∀ q ∈ p.s, 0 ≤ q.1 ∧ q.1 < p.n ∧ 0 ≤ q.2.2 ∧ q.2.2 < p.n
def bxs : List Int → List (List Int)
  | [] => [[]]
  | n :: ns => (List.range n.toNat).flatMap fun (a : Nat) => (bxs ns).map fun x => (a : Int) :: x
theorem mem_bxs : ∀ {ns x : List Int}, x ∈ bxs ns ↔ x.length = ns.length ∧ ∀ (i : Nat) (n a : Int), ns[i]? = some n → x[i]? = some a → 0 ≤ a ∧ a < n
  | [], x => by
    unfold bxs
    constructor
    · intro h
      rw [List.mem_singleton.mp h]
      exact ⟨rfl, fun i n a h => by simp at h⟩
    · intro h
      have e := List.eq_nil_of_length_eq_zero h.1
      rw [e]
      exact List.mem_singleton.mpr rfl
  | n :: ns, x => by
    unfold bxs
    rw [List.mem_flatMap]
    constructor
    · rintro ⟨a, ha, h⟩
      obtain ⟨y, hy, rfl⟩ := List.mem_map.mp h
      obtain ⟨h1, h2⟩ := mem_bxs.mp hy
      have ha := List.mem_range.mp ha
      refine ⟨by rw [List.length_cons, List.length_cons, h1], fun i m b e1 e2 => ?_⟩
      cases i with
      | zero =>
        cases e1
        cases e2
        omega
      | succ i => exact h2 i m b e1 e2
    · rintro ⟨h1, h2⟩
      cases x with
      | nil => cases h1
      | cons a y =>
        have h0 := h2 0 n a rfl rfl
        refine ⟨a.toNat, List.mem_range.mpr (by omega), List.mem_map.mpr ⟨y, mem_bxs.mpr ⟨Nat.succ.inj h1, fun i m b e1 e2 => h2 (i + 1) m b e1 e2⟩, ?_⟩⟩
        rw [Int.toNat_of_nonneg h0.1]
def univ (ps : List Pt) : List (List Int) := bxs (ps.map (·.n))
theorem zz_at {ps : List Pt} {x : List Int} {o : Zt} (h : o ∈ zz ps x) : ps[o.1]? = some o.2.1 ∧ x[o.1]? = some o.2.2 := by
  unfold zz at h
  obtain ⟨i, hi, e⟩ := List.mem_mapIdx.mp h
  subst e
  have h2 : (ps.zip x)[i]? = some (ps.zip x)[i] := List.getElem?_eq_getElem _
  exact List.getElem?_zip_eq_some.mp h2
theorem mem_zz {ps : List Pt} {x : List Int} {i : Nat} {p : Pt} {a : Int} (h1 : ps[i]? = some p) (h2 : x[i]? = some a) : (i, p, a) ∈ zz ps x := by
  unfold zz
  have h : (ps.zip x)[i]? = some (p, a) := List.getElem?_zip_eq_some.mpr ⟨h1, h2⟩
  obtain ⟨hi, e⟩ := List.getElem?_eq_some_iff.mp h
  refine List.mem_mapIdx.mpr ⟨i, hi, ?_⟩
  rw [e]
theorem set_in {ns x : List Int} (h : x ∈ bxs ns) {i : Nat} {n a : Int} (e : ns[i]? = some n) (h0 : 0 ≤ a) (h1 : a < n) : x.set i a ∈ bxs ns := by
  obtain ⟨k1, k2⟩ := mem_bxs.mp h
  refine mem_bxs.mpr ⟨by rw [List.length_set, k1], fun j m b e1 e2 => ?_⟩
  rcases get_set e2 with ⟨rfl, rfl, _⟩ | ⟨hn, e2⟩
  · rw [e] at e1
    cases e1
    exact ⟨h0, h1⟩
  · exact k2 j m b e1 e2
theorem leads_mem {s : List Stp} {x b : Int} {c : Str} (h : b ∈ leadsI s x c) : ∃ q ∈ s, q.1 = x ∧ q.2.1 = c ∧ q.2.2 = b := by
  unfold leadsI at h
  obtain ⟨q, hq, rfl⟩ := List.mem_map.mp h
  obtain ⟨h1, h2⟩ := List.mem_filter.mp hq
  rw [Bool.and_eq_true, decide_eq_true_eq, decide_eq_true_eq] at h2
  exact ⟨q, h1, h2.1, h2.2, rfl⟩
theorem moves_in {ps : List Pt} (hp : ∀ p ∈ ps, Inb p) {x y : List Int} (hx : x ∈ univ ps) (hy : y ∈ moves ps x) : y ∈ univ ps := by
  unfold moves at hy
  obtain ⟨o, ho, hy⟩ := List.mem_flatMap.mp hy
  obtain ⟨q, hq, hy⟩ := List.mem_flatMap.mp hy
  obtain ⟨e1, e2⟩ := zz_at ho
  have hn : (ps.map (·.n))[o.1]? = some o.2.1.n := by rw [List.getElem?_map, e1] <;> rfl
  have hq' := (hp _ (List.mem_of_getElem? e1)).2 q hq
  have h1 : x.set o.1 q.2.2 ∈ univ ps := set_in hx hn hq'.2.2.1 hq'.2.2.2
  unfold mvS at hy
  split at hy
  · rw [List.mem_singleton.mp hy]
    exact h1
  · split at hy
    · obtain ⟨u, hu, hy⟩ := List.mem_flatMap.mp hy
      split at hy
      · obtain ⟨its, hits, rfl⟩ := List.mem_map.mp hy
        obtain ⟨k1, k2⟩ := zz_at hu
        obtain ⟨q2, hq2, _, _, rfl⟩ := leads_mem hits
        have hq2' := (hp _ (List.mem_of_getElem? k1)).2 q2 hq2
        exact set_in h1 (by rw [List.getElem?_map, k1] <;> rfl) hq2'.2.2.1 hq2'.2.2.2
      · cases hy
    · cases hy
theorem reach_in {ps : List Pt} (h3 : ps.length = 3) (hp : ∀ p ∈ ps, Inb p) {x : List Int} (h : Reach ps x) : x ∈ univ ps := by
  induction h with
  | zero =>
    refine mem_bxs.mpr ⟨by rw [List.length_map, h3]; rfl, fun i n a e1 e2 => ?_⟩
    have ha : a = 0 := by
      have := List.mem_of_getElem? e2
      simpa using this
    subst ha
    rw [List.getElem?_map] at e1
    cases q : ps[i]? with
    | none => rw [q] at e1; cases e1
    | some p =>
      rw [q] at e1
      cases e1
      have := (hp p (List.mem_of_getElem? q)).1
      show (0 : Int) ≤ 0 ∧ (0 : Int) < p.n
      omega
  | step h1 h2 ih => exact moves_in hp ih h2
theorem reach_len {ps : List Pt} (h3 : ps.length = 3) (hp : ∀ p ∈ ps, Inb p) {x : List Int} (h : Reach ps x) : x.length = ps.length := by
  have := (mem_bxs.mp (reach_in h3 hp h)).1
  rw [this, List.length_map]
/-- how many moves there are at most -/
theorem flat_len {α β : Type} {l : List α} {f : α → List β} {b : Nat} (h : ∀ x ∈ l, (f x).length ≤ b) : (l.flatMap f).length ≤ l.length * b := by
  induction l with
  | nil => simp
  | cons x l ih =>
    rw [List.flatMap_cons, List.length_append, List.length_cons, Nat.succ_mul]
    have h1 := h x (List.mem_cons_self ..)
    have h2 := ih fun y hy => h y (List.mem_cons_of_mem _ hy)
    omega
theorem moves_len {ps : List Pt} (h3 : ps.length = 3) (hs : ∀ p ∈ ps, p.s.length ≤ 11) {x : List Int} (hx : x.length = ps.length) : (moves ps x).length ≤ 1089 := by
  have hz : (zz ps x).length = 3 := (zz_len hx).trans h3
  unfold moves
  have key : ∀ o ∈ zz ps x, (o.2.1.s.flatMap (mvS (zz ps x) x o)).length ≤ 363 := fun o ho => by
    have h1 := hs _ (zz_mem ho)
    have k2 : ∀ q ∈ o.2.1.s, (mvS (zz ps x) x o q).length ≤ 33 := fun q hq => by
      unfold mvS
      split
      · simp
      · split
        · have k3 := flat_len (l := zz ps x) (f := fun u => if decide (q.2.1 ∈ u.2.1.t) = true then (leadsI u.2.1.s u.2.2 q.2.1).map fun its => (x.set o.1 q.2.2).set u.1 its else []) (b := 11) fun u hu => by
            split
            · rw [List.length_map]
              exact Nat.le_trans (leads_len _ _ _) (hs _ (zz_mem hu))
            · simp
          rw [hz] at k3
          exact k3
        · simp
    have k4 := flat_len k2
    have : o.2.1.s.length * 33 ≤ 11 * 33 := Nat.mul_le_mul_right _ h1
    omega
  have k5 := flat_len key
  rw [hz] at k5
  omega
def unseen (U found fresh : List (List Int)) : Nat := (U.filter fun u => !(decide (u ∈ found) || decide (u ∈ fresh))).length
theorem filter_le {α : Type} {p p' : α → Bool} : ∀ {U : List α}, (∀ u, p' u = true → p u = true) → (U.filter p').length ≤ (U.filter p).length
  | [], _ => Nat.le_refl _
  | u :: U, h => by
    have ih := filter_le (U := U) h
    cases e' : p' u with
    | true => simp [List.filter, e', h u e']; exact ih
    | false =>
      cases e : p u with
      | true => simp [List.filter, e', e]; omega
      | false => simp [List.filter, e', e]; exact ih
theorem filter_lt {α : Type} {p p' : α → Bool} : ∀ {U : List α} {y : α}, (∀ u, p' u = true → p u = true) → y ∈ U → p y = true → p' y = false → (U.filter p').length + 1 ≤ (U.filter p).length
  | [], _, _, h, _, _ => by cases h
  | u :: U, y, h, hy, h1, h2 => by
    have hle : (U.filter p').length ≤ (U.filter p).length := filter_le h
    rcases List.mem_cons.mp hy with rfl | hy
    · simp [List.filter, h1, h2]
      exact hle
    · have ih := filter_lt h hy h1 h2
      cases e : p u with
      | true =>
        cases e' : p' u with
        | true => simp [List.filter, e, e']; omega
        | false => simp [List.filter, e, e']; omega
      | false =>
        have e' : p' u = false := by
          cases q : p' u with
          | false => rfl
          | true => rw [h u q] at e; cases e
        simp [List.filter, e, e']
        exact ih
/-- what the search keeps true -/
structure DInv (ps : List Pt) (found fresh : List (List Int)) : Prop where
  r : ∀ x, x ∈ found ∨ x ∈ fresh → Reach ps x
  a : ∀ x ∈ found, apart ps x = false
  c : ∀ x ∈ found, ∀ y ∈ moves ps x, y ∈ found ∨ y ∈ fresh
  z : [0, 0, 0] ∈ found ∨ [0, 0, 0] ∈ fresh
theorem DInv.start {ps : List Pt} : DInv ps [] [[0, 0, 0]] := by
  refine ⟨fun x h => ?_, fun x h => ?_, fun x h => ?_, .inr (List.mem_singleton.mpr rfl)⟩
  · rcases h with h | h
    · cases h
    · rw [List.mem_singleton.mp h]
      exact .zero
  · cases h
  · cases h
theorem DInv.fits {ps : List Pt} {found : List (List Int)} (D : DInv ps found []) : Fits ps := by
  have key : ∀ x, Reach ps x → x ∈ found := by
    intro x h
    induction h with
    | zero => exact D.z.resolve_right (fun h => by cases h)
    | step h1 h2 ih => exact (D.c _ ih _ h2).resolve_right (fun h => by cases h)
  exact fun x h => D.a x (key x h)
theorem DInv.not {ps : List Pt} {found fresh : List (List Int)} {x : List Int} (D : DInv ps found fresh) (hx : x ∈ fresh) (h : apart ps x = true) : ¬ Fits ps := fun F => by
  have := F x (D.r x (.inr hx))
  rw [h] at this
  cases this
def news (ps : List Pt) (found init : List (List Int)) (x : List Int) : List (List Int) := (moves ps x).filter fun y => !decide (y ∈ found) && !decide (y ∈ init)
theorem DInv.step {ps : List Pt} {found init : List (List Int)} {x : List Int} (D : DInv ps found (init ++ [x])) (h : apart ps x = false) : DInv ps (found ++ [x]) (init ++ news ps (found ++ [x]) init x) := by
  refine ⟨fun y hy => ?_, fun y hy => ?_, fun y hy z hz => ?_, ?_⟩
  · rcases hy with hy | hy
    · rcases List.mem_append.mp hy with hy | hy
      · exact D.r y (.inl hy)
      · exact D.r y (.inr (List.mem_append.mpr (.inr hy)))
    · rcases List.mem_append.mp hy with hy | hy
      · exact D.r y (.inr (List.mem_append.mpr (.inl hy)))
      · exact .step (D.r x (.inr (List.mem_append.mpr (.inr (List.mem_singleton.mpr rfl))))) (List.mem_filter.mp hy).1
  · rcases List.mem_append.mp hy with hy | hy
    · exact D.a y hy
    · rw [List.mem_singleton.mp hy]
      exact h
  · by_cases q1 : z ∈ found ++ [x]
    · exact .inl q1
    · by_cases q2 : z ∈ init
      · exact .inr (List.mem_append.mpr (.inl q2))
      · rcases List.mem_append.mp hy with hy | hy
        · rcases D.c y hy z hz with k | k
          · exact .inl (List.mem_append.mpr (.inl k))
          · rcases List.mem_append.mp k with k | k
            · exact .inr (List.mem_append.mpr (.inl k))
            · exact .inl (List.mem_append.mpr (.inr k))
        · rw [List.mem_singleton.mp hy] at hz
          refine .inr (List.mem_append.mpr (.inr (List.mem_filter.mpr ⟨hz, ?_⟩)))
          rw [decide_eq_false q1, decide_eq_false q2]
          rfl
  · rcases D.z with k | k
    · exact .inl (List.mem_append.mpr (.inl k))
    · rcases List.mem_append.mp k with k | k
      · exact .inr (List.mem_append.mpr (.inl k))
      · exact .inl (List.mem_append.mpr (.inr k))
/-- the measure: what is still to do -/
def todo (U found fresh : List (List Int)) : Nat := unseen U found fresh * 1090 + fresh.length
theorem todo_lt {ps : List Pt} (h3 : ps.length = 3) (hp : ∀ p ∈ ps, Inb p) (hs : ∀ p ∈ ps, p.s.length ≤ 11) {found init : List (List Int)} {x : List Int} (D : DInv ps found (init ++ [x])) :
    todo (univ ps) (found ++ [x]) (init ++ news ps (found ++ [x]) init x) + 1 ≤ todo (univ ps) found (init ++ [x]) := by
  have hx : Reach ps x := D.r x (.inr (List.mem_append.mpr (.inr (List.mem_singleton.mpr rfl))))
  have hl : (news ps (found ++ [x]) init x).length ≤ 1089 := Nat.le_trans (List.length_filter_le _ _) (moves_len h3 hs (reach_len h3 hp hx))
  have hsub : ∀ u, (!(decide (u ∈ found ++ [x]) || decide (u ∈ init ++ news ps (found ++ [x]) init x))) = true → (!(decide (u ∈ found) || decide (u ∈ init ++ [x]))) = true := fun u hu => by
    rw [Bool.not_eq_true', Bool.or_eq_false_iff, decide_eq_false_iff_not, decide_eq_false_iff_not] at hu ⊢
    refine ⟨fun h => hu.1 (List.mem_append.mpr (.inl h)), fun h => ?_⟩
    rcases List.mem_append.mp h with h | h
    · exact hu.2 (List.mem_append.mpr (.inl h))
    · exact hu.1 (List.mem_append.mpr (.inr h))
  unfold todo unseen
  rw [List.length_append, List.length_append, List.length_singleton]
  cases e : news ps (found ++ [x]) init x with
  | nil =>
    rw [e] at hsub
    have := filter_le (U := univ ps) hsub
    simp only [List.length_nil]
    omega
  | cons y ys =>
    rw [e] at hsub hl
    have hy : y ∈ news ps (found ++ [x]) init x := by rw [e]; exact List.mem_cons_self ..
    obtain ⟨hy1, hy2⟩ := List.mem_filter.mp hy
    rw [Bool.and_eq_true, Bool.not_eq_true', Bool.not_eq_true', decide_eq_false_iff_not, decide_eq_false_iff_not] at hy2
    have k := filter_lt (U := univ ps) (y := y) hsub (moves_in hp (reach_in h3 hp hx) hy1) (by
      rw [Bool.not_eq_true', Bool.or_eq_false_iff, decide_eq_false_iff_not, decide_eq_false_iff_not]
      refine ⟨fun h => hy2.1 (List.mem_append.mpr (.inl h)), fun h => ?_⟩
      rcases List.mem_append.mp h with h | h
      · exact hy2.2 h
      · exact hy2.1 (List.mem_append.mpr (.inr h))) (by
      rw [decide_eq_true (show y ∈ init ++ y :: ys from List.mem_append.mpr (.inr (List.mem_cons_self ..))), Bool.or_true]
      rfl)
    omega
end Fs
set_option Elab.async false
set_option linter.all false
set_option maxRecDepth 100000
set_option maxHeartbeats 2000000
/-! The walk: fits_both. -/
namespace Fs
open PySem PySem.Spec PyProof.Rows L2
theorem eqd_ints : ∀ a b : List Int, PyData.eqvAll ((a.map Da.int).map py) ((b.map Da.int).map py) = decide (a = b)
  | [], [] => by simp [PyData.eqvAll]
  | [], _ :: _ => by simp [PyData.eqvAll]
  | _ :: _, [] => by simp [PyData.eqvAll]
  | x :: a, y :: b => by
    have ih := eqd_ints a b
    rw [List.map_cons, List.map_cons, List.map_cons, List.map_cons, PyData.eqvAll, ih, py, py, PyData.eqv]
    by_cases h : x = y
    · subst h
      simp
    · have e : (x == y) = false := by simpa using h
      rw [e]
      simp [h]
theorem eqd_pl (a b : List Int) : eqd (pl a) (pl b) = decide (a = b) := by
  unfold eqd pl
  rw [py_tup, py_tup, PyData.eqv]
  exact eqd_ints a b
theorem eqd_comm (a b : Da) : eqd a b = eqd b a := PySem.W.eqv_comm _ _
theorem any_pl (x : List Int) (l : List (List Int)) : ((l.map pl).any fun z => eqd z (pl x)) = decide (x ∈ l) := by
  rw [List.any_map]
  have e : ((fun z => eqd z (pl x)) ∘ pl) = fun a => decide (a = x) := funext fun a => eqd_pl a x
  rw [e]
  induction l with
  | nil => rfl
  | cons y l ih =>
    rw [List.any_cons, ih]
    by_cases h : y = x
    · subst h
      simp
    · have h2 : ¬ x = y := fun z => h z.symm
      simp [h, h2]
theorem fit_ints : ∀ (n : Nat) (l : List Int), (l.map Da.int).all (fit n) = true
  | _, [] => rfl
  | n, i :: l => by
    rw [List.map_cons, List.all_cons, fit_ints n l, fit]
    rfl
theorem fit_pl (n : Nat) (x : List Int) : fit (n + 1) (pl x) = true := by
  unfold pl
  rw [fit]
  exact fit_ints n x
theorem fit_pls (n : Nat) (l : List (List Int)) : fit (n + 2) (.lst (l.map pl)) = true := by
  rw [fit]
  refine List.all_eq_true.mpr fun d hd => ?_
  obtain ⟨x, _, rfl⟩ := List.mem_map.mp hd
  exact fit_pl n x
section
variable {X : Cx} {a b : Expr} {rest : List Stmt} {δ : De} {ds1 ds2 : List Da} {pos : Pos} {x y : Str} {O : Post}
/-- x, y = [..], [..], both own, by a tuple that is laid -/
theorem s_tupO (i j : Nat) {tg : Expr} {k2 : Nat} {pt2 : Pos} (h1 : EO X a δ ds1) (h2 : EO X b δ ds2) (hg : PG X tg (gTup X.K 2 (gNames [i, j]))) (k : ∀ p q, S X rest ((δ.set i (.ow p ds1)).set j (.ow q ds2)) O)
    (hs : swapsWithSole [tg] (.Tuple [a, b] k2 pt2) pos.line X.env = pure false := by rfl) (hw : swappedStores [tg] (.Tuple [a, b] k2 pt2) X.env = pure none := by rfl) (h3 : (assignEach [tg] X.env).map (·.2) = [assign tg X.env] := by rfl)
    (he1 : starEach [a, b] X.env = (false, eval a X.env) :: starEach [b] X.env := by rfl) (he2 : starEach [b] X.env = (false, eval b X.env) :: starEach [] X.env := by rfl) : S X (.Assign [tg] (.Tuple [a, b] k2 pt2) pos :: rest) δ O := fun Gb Hb σ G H D g St n r =>
  sts_cons (ws_asgW hg (we_of (pe_tup (pa_cons WE.pe (pa_cons WE.pe pa_nil he2) he1)) (h1 σ G St.sk H g.gh _ fun p xs G2 H2 g2 z1 z2 z3 z4 => h2 σ G2 (St.sk.up g2.gg) H2 g2.gh _ fun q ys G3 H3 g3 w1 w2 w3 w4 => by
    have no1 : ¬ Owned δ p := fun ⟨l, es, e⟩ => by
      obtain ⟨_, _, _, us, q, _⟩ := St.ow l p es e
      rw [z2] at q
      cases q
    have S1 := (St.up g2).setO (i := i) (g.free z2) z1 z3 z4 no1
    have hpq : q ≠ p := fun e => by
      rw [e, z3] at w2
      cases w2
    have no2 : ¬ Owned (δ.set i (.ow p ds1)) q := fun ⟨l, es, e⟩ => by
      obtain ⟨_, _, _, us, q', _⟩ := S1.ow l q es e
      rw [w2] at q'
      cases q'
    refine ⟨by show 2 ≤ sizeLine; decide, fun t ht => ?_⟩
    have gt := Grow.own (o := .tup [.ref p, .ref q]) g3.gh ht
    have S3 := ((S1.up g3).setO (i := j) ((g.trans g2).free w2) w1 w3 w4 no2).up gt
    refine ⟨t, [.ref p, .ref q], rfl, SqT.of upd_same, rfl, ?_⟩
    exact ⟨.ref p, _, rfl, .ref q, _, rfl, rfl, k p q Gb Hb _ G3 _ D (((g.trans g2).trans g3).trans gt) S3 n r⟩)) hs hw h3)
end
section
variable {P : Program} {w : World} {K : PySem.W.Frag} {mg : Str → Option Value} {base : Heap}
/-- what fits_both wants of a part -/
structure Fok (p : Pt) : Prop where
  ok : PtOk p
  inb : Inb p
  n4 : p.n ≤ 4
  s11 : p.s.length ≤ 11
theorem flat_const {α β : Type} {l : List α} {f : α → List β} {b : Nat} (h : ∀ x ∈ l, (f x).length = b) : (l.flatMap f).length = l.length * b := by
  induction l with
  | nil => simp
  | cons x l ih =>
    rw [List.flatMap_cons, List.length_append, List.length_cons, Nat.succ_mul, h x (List.mem_cons_self ..), ih fun y hy => h y (List.mem_cons_of_mem _ hy)]
    omega
theorem univ_len {p q r : Pt} (hp : p.n ≤ 4) (hq : q.n ≤ 4) (hr : r.n ≤ 4) : (univ [p, q, r]).length ≤ 64 := by
  have h0 : (bxs []).length = 1 := rfl
  have key : ∀ (n : Int) (ns : List Int), n ≤ 4 → (bxs (n :: ns)).length ≤ 4 * (bxs ns).length := fun n ns hn => by
    show ((List.range n.toNat).flatMap _).length ≤ _
    rw [flat_const (b := (bxs ns).length) fun x _ => by rw [List.length_map], List.length_range]
    exact Nat.mul_le_mul_right _ (by omega)
  show (bxs [p.n, q.n, r.n]).length ≤ 64
  have h1 := key r.n [] hr
  have h2 := key q.n [r.n] hq
  have h3 := key p.n [q.n, r.n] hp
  omega
theorem f_fits (T : Tp K mg) {k : Nat} : Dfn P w K mg base CX0 (k + 8) "fits_both" (SpF K fun ds r => ∃ d e g p q o, ds = [d, e, g] ∧ Raw d p ∧ Raw e q ∧ Raw g o ∧ Fok p ∧ Fok q ∧ Fok o ∧ unj p q = [] ∧ r = .bl (fitsB [p, q, o])) := by
  obtain ⟨fd, F⟩ := T.c.def_ 19 (d := d_fits_both) rfl
  refine dfn_of F (T.glo 19) sc_fits_both ?_ (fun _ _ _ _ _ _ us hl => match us, hl with | [_, _, _], _ => rfl) ?_
  · rintro ds r ⟨d, e, g, p, q, o, rfl, _⟩; rfl
  · rintro f cdv A outer s H EX hr ds r ⟨d, e, g, p, q, o, rfl, hd, he, hg, hp, hq, ho, hu, rfl⟩
    have nd := sc_fits_both.nd
    have hun : (Wx P w K mg base n_fits_both "fits_both" d_fits_both.scope f cdv A outer s H EX).A.units + 65 < cLine := by
      have := hr.un
      omega
    have h3 : [p, q, o].length = 3 := rfl
    have hin : ∀ y ∈ [p, q, o], Inb y := fun y hy => by
      rcases List.mem_cons.mp hy with rfl | hy
      · exact hp.inb
      · rcases List.mem_cons.mp hy with rfl | hy
        · exact hq.inb
        · rw [List.mem_singleton.mp hy]; exact ho.inb
    have hs : ∀ y ∈ [p, q, o], y.s.length ≤ 11 := fun y hy => by
      rcases List.mem_cons.mp hy with rfl | hy
      · exact hp.s11
      · rcases List.mem_cons.mp hy with rfl | hy
        · exact hq.s11
        · rw [List.mem_singleton.mp hy]; exact ho.s11
    have hok : ∀ y ∈ [p, q, o], PtOk y := fun y hy => by
      rcases List.mem_cons.mp hy with rfl | hy
      · exact hp.ok
      · rcases List.mem_cons.mp hy with rfl | hy
        · exact hq.ok
        · rw [List.mem_singleton.mp hy]; exact ho.ok
    have hU := univ_len hp.n4 hq.n4 ho.n4
    refine s_drop (e_call (f_check (k := 0) T) hr (by omega) pass0 (a_cons (e_var 0 rfl) (a_cons (e_var 1 rfl) a_nil)) ⟨d, e, p, q, rfl, hd, he, hp.ok, hq.ok, hu, rfl⟩) ?_
    refine s_set 3 (d := thr [p, q, o]) (E.is (e_tup (a_cons (e_call (f_tupled (k := 0) T 3) hr (by omega) pass0 (a_cons (e_var 0 rfl) a_nil) ⟨d, rfl, hd.1, rfl⟩) (a_cons (e_call (f_tupled (k := 0) T 3) hr (by omega) pass0 (a_cons (e_var 1 rfl) a_nil) ⟨e, rfl, he.1, rfl⟩) (a_cons (e_call (f_tupled (k := 0) T 3) hr (by omega) pass0 (a_cons (e_var 2 rfl) a_nil) ⟨g, rfl, hg.1, rfl⟩) a_nil))) (by simp)) (by rw [hd.2.1, he.2.1, hg.2.1]; rfl)) nd ?_
    refine s_tupO 4 5 (o_lst a_nil (by simp)) (o_lst (a_cons (e_op op_repT (e_tup (a_cons e_int a_nil) (by simp)) (e_gint T.three) (od_repT (n := 3) (by simp) (by decide) (by decide) (by simp))) a_nil) (by simp)) (pg_tup rfl (pgs_cons (pg_name nd rfl (Or.inr rfl)) (pgs_cons (pg_name nd rfl (Or.inr rfl)) pgs_nil))) (fun pf pq => ?_)
    refine s_while PassesOwn.never (fun m δ' => ∃ c6 c7 found fresh, δ' = [.kn d, .kn e, .kn g, .kn (thr [p, q, o]), .ow pf (found.map pl), .ow pq (fresh.map pl), c6, c7] ∧ DInv [p, q, o] found fresh ∧ m = todo (univ [p, q, o]) found fresh ∧ found.length + m ≤ 80000) ⟨_, .no, .no, [], [[0, 0, 0]], rfl, .start, rfl, ?_⟩ (fun m δ' hI => ?_)
    · unfold todo unseen
      have := List.length_filter_le (fun u => !(decide (u ∈ ([] : List (List Int))) || decide (u ∈ [[0, 0, 0]]))) (univ [p, q, o])
      simp only [List.length_nil, List.length_singleton]
      omega
    obtain ⟨c6, c7, found, fresh, rfl, hD, rfl, hz⟩ := hI
    refine ⟨decide ((0 : Int) < ((fresh.map pl).length : Int)), eb_cmpE op_gt (e_len T (e_var 5 rfl) (.inr rfl)) e_int od_gt, fun hc => ?_, fun hc => s_ret e_bl ?_⟩
    rotate_left
    · have hn : fresh = [] := by
        have := of_decide_eq_false hc
        rw [List.length_map] at this
        exact List.eq_nil_of_length_eq_zero (by omega)
      subst hn
      show Da.bl true = Da.bl (fitsB _)
      rw [fitsB_true hD.fits]
    have hne : fresh ≠ [] := fun h => by
      subst h
      cases of_decide_eq_true hc
    obtain ⟨init, x, rfl⟩ : ∃ init x, fresh = init ++ [x] := ⟨fresh.dropLast, fresh.getLast hne, (List.dropLast_concat_getLast hne).symm⟩
    have hx : Reach [p, q, o] x := hD.r x (.inr (List.mem_append.mpr (.inr (List.mem_singleton.mpr rfl))))
    have hxl := reach_len h3 hin hx
    have hlt := todo_lt h3 hin hs hD
    have hml := moves_len h3 hs hxl
    have hfl : init.length + 1 ≤ todo (univ [p, q, o]) found (init ++ [x]) := by
      unfold todo
      rw [List.length_append, List.length_singleton]
      omega
    refine s_pop 5 6 (p := pq) (ds := init.map pl) (d := pl x) (by rw [List.map_append]; rfl) nd ?_
    refine s_if (k := apart [p, q, o] x) (b_val (e_call (f_apart (k := 0) T) hr (by omega) pass0 (a_cons (e_var 3 rfl) (a_cons (e_var 6 rfl) a_nil)) ⟨_, x, rfl, hxl, hok, rfl⟩)) (fun hf => s_ret e_bl ?_) (fun hf => s_nil ?_)
    · show Da.bl false = Da.bl (fitsB _)
      rw [fitsB_false (hD.not (List.mem_append.mpr (.inr (List.mem_singleton.mpr rfl))) hf)]
    refine s_app 4 rfl (d := pl x) (e_var 6 rfl) (lf_pl x) (by rw [List.length_map]; omega) ?_
    refine s_ext 5 rfl (es := (news [p, q, o] (found ++ [x]) init x).map pl) (E.is (e_lc 7 (items := (moves [p, q, o] x).map pl) (p := fun d => (!((found ++ [x]).map pl).any fun z => eqd z d) && (!(init.map pl).any fun z => eqd z d)) (f := fun d => d) (r_lst (e_call (f_moves (k := 0) T) hr (by omega) pass0 (a_cons (e_var 3 rfl) (a_cons (e_var 6 rfl) a_nil)) ⟨_, x, rfl, hxl, h3, hok, rfl⟩)) (by rw [List.length_map]; omega) nd (blk_ok (own := [("after", 7)]) (by kernel_rfl)) (fun y hy s0 H0 C cl fp => ?_) (fun _ _ _ _ _ => pg_name nd rfl (Or.inl rfl))) ?_) (lfL_pls _) ?_ (s_nil ⟨_, ?_, .kn (pl x), c7, found ++ [x], init ++ news [p, q, o] (found ++ [x]) init x, ?_, hD.step hf, rfl, ?_⟩)
    · obtain ⟨v, hv, rfl⟩ := List.mem_map.mp hy
      have ef : found.map pl ++ [pl x] = (found ++ [x]).map pl := by rw [List.map_append]; rfl
      refine ⟨ts_one (b_w (w_and (eb_cmpE (op_notInD hun) (e_var 7 rfl) (E.is (e_var 4 rfl) (congrArg Da.lst ef)) (od_niD (n := 1) (m := 2) (fit_pl 0 v) (fit_pls 0 _) (by decide) (by decide))) fun _ => w_and1 (eb_cmpE (op_notInD hun) (e_var 7 rfl) (e_var 5 rfl) (od_niD (n := 1) (m := 2) (fit_pl 0 v) (fit_pls 0 _) (by decide) (by decide))))), fun _ => e_var 7 rfl⟩
    · rw [List.map_id', List.filter_map]
      unfold news
      congr 2
      refine List.filter_congr fun v _ => ?_
      show ((!((found ++ [x]).map pl).any fun z => eqd z (pl v)) && (!(init.map pl).any fun z => eqd z (pl v))) = _
      rw [any_pl, any_pl]
    · have : (news [p, q, o] (found ++ [x]) init x).length ≤ 1089 := Nat.le_trans (List.length_filter_le _ _) hml
      rw [List.length_map, List.length_map]
      omega
    · exact Nat.lt_of_succ_le hlt
    · simp only [List.map_append]
      rfl
    · rw [List.length_append, List.length_singleton]
      omega
end
end Fs
set_option Elab.async false
set_option linter.all false
set_option maxRecDepth 100000
set_option maxHeartbeats 4000000
/-! Sets whose elements are tuples of by-value items of any kind: a search, an insertion, a larger table. The tables' own laws (go_spec, TabOk, relaid_ok, ..) are HandS.TupSets's. -/
namespace Fs
open PySem PySem.Spec PyProof.Rows L2
theorem ofA_bv {v : Value} (n : Nat) (h : carriedByValue v = true) : ofAClassStatement n v = pure false := by
  cases v with
  | ref a => simp [carriedByValue] at h
  | _ => cases n <;> first | rfl | simp [ofAClassStatement] | (unfold ofAClassStatement; rfl)
theorem hashBy_bv {v : Value} (n : Nat) (h : carriedByValue v = true) : ∃ b, hashByValue n v = pure b := by
  cases v with
  | ref a => simp [carriedByValue] at h
  | _ => cases n <;> first | exact ⟨_, rfl⟩ | (unfold hashByValue; exact ⟨_, rfl⟩)
section
variable {P : Program} {w : World} {κ : Type} [DecidableEq κ] {knd : KeyKind P w κ} {A : Around} {E : Value → Shared → Prop} {s : Shared}
abbrev Row (κ : Type) : Type := Addr × List κ
theorem quiet_cls {k : List κ} {b : Addr} {Q : Bool → Shared → Prop} (hk : IsTupleKey knd s.heap k b) (h : Q false s) : wpAny (model P w) A (ofAClassStatement 8 (.ref b)) Q E s := by
  have hT := hk.typeIs
  obtain ⟨o, items, n, ho, _, hd, hi⟩ := hk
  unfold ofAClassStatement
  refine wpAny_bind (wpAny_typeOf hT ?_)
  dsimp only
  have e : (("tuple" : String) == "tuple") = true := by decide
  simp only [e, if_true, Bool.not_true, Bool.false_eq_true, if_false]
  try refine wpAny_bind (wpAny_pure ?_)
  try simp only [Bool.not_true, Bool.false_eq_true, if_false]
  show wpAny _ _ (seqItems? (.ref b) >>= _) _ _ s
  refine wpAny_bind (wpAny_seqItems ho hd ?_)
  dsimp only
  refine wpAny_bind ?_
  show wpAny _ _ (forIn items _ _) _ _ s
  rw [← Array.forIn_toList]
  refine wpAny_forIn_list _ (fun rest r s' => (r.1 = none ∧ s' = s) ∧ ∀ v ∈ rest, carriedByValue v = true) _ ?_ ?_ _ _ ⟨⟨rfl, rfl⟩, hi.byValue⟩
  · rintro v rest r s' ⟨⟨_, rfl⟩, hall⟩
    rw [ofA_bv _ (hall v List.mem_cons_self)]
    refine wpAny_bind (wpAny_pure ?_)
    simp only [Bool.false_eq_true, if_false]
    exact wpAny_pure ⟨⟨rfl, rfl⟩, fun u hu => hall u (List.mem_cons_of_mem _ hu)⟩
  · rintro ⟨r1, r2⟩ s' ⟨⟨hr, rfl⟩, _⟩
    simp only at hr
    subst hr
    exact wpAny_pure h
theorem some_hashBy {k : List κ} {b : Addr} {Q : Bool → Shared → Prop} (hk : IsTupleKey knd s.heap k b) (h : ∀ c, Q c s) : wpAny (model P w) A (hashByValue 8 (.ref b)) Q E s := by
  have hT := hk.typeIs
  obtain ⟨o, items, n, ho, _, hd, hi⟩ := hk
  unfold hashByValue
  refine wpAny_bind (wpAny_specialOf hT F.slot_tuple_hash.lookup ?_)
  show wpAny _ _ (seqItems? (.ref b) >>= _) _ _ s
  refine wpAny_bind (wpAny_seqItems ho hd ?_)
  refine wpAny_bind ?_
  show wpAny _ _ (forIn items _ _) _ _ s
  rw [← Array.forIn_toList]
  refine wpAny_forIn_list _ (fun rest r s' => s' = s ∧ ∀ v ∈ rest, carriedByValue v = true) _ ?_ ?_ _ _ ⟨rfl, hi.byValue⟩
  · rintro v rest r s' ⟨rfl, hall⟩
    obtain ⟨c, hc⟩ := hashBy_bv 7 (hall v List.mem_cons_self)
    have rest' : ∀ u ∈ rest, carriedByValue u = true := fun u hu => hall u (List.mem_cons_of_mem _ hu)
    rw [hc]
    refine wpAny_bind (wpAny_pure ?_)
    cases c with
    | true =>
      simp only [Bool.not_true, Bool.false_eq_true, if_false]
      exact wpAny_pure ⟨rfl, rest'⟩
    | false =>
      simp only [Bool.not_false, if_true]
      exact wpAny_pure (wpAny_pure (h _))
  · rintro ⟨r1, r2⟩ s' ⟨rfl, _⟩
    cases r1 with
    | none => exact wpAny_pure (h _)
    | some c => exact wpAny_pure (h c)
theorem shows_none {k : List κ} {b : Addr} {Q : Bool → Shared → Prop} (hk : IsTupleKey knd s.heap k b) {ys : List Value} (hy : ∀ y ∈ ys, ∃ k' c, y = Value.ref c ∧ IsTupleKey knd s.heap k' c) (h : Q false s) :
    wpAny (model P w) A (searchCouldBeSeen (.ref b) ys) Q E s := by
  unfold searchCouldBeSeen
  refine wpAny_bind ?_
  refine wpAny_forIn_list _ (fun rest r s' => (r.1 = none ∧ s' = s) ∧ ∀ y ∈ rest, ∃ k' c, y = Value.ref c ∧ IsTupleKey knd s.heap k' c) _ ?_ ?_ _ _ ⟨⟨rfl, rfl⟩, hy⟩
  · rintro v rest r s' ⟨⟨_, rfl⟩, hall⟩
    obtain ⟨k', c, rfl, hc⟩ := hall v List.mem_cons_self
    have rest' : ∀ y ∈ rest, ∃ k' c, y = Value.ref c ∧ IsTupleKey knd s'.heap k' c := fun u hu => hall u (List.mem_cons_of_mem _ hu)
    dsimp only
    by_cases hv : (b == c || (carriedByValue (.ref b) && carriedByValue (.ref c))) = true
    · exact wp_if_pos hv (wpAny_pure ⟨⟨rfl, rfl⟩, rest'⟩)
    · refine wp_if_neg hv (wpAny_bind (wpAny_eqIsQuiet_tuple hk ?_))
      simp only [Bool.not_true, Bool.false_eq_true, if_false]
      refine wpAny_bind (wpAny_eqIsQuiet_tuple hc ?_)
      simp only [Bool.not_true, Bool.false_eq_true, if_false]
      refine wpAny_bind (quiet_cls hk ?_)
      simp only [Bool.false_eq_true, if_false]
      refine wpAny_bind (quiet_cls hc ?_)
      simp only [Bool.false_eq_true, if_false]
      exact wpAny_pure ⟨⟨rfl, rfl⟩, rest'⟩
  · rintro ⟨r1, r2⟩ s' ⟨⟨hr, rfl⟩, _⟩
    simp only at hr
    subst hr
    exact wpAny_pure h

/-! ### the table of rows -/
def kh (knd : KeyKind P w κ) (k : List κ) : Int := tupleKeyHash knd k
def rws (knd : KeyKind P w κ) (L : List (Row κ)) : List (Int × Value) := L.map fun p => (kh knd p.2, Value.ref p.1)
theorem rws_len (L : List (Row κ)) : (rws knd L).length = L.length := List.length_map ..
theorem rws_at {L : List (Row κ)} {i : Nat} {p : Row κ} (h : L[i]? = some p) : (rws knd L)[i]? = some (kh knd p.2, Value.ref p.1) := by
  unfold rws
  rw [List.getElem?_map, h] <;> rfl
/-- the set at a has the rows L -/
structure KT (knd : KeyKind P w κ) (h : Heap) (a : Addr) (L : List (Row κ)) (es : Array (Int × Value)) (ep : Nat) (t : SetTable) : Prop where
  ob : ∃ o, h.get? a = some o ∧ o.ExactSet ∧ o.data = .set es ep t
  rows : es.toList = rws knd L
  tab : TabOk t (L.map fun p => kh knd p.2)
  nd : (L.map (·.2)).Nodup
  tup : ∀ p ∈ L, IsTupleKey knd h p.2 p.1
  led : w.params.followText "set-order" = true ∨ t.led = true
  room : L.length * 5 < t.mask * 3
  few : L.length < 64
variable {a : Addr} {L : List (Row κ)} {es : Array (Int × Value)} {ep : Nat} {t : SetTable}
theorem KT.size (R : KT knd s.heap a L es ep t) : es.size = L.length := by
  rw [← Array.length_toList, R.rows, rws_len]
theorem KT.psize (R : KT knd s.heap a L es ep t) : t.place.size = L.length := by
  have h := R.tab.sz
  rw [List.length_map] at h
  exact h
theorem KT.fits (R : KT knd s.heap a L es ep t) : t.fits es.size = true := by
  have h1 := R.psize
  have h2 := R.size
  have h3 := R.room
  unfold SetTable.fits SetTable.fill
  rw [R.tab.dm, Bool.and_eq_true, beq_iff_eq, decide_eq_true_eq]
  show t.place.size = es.size ∧ t.place.size + 0 ≤ t.mask
  omega
theorem KT.entry (R : KT knd s.heap a L es ep t) {i : Nat} {p : Row κ} (h : L[i]? = some p) : es[i]? = some (kh knd p.2, Value.ref p.1) := by
  rw [← Array.getElem?_toList, R.rows]
  exact rws_at h
theorem KT.gw (R : KT knd s.heap a L es ep t) : ¬ t.gaveWay = true := by
  unfold SetTable.gaveWay
  rw [mask_odd R.tab.mok]
  decide
theorem nth_plain {m : Nat} : ∀ (n : Nat) (p : SetTable.Probe), p.dummy = none → (nth m p n).dummy = none
  | 0, _, h => h
  | n + 1, p, h => nth_plain n (adv m p) (by unfold adv; split <;> exact h)
/-- the c-th place of the search for k -/
abbrev walkAt (t : SetTable) (x : Int) (c : Nat) : SetTable.Probe := nth t.mask (runAt t.mask (SetTable.bits x % (t.mask + 1)) (SetTable.bits x)) c
/-- the search for k, from its c-th place on; K: the first empty one -/
theorem kt_search (R : KT knd s.heap a L es ep t) {x : Addr} {k : List κ} (hx : IsTupleKey knd s.heap k x) (hu : A.units < cLine) {K : Nat} (hKf : K < 10 * SetTable.turns t.mask)
    (hK : way t.mask (kh knd k) K ∉ t.place.toList) (hKb : ∀ c, c < K → way t.mask (kh knd k) c ∈ t.place.toList) {Q : SetFound → Shared → Prop}
    (hin : k ∈ L.map (·.2) → Q (.there none) s) (hout : k ∉ L.map (·.2) → Q (.free (way t.mask (kh knd k) K) false) s) :
    ∀ (f c : Nat) (stand : Option SetTable.Probe), stand.getD (t.probeStart (kh knd k)) = walkAt t (kh knd k) c → c ≤ K → K - c < f →
      (∀ (i : Nat) p, L[i]? = some p → p.2 = k → ∃ c', c ≤ c' ∧ c' < K ∧ t.place.toList[i]? = some (way t.mask (kh knd k) c')) →
      wpAny (model P w) A (setSearchFrom a (.ref x) (kh knd k) true f stand) Q E s := by
  intro f
  induction f with
  | zero => exact fun c stand _ _ hf _ => absurd hf (Nat.not_lt_zero _)
  | succ f ih =>
    intro c stand hst hc hf hre
    obtain ⟨o, ho, hex, hd⟩ := R.ob
    rw [setSearchFrom_succ]
    refine wpAny_bind (wpAny_setState_of ho hd R.fits ?_)
    dsimp only
    refine wp_if_neg R.gw ?_
    try refine wpAny_bind (wpAny_pure ?_)
    have sh : ∀ q, nth t.mask (walkAt t (kh knd k) c) q = walkAt t (kh knd k) (c + q) := fun q => (nth_add t.mask c _ q).symm
    have ej : ∀ q, (nth t.mask (walkAt t (kh knd k) c) q).j = way t.mask (kh knd k) (c + q) := fun q => congrArg SetTable.Probe.j (sh q)
    have hcK : c + (K - c) = K := by omega
    have hashAt : ∀ (i : Nat) p, L[i]? = some p → (fun i => (es[i]?.map (·.1)).getD 0) i = kh knd p.2 := fun i p hp => by
      show (es[i]?.map (·.1)).getD 0 = _
      rw [R.entry hp] <;> rfl
    rcases go_spec t R.tab.ris R.tab.dm (fun i => (es[i]?.map (·.1)).getD 0) (kh knd k) (10 * SetTable.turns t.mask) (K - c) _ (nth_plain c _ rfl) (by omega)
      (fun q hq => by rw [ej]; exact hKb (c + q) (by omega)) (by rw [ej, hcK]; exact hK) with ⟨q, i, hq, hi, hh, hno, hpr⟩ | ⟨hno, hpr⟩
    · have met : t.probe (fun i => (es[i]?.map (·.1)).getD 0) (kh knd k) (stand.getD (t.probeStart (kh knd k))) = some (.candidate (way t.mask (kh knd k) (c + q)) i (walkAt t (kh knd k) (c + (q + 1)))) := by
        rw [hst, ← ej, ← sh]
        exact hpr
      rw [met]
      dsimp only
      rw [ej] at hi
      have hil : i < L.length := by
        have h1 : i < t.place.toList.length := (List.getElem?_eq_some_iff.mp hi).1
        have h2 := R.psize
        rw [Array.length_toList] at h1
        omega
      obtain ⟨p, hp⟩ : ∃ p, L[i]? = some p := ⟨_, List.getElem?_eq_getElem hil⟩
      have hmem : p ∈ L := List.mem_of_getElem? hp
      have hsl : t.slot (way t.mask (kh knd k) (c + q)) = .live i := slot_live R.tab.ris hi
      have tail : wpAny (model P w) A (searchRest a (.ref x) (kh knd k) true f es t (way t.mask (kh knd k) (c + q)) i (walkAt t (kh knd k) (c + (q + 1)))) Q E s := by
        unfold searchRest
        rw [R.entry hp]
        dsimp only
        refine wpAny_bind (wpAny_holding (wpAny_eqBool_tuple hu (R.tup p hmem) hx ?_))
        refine wpAny_bind (wpAny_setState_of ho hd R.fits ?_)
        dsimp only
        by_cases hkk : p.2 = k
        · exact wp_if_pos (by simp [hkk]) (wpAny_pure (hin (List.mem_map.mpr ⟨p, hmem, hkk⟩)))
        · refine wp_if_neg (by simp [hkk]) ?_
          try refine wpAny_bind (wpAny_pure ?_)
          rw [sameMem]
          dsimp only
          simp only [if_true, hsl, R.entry hp]
          refine wpAny_bind (wpAny_isSame_ref_self (wpAny_bind (wpAny_pure ?_)))
          simp only [if_true]
          refine wp_if_neg (by simp [hkk]) ?_
          refine ih (c + (q + 1)) _ rfl (by omega) (by omega) fun i0 p0 h0 hk0 => ?_
          obtain ⟨c', a1, a2, a3⟩ := hre i0 p0 h0 hk0
          refine ⟨c', ?_, a2, a3⟩
          by_cases z1 : c' < c + q
          · exact absurd ((hashAt i0 p0 h0).trans (congrArg (kh knd) hk0)) (hno (c' - c) i0 (by omega) (by rw [ej, show c + (c' - c) = c' by omega]; exact a3))
          · by_cases z2 : c' = c + q
            · rw [z2] at a3
              have s0 := slot_live R.tab.ris a3
              rw [hsl] at s0
              injection s0 with s0
              rw [← s0, hp] at h0
              exact absurd ((congrArg Prod.snd (Option.some.inj h0)).trans hk0) hkk
            · omega
      by_cases hl : t.led = true
      · refine wp_if_neg (by simp [hl]) ?_
        try refine wpAny_bind (wpAny_pure ?_)
        exact tail
      · refine wp_if_pos (by simp [hl]) ?_
        refine wpAny_bind (shows_none hx (fun y hy => ?_) ?_)
        · obtain ⟨e, he, rfl⟩ := List.mem_map.mp hy
          have he1 : e ∈ es ∧ e.1 = kh knd k := by simpa using he
          have he2 : e ∈ es.toList := by simpa using he1.1
          rw [R.rows] at he2
          obtain ⟨p2, hp2, rfl⟩ := List.mem_map.mp he2
          exact ⟨p2.2, p2.1, rfl, R.tup p2 hp2⟩
        · refine wp_if_neg (by decide) ?_
          try refine wpAny_bind (wpAny_pure ?_)
          exact tail
    · have met : t.probe (fun i => (es[i]?.map (·.1)).getD 0) (kh knd k) (stand.getD (t.probeStart (kh knd k))) = some (.empty (way t.mask (kh knd k) K) none) := by
        have e2 : way t.mask (kh knd k) K = (nth t.mask (walkAt t (kh knd k) c) (K - c)).j := by rw [ej, hcK]
        rw [hst, e2]
        exact hpr
      rw [met]
      dsimp only
      refine wpAny_pure (hout fun hm => ?_)
      obtain ⟨p0, h0, hk0⟩ := List.mem_map.mp hm
      obtain ⟨i0, hi0, e0⟩ := List.getElem_of_mem h0
      have h00 : L[i0]? = some p0 := by rw [List.getElem?_eq_getElem hi0, e0]
      obtain ⟨c', a1, a2, a3⟩ := hre i0 p0 h00 hk0
      exact hno (c' - c) i0 (by omega) (by rw [ej, show c + (c' - c) = c' by omega]; exact a3) ((hashAt i0 p0 h00).trans (congrArg (kh knd) hk0))
theorem kt_find (R : KT knd s.heap a L es ep t) {x : Addr} {k : List κ} (hx : IsTupleKey knd s.heap k x) (hu : A.units < cLine) {Q : SetFound → Shared → Prop}
    (hin : k ∈ L.map (·.2) → Q (.there none) s)
    (hout : ∀ K, k ∉ L.map (·.2) → way t.mask (kh knd k) K ∉ t.place.toList → (∀ c, c < K → way t.mask (kh knd k) c ∈ t.place.toList) → Q (.free (way t.mask (kh knd k) K) false) s) :
    wpAny (model P w) A (setSearch a (.ref x) (kh knd k) true) Q E s := by
  have hroom := R.room
  obtain ⟨K, hKf, hK, hKb⟩ := R.tab.first (by rw [List.length_map]; omega) (kh knd k)
  have hbig : K < 100000 := by
    have : 10 * SetTable.turns t.mask ≤ 1420 := by
      unfold SetTable.turns
      rcases R.tab.mok with e | e | e <;> omega
    omega
  unfold setSearch
  refine kt_search R hx hu hKf hK hKb hin (fun hn => hout K hn hK hKb) 100000 0 none rfl (Nat.zero_le _) (by omega) fun i p hp hk => ?_
  have hi : (L.map fun p => kh knd p.2)[i]? = some (kh knd k) := by rw [List.getElem?_map, hp, ← hk] <;> rfl
  have hil : i < t.place.toList.length := by
    have h1 : i < L.length := (List.getElem?_eq_some_iff.mp hp).1
    rw [Array.length_toList, R.psize]
    exact h1
  have hj := List.getElem?_eq_getElem hil
  obtain ⟨c, hc, e⟩ := R.tab.before hK hi hj
  exact ⟨c, Nat.zero_le _, hc, by rw [hj, e]⟩
/-- a tuple stays when the set changes -/
theorem key_stays {h h' : Heap} {k : List κ} {b : Addr} {o : Obj} (hb : IsTupleKey knd h k b) (ho : h.get? a = some o) (hd : o.data = .set es ep t) (hs : Heap.SameBut a h h') : IsTupleKey knd h' k b := by
  obtain ⟨o', items, n, ho', hc, hd', hi⟩ := hb
  have hne : b ≠ a := fun e => by
    subst e
    rw [ho] at ho'
    cases ho'
    rw [hd] at hd'
    cases hd'
  exact ⟨o', items, n, (hs.2 b hne).trans ho', hc, hd', hi⟩
theorem range_get (L : List (Row κ)) : (List.range L.length).filterMap (fun i => L[i]?) = L := List.filterMap_getElem?_range_length L
/-- rows in another order -/
theorem rows_in (order : Array Nat) (hr : es.toList = rws knd L) (hp : order.toList.Perm (List.range L.length)) :
    ∃ L2, (order.filterMap (es[·]?)).toList = rws knd L2 ∧ L2.Perm L ∧ (L2.map fun p => kh knd p.2) = order.toList.map fun i => (es.map (·.1)).getD i 0 := by
  have ent : ∀ (i : Nat) p, L[i]? = some p → es[i]? = some (kh knd p.2, Value.ref p.1) := fun i p h => by
    rw [← Array.getElem?_toList, hr]
    exact rws_at h
  have key : ∀ l : List Nat, (∀ i ∈ l, i < L.length) → l.filterMap (fun i => es[i]?) = rws knd (l.filterMap fun i => L[i]?) ∧ ((l.filterMap fun i => L[i]?).map fun p => kh knd p.2) = l.map fun i => (es.map (·.1)).getD i 0 := by
    intro l
    induction l with
    | nil => exact fun _ => ⟨rfl, rfl⟩
    | cons i l ih =>
      intro hl
      obtain ⟨e1, e2⟩ := ih fun j hj => hl j (List.mem_cons_of_mem _ hj)
      obtain ⟨p, hg⟩ : ∃ p, L[i]? = some p := ⟨_, List.getElem?_eq_getElem (hl i List.mem_cons_self)⟩
      rw [List.filterMap_cons_some (ent i _ hg), List.filterMap_cons_some hg, e1, List.map_cons, List.map_cons, e2]
      refine ⟨rfl, ?_⟩
      have e5 : (es.map (·.1))[i]? = some (kh knd p.2) := by rw [Array.getElem?_map, ent i _ hg] <;> rfl
      have e4 : (es.map (·.1)).getD i 0 = kh knd p.2 := by simp [Array.getD_eq_getD_getElem?, e5]
      rw [e4]
  obtain ⟨e1, e2⟩ := key order.toList fun i hi => List.mem_range.mp (hp.mem_iff.mp hi)
  refine ⟨_, by first | (rw [Array.toList_filterMap]; exact e1) | simpa using e1, ?_, e2⟩
  have h1 := hp.filterMap fun i => L[i]?
  rw [range_get] at h1
  exact h1
/-- the table laid anew, larger -/
theorem kt_relay {o : Obj} (ho : s.heap.get? a = some o) (hex : o.ExactSet) (hd : o.data = .set es ep t) (hrows : es.toList = rws knd L) (hsz : t.place.size = es.size) (hdm : t.dummies = #[]) (hfl : es.size ≤ t.mask)
    (nd : (L.map (·.2)).Nodup) (tup : ∀ p ∈ L, IsTupleKey knd s.heap p.2 p.1) (ld : w.params.followText "set-order" = true ∨ t.led = true) (few : L.length < 64) {wanted M : Nat}
    (hw : SetTable.sizeAbove wanted - 1 = M) (hM : MaskOk M) (hw2 : SetTable.sizeAbove wanted ≤ 128) (hn : L.length * 5 < M * 3) {Q : Unit → Shared → Prop}
    (hQ : ∀ h' L' es' ep' t', Heap.SameBut a s.heap h' → KT knd h' a L' es' ep' t' → L'.Perm L → Q () { s with heap := h' }) : wpAny (model P w) A (setRelay a wanted) Q E s := by
  have hsl : es.size = L.length := by rw [← Array.length_toList, hrows, rws_len]
  have hfits : t.fits es.size = true := by
    unfold SetTable.fits SetTable.fill
    rw [hdm, Bool.and_eq_true, beq_iff_eq, decide_eq_true_eq]
    show t.place.size = es.size ∧ t.place.size + 0 ≤ t.mask
    omega
  obtain ⟨t', order, e, hp, T, em, el, _, ed⟩ := relaid_ok t (hs := es.map (·.1)) (wanted := wanted) hw hM (by rw [Array.size_map, hsl]; omega)
  rw [Array.size_map, hsl] at hp
  obtain ⟨L2, r1, r2, r3⟩ := rows_in order hrows hp
  rw [← r3] at T
  have hs2 : (order.filterMap (es[·]?)).size = es.size := by rw [← Array.length_toList, r1, rws_len, r2.length_eq, hsl]
  rw [setRelay_eq]
  refine wpAny_bind (wpAny_setState_of ho hd hfits ?_)
  dsimp only
  refine wp_if_neg (by rw [sizeLine_eq]; omega) ?_
  try refine wpAny_bind (wpAny_pure ?_)
  rw [e]
  dsimp only
  refine wpAny_bind (wp_if_neg (by rw [hs2]; simp) ?_)
  try refine wpAny_bind (wpAny_pure ?_)
  refine wpAny_pure ?_
  dsimp only
  refine wpAny_storeSet_of ho hd ?_ (by rw [hs2, hsl, sizeLine_eq]; omega)
  have sb : Heap.SameBut a s.heap (s.heap.update a (Obj.putSet (order.filterMap (es[·]?)) t')) := Heap.SameBut.update ..
  refine hQ _ L2 (order.filterMap (es[·]?)) (ep + 1) t' sb ⟨⟨_, store_at ho hd, ⟨hex.1, hex.2.1, hex.2.2⟩, rfl⟩, r1, T, (r2.map (·.2)).nodup_iff.mpr nd, fun p hpm => key_stays (tup p (r2.mem_iff.mp hpm)) ho hd sb, by rw [el]; exact ld, ?_, by rw [r2.length_eq]; exact few⟩ r2
  rw [r2.length_eq, em]
  exact hn
end
end Fs
set_option Elab.async false
set_option linter.all false
set_option maxRecDepth 100000
set_option maxHeartbeats 4000000
/-! Sets of tuples: adding; set(list), many items but few that differ. -/
namespace Fs
open PySem PySem.Spec PyProof.Rows L2
section
variable {P : Program} {w : World} {κ : Type} [DecidableEq κ] {knd : KeyKind P w κ} {A : Around} {E : Value → Shared → Prop} {s : Shared}
variable {a : Addr} {L : List (Row κ)} {es : Array (Int × Value)} {ep : Nat} {t : SetTable}
theorem kt_add (R : KT knd s.heap a L es ep t) {x : Addr} {k : List κ} (hx : IsTupleKey knd s.heap k x) (hu : A.units < cLine) (hfew : k ∉ L.map (·.2) → L.length + 1 < 64) {Q : Bool → Shared → Prop}
    (hQ : ∀ b h' L' es' ep' t', Heap.SameBut a s.heap h' → KT knd h' a L' es' ep' t' → (k ∈ L.map (·.2) → L' = L) → (k ∉ L.map (·.2) → L'.Perm ((x, k) :: L)) → Q b { s with heap := h' }) :
    wpAny (model P w) A (setAddHashed a (.ref x) (kh knd k)) Q E s := by
  obtain ⟨o, ho, hex, hd⟩ := R.ob
  have hsl := R.size
  have hroom := R.room
  unfold setAddHashed
  refine wpAny_holding ?_
  rw [show (100000 : Nat) = 99999 + 1 from rfl, setAddHashedIn_succ]
  refine wpAny_bind (wpAny_setState_of ho hd R.fits ?_)
  dsimp only
  refine wp_if_neg (by simp [byScan, Value.scannable]) ?_
  try refine wpAny_bind (wpAny_pure ?_)
  refine wpAny_bind (kt_find R hx hu (fun hm => ?_) fun K hm hK hb => ?_)
  · dsimp only
    exact wpAny_pure (hQ false s.heap L es ep t (Heap.SameBut.refl a s.heap) R (fun _ => rfl) fun z => absurd hm z)
  · dsimp only
    have hfew := hfew hm
    refine wpAny_bind (wpAny_setState_of ho hd R.fits ?_)
    dsimp only
    obtain ⟨q1, q2, q3, q4, q5, q6, q7, q8, q9⟩ := R.tab.put hK hb
    generalize hpt : t.put (way t.mask (kh knd k) K) = pt at q1 q3 q4 q5 q6 q7 q8 q9 ⊢
    obtain ⟨t1, p⟩ := pt
    dsimp only at q1 q3 q4 q5 q6 q7 q8 q9 ⊢
    subst q1
    -- the table behind the question whether the hash is carried by value: t1, but for its mark
    have after : ∀ t2 : SetTable, t2.place = t1.place → t2.dummies = t1.dummies → t2.mask = t1.mask → t2.led = t1.led → t2.moves = t1.moves → t2.tooFull = t1.tooFull → TabOk t2 ((L.map fun p => kh knd p.2).take (SetTable.below t.place (way t.mask (kh knd k) K)) ++ kh knd k :: (L.map fun p => kh knd p.2).drop (SetTable.below t.place (way t.mask (kh knd k) K))) →
        wpAny (model P w) A (storeSet a (SetTable.insertAt es (SetTable.below t.place (way t.mask (kh knd k) K)) (kh knd k, .ref x)) t2) (fun _ s' => wpAny (model P w) A (do
          if !false && t2.tooFull then setRelay a (SetTable.grown (es.size + 1))
          return true) Q E s') E s := by
      intro t2 m1 m2 m3 m4 m5 m6 q3
      have hin : (SetTable.insertAt es (SetTable.below t.place (way t.mask (kh knd k) K)) (kh knd k, Value.ref x)).toList = rws knd (L.take (SetTable.below t.place (way t.mask (kh knd k) K)) ++ (x, k) :: L.drop (SetTable.below t.place (way t.mask (kh knd k) K))) := by
        rw [SetTable.toList_insertAt, R.rows]
        unfold rws
        rw [List.map_append, List.map_cons, List.map_take, List.map_drop]
      generalize hpp : SetTable.below t.place (way t.mask (kh knd k) K) = p at q2 q3 hin ⊢
      have pm := put_perm L p (x, k)
      have hlen : (L.take p ++ (x, k) :: L.drop p).length = L.length + 1 := pm.length_eq
      have hhs : (L.take p ++ (x, k) :: L.drop p).map (fun p => kh knd p.2) = (L.map fun p => kh knd p.2).take p ++ kh knd k :: (L.map fun p => kh knd p.2).drop p := by
        rw [List.map_append, List.map_cons, List.map_take, List.map_drop]
      rw [← hhs] at q3
      have nd1 : ((L.take p ++ (x, k) :: L.drop p).map (·.2)).Nodup := (pm.map (·.2)).nodup_iff.mpr (List.nodup_cons.mpr ⟨hm, R.nd⟩)
      have hes : (SetTable.insertAt es p (kh knd k, Value.ref x)).size = L.length + 1 := by rw [← Array.length_toList, hin, rws_len, hlen]
      generalize SetTable.insertAt es p (kh knd k, Value.ref x) = es1 at hin hes ⊢
      generalize L.take p ++ (x, k) :: L.drop p = L1 at pm hlen q3 nd1 hin
      refine wpAny_storeSet_of ho hd ?_ (by rw [hes, sizeLine_eq]; omega)
      have sb : Heap.SameBut a s.heap (s.heap.update a (Obj.putSet es1 t2)) := Heap.SameBut.update ..
      have ho1 := store_at (es' := es1) (t' := t2) ho hd
      generalize s.heap.update a (Obj.putSet es1 t2) = h1 at sb ho1 ⊢
      have tup1 : ∀ p ∈ L1, IsTupleKey knd h1 p.2 p.1 := fun p hp => by
        rcases List.mem_cons.mp (pm.mem_iff.mp hp) with e | hp
        · rw [e]; exact key_stays hx ho hd sb
        · exact key_stays (R.tup p hp) ho hd sb
      have ld1 : w.params.followText "set-order" = true ∨ t2.led = true := by rw [m4, q5]; exact R.led
      have hps : t2.place.size = L.length + 1 := by
        have h := q3.sz
        rw [List.length_map, hlen] at h
        exact h
      have full_iff : t2.tooFull = true ↔ (L.length + 1) * 5 ≥ t.mask * 3 := by
        rw [m6]
        unfold SetTable.tooFull
        rw [decide_eq_true_eq, q9, List.length_map, q4]
      by_cases hf : t2.tooFull = true
      · have hfull := full_iff.mp hf
        have cases2 : (t.mask = 7 ∧ L.length = 4) ∨ (t.mask = 31 ∧ L.length = 18) := by
          rcases R.tab.mok with e | e | e
          · left; rw [e] at hfull hroom; exact ⟨e, by omega⟩
          · right; rw [e] at hfull hroom; exact ⟨e, by omega⟩
          · exfalso; rw [e] at hfull; omega
        have go : ∀ M, SetTable.sizeAbove (SetTable.grown (L.length + 1)) - 1 = M → MaskOk M → SetTable.sizeAbove (SetTable.grown (L.length + 1)) ≤ 128 → (L.length + 1) * 5 < M * 3 →
            wpAny (model P w) A (setRelay a (SetTable.grown (L.length + 1))) (fun _ s' => wpAny (model P w) A (pure true) Q E s') E { s with heap := h1 } := fun M h1' h2' h3' h4' => by
          refine kt_relay (s := { s with heap := h1 }) ho1 ⟨hex.1, hex.2.1, hex.2.2⟩ rfl hin (by rw [hps, hes]) q3.dm (by rw [hes, m3, q4]; rcases cases2 with ⟨e, e2⟩ | ⟨e, e2⟩ <;> omega) nd1 tup1 ld1 (by rw [hlen]; exact hfew) h1' h2' h3' (by rw [hlen]; exact h4') ?_
          intro h2 L2 es2 ep2 t2 sb2 R2 pm2
          exact wpAny_pure (hQ true h2 L2 es2 ep2 t2 (sb.trans sb2) R2 (fun z => absurd z hm) fun _ => pm2.trans pm)
        rw [hsl]
        first
          | refine wpAny_bind (wp_if_pos (by simp [hf]) ?_)
          | refine wp_if_pos (by simp [hf]) (wpAny_bind ?_)
        rcases cases2 with ⟨_, e2⟩ | ⟨_, e2⟩
        · exact go 31 (by rw [e2, size_20]) (.inr (.inl rfl)) (by rw [e2, size_20]; decide) (by omega)
        · exact go 127 (by rw [e2, size_76]) (.inr (.inr rfl)) (by rw [e2, size_76]; decide) (by omega)
      · first
          | refine wp_if_neg (by simp [hf]) ?_
          | (refine wpAny_bind ?_; refine wp_if_neg (by simp [hf]) ?_; refine wpAny_pure ?_)
        refine wpAny_pure (hQ true h1 L1 es1 (ep + 1) t2 sb ⟨⟨_, ho1, ⟨hex.1, hex.2.1, hex.2.2⟩, rfl⟩, hin, q3, nd1, tup1, ld1, ?_, by rw [hlen]; exact hfew⟩ (fun z => absurd z hm) fun _ => pm)
        have h : ¬ (L.length + 1) * 5 ≥ t.mask * 3 := fun z => hf (full_iff.mpr z)
        rw [hlen, m3, q4]
        omega
    have done : ∀ c : Bool, wpAny (model P w) A (storeSet a (SetTable.insertAt es (SetTable.below t.place (way t.mask (kh knd k) K)) (kh knd k, .ref x)) (if c = true then t1 else { t1 with plain := false })) (fun _ s' => wpAny (model P w) A (do
          if !false && (if c = true then t1 else { t1 with plain := false } : SetTable).tooFull then setRelay a (SetTable.grown (es.size + 1))
          return true) Q E s') E s := by
      intro c
      cases c with
      | true => exact after t1 rfl rfl rfl rfl rfl rfl q3
      | false => exact after { t1 with plain := false } rfl rfl rfl rfl rfl rfl ⟨q3.ris, q3.dm, q3.sz, q3.mok, q3.bd, q3.reach⟩
    by_cases hpl : t1.plain = true
    · first
        | (refine wpAny_bind ?_; refine wp_if_pos hpl ?_; refine some_hashBy hx fun c => ?_)
        | refine wp_if_pos hpl (wpAny_bind (some_hashBy hx fun c => ?_))
      exact wpAny_bind (done c)
    · first
        | (refine wpAny_bind ?_; refine wp_if_neg hpl ?_; refine wpAny_pure ?_)
        | refine wp_if_neg hpl (wpAny_bind (wpAny_pure ?_))
      exact wpAny_bind (done true)
end
end Fs
set_option Elab.async false
set_option linter.all false
set_option maxRecDepth 100000
set_option maxHeartbeats 4000000
/-! set(list of tuples), sorted(set). -/
namespace Fs
open PySem PySem.Spec PyProof.Rows L2
section
variable {P : Program} {w : World} {κ : Type} [DecidableEq κ] {knd : KeyKind P w κ} {A : Around} {E : Value → Shared → Prop} {s : Shared}
theorem key_keep {h h' : Heap} {k : List κ} {b : Addr} (x : IsTupleKey knd h k b) (hk : ∀ c o, h.get? c = some o → h'.get? c = some o) : IsTupleKey knd h' k b := by
  obtain ⟨o, items, n, ho, r⟩ := x
  exact ⟨o, items, n, hk b o ho, r⟩
theorem KT.keep {h h' : Heap} {a : Addr} {L : List (Row κ)} {es : Array (Int × Value)} {ep : Nat} {t : SetTable} (R : KT knd h a L es ep t) (ha : ∀ o, h.get? a = some o → h'.get? a = some o) (ht : ∀ p ∈ L, IsTupleKey knd h' p.2 p.1) : KT knd h' a L es ep t := by
  obtain ⟨o, ho, r⟩ := R.ob
  exact ⟨⟨o, ha o ho, r⟩, R.rows, R.tab, R.nd, ht, R.led, R.room, R.few⟩
theorem kt_fresh {h : Heap} {a : Addr} (ho : h.get? a = some { cls := .type "set", dict := none, data := .set #[] 0 (.fresh 0 0 (!w.params.followText "set-order")) }) : KT knd h a [] #[] 0 (.fresh 0 0 (!w.params.followText "set-order")) where
  ob := ⟨_, ho, ⟨rfl, rfl, rfl⟩, rfl⟩
  rows := rfl
  tab := ⟨List.Pairwise.nil, rfl, rfl, .inl rfl, fun x hx => (by cases hx), fun i h j hi => (by simp at hi)⟩
  nd := List.nodup_nil
  tup := fun p hp => (by cases hp)
  led := by
    show _ ∨ (!w.params.followText "set-order") = true
    cases w.params.followText "set-order"
    · exact .inr rfl
    · exact .inl rfl
  room := by
    show 0 * 5 < 7 * 3
    decide
  few := by
    show 0 < 64
    decide
/-- what the set holds behind the first i items -/
def Held (ks : List (Row κ)) (i : Nat) (L : List (Row κ)) : Prop := (∀ p ∈ L, p ∈ ks.take i) ∧ ∀ p ∈ ks.take i, p.2 ∈ L.map (·.2)
theorem Held.next {ks L L' : List (Row κ)} {i : Nat} {x : Row κ} (g : Held ks i L) (h : ks[i]? = some x) (c1 : x.2 ∈ L.map (·.2) → L' = L) (c2 : x.2 ∉ L.map (·.2) → L'.Perm (x :: L)) : Held ks (i + 1) L' := by
  have et : ks.take (i + 1) = ks.take i ++ [x] := by rw [List.take_succ, h] <;> rfl
  by_cases c : x.2 ∈ L.map (·.2)
  · rw [c1 c]
    refine ⟨fun p hp => by rw [et]; exact List.mem_append_left _ (g.1 p hp), fun p hp => ?_⟩
    rw [et] at hp
    rcases List.mem_append.mp hp with z | z
    · exact g.2 p z
    · rw [List.mem_singleton.mp z]; exact c
  · have pm := c2 c
    refine ⟨fun p hp => ?_, fun p hp => ?_⟩
    · rw [et]
      rcases List.mem_cons.mp (pm.mem_iff.mp hp) with e | z
      · rw [e]; exact List.mem_append_right _ (List.mem_singleton.mpr rfl)
      · exact List.mem_append_left _ (g.1 p z)
    · rw [(pm.map (·.2)).mem_iff, List.map_cons]
      rw [et] at hp
      rcases List.mem_append.mp hp with z | z
      · exact List.mem_cons_of_mem _ (g.2 p z)
      · rw [List.mem_singleton.mp z]; exact List.mem_cons_self
/-- few of the keys differ -/
def FewD (ks : List (Row κ)) : Prop := ∀ D : List (List κ), D.Nodup → (∀ k ∈ D, k ∈ ks.map (·.2)) → D.length < 64
theorem kt_loop {I : Addr} {fp wr : List Addr} {G : Array GenState → Array GenState → Prop} {n : Nat} {Pv : Nat → Value → Prop} {St : Nat → Shared → Prop} {R : Result → Shared → Prop}
    (W : WalksS P w A.in1 I fp wr G n Pv St) (S : Addr) (hSf : S ∉ fp) (ks : List (Row κ)) (hn : n = ks.length) (hfew : FewD ks) (hval : ∀ i v, Pv i v → ∃ p, ks[i]? = some p ∧ v = .ref p.1)
    (h0 : Heap) (hk : ∀ p ∈ ks, IsTupleKey knd h0 p.2 p.1) (hS0 : h0.get? S = none) (hw0 : ∀ b ∈ wr, h0.get? b = none) (hu : A.in1.units < cLine) :
    ∀ (k i : Nat) (s : Shared), n - i = k → i ≤ n → St i s → (∀ b o, h0.get? b = some o → s.heap.get? b = some o) → (∃ L es ep t, KT knd s.heap S L es ep t ∧ Held ks i L) →
      (∀ s' L es ep t, Moved (S :: wr) G s s' → KT knd s'.heap S L es ep t → Held ks n L → (∀ b o, h0.get? b = some o → s'.heap.get? b = some o) → R (.ok (.ret .none)) s') →
      codeAny (model P w) A (.builtin "set.update.loop" ⟨[.ref S, .ref I], []⟩) R s := by
  have hSw : S ∉ wr := fun h => hSf (W.sub _ h)
  have hsub : ∀ b ∈ wr, b ∈ S :: wr := fun b hb => List.mem_cons_of_mem _ hb
  have keepM : ∀ {s s' : Shared}, Moved wr G s s' → (∀ b o, h0.get? b = some o → s.heap.get? b = some o) → ∀ b o, h0.get? b = some o → s'.heap.get? b = some o := fun hm hkp b o e =>
    hm.heap b o (fun hb => by rw [hw0 b hb] at e; cases e) (hkp b o e)
  intro k
  induction k with
  | zero =>
    intro i s hk' hi hst hkp ⟨L, es, ep, t, hS, g⟩ hR
    have hin : i = n := by omega
    subst hin
    refine codeAny_builtin F.entry_set_update_loop ?_
    rw [Around.under_plainId F.plain_set_update_loop _]
    show wpAny _ A.in1 (pyNext (.ref I) >>= _) _ _ s
    refine wpAny_bind (W.done s _ _ hst fun s' hm => ?_)
    show wpAny _ A.in1 (ret Value.none) _ _ s'
    have hkp' := keepM hm hkp
    exact wpAny_pure (hR s' L es ep t (hm.mono hsub) (hS.keep (fun o e => hm.heap S o hSw e) fun p hp => key_keep (hk p (List.mem_of_mem_take (g.1 p hp))) hkp') g hkp')
  | succ k ih =>
    intro i s hk' hi hst hkp ⟨L, es, ep, t, hS, g⟩ hR
    have hlt : i < n := by omega
    refine codeAny_builtin F.entry_set_update_loop ?_
    rw [Around.under_plainId F.plain_set_update_loop _]
    show wpAny _ A.in1 (pyNext (.ref I) >>= _) _ _ s
    refine wpAny_bind (W.item i s _ _ hlt hst fun v s' hP hst' hm => ?_)
    obtain ⟨p, hp, rfl⟩ := hval i v hP
    have hpm : p ∈ ks := List.mem_of_getElem? hp
    have hkp' := keepM hm hkp
    have sub : ∀ p ∈ L, p ∈ ks := fun p hp => List.mem_of_mem_take (g.1 p hp)
    have hS' : KT knd s'.heap S L es ep t := hS.keep (fun o e => hm.heap S o hSw e) fun q hq => key_keep (hk q (sub q hq)) hkp'
    have hx : IsTupleKey knd s'.heap p.2 p.1 := key_keep (hk p hpm) hkp'
    show wpAny _ A.in1 (holding [Value.ref p.1] (setAdd S (.ref p.1)) >>= _) _ _ s'
    refine wpAny_bind (wpAny_holding ?_)
    unfold setAdd
    refine wpAny_holding ?_
    refine wpAny_bind (wpAny_pyHash_tuple hu hx ?_)
    refine kt_add (s := { s' with toks := s'.toks + (p.2.length + 1) }) hS' hx hu (fun hno => ?_) fun b h' L' es' ep' t' hsb hS2 c1 c2 => ?_
    · have := hfew (p.2 :: L.map (·.2)) (List.nodup_cons.mpr ⟨hno, hS.nd⟩) fun k hk => by
        rcases List.mem_cons.mp hk with rfl | hk
        · exact List.mem_map.mpr ⟨p, hpm, rfl⟩
        · obtain ⟨q, hq, rfl⟩ := List.mem_map.mp hk
          exact List.mem_map.mpr ⟨q, sub q hq, rfl⟩
      rw [List.length_cons, List.length_map] at this
      exact this
    · have hkp2 : ∀ b o, h0.get? b = some o → h'.get? b = some o := fun b o e => (hsb.2 b (fun z => by rw [z, hS0] at e; cases e)).trans (hkp' b o e)
      refine wpAny_pure ⟨plainId_quiet F.plain_set_update_loop _, ih (i + 1) _ (by omega) hlt (W.frame _ s' _ _ hst' (Nat.le_add_right _ _) fun b hb o e => ?_) hkp2 ⟨L', es', ep', t', hS2, g.next hp c1 c2⟩ fun s'' L2 es2 ep2 t2 hm'' hS'' g'' hkp'' => ?_⟩
      · rw [hsb.2 b (fun h : b = S => hSf (by rw [← h]; exact hb))]; exact e
      · refine hR s'' L2 es2 ep2 t2 (Moved.trans W.gtrans ((hm.mono hsub).then_heap (Nat.le_add_right _ _) fun b o hb e => ?_) hm'') hS'' g'' hkp''
        rw [hsb.2 b (fun h : b = S => hb (by rw [h]; exact List.mem_cons_self))]; exact e
/-- set(xs) -/
theorem kt_make {l : Addr} {items : Array Value} (ks : List (Row κ)) {Q : Value → Shared → Prop} (hh : A.handled = none) (hl : s.heap.IsList l items) (hit : items.toList = ks.map fun p => Value.ref p.1)
    (hk : ∀ p ∈ ks, IsTupleKey knd s.heap p.2 p.1) (hfew : FewD ks) (hu : A.units + 3 < cLine)
    (h : ∀ (h' : Heap) (tk : Nat) L es ep t, KT knd h' s.heap.objs.size L es ep t → Held ks ks.length L → (∀ b o, s.heap.get? b = some o → h'.get? b = some o) → Q (.ref s.heap.objs.size) { s with heap := h', toks := tk }) :
    wpAny (model P w) A (call (.type "set") [.ref l]) Q E s := by
  have hisz : items.size = ks.length := by
    have q := congrArg List.length hit
    rw [Array.length_toList, List.length_map] at q
    exact q
  obtain ⟨c, tl, hmro⟩ := F.called_set.mro
  have hmade := F.called_set.made
  have hsub := F.called_set.sub
  refine wpAny_call (codeAny_of_tree ?_)
  show wpAny _ _ (callAny (.type "set") _) _ _ _
  refine wpAny_pure ⟨Code.quiet_builtin _ (by decide +kernel), codeAny_builtin F.entry_type_call ?_⟩
  rw [Around.under_plain (weight_type_call_type "set" [.ref l] []) rfl]
  have h1 := F.called_set.notType
  have h2 := F.called_set.canCreate
  have hct := F.typeCall_set_1 (.ref l)
  repeat (any_goals (first | assumption | wp_step))
  refine codeAny_mono (code_set_led1 (.ref l) (E := E) (Q₁ := fun obj s₁ => obj = .ref s.heap.objs.size ∧ s₁ = { s with heap := s.heap.push { cls := .type "set", dict := none, data := .set #[] 0 (.fresh 0 0 (!w.params.followText "set-order")) } }) ⟨rfl, rfl⟩) fun r s₁ hr => ?_
  cases r with
  | error e => exact hr
  | ok fl =>
    cases fl with
    | ret obj =>
      obtain ⟨rfl, rfl⟩ := hr
      have hS : (s.heap.push { cls := .type "set", dict := none, data := .set #[] 0 (.fresh 0 0 (!w.params.followText "set-order")) }).get? s.heap.objs.size = some { cls := .type "set", dict := none, data := .set #[] 0 (.fresh 0 0 (!w.params.followText "set-order")) } := Heap.get?_push_size _ rfl
      have hT : Shared.TypeIs { s with heap := s.heap.push { cls := .type "set", dict := none, data := .set #[] 0 (.fresh 0 0 (!w.params.followText "set-order")) } } (.ref s.heap.objs.size) "set" := ⟨_, hS, rfl⟩
      have hli := F.called_set.init.lookup
      have hbi := F.called_set.init.bind (.ref s.heap.objs.size)
      repeat (any_goals (first | assumption | wp_step))
      refine codeAny_mono (codeAny_call_builtin (R := wants (fun r s₂ => r = .none ∧ ∃ h' tk L es ep t, s₂ = { s with heap := h', toks := tk } ∧ KT knd h' s.heap.objs.size L es ep t ∧ Held ks ks.length L ∧
          (∀ b o, s.heap.get? b = some o → h'.get? b = some o)) E) F.called_set.init.plain F.entry_set_init (check_set_init_1 hT ?_)) fun r₂ s₂ hr₂ => ?_
      · obtain ⟨ol, hol, hcl, nl, hdl⟩ := hl
        obtain ⟨ocls, odict, odata, oslots⟩ := ol
        simp only at hcl hdl
        subst hcl; subst hdl
        have hol' : (s.heap.push { cls := .type "set", dict := none, data := .set #[] 0 (.fresh 0 0 (!w.params.followText "set-order")) }).get? l = some { cls := .type "list", dict := odict, data := .seq items nl, slots := oslots } := Heap.get?_push_of_some _ hol
        have hsls := F.sub_list_set
        have hslf := F.sub_list_frozenset
        have hne : (Value.type "list" == Value.type "dict") = false := by decide
        have hl1 : (s.heap.push { cls := .type "set", dict := none, data := .set #[] 0 (.fresh 0 0 (!w.params.followText "set-order")) }).IsList l items := ⟨_, hol', rfl, nl, rfl⟩
        unfold Builtin.«set.__init__» noKeywords Builtin.Frozenset.updateFrom
        generalize hPI : pyIter = PI
        wp_walk
        subst hPI
        refine wpAny_pyIter_list hl1 ?_
        refine wpAny_bind (wpAny_runValue ?_)
        have hlS : l < s.heap.objs.size := Heap.lt_size hol
        have hh3 : A.in1.in1.in1.handled = none := by simp [hh]
        have hz1 : (s.heap.push { cls := .type "set", dict := none, data := .set #[] 0 (.fresh 0 0 (!w.params.followText "set-order")) }).objs.size = s.heap.objs.size + 1 := Heap.size_push ..
        have hneI : l ≠ (s.heap.push { cls := .type "set", dict := none, data := .set #[] 0 (.fresh 0 0 (!w.params.followText "set-order")) }).objs.size := by
          rw [hz1]; exact Nat.ne_of_lt (Nat.lt_succ_of_lt hlS)
        have hSf : s.heap.objs.size ∉ [(s.heap.push { cls := .type "set", dict := none, data := .set #[] 0 (.fresh 0 0 (!w.params.followText "set-order")) }).objs.size, l] := by
          rw [hz1]; simp only [List.mem_cons, List.not_mem_nil, or_false, not_or]
          exact ⟨Nat.ne_of_lt (Nat.lt_succ_self _), Nat.ne_of_gt hlS⟩
        have hval : ∀ (i : Nat) (v : Value), items[i]? = some v → ∃ p, ks[i]? = some p ∧ v = .ref p.1 := fun i v hv => by
          have q : items.toList[i]? = some v := by rw [Array.getElem?_toList]; exact hv
          rw [hit, List.getElem?_map] at q
          cases hq : ks[i]? with
          | none => rw [hq] at q; cases q
          | some p =>
            rw [hq] at q
            exact ⟨p, rfl, (Option.some.inj q).symm⟩
        have none_of : ∀ b, s.heap.objs.size ≤ b → s.heap.get? b = none := fun b hb => by
          cases q : s.heap.get? b with
          | none => rfl
          | some o => exact absurd (Nat.lt_of_lt_of_le (Heap.lt_size q) hb) (Nat.lt_irrefl _)
        refine kt_loop ((Walks.list hh3 _ l hneI items).toS) s.heap.objs.size
          hSf ks hisz hfew hval s.heap hk (none_of _ (Nat.le_refl _)) (fun b hb => none_of b (by
            rw [List.mem_singleton.mp hb, hz1]
            exact Nat.le_succ _)) hu (items.size - 0) 0 _ (by omega) (Nat.zero_le _)
          ⟨⟨_, Heap.get?_push_size _ rfl, rfl, rfl⟩, (hl1.push _)⟩ (fun b o e => Heap.get?_push_of_some _ (Heap.get?_push_of_some _ e)) ?hS0 ?hR
        case hS0 =>
          have hget : ((s.heap.push { cls := .type "set", dict := none, data := .set #[] 0 (.fresh 0 0 (!w.params.followText "set-order")) }).push { cls := .type "list_iterator", data := .fields #[.ref l, .int 0 0] }).get? s.heap.objs.size = some { cls := .type "set", dict := none, data := .set #[] 0 (.fresh 0 0 (!w.params.followText "set-order")) } := Heap.get?_push_of_some _ hS
          exact ⟨[], #[], 0, _, kt_fresh hget, fun p h => (by cases h), fun p h => (by simp at h)⟩
        case hR =>
          intro s' L es ep t hm hS' g' hkp
          obtain ⟨h', g2, d', tk', os'⟩ := s'
          have eg : g2 = s.gens := hm.gens
          have ed : d' = s.drawn := hm.drawn
          have eo : os' = s.os := hm.os
          subst eg; subst ed; subst eo
          show wpAny _ _ _ _ _ _
          refine wpAny_pure ?_
          show wpAny _ _ (ret Value.none) _ _ _
          rw [hisz] at g'
          exact wpAny_pure ⟨rfl, h', tk', L, es, ep, t, rfl, hS', g', hkp⟩
      · cases r₂ with
        | error e => exact hr₂
        | ok fl₂ =>
          cases fl₂ with
          | ret r =>
            obtain ⟨rfl, h', tk, L, es, ep, t, rfl, hS', g', hk'⟩ := hr₂
            repeat (any_goals (first | assumption | wp_step))
            exact h _ _ _ _ _ _ hS' g' hk'
          | _ => exact hr₂.elim
    | _ => exact hr.elim
end
end Fs
set_option Elab.async false
set_option linter.all false
set_option maxRecDepth 100000
set_option maxHeartbeats 4000000
/-! sorted(set(list of tuples)). -/
namespace Fs
open PySem PySem.Spec PyProof.Rows L2
section
variable {P : Program} {w : World} {κ : Type} [DecidableEq κ] {knd : KeyKind P w κ} {A : Around} {E : Value → Shared → Prop} {s : Shared}
theorem refs_rows {L : List (Row κ)} : ∀ {vs : List Value}, (∀ v ∈ vs, ∃ q ∈ L, v = Value.ref q.1) → ∃ L1 : List (Row κ), vs = L1.map (fun q => Value.ref q.1) ∧ ∀ q ∈ L1, q ∈ L
  | [], _ => ⟨[], rfl, fun q hq => (by cases hq)⟩
  | v :: vs, hv => by
    obtain ⟨q, hq, e⟩ := hv v List.mem_cons_self
    obtain ⟨L1, e1, hs⟩ := refs_rows (vs := vs) fun u hu => hv u (List.mem_cons_of_mem _ hu)
    refine ⟨q :: L1, by rw [List.map_cons, e, e1], fun r hr => ?_⟩
    rcases List.mem_cons.mp hr with z | z
    · rw [z]; exact hq
    · exact hs r z
theorem perm_rows {L L1 : List (Row κ)} (nd : (L.map (·.2)).Nodup) (one : ∀ q ∈ L, ∀ r ∈ L, q.1 = r.1 → q = r) (hs : ∀ q ∈ L1, q ∈ L) (pm : (L1.map (fun q => Value.ref q.1)).Perm (L.map fun q => Value.ref q.1)) : L1.Perm L := by
  have nL : L.Nodup := nodup_of_map nd
  have nref : (L.map fun q => Value.ref q.1).Nodup := by
    refine List.pairwise_map.mpr (List.Pairwise.imp_of_mem (fun {q r} hq hr hne e => ?_) nL)
    injection e with e
    exact hne (one q hq r hr e)
  have n1 : L1.Nodup := nodup_of_map (pm.nodup_iff.mpr nref)
  refine (List.perm_ext_iff_of_nodup n1 nL).mpr fun q => ⟨hs q, fun hq => ?_⟩
  obtain ⟨r, hr, e⟩ := List.mem_map.mp (pm.mem_iff.mpr (List.mem_map.mpr ⟨q, hq, rfl⟩))
  injection e with e
  rw [← one r (hs r hr) q hq e]
  exact hr
theorem each_refs {β : Type} {R : Value → Row κ → Prop} : ∀ {L : List (Row κ)}, (∀ p ∈ L, R (.ref p.1) p) → PySem.W.EachIs R (L.map fun p => Value.ref p.1) L
  | [], _ => .nil
  | p :: L, h => .cons (h p List.mem_cons_self) (each_refs (β := β) fun q hq => h q (List.mem_cons_of_mem _ hq))
theorem refs_each : ∀ {out : List Value} {L : List (Row κ)}, PySem.W.EachIs (fun v (b : Row κ) => v = Value.ref b.1) out L → out = L.map fun p => Value.ref p.1
  | _, _, .nil => rfl
  | _, _, .cons h t => by rw [h, refs_each t] <;> rfl
theorem kt_sorted {a : Addr} {L : List (Row κ)} {es : Array (Int × Value)} {ep : Nat} {t : SetTable} {Q : Value → Shared → Prop} (R : KT knd s.heap a L es ep t) (hh : A.handled = none) (dat : Row κ → PyData)
    (hr : ∀ p ∈ L, Reads s.heap (.ref p.1) (dat p) []) (hal : PySem.W.AllAlike (L.map dat)) (hsb : PySem.W.Sortable (L.map dat)) (hu : ∀ p ∈ L, A.units + 2 + (dat p).depth < cLine)
    (hQ : ∀ s' p (out : Array Value) (c : Nat) (L' : List (Row κ)), (∀ b o, s.heap.get? b = some o → s'.heap.get? b = some o) → s'.gens = s.gens → s'.os = s.os → s.heap.objs.size ≤ p →
      s'.heap.get? p = some (seqObj "list" out c) → out.toList = L'.map (fun q => Value.ref q.1) → L'.Perm L → L'.Pairwise (fun q r => PySem.W.dataLe false dat q r = true) → Q (.ref p) s') :
    wpAny (model P w) A (call (.builtin "sorted") [.ref a]) Q E s := by
  obtain ⟨o, ho, hex, hd⟩ := R.ob
  have hsz := R.size
  have hfew := R.few
  refine Calls.call_function_entry kind_sorted plain_sorted entry_sorted (args_sorted1 _) ?_
  unfold Builtin.«sorted»
  refine wpAny_bind (m := checkCount "sorted" 1 1 _) (wpAny_pure ?_)
  refine wpAny_bind (collect_set (A := A.in1) hh ⟨o, ho, hex.1, hd⟩ R.fits (by unfold scanBound; omega) R.tab.ris R.led fun s1 vs k1 hz g1 o1 pm => ?_)
  have hes : es.toList.map (·.2) = L.map fun q => Value.ref q.1 := by
    rw [R.rows]
    unfold rws
    rw [List.map_map] <;> rfl
  rw [hes] at pm
  have one : ∀ q ∈ L, ∀ r ∈ L, q.1 = r.1 → q = r := fun q hq r hr e => by
    have a1 := R.tup q hq
    have a2 := R.tup r hr
    rw [e] at a1
    exact Prod.ext e (a1.inj a2)
  obtain ⟨L1, rfl, hs1⟩ := refs_rows (L := L) (vs := vs) fun v hv => by
    obtain ⟨q, hq, e⟩ := List.mem_map.mp (pm.mem_iff.mp hv)
    exact ⟨q, hq, e.symm⟩
  have p1 : L1.Perm L := perm_rows R.nd one hs1 pm
  have hvl : L1.length < 64 := by rw [p1.length_eq]; exact hfew
  refine wpAny_bind (wpAny_newList ?_ (by rw [sizeLine_eq, List.length_map]; omega))
  have hoL : (s1.heap.push (seqObj "list" (L1.map fun q => Value.ref q.1).toArray 0)).get? s1.heap.objs.size = some (seqObj "list" (L1.map fun q => Value.ref q.1).toArray 0) := Heap.get?_push_size _ rfl
  have memM : ∀ d, d ∈ L1.map dat → d ∈ L.map dat := fun d hd => (p1.map dat).mem_iff.mp hd
  refine wpAny_bind (wpAny_holding (PySem.W.list_sort_data (s := { s1 with heap := s1.heap.push (seqObj "list" (L1.map fun q => Value.ref q.1).toArray 0) }) (R := fun v (b : Row κ) => v = Value.ref b.1) (bs := L1) (enc := dat) hoL (each_refs (β := κ) fun p _ => rfl)
    (each_refs (β := κ) fun p hp => ⟨[], PyProof.Rows.Reads.keeps (fun b u e => Heap.get?_push_of_some _ (k1 b u e)) (hr p (hs1 p hp)), by simp⟩)
    (fun d hd d' hd' => hal d (memM d hd) d' (memM d' hd')) ?_ (by rw [sizeLine_eq]; omega) (fun b hb => ?_) fun out hlen hout => ?_))
  · rcases hsb with h | h
    · exact .inl fun d hd => h d (memM d hd)
    · exact .inr fun d hd => h d (memM d hd)
  · have := hu b (hs1 b hb)
    show A.units + 1 + 1 + (dat b).depth < cLine
    omega
  · have eo := refs_each hout
    obtain ⟨c, hc⟩ := sortedHeap_at (vs := L1.map fun q => Value.ref q.1) (out := out.toArray) hoL
    have tot := PySem.W.sortLe_total (listOrd itemOrd) false fun b : Row κ => PySem.W.keyToks (dat b)
    refine wpAny_pure ⟨_, rfl, hQ _ s1.heap.objs.size out.toArray c (L1.mergeSort (PySem.W.dataLe false dat)) (fun b u e => ?_) g1 o1 hz hc (by rw [List.toList_toArray]; exact eo) ((List.mergeSort_perm L1 _).trans p1) ?_⟩
    · have q := k1 b u e
      have hlt := Heap.lt_size q
      show (sortedHeap (s1.heap.push (seqObj "list" (L1.map fun q => Value.ref q.1).toArray 0)) s1.heap.objs.size (L1.map fun q => Value.ref q.1) out.toArray).get? b = some u
      rw [sortedHeap_old (Nat.ne_of_lt hlt) (by rw [size_push']; exact Nat.lt_succ_of_lt hlt)]
      exact Heap.get?_push_of_some _ q
    · exact List.pairwise_mergeSort (le := PySem.W.dataLe false dat) (fun a b c h k => tot.trans a b c h k) (fun a b => by
        rcases tot.total a b with h | h
        · rw [show PySem.W.dataLe false dat a b = true from h]; rfl
        · rw [show PySem.W.dataLe false dat b a = true from h, Bool.or_true]) L1
end

/-! ### as the walk sees it -/
def lfV : Leaf → V
  | .none => .non
  | .num i => .int i
  | .text z => .str z
def lfD : Leaf → Da
  | .none => .non
  | .num i => .int i
  | .text z => .str z
def rowD (k : List Leaf) : Da := .tup (k.map lfD)
/-- the set at a, without the tuples themselves -/
def Set0 (P : Program) (w : World) (h : Heap) (a : Addr) (L : List (Row Leaf)) : Prop :=
  ∃ (es : Array (Int × Value)) (ep : Nat) (t : SetTable), (∃ o, h.get? a = some o ∧ o.ExactSet ∧ o.data = .set es ep t) ∧ es.toList = rws (leafKind P w) L ∧ TabOk t (L.map fun p => kh (leafKind P w) p.2) ∧ (L.map (·.2)).Nodup ∧
    (w.params.followText "set-order" = true ∨ t.led = true) ∧ L.length * 5 < t.mask * 3 ∧ L.length < 64
def SetO (P : Program) (w : World) (a : Addr) (L : List (Row Leaf)) : HO := .ext fun h => Set0 P w h a L
theorem setO_new {P : Program} {w : World} {H : Hp} {h : Heap} {a : Addr} {L : List (Row Leaf)} (R : Set0 P w h a L) : ObjOk P w H h a (SetO P w a L) := by
  have ⟨es, ep, t, ⟨o, ho, r⟩, q⟩ := R
  refine ⟨R, ⟨o, ho⟩, fun h1 h2 p k => ?_⟩
  have ⟨es', ep', t', ⟨o', ho', r'⟩, q'⟩ := (show Set0 P w h1 a L from p)
  exact ⟨es', ep', t', ⟨o', k o' ho', r'⟩, q'⟩
theorem leaf_items {P : Program} {w : World} : ∀ {k : List Leaf} {us : List Value}, Vals (k.map lfV) us → ItemsAre (leafKind P w) k us
  | [], _, .nil => .nil
  | .none :: k, _, .cons r t => by
    cases r
    exact .cons rfl (leaf_items t)
  | .num i :: k, _, .cons r t => by
    obtain ⟨tk, rfl⟩ := r
    exact .cons (by show decide (i = i) = true; simp) (leaf_items t)
  | .text z :: k, _, .cons r t => by
    obtain ⟨tk, rfl⟩ := r
    exact .cons (by show Value.isStrOf z (.str z tk) = true; simp [Value.isStrOf]) (leaf_items t)
theorem leaf_reads {h : Heap} : ∀ {k : List Leaf} {us : List Value}, Vals (k.map lfV) us → ReadsAll h us ((k.map lfD).map py) []
  | [], _, .nil => .nil
  | .none :: k, _, .cons r t => by
    cases r
    have := ReadsAll.cons (h := h) Reads.none (leaf_reads t)
    rw [List.map_cons, List.map_cons, lfD, py]
    exact this
  | .num i :: k, _, .cons r t => by
    obtain ⟨tk, rfl⟩ := r
    have := ReadsAll.cons (h := h) (Reads.int i tk) (leaf_reads t)
    rw [List.map_cons, List.map_cons, lfD, py]
    exact this
  | .text z :: k, _, .cons r t => by
    obtain ⟨tk, rfl⟩ := r
    have := ReadsAll.cons (h := h) (Reads.str z tk) (leaf_reads t)
    rw [List.map_cons, List.map_cons, lfD, py]
    exact this
theorem row_refs : ∀ {ks : List (Row Leaf)} {us : List Value}, Vals (ks.map fun p => V.ref p.1) us → us = ks.map fun p => Value.ref p.1
  | [], _, .nil => rfl
  | p :: ks, _, .cons r t => by
    cases r
    rw [row_refs t] <;> rfl
theorem row_vals : ∀ (ks : List (Row Leaf)), Vals (ks.map fun p => V.ref p.1) (ks.map fun p => Value.ref p.1)
  | [] => .nil
  | p :: ks => .cons rfl (row_vals ks)
section
variable {X : Cx}
theorem row_key {pins : List (Addr × Obj)} {σ : L2.St} {H : Hp} {s : Shared} {b : Addr} {k : List Leaf} (I : Inv X pins σ H s) (h : SqT X.K H b (k.map lfV)) : IsTupleKey (leafKind X.prog X.w) s.heap k b ∧ Reads s.heap (.ref b) (py (rowD k)) [] := by
  obtain ⟨its, r, ⟨o, ho, hc, n, hd⟩, _⟩ := I.tuple h
  refine ⟨⟨o, its.toArray, n, ho, hc, hd, by simpa using leaf_items r⟩, ?_⟩
  unfold rowD
  rw [py_tup]
  exact .tuple ho hc hd (by simpa using leaf_reads r)
def rSetK (K : PySem.W.Frag) (P : Program) (w : World) : List V → Hp → VK → Prop := fun xs H Q => ∃ (l : Addr) (ks : List (Row Leaf)), xs = [V.ref l] ∧ SqL K H l (ks.map fun p => V.ref p.1) ∧ (∀ p ∈ ks, SqT K H p.1 (p.2.map lfV)) ∧ FewD ks ∧
  ∀ a L, H a = none → (∀ p ∈ L, p ∈ ks) → (∀ p ∈ ks, p.2 ∈ L.map (·.2)) → Q (.ref a) (upd H a (SetO P w a L))
theorem cr_setK (hc : X.calm = true) (hu : X.A.units + 64 < cLine) : CallR X (.type "set") (rSetK X.K X.prog X.w) := by
  intro pins s σ H xs us Q I r h
  obtain ⟨l, ks, rfl, hl, hk, hf, q⟩ := h
  rw [Vals.ref1 r]
  obtain ⟨its, rv, pl, hz⟩ := I.list hl
  have hn : H s.heap.objs.size = none := I.hok.fresh (Nat.le_refl _)
  refine kt_make (knd := leafKind X.prog X.w) ks (I.ok.hd hc) pl.isList (by simpa using row_refs rv) (fun p hp => (row_key I (hk p hp)).1) hf (by omega) fun h' tk L es ep t R g k => ?_
  refine ⟨.ref s.heap.objs.size, upd H s.heap.objs.size (SetO X.prog X.w s.heap.objs.size L), I.laid (t' := tk) k (Nat.le_refl _) (setO_new ⟨es, ep, t, R.ob, R.rows, R.tab, R.nd, R.led, R.room, R.few⟩), rfl, q _ L hn (fun p hp => ?_) fun p hp => ?_⟩
  · exact List.mem_of_mem_take (g.1 p hp)
  · exact g.2 p (by rw [List.take_length]; exact hp)
def rSortK (K : PySem.W.Frag) (P : Program) (w : World) : List V → Hp → VK → Prop := fun vs H Q => ∃ (a : Addr) (L : List (Row Leaf)), vs = [V.ref a] ∧ H a = some (SetO P w a L) ∧ (∀ p ∈ L, SqT K H p.1 (p.2.map lfV) ∧ p.2 ≠ [] ∧ p.2.length ≤ 50 ∧ ∀ q ∈ L, PySem.W.alike (py (rowD p.2)) (py (rowD q.2)) = true) ∧
  ∀ (L' : List (Row Leaf)) (p : Addr), L'.Perm L → (L'.map (·.2)).Nodup → L'.Pairwise (fun q r => dlt (rowD r.2) (rowD q.2) = false) → H p = none → Q (.ref p) (upd H p (.lst (L'.map fun q => V.ref q.1)))
theorem row_depth (k : List Leaf) : (py (rowD k)).depth ≤ 1 := by
  unfold rowD
  rw [py_tup, PyData.depth]
  have key : ∀ k : List Leaf, PyData.depthAll ((k.map lfD).map py) = 0 := by
    intro k
    induction k with
    | nil => simp [PyData.depthAll]
    | cons x k ih =>
      rw [List.map_cons, List.map_cons, PyData.depthAll, ih]
      cases x <;> simp [lfD, py, PyData.depth]
  rw [key]
  exact Nat.le_refl _
theorem cr_sortK (hc : X.calm = true) (hu : X.A.units + 64 < cLine) : CallR X (.builtin "sorted") (rSortK X.K X.prog X.w) := by
  intro pins s σ H vs us Q I r h
  obtain ⟨a, L, rfl, ha, hk, q⟩ := h
  have R0 : Set0 X.prog X.w s.heap a L := (I.hok a _ ha).1
  obtain ⟨es, ep, t, h1, h2, h3, h4, h5, h6, h7⟩ := R0
  have R : KT (leafKind X.prog X.w) s.heap a L es ep t := ⟨h1, h2, h3, h4, fun p hp => (row_key I (hk p hp).1).1, h5, h6, h7⟩
  rw [Vals.ref1 r]
  refine kt_sorted R (I.ok.hd hc) (fun p => py (rowD p.2)) (fun p hp => (row_key I (hk p hp).1).2) ?_ ?_ (fun p hp => ?_) fun s' p out c L' k g o hp hg hout pm pw => ?_
  · intro d hd d' hd'
    obtain ⟨p, hp, rfl⟩ := List.mem_map.mp hd
    obtain ⟨q, hq, rfl⟩ := List.mem_map.mp hd'
    exact (hk p hp).2.2.2 q hq
  · refine .inl fun d hd => ?_
    obtain ⟨p, hp, rfl⟩ := List.mem_map.mp hd
    have hne := (hk p hp).2.1
    cases e : p.2 with
    | nil => exact absurd e hne
    | cons x k => exact ⟨py (lfD x), (k.map lfD).map py, by unfold rowD; rw [py_tup] <;> rfl⟩
  · have := row_depth p.2
    omega
  have hlen : (L'.map fun q => V.ref q.1).length ≤ sizeLine := by rw [List.length_map, pm.length_eq, sizeLine_eq]; have := R.few; omega
  have hn : H p = none := I.hok.fresh hp
  have hv : Vals (L'.map fun q => V.ref q.1) out.toList := by rw [hout]; exact row_vals L'
  have J : Inv X pins σ (upd H p (.lst (L'.map fun q => V.ref q.1))) { s with heap := s'.heap, gens := s'.gens, drawn := s'.drawn, toks := s'.toks } :=
    I.call (ch := []) (Un.laid k hp hn) (I.hok.laid k hp ⟨hlen, out.toList, c, hv, hg⟩) (by rw [g]; exact I.bare) (fun _ z => nomatch z)
  have e : s' = { s with heap := s'.heap, gens := s'.gens, drawn := s'.drawn, toks := s'.toks } := by
    cases s'
    cases s
    cases o
    rfl
  rw [e]
  refine ⟨.ref p, _, J, rfl, q L' p pm ((pm.map (·.2)).nodup_iff.mpr R.nd) (pw.imp fun {x y} h => ?_) hn⟩
  have h' : (!PySem.W.dataLt (py (rowD y.2)) (py (rowD x.2))) = true := h
  unfold dlt
  cases z : PySem.W.dataLt (py (rowD y.2)) (py (rowD x.2)) with
  | false => rfl
  | true => rw [z] at h'; cases h'
end
end Fs
set_option Elab.async false
set_option linter.all false
set_option maxRecDepth 100000
set_option maxHeartbeats 4000000
/-! sorted(set(e)) over stores. -/
namespace Fs
open PySem PySem.Spec PyProof.Rows L2
def okRows (ks l : List (List Leaf)) : Prop := l.Nodup ∧ (∀ k, k ∈ l ↔ k ∈ ks) ∧ l.Pairwise (fun q r => dlt (rowD r) (rowD q) = false)
open Classical in
noncomputable def sortU (ks : List (List Leaf)) : List (List Leaf) := if h : ∃ l, okRows ks l then h.choose else []
theorem toks_inj : ∀ {k l : List Leaf}, (∀ x ∈ k, x ≠ .none) → (∀ x ∈ l, x ≠ .none) → PySem.W.keyToksAll ((k.map lfD).map py) = PySem.W.keyToksAll ((l.map lfD).map py) → k = l
  | [], [], _, _, _ => rfl
  | [], x :: l, _, _, h => by
    rw [List.map_cons, List.map_cons, PySem.W.keyToksAll] at h
    exact absurd h (by simp [PySem.W.keyToksAll])
  | x :: k, [], _, _, h => by
    rw [List.map_cons, List.map_cons, PySem.W.keyToksAll] at h
    exact absurd h (by simp [PySem.W.keyToksAll])
  | x :: k, y :: l, hk, hl, h => by
    have ih := fun z => toks_inj (k := k) (l := l) (fun u hu => hk u (List.mem_cons_of_mem _ hu)) (fun u hu => hl u (List.mem_cons_of_mem _ hu)) z
    rw [List.map_cons, List.map_cons, List.map_cons, List.map_cons, PySem.W.keyToksAll, PySem.W.keyToksAll] at h
    have hx := hk x List.mem_cons_self
    have hy := hl y List.mem_cons_self
    cases x with
    | none => exact absurd rfl hx
    | num i =>
      cases y with
      | none => exact absurd rfl hy
      | num j =>
        simp [lfD, py, PySem.W.keyToks] at h
        rw [h.1, ih (by simpa using h.2)]
      | text z => simp [lfD, py, PySem.W.keyToks] at h
    | text z =>
      cases y with
      | none => exact absurd rfl hy
      | num j => simp [lfD, py, PySem.W.keyToks] at h
      | text z' =>
        simp [lfD, py, PySem.W.keyToks] at h
        have e : z = z' := PySem.W.str_of_cps (congrArg Array.toList h.1)
        rw [e, ih (by simpa using h.2)]
theorem row_anti {k l : List Leaf} (hk : ∀ x ∈ k, x ≠ .none) (hl : ∀ x ∈ l, x ≠ .none) (h1 : dlt (rowD k) (rowD l) = false) (h2 : dlt (rowD l) (rowD k) = false) : k = l := by
  have e : ∀ k : List Leaf, PySem.W.keyToks (py (rowD k)) = PySem.W.keyToksAll ((k.map lfD).map py) := fun k => by
    unfold rowD
    rw [py_tup, PySem.W.keyToks]
  unfold dlt PySem.W.dataLt at h1 h2
  rw [e, e] at h1 h2
  exact toks_inj hk hl ((listOrd itemOrd).total _ _ h1 h2)
theorem okRows_uniq {ks l l' : List (List Leaf)} (hn : ∀ k ∈ ks, ∀ x ∈ k, x ≠ Leaf.none) (h : okRows ks l) (h' : okRows ks l') : l = l' :=
  List.Perm.eq_of_pairwise (le := fun q r => dlt (rowD r) (rowD q) = false) (fun a b ha hb h1 h2 => row_anti (hn a ((h.2.1 a).mp ha)) (hn b ((h'.2.1 b).mp hb)) h2 h1) h.2.2 h'.2.2
    ((List.perm_ext_iff_of_nodup h.1 h'.1).mpr fun k => (h.2.1 k).trans (h'.2.1 k).symm)
theorem sortU_is {ks l : List (List Leaf)} (hn : ∀ k ∈ ks, ∀ x ∈ k, x ≠ Leaf.none) (h : okRows ks l) : sortU ks = l := by
  have hx : ∃ l, okRows ks l := ⟨l, h⟩
  unfold sortU
  rw [dif_pos hx]
  exact okRows_uniq hn hx.choose_spec h
theorem okRows_ex : ∀ ks : List (List Leaf), ∃ l, okRows ks l
  | [] => ⟨[], List.nodup_nil, fun _ => Iff.rfl, .nil⟩
  | k :: ks => by
    obtain ⟨l, h1, h2, h3⟩ := okRows_ex ks
    by_cases hk : k ∈ ks
    · refine ⟨l, h1, fun u => ⟨fun h => List.mem_cons_of_mem _ ((h2 u).mp h), fun h => ?_⟩, h3⟩
      rcases List.mem_cons.mp h with rfl | h
      · exact (h2 _).mpr hk
      · exact (h2 u).mpr h
    · have tot := PySem.W.sortLe_total (listOrd itemOrd) false fun b : List Leaf => PySem.W.keyToks (py (rowD b))
      have pm := List.mergeSort_perm (k :: l) (PySem.W.dataLe false fun b : List Leaf => py (rowD b))
      refine ⟨(k :: l).mergeSort (PySem.W.dataLe false fun b : List Leaf => py (rowD b)), pm.nodup_iff.mpr (List.nodup_cons.mpr ⟨fun h => hk ((h2 k).mp h), h1⟩), fun u => ?_, ?_⟩
      · rw [pm.mem_iff, List.mem_cons, List.mem_cons, h2]
      · refine (List.pairwise_mergeSort (le := PySem.W.dataLe false fun b : List Leaf => py (rowD b)) (fun a b c h k => tot.trans a b c h k) (fun a b => ?_) _).imp fun {x y} h => ?_
        · rcases tot.total a b with h | h
          · rw [show PySem.W.dataLe false (fun b : List Leaf => py (rowD b)) a b = true from h]; rfl
          · rw [show PySem.W.dataLe false (fun b : List Leaf => py (rowD b)) b a = true from h, Bool.or_true]
        · have h' : (!PySem.W.dataLt (py (rowD y)) (py (rowD x))) = true := h
          unfold dlt
          cases z : PySem.W.dataLt (py (rowD y)) (py (rowD x)) with
          | false => rfl
          | true => rw [z] at h'; cases h'
theorem sortU_ok (ks : List (List Leaf)) : okRows ks (sortU ks) := by
  unfold sortU
  rw [dif_pos (okRows_ex ks)]
  exact (okRows_ex ks).choose_spec
theorem at_leaves {K : PySem.W.Frag} {G : Hp} : ∀ {k : List Leaf} {vs : List V}, AtL K G vs (k.map lfD) → vs = k.map lfV
  | [], _, h => by cases h; rfl
  | x :: k, _, h => by
    cases h with
    | cons h1 h2 =>
      rw [at_leaves h2]
      cases x <;> (cases h1; rfl)
theorem at_rows {K : PySem.W.Frag} {G : Hp} : ∀ {ks : List (List Leaf)} {xs : List V}, AtL K G xs (ks.map rowD) → ∃ rows : List (Row Leaf), xs = rows.map (fun p => V.ref p.1) ∧ rows.map (·.2) = ks ∧ ∀ p ∈ rows, G p.1 = some (.tup (p.2.map lfV))
  | [], _, h => by cases h; exact ⟨[], rfl, rfl, fun p hp => by cases hp⟩
  | k :: ks, _, h => by
    cases h with
    | cons h1 h2 =>
      obtain ⟨rows, rfl, e2, h3⟩ := at_rows h2
      have h1' : At K G _ (.tup (k.map lfD)) := h1
      cases h1' with
      | @tup a vs _ a1 a2 =>
        have e := at_leaves a2
        subst e
        refine ⟨(a, k) :: rows, rfl, by rw [List.map_cons, e2], fun p hp => ?_⟩
        rcases List.mem_cons.mp hp with rfl | hp
        · exact a1
        · exact h3 p hp
theorem rows_at {K : PySem.W.Frag} {G : Hp} : ∀ {rows : List (Row Leaf)}, (∀ p ∈ rows, G p.1 = some (.tup (p.2.map lfV))) → AtL K G (rows.map fun p => V.ref p.1) ((rows.map (·.2)).map rowD)
  | [], _ => .nil
  | p :: rows, h => by
    have leaf : ∀ k : List Leaf, AtL K G (k.map lfV) (k.map lfD) := by
      intro k
      induction k with
      | nil => exact .nil
      | cons x k ih =>
        refine .cons ?_ ih
        cases x with
        | none => exact .non
        | num i => exact .int i
        | text z => exact .str z
    exact .cons (.tup (h p List.mem_cons_self) (leaf p.2)) (rows_at fun q hq => h q (List.mem_cons_of_mem _ hq))
section
variable {X : Cx} {e : Expr} {δ : De} {pos p pos2 p2 : Pos}
/-- sorted(set(e)), e a list of rows -/
theorem e_sortSet (T : Tp X.K X.mg) {ks : List (List Leaf)} (h : E X e δ (.lst (ks.map rowD))) (hu : X.A.units + 64 < cLine) (hfew : ∀ D : List (List Leaf), D.Nodup → (∀ k ∈ D, k ∈ ks) → D.length < 64)
    (hgood : ∀ k ∈ ks, k ≠ [] ∧ k.length ≤ 50 ∧ (∀ x ∈ k, x ≠ Leaf.none) ∧ ∀ k' ∈ ks, PySem.W.alike (py (rowD k)) (py (rowD k')) = true) (hc : X.calm = true := by rfl) (hg : Gl X "sorted" := by rfl) (hg2 : Gl X "set" := by rfl)
    (he : starEach [e] X.env = (false, eval e X.env) :: starEach [] X.env := by rfl) (he2 : starEach [.Call (.Name "set" p2) [e] [] pos2] X.env = (false, eval (.Call (.Name "set" p2) [e] [] pos2) X.env) :: starEach [] X.env := by rfl)
    (hpl : (backTo pos2 (starEach [] X.env)).any (·.1) = false := by rfl) (hpl2 : (backTo pos (starEach [] X.env)).any (·.1) = false := by rfl) :
    E X (.Call (.Name "sorted" p) [.Call (.Name "set" p2) [e] [] pos2] [] pos) δ (.lst ((sortU ks).map rowD)) := fun σ G St H1 e1 Q q => by
  refine we_of (pe_callB (cr_sortK hc hu) hg T.sorted (by decide +kernel) (pa_cons (pe_callTy (cr_setK hc hu) hg2 T.tset (by decide +kernel) (pa_cons WE.pe pa_nil he) (by decide) (by decide) he hpl) pa_nil he2) (by decide) (by decide) he2 hpl2) ?_
  refine h σ G St H1 e1 _ fun v G2 H2 g hv => ?_
  cases hv with
  | @lst l xs _ a1 a2 =>
    obtain ⟨rows, rfl, ek, hG⟩ := at_rows a2
    refine ⟨l, rows, rfl, Same.sqL g.gh a1, fun p hp => SqT.of (g.gh _ _ (hG p hp)), fun D hD hDs => hfew D hD fun k hk => by rw [← ek]; exact hDs k hk, fun a L ha hL1 hL2 => ?_⟩
    have g2 := Grow.own (o := SetO X.prog X.w a L) g.gh ha
    have inks : ∀ p ∈ L, p.2 ∈ ks := fun p hp => by rw [← ek]; exact List.mem_map.mpr ⟨p, hL1 p hp, rfl⟩
    refine ⟨a, L, rfl, upd_same, fun p hp => ⟨SqT.of (g2.gh _ _ (hG p (hL1 p hp))), (hgood _ (inks p hp)).1, (hgood _ (inks p hp)).2.1, fun q hq => (hgood _ (inks p hp)).2.2.2 _ (inks q hq)⟩, fun L' t pm nd pw ht => ?_⟩
    have hG' : ∀ p ∈ L', G2 p.1 = some (.tup (p.2.map lfV)) := fun p hp => hG p (hL1 p (pm.mem_iff.mp hp))
    have hok : okRows ks (L'.map (·.2)) := by
      refine ⟨nd, fun k => ⟨fun hk => ?_, fun hk => ?_⟩, List.pairwise_map.mpr pw⟩
      · obtain ⟨p, hp, rfl⟩ := List.mem_map.mp hk
        exact inks p (pm.mem_iff.mp hp)
      · rw [← ek] at hk
        obtain ⟨p, hp, rfl⟩ := List.mem_map.mp hk
        exact (pm.map (·.2)).mem_iff.mpr (hL2 p hp)
    rw [sortU_is (fun k hk => (hgood k hk).2.2.1) hok] at q
    have g3 := Grow.new (o := .lst (L'.map fun q => V.ref q.1)) g2.gh ht
    exact q (.ref t) _ _ ((g.trans g2).trans g3) (.lst upd_same ((rows_at hG').up g3.gg))
end
end Fs
set_option Elab.async false
set_option linter.all false
set_option maxRecDepth 100000
set_option maxHeartbeats 2000000
/-! The walks of the law's own defs: goes, outer, lists, half, same. -/
namespace Fs
open PySem PySem.Spec PyProof.Rows L2
section
variable {X : Cx} {elt tg iter : Expr} {ifs : List Expr} {scope : Scope} {own : List (Str × Nat)} {δ : De} {items : List Da} {pos py spos : Pos} {rest : List Stmt} {O : Post} {y : Str}
/-- y = [elt for x in iter if ..], y a plain local, on one line -/
theorem s_setLc (j i : Nat) {p : Da → Bool} {f : Da → Da} (hsrc : SrcE X tg iter δ items) (hz : items.length ≤ 100000) (hN : X.N.Nodup) (ok : BlkOk X.N X.env.scope scope own)
    (turn : ∀ x ∈ items, ∀ s0 H0 C cl fp, ETs (Blk X scope s0 H0 C cl fp) ifs ((wipeD δ (own.map (·.2))).set i (.kn x)) (p x) ∧ (p x = true → E (Blk X scope s0 H0 C cl fp) elt ((wipeD δ (own.map (·.2))).set i (.kn x)) (f x)))
    (hg : ∀ s0 H0 C cl fp, PG (Blk X scope s0 H0 C cl fp) tg (gName i)) (k : S X rest (δ.set j (.kn (.lst ((items.filter p).map f)))) O) (hi : i ∈ own.map (·.2) := by decide) (hc : X.calm = true := by rfl) (hy : X.N[j]? = some y := by rfl) (hyl : X.env.scope.names.lookup y = some .local := by rfl)
    (hsw : swapsWith (.ListComp elt [⟨tg, iter, ifs, 0⟩] scope pos) (some (.Name y py)) spos.line X.env = pure true := by rfl) (hs : ∀ x, foldedSetIterable iter X.env x = pure x := by intro _; rfl) : S X (.Assign [.Name y py] (.ListComp elt [⟨tg, iter, ifs, 0⟩] scope pos) spos :: rest) δ O := fun Gb Hb σ G H D g St n r => by
  obtain ⟨item, hsr, hit⟩ := hsrc σ G St.sk
  refine sts_cons (ws_setLc (p := fun i => p (item i)) (f := fun i => f (item i)) hy hyl hsw hsr hz hc hN ok hg (fun l hl Gc x H e1 e2 hx Q q => ?_) g.gh (fun v G2 H2 g2 hv => ?_) hs)
  · show Q ((wipe σ (own.map (·.2))).set i (some x)) H
    refine q _ (by rw [wipe_in hi, wipe_idem]) fun s0 H0 C cl fp => ?_
    have hm : item l ∈ items := by
      rw [hit l hl, List.getD_eq_getElem?_getD, List.getElem?_eq_getElem hl]
      exact List.getElem_mem hl
    have S2 : StK (Blk X scope s0 H0 C cl fp).K Gc ((wipe σ (own.map (·.2))).set i (some x)) ((wipeD δ (own.map (·.2))).set i (.kn (item l))) := ((St.sk.up e1).wipe _).set hx i
    exact ⟨(turn _ hm s0 H0 C cl fp).1 _ _ S2, fun hp => (turn _ hm s0 H0 C cl fp).2 hp _ _ S2⟩
  · rw [range_items hit] at hv
    exact k Gb Hb _ G2 H2 D (g.trans g2) ((St.up g2).set hv j) n r
end
section
variable {P : Program} {w : World} {K : PySem.W.Frag} {mg : Str → Option Value} {base : Heap}
theorem f_goes (T : Tp K mg) {k : Nat} : Dfn P w K mg base CX0 (k + 1) "_law_goes" (SpF K fun ds r => ∃ p x c, ds = [enc p, .int x, .str c] ∧ PtOk p ∧ r = .lst ((leadsI p.s x c).map .int)) := by
  obtain ⟨fd, F⟩ := T.c.def_ 30 (d := d_law_goes) rfl
  refine dfn_of F (T.glo 30) sc_law_goes ?_ (fun _ _ _ _ _ _ us hl => match us, hl with | [_, _, _], _ => rfl) ?_
  · rintro ds r ⟨p, x, c, rfl, _⟩; rfl
  · rintro f cdv A outer s H EX hr ds r ⟨p, x, c, rfl, hp, rfl⟩
    have h1 := hp.s.1
    refine s_ret (E.is (e_lc 3 (p := stpP fun q => decide (q.1 = x) && decide (q.2.1 = c)) (f := stpF fun q => .int q.2.2) (r_tup (e_ix 3 (e_var 0 rfl) e_int (.inl rfl) rfl rfl)) (by rw [List.length_map]; omega) sc_law_goes.nd (blk_ok (own := [("_law_own", 3)]) (by kernel_rfl)) (fun y hy s0 H0 C cl fp => ?_)
      (fun _ _ _ _ _ => pg_name sc_law_goes.nd rfl (Or.inl rfl))) ?_) rfl
    · obtain ⟨q, hq, rfl⟩ := List.mem_map.mp hy
      exact ⟨ts_one (b_w (w_and (eb_cmpE op_eq (e_ix 0 (e_var 3 rfl) e_int (.inl rfl) rfl rfl) (e_var 1 rfl) od_eqI) fun _ => w_and1 (eb_cmpE op_eq (e_ix 1 (e_var 3 rfl) e_int (.inl rfl) rfl rfl) (e_var 2 rfl) od_eqS))), fun _ => e_ix 2 (e_var 3 rfl) e_int (.inl rfl) rfl rfl⟩
    · rw [steps_fm]
      unfold leadsI
      rw [List.map_map]
      rfl
theorem com_mem {p q : Pt} {x : Str} : decide (x ∈ com p q) = decide (x ∈ (p.t ++ p.m).filter fun x => decide (x ∈ q.t ++ q.m)) := by
  unfold com
  exact decide_eq_decide.mpr ((srt_perm _).mem_iff)
theorem f_outer (T : Tp K mg) {k : Nat} : Dfn P w K mg base CX0 (k + 1) "_law_outer" (SpF K fun ds r => ∃ p q, ds = [enc p, enc q] ∧ PtOk p ∧ PtOk q ∧ r = .tup [.lst (txs (outT p q)), .lst (txs (outM p q))]) := by
  obtain ⟨fd, F⟩ := T.c.def_ 34 (d := d_law_outer) rfl
  refine dfn_of F (T.glo 34) sc_law_outer ?_ (fun _ _ _ _ _ _ us hl => match us, hl with | [_, _], _ => rfl) ?_
  · rintro ds r ⟨p, q, rfl, _⟩; rfl
  · rintro f cdv A outer s H EX hr ds r ⟨p, q, rfl, hp, hq, rfl⟩
    have nd := sc_law_outer.nd
    have h1 := hp.t.1
    have h2 := hp.m.1
    have h3 := hq.t.1
    have h4 := hq.m.1
    have hb : ∀ l : List Str, (l.filter fun x => !decide (x ∈ (p.t ++ p.m).filter fun x => decide (x ∈ q.t ++ q.m))) = l.filter fun x => !decide (x ∈ com p q) := fun l => List.filter_congr fun x _ => by rw [com_mem]
    refine s_set 2 (d := .lst (txs ((p.t ++ p.m).filter fun x => decide (x ∈ q.t ++ q.m)))) (E.is (e_lc 4 (items := txs (p.t ++ p.m)) (p := memD (q.t ++ q.m)) (f := fun d => d) (r_tup (E.is (e_op op_catA (e_ix 0 (e_var 0 rfl) e_int (.inl rfl) rfl rfl) (e_ix 1 (e_var 0 rfl) e_int (.inl rfl) rfl rfl) (od_catT ?_)) ?_)) ?_ nd (blk_ok (own := [("_law_tag", 4)]) (by kernel_rfl)) (fun x hx s0 H0 C cl fp => ?_) (fun _ _ _ _ _ => pg_name nd rfl (Or.inl rfl))) ?_) nd ?_
    · rw [txs_len, txs_len]; omega
    · rw [txs_app]
    · rw [txs_len, List.length_append]; omega
    · obtain ⟨z, hz, rfl⟩ := List.mem_map.mp hx
      refine ⟨ts_one (eb_cmpE op_in_seq (e_var 4 rfl) (E.is (e_op op_catA (e_ix 0 (e_var 1 rfl) e_int (.inl rfl) rfl rfl) (e_ix 1 (e_var 1 rfl) e_int (.inl rfl) rfl rfl) (od_catT ?_)) ?_) (od_inS (.inl rfl))), fun _ => e_var 4 rfl⟩
      · rw [txs_len, txs_len]; omega
      · rw [txs_app]
    · rw [txs_filter, List.map_id']
    refine s_setLc 3 4 (items := txs (p.t ++ q.t)) (p := fun d => !memD ((p.t ++ p.m).filter fun x => decide (x ∈ q.t ++ q.m)) d) (f := fun d => d) (r_tup (E.is (e_op op_catA (e_ix 0 (e_var 0 rfl) e_int (.inl rfl) rfl rfl) (e_ix 0 (e_var 1 rfl) e_int (.inl rfl) rfl rfl) (od_catT ?_)) ?_)) ?_ nd (blk_ok (own := [("_law_tag", 4)]) (by kernel_rfl)) (fun x hx s0 H0 C cl fp => ?_) (fun _ _ _ _ _ => pg_name nd rfl (Or.inl rfl)) ?_
    · rw [txs_len, txs_len]; omega
    · rw [txs_app]
    · rw [txs_len, List.length_append]; omega
    · obtain ⟨z, hz, rfl⟩ := List.mem_map.mp hx
      exact ⟨ts_one (eb_cmpE op_notIn_seq (e_var 4 rfl) (e_var 2 rfl) (od_niS (.inr rfl))), fun _ => e_var 4 rfl⟩
    rw [txs_filterN, List.map_id', hb]
    refine s_ret (E.is (e_tup (a_cons (e_sortS T (l := (p.t ++ q.t).filter fun x => !decide (x ∈ com p q)) (e_var 3 rfl) ?_) (a_cons (e_sortS T (l := (p.m ++ q.m).filter fun x => !decide (x ∈ com p q)) (E.is (e_lc 4 (items := txs (p.m ++ q.m)) (p := fun d => !memD ((p.t ++ p.m).filter fun x => decide (x ∈ q.t ++ q.m)) d) (f := fun d => d) (r_tup (E.is (e_op op_catA (e_ix 1 (e_var 0 rfl) e_int (.inl rfl) rfl rfl) (e_ix 1 (e_var 1 rfl) e_int (.inl rfl) rfl rfl) (od_catT ?_)) ?_)) ?_ nd (blk_ok (own := [("_law_tag", 4)]) (by kernel_rfl)) (fun x hx s0 H0 C cl fp => ?_) (fun _ _ _ _ _ => pg_name nd rfl (Or.inl rfl))) ?_) ?_) a_nil)) (by simp)) rfl) rfl
    · have h5 := List.length_filter_le (fun x => !decide (x ∈ com p q)) (p.t ++ q.t)
      rw [List.length_append] at h5
      omega
    · rw [txs_len, txs_len]; omega
    · rw [txs_app]
    · rw [txs_len, List.length_append]; omega
    · obtain ⟨z, hz, rfl⟩ := List.mem_map.mp hx
      exact ⟨ts_one (eb_cmpE op_notIn_seq (e_var 4 rfl) (e_var 2 rfl) (od_niS (.inr rfl))), fun _ => e_var 4 rfl⟩
    · rw [txs_filterN, List.map_id', hb]
    · have h5 := List.length_filter_le (fun x => !decide (x ∈ com p q)) (p.m ++ q.m)
      rw [List.length_append] at h5
      omega
mutual
def lsts : Da → Da
  | .lst xs => .lst (lstsL xs)
  | .tup xs => .lst (lstsL xs)
  | d => d
def lstsL : List Da → List Da
  | [] => []
  | d :: ds => lsts d :: lstsL ds
end
theorem lstsL_eq : ∀ xs : List Da, lstsL xs = xs.map lsts
  | [] => by rw [lstsL] <;> rfl
  | d :: ds => by rw [lstsL, lstsL_eq ds] <;> rfl
theorem lsts_lst (xs : List Da) : lsts (.lst xs) = .lst (xs.map lsts) := by rw [lsts, lstsL_eq]
theorem lsts_tup (xs : List Da) : lsts (.tup xs) = .lst (xs.map lsts) := by rw [lsts, lstsL_eq]
theorem lsts_id {d : Da} (h : isSeq d = false) : lsts d = d := by
  cases d with
  | lst xs => cases h
  | tup xs => cases h
  | _ => simp [lsts]
theorem seq_of {d : Da} (h : isSeq d = true) : ∃ es, d = .tup es ∨ d = .lst es := by
  cases d with
  | tup es => exact ⟨es, .inl rfl⟩
  | lst es => exact ⟨es, .inr rfl⟩
  | _ => cases h
theorem ok_items {n : Nat} {d : Da} {es : List Da} (hd : ok (n + 1) d = true) (he : d = .tup es ∨ d = .lst es) : es.length ≤ 1000 ∧ ∀ x ∈ es, ok n x = true := by
  rcases he with rfl | rfl
  · rw [ok, Bool.and_eq_true, decide_eq_true_eq, List.all_eq_true] at hd
    exact hd
  · rw [ok, Bool.and_eq_true, decide_eq_true_eq, List.all_eq_true] at hd
    exact hd
theorem r_seq {tg l : Expr} {X : Cx} {δ : De} {d : Da} {es : List Da} (he : d = .tup es ∨ d = .lst es) (h : E X l δ d) : SrcE X tg l δ es := by
  rcases he with rfl | rfl
  · exact r_tup h
  · exact r_lst h
theorem f_lists (T : Tp K mg) : ∀ (n : Nat) {k : Nat}, Dfn P w K mg base CX0 (k + n + 1) "_law_lists" (SpF K fun ds r => ∃ d, ds = [d] ∧ ok n d = true ∧ r = lsts d) := by
  intro n
  induction n with
  | zero =>
    intro k
    obtain ⟨fd, F⟩ := T.c.def_ 25 (d := d_law_lists) rfl
    refine dfn_of F (T.glo 25) sc_law_lists ?_ (fun _ _ _ _ _ _ us hl => match us, hl with | [_], _ => rfl) ?_
    · rintro ds r ⟨d, rfl, _⟩; rfl
    · rintro f cdv A outer s H EX hr ds r ⟨d, rfl, hd, rfl⟩
      refine s_ret (e_ife (b_val (e_isi2 (e_var 0 rfl) (ok_exc hd) T.isinstance T.tlist T.ttup (kit_lst (ok_exc hd)) (kit_tup (ok_exc hd)))) (fun h => ?_) fun h => E.is (e_var 0 rfl) ?_) rfl
      · rw [isSeq_or, ok0 hd] at h
        cases h
      · rw [isSeq_or] at h
        exact (lsts_id h).symm
  | succ n ih =>
    intro k
    obtain ⟨fd, F⟩ := T.c.def_ 25 (d := d_law_lists) rfl
    refine dfn_of F (T.glo 25) sc_law_lists ?_ (fun _ _ _ _ _ _ us hl => match us, hl with | [_], _ => rfl) ?_
    · rintro ds r ⟨d, rfl, _⟩; rfl
    · rintro f cdv A outer s H EX hr ds r ⟨d, rfl, hd, rfl⟩
      refine s_ret (e_ife (b_val (e_isi2 (e_var 0 rfl) (ok_exc hd) T.isinstance T.tlist T.ttup (kit_lst (ok_exc hd)) (kit_tup (ok_exc hd)))) (fun h => ?_) fun h => E.is (e_var 0 rfl) ?_) rfl
      · rw [isSeq_or] at h
        obtain ⟨es, he⟩ := seq_of h
        obtain ⟨e2, e3⟩ := ok_items hd he
        have e1 : lsts d = .lst (es.map lsts) := by
          rcases he with rfl | rfl
          · exact lsts_tup es
          · exact lsts_lst es
        rw [e1]
        refine E.is (e_lc 1 (p := fun _ => true) (f := lsts) (r_seq he (e_var 0 rfl)) (by omega) sc_law_lists.nd (blk_ok (own := [("_law_bit", 1)]) (by kernel_rfl)) (fun x hx s0 H0 C cl fp => ⟨ts_nil, fun _ => ?_⟩) (fun _ _ _ _ _ => pg_name sc_law_lists.nd rfl (Or.inl rfl))) ?_
        · exact e_call (ih (k := 0)) hr (by omega) pass0 (a_cons (e_var 1 rfl) a_nil) ⟨x, rfl, e3 x hx, rfl⟩
        · rw [filter_tt]
      · rw [isSeq_or] at h
        exact (lsts_id h).symm
theorem f_half (T : Tp K mg) {k : Nat} : Dfn P w K mg base CX0 (k + 4) "_law_half" (SpF K fun ds r => ∃ d es, ds = [d] ∧ (d = .tup es ∨ d = .lst es) ∧ ok 3 d = true ∧ r = .tup (es.map lsts)) := by
  obtain ⟨fd, F⟩ := T.c.def_ 26 (d := d_law_half) rfl
  refine dfn_of F (T.glo 26) sc_law_half ?_ (fun _ _ _ _ _ _ us hl => match us, hl with | [_], _ => rfl) ?_
  · rintro ds r ⟨d, es, rfl, _⟩; rfl
  · rintro f cdv A outer s H EX hr ds r ⟨d, es, rfl, he, hd, rfl⟩
    obtain ⟨e2, e3⟩ := ok_items hd he
    refine s_ret (E.is (e_tuple T (e_lc 1 (p := fun _ => true) (f := lsts) (r_seq he (e_var 0 rfl)) (by omega) sc_law_half.nd (blk_ok (own := [("_law_bit", 1)]) (by kernel_rfl)) (fun x hx s0 H0 C cl fp => ⟨ts_nil, fun _ => ?_⟩) (fun _ _ _ _ _ => pg_name sc_law_half.nd rfl (Or.inl rfl))) (.inr rfl)) ?_) rfl
    · exact e_call (f_lists (k := 0) T 2) hr (by omega) pass0 (a_cons (e_var 1 rfl) a_nil) ⟨x, rfl, e3 x hx, rfl⟩
    · rw [filter_tt]
end
end Fs
set_option Elab.async false
set_option linter.all false
set_option maxRecDepth 100000
set_option maxHeartbeats 2000000
/-! The walk: _law_heard_by. -/
namespace Fs
open PySem PySem.Spec PyProof.Rows L2
section
variable {X : Cx} {a b b1 b2 : Expr} {rest : List Stmt} {δ : De} {ds : List Da} {d1 d2 : Da} {pos : Pos} {x : Str} {O : Post}
/-- x[b1], x[b2] = a, b, x an own list -/
theorem s_sub2 (i m1 m2 : Nat) {p : Addr} {k1 k2 : Nat} {p1 p2 p3 p4 pt pt2 : Pos} {i1 i2 : Int} (ho : δ[i]? = some (Cl.ow p ds)) (h : E X (.Tuple [a, b] k2 pt2) (fz δ) (.tup [d1, d2])) (hd : lf (.tup [d1, d2]) = true) (hb1 : E X b1 δ (.int i1)) (hi1 : i1 = (m1 : Int)) (hm1 : m1 < ds.length)
    (hb2 : E X b2 (δ.set i (.ow p (ds.set m1 d1))) (.int i2)) (hi2 : i2 = (m2 : Int)) (hm2 : m2 < ds.length) (k : S X rest (δ.set i (.ow p ((ds.set m1 d1).set m2 d2))) O) (hc : X.calm = true := by rfl) (hN : X.N[i]? = some x := by rfl)
    (hv : Vis X.env.scope x := by first | exact Or.inl rfl | exact Or.inr (Or.inl rfl) | exact Or.inr (Or.inr rfl)) (hd1 : (x == ("__debug__" : Str)) = false := by decide) (hcd : (x == ("__classdict__" : Str)) = false := by decide)
    (ha1 : ∀ v, assign (.Subscript (.Name x p1) b1 p2) X.env v = (do
      let ov ← holding [v] (eval (.Name x p1) X.env)
      let iv ← holding [v, ov] (eval b1 X.env)
      standAt p2
      holding [v, ov, iv] (setItem ov iv v)
      release [v, ov, iv] []) := by intro _; rfl)
    (ha2 : ∀ v, assign (.Subscript (.Name x p3) b2 p4) X.env v = (do
      let ov ← holding [v] (eval (.Name x p3) X.env)
      let iv ← holding [v, ov] (eval b2 X.env)
      standAt p4
      holding [v, ov, iv] (setItem ov iv v)
      release [v, ov, iv] []) := by intro _; rfl)
    (hs : swapsWithSole [.Tuple [.Subscript (.Name x p1) b1 p2, .Subscript (.Name x p3) b2 p4] k1 pt] (.Tuple [a, b] k2 pt2) pos.line X.env = pure false := by rfl) (hw : swappedStores [.Tuple [.Subscript (.Name x p1) b1 p2, .Subscript (.Name x p3) b2 p4] k1 pt] (.Tuple [a, b] k2 pt2) X.env = pure none := by rfl)
    (h1 : (assignEach [.Tuple [.Subscript (.Name x p1) b1 p2, .Subscript (.Name x p3) b2 p4] k1 pt] X.env).map (·.2) = [assign (.Tuple [.Subscript (.Name x p1) b1 p2, .Subscript (.Name x p3) b2 p4] k1 pt) X.env] := by rfl)
    (hn : (assignEach [.Subscript (.Name x p1) b1 p2, .Subscript (.Name x p3) b2 p4] X.env).length = 2 := by rfl) (hst : (assignEach [.Subscript (.Name x p1) b1 p2, .Subscript (.Name x p3) b2 p4] X.env).findIdx? (·.1) = none := by rfl)
    (hq1 : (assignEach [.Subscript (.Name x p1) b1 p2, .Subscript (.Name x p3) b2 p4] X.env).map (·.2) = assign (.Subscript (.Name x p1) b1 p2) X.env :: (assignEach [.Subscript (.Name x p3) b2 p4] X.env).map (·.2) := by rfl)
    (hq2 : (assignEach [.Subscript (.Name x p3) b2 p4] X.env).map (·.2) = assign (.Subscript (.Name x p3) b2 p4) X.env :: (assignEach [] X.env).map (·.2) := by rfl) :
    S X (.Assign [.Tuple [.Subscript (.Name x p1) b1 p2, .Subscript (.Name x p3) b2 p4] k1 pt] (.Tuple [a, b] k2 pt2) pos :: rest) δ O := fun Gb Hb σ G H D g St n r => by
  obtain ⟨h0, z1, z2, xs, z3, z4⟩ := St.ow i p ds ho
  obtain ⟨G', sk, s1, kk⟩ := St.fz g
  refine sts_cons (ws_asgW (pg_tup hc (pgs_cons (pg_sub (pe_var hN hv hd1 hcd) WE.pe set_list ha1) (pgs_cons (pg_sub (pe_var hN hv hd1 hcd) WE.pe set_list ha2) pgs_nil hq2) hq1) hn hst) ?_ hs hw h1)
  refine h σ G' sk H s1 _ fun v G2 H2 g2 hv' => ?_
  obtain ⟨Gn, g4, S4, s4, st⟩ := kk G2 H2 g2
  have hv2 := At.strip st _ hd hv'
  refine gTup_at (X := X) hv2 g4.gh rfl fun vs hvs => ?_
  cases hvs with
  | @cons v1 _ _ _ q1 hvs =>
    cases hvs with
    | @cons v2 _ _ _ q2 hvs =>
      cases hvs
      refine ⟨v1, _, rfl, ?_⟩
      show ∃ v, σ[i]? = some (some v) ∧ _
      refine ⟨_, h0, ?_⟩
      refine hb1 σ Gn S4.sk H2 g4.gh _ fun u G5 H5 g5 hu => ?_
      cases hu
      subst hi1
      have S5 := S4.up g5
      obtain ⟨_, _, k2', xs2, k3, k4⟩ := S5.ow i p ds ho
      have e1 : ixN xs2.length (m1 : Int) = some m1 := by
        have hl : m1 < xs2.length := by rw [k4.len]; exact hm1
        unfold ixN
        simp [hl]
      refine ⟨p, xs2, (m1 : Int), m1, rfl, rfl, k3, e1, ?_⟩
      have S6 := S5.chg ho (k4.setAt m1 (q1.up g5.gg))
      have g6 := (g4.trans g5).chgO (o := .lst (xs2.set m1 v1)) z1 k2'
      refine ⟨v2, _, rfl, ?_⟩
      refine ⟨_, h0, ?_⟩
      refine hb2 σ G5 S6.sk _ g6.gh _ fun u G7 H7 g7 hu => ?_
      cases hu
      subst hi2
      have S7 := S6.up g7
      have ho2 : (δ.set i (.ow p (ds.set m1 d1)))[i]? = some (Cl.ow p (ds.set m1 d1)) := by
        have hi : i < δ.length := (List.getElem?_eq_some_iff.mp ho).1
        rw [List.getElem?_set_self hi]
      obtain ⟨_, _, k5, xs3, k6, k7⟩ := S7.ow i p _ ho2
      have e2 : ixN xs3.length (m2 : Int) = some m2 := by
        have hl : m2 < xs3.length := by rw [k7.len, List.length_set]; exact hm2
        unfold ixN
        simp [hl]
      refine ⟨p, xs3, (m2 : Int), m2, rfl, rfl, k6, e2, rfl, ?_⟩
      have S8 := S7.chg ho2 (k7.setAt m2 ((q2.up g5.gg).up g7.gg))
      rw [List.set_set] at S8
      exact k Gb Hb σ G7 _ D ((g6.trans g7).chgO z1 k5) S8 n r
end
section
variable {P : Program} {w : World} {K : PySem.W.Frag} {mg : Str → Option Value} {base : Heap}
def heardL (z : List Zt) (x : List Int) (i : Nat) (q : Stp) : List (List Int) :=
  (if decide (q.2.1 = "") = true then [x.set i q.2.2] else []) ++ z.flatMap fun u => if decide (q.2.1 ∈ u.2.1.t) = true then (leadsI u.2.1.s u.2.2 q.2.1).map fun its => (x.set i q.2.2).set u.1 its else []
def heardD (z : List Zt) (x : List Int) (i : Nat) (q : Stp) : Da := if deaf z q.2.1 = true then .non else .lst ((heardL z x i q).map pl)
theorem eqd_nil (l : List Int) : eqd (.lst (l.map .int)) (.lst []) = l.isEmpty := by
  unfold eqd
  rw [py_lst, py_lst, PyData.eqv]
  cases l <;> simp [PyData.eqvAll]
theorem f_heard_by (T : Tp K mg) {k : Nat} : Dfn P w K mg base CX0 (k + 2) "_law_heard_by" (SpF K fun ds r => ∃ (ps : List Pt) (x : List Int) (i : Nat) (q : Stp), ds = [thr ps, pl x, .int i, encS q] ∧ x.length = ps.length ∧ ps.length = 3 ∧ i < 3 ∧ (∀ p ∈ ps, PtOk p) ∧ r = heardD (zz ps x) x i q) := by
  obtain ⟨fd, F⟩ := T.c.def_ 33 (d := d_law_heard_by) rfl
  refine dfn_of F (T.glo 33) sc_law_heard_by ?_ (fun _ _ _ _ _ _ us hl => match us, hl with | [_, _, _, _], _ => rfl) ?_
  · rintro ds r ⟨ps, x, i, q, rfl, _⟩; rfl
  · rintro f cdv A outer s H EX hr ds r ⟨ps, x, i, q, rfl, hl, h3, hi, hps, rfl⟩
    have nd := sc_law_heard_by.nd
    have hix : i < x.length := by omega
    have hun : (Wx P w K mg base n_law_heard_by "_law_heard_by" d_law_heard_by.scope f cdv A outer s H EX).A.units + 64 < cLine := hr.units
    have hi1 : ((i : Int) + 1) = ((i + 1 : Nat) : Int) := by omega
    refine s_setO 4 (o_lst a_nil (by simp)) nd (fun p => ?_)
    -- what is found by the part alone
    have main : ∀ F0 : List (List Int), F0.length ≤ 1 → (F0 = if decide (q.2.1 = "") = true then [x.set i q.2.2] else []) → S (Wx P w K mg base n_law_heard_by "_law_heard_by" d_law_heard_by.scope f cdv A outer s H EX) (d_law_heard_by.body.drop 2) [.kn (thr ps), .kn (pl x), .kn (.int i), .kn (encS q), .ow p (F0.map pl), .no, .no, .no, .no] (retP (heardD (zz ps x) x i q)) := by
      intro F0 h0 hF0
      refine s_forT [5, 6] (items := (ps.map enc).mapIdx fun i d => Da.tup [.int (i : Int), d]) (r_enumT (a_cons (e_var 0 rfl) a_nil) T.enumerate) PassesOwn.never (pg_tup rfl (pgs_cons (pg_name nd rfl (Or.inl rfl)) (pgs_cons (pg_name nd rfl (Or.inl rfl)) pgs_nil)))
        (fun m δ' => ∃ c5 c6 c7 c8 Fl, δ' = [.kn (thr ps), .kn (pl x), .kn (.int i), .kn (encS q), .ow p (Fl.map pl), c5, c6, c7, c8] ∧ Fl = F0 ++ ((zz ps x).take m).flatMap (fun u => if decide (q.2.1 ∈ u.2.1.t) = true then (leadsI u.2.1.s u.2.2 q.2.1).map fun its => (x.set i q.2.2).set u.1 its else []) ∧ Fl.length ≤ 1 + 100 * m ∧
          ((zz ps x).take m).any (fun o => decide (q.2.1 ∈ o.2.1.t) && (leadsI o.2.1.s o.2.2 q.2.1).isEmpty) = false) ⟨_, _, _, _, F0, rfl, by simp, by omega, rfl⟩ (fun m y δ' hy hI => ?_) (fun δ' hI => ?_)
      rotate_left
      · obtain ⟨c5, c6, c7, c8, Fl, rfl, hF, _, hd⟩ := hI
        refine s_fz 4 rfl (s_ret (E.is (e_var 4 rfl) ?_) rfl)
        rw [List.length_mapIdx, List.length_map, ← zz_len hl, List.take_length] at hF hd
        unfold heardD deaf
        rw [hd, if_neg Bool.false_ne_true, hF, hF0]
        rfl
      obtain ⟨c5, c6, c7, c8, Fl, rfl, hF, hz, hd⟩ := hI
      obtain ⟨oth, b, rfl, hoth, hzm, hxm, hm⟩ := item_at hl hy
      refine ⟨_, rfl, rfl, ?_⟩
      have hs2 := (hps oth hoth).s.1
      have hll2 := leads_len oth.s b q.2.1
      refine s_if (k := decide (q.2.1 ∈ oth.t)) (eb_cmpE op_in_seq (e_ix 1 (e_var 3 rfl) e_int (.inl rfl) rfl rfl) (e_ix 0 (e_var 6 rfl) e_int (.inl rfl) rfl rfl) (od_inS (.inl rfl))) (fun hf => ?_) (fun hf => s_nil (s_nil ⟨_, _, _, _, Fl, rfl, ?_, by omega, ?_⟩))
      rotate_left
      · rw [flat_take hzm, ← List.append_assoc, ← hF]
        show Fl = Fl ++ (if decide (q.2.1 ∈ oth.t) = true then _ else [])
        rw [if_neg (by rw [hf]; exact Bool.false_ne_true), List.append_nil]
      · rw [any_take hzm, hd]
        show (false || (decide (q.2.1 ∈ oth.t) && _)) = false
        rw [hf]
        rfl
      refine s_if (k := (leadsI oth.s b q.2.1).isEmpty) (EB.is (eb_cmpE (op_eqD hun) (e_call (f_goes (k := 0) T) hr (by omega) pass0 (a_cons (e_var 6 rfl) (a_cons (e_ix m (e_var 1 rfl) (e_var 5 rfl) (.inl rfl) rfl (pl_at hxm)) (a_cons (e_ix 1 (e_var 3 rfl) e_int (.inl rfl) rfl rfl) a_nil))) ⟨oth, b, q.2.1, rfl, hps oth hoth, rfl⟩) (e_lst a_nil (by simp)) (od_eqD (n := 1) (m := 1) (by rw [fit]; exact fit_ints 0 _) (by simp [fit]) (by decide) (by decide))) (eqd_nil _)) (fun hg => s_ret e_non ?_) (fun hg => s_nil ?_)
      · show Da.non = heardD (zz ps x) x i q
        have e : deaf (zz ps x) q.2.1 = true := List.any_eq_true.mpr ⟨_, List.mem_of_getElem? hzm, by
          show (decide (q.2.1 ∈ oth.t) && (leadsI oth.s b q.2.1).isEmpty) = true
          rw [hf, hg]
          rfl⟩
        unfold heardD
        rw [if_pos e]
      refine s_for 7 (items := (leadsI oth.s b q.2.1).map .int) (r_lst (e_call (f_goes (k := 0) T) hr (by omega) pass0 (a_cons (e_var 6 rfl) (a_cons (e_ix m (e_var 1 rfl) (e_var 5 rfl) (.inl rfl) rfl (pl_at hxm)) (a_cons (e_ix 1 (e_var 3 rfl) e_int (.inl rfl) rfl rfl) a_nil))) ⟨oth, b, q.2.1, rfl, hps oth hoth, rfl⟩)) nd PassesOwn.never
        (fun l δ' => ∃ c7 c8 Gl, δ' = [.kn (thr ps), .kn (pl x), .kn (.int i), .kn (encS q), .ow p (Gl.map pl), .kn (.int m), .kn (enc oth), c7, c8] ∧ Gl = Fl ++ ((leadsI oth.s b q.2.1).take l).map (fun its => (x.set i q.2.2).set m its)) ⟨_, _, Fl, rfl, by simp⟩ (fun l y δ' hy hI => ?_) (fun δ' hI => ?_)
      rotate_left
      · obtain ⟨c7, c8, Gl, rfl, hG⟩ := hI
        rw [List.length_map, List.take_length] at hG
        refine s_nil (s_nil ⟨_, _, _, _, Gl, rfl, ?_, ?_, ?_⟩)
        · rw [flat_take hzm, ← List.append_assoc, ← hF]
          show Gl = Fl ++ (if decide (q.2.1 ∈ oth.t) = true then _ else [])
          rw [if_pos hf, hG]
        · rw [hG, List.length_append, List.length_map]
          omega
        · rw [any_take hzm, hd]
          show (false || (_ && (leadsI oth.s b q.2.1).isEmpty)) = false
          rw [hg, Bool.and_false]
          rfl
      obtain ⟨c7, c8, Gl, rfl, hG⟩ := hI
      rw [List.getElem?_map] at hy
      cases hq : (leadsI oth.s b q.2.1)[l]? with
      | none => rw [hq] at hy; cases hy
      | some its =>
        rw [hq] at hy
        cases hy
        have hll : l < (leadsI oth.s b q.2.1).length := (List.getElem?_eq_some_iff.mp hq).1
        have hGl : Gl.length ≤ 1 + 100 * m + 100 := by
          rw [hG, List.length_append, List.length_map, List.length_take]
          omega
        refine s_setO 8 (o_list (e_var 1 rfl) (.inl rfl) T.tlist) nd (fun p8 => ?_)
        refine s_sub2 8 i m (ds := x.map .int) rfl (e_tup (a_cons (e_ix 2 (e_var 3 rfl) e_int (.inl rfl) rfl rfl) (a_cons (e_var 7 rfl) a_nil)) (by simp)) (by simp [lf, lfL]) (e_var 2 rfl) rfl (by rw [List.length_map]; exact hix) (e_var 5 rfl) rfl (by rw [List.length_map]; exact hm) ?_
        have ex : ((x.map Da.int).set i (.int q.2.2)).set m (.int its) = ((x.set i q.2.2).set m its).map .int := by rw [List.map_set, List.map_set]
        refine s_app 4 rfl (d := pl ((x.set i q.2.2).set m its)) (E.is (e_tuple T (e_var 8 rfl) (.inr rfl)) (by rw [ex]; rfl)) (lf_pl _) (by rw [List.length_map]; omega) (s_nil ⟨.kn (.int its), .ow p8 (((x.map Da.int).set i (.int q.2.2)).set m (.int its)), Gl ++ [(x.set i q.2.2).set m its], ?_, ?_⟩)
        · rw [List.map_append]; rfl
        · rw [take_snoc hq, List.map_append, ← List.append_assoc, ← hG]
          rfl
    refine s_if (k := decide (q.2.1 = "")) (eb_cmpE op_eq (e_ix 1 (e_var 3 rfl) e_int (.inl rfl) rfl rfl) e_str od_eqS) (fun hc => ?_) (fun hc => s_nil (main [] (by simp) (by rw [if_neg (by rw [hc]; exact Bool.false_ne_true)])))
    refine s_app 4 rfl (d := pl (x.set i q.2.2)) (E.is (e_op op_catA (e_op op_catA (e_sl (e_var 1 rfl) (.inl ⟨rfl, rfl⟩) p_none (p_some (e_var 2 rfl))) (e_tup (a_cons (e_ix 2 (e_var 3 rfl) e_int (.inl rfl) rfl rfl) a_nil) (by simp)) (od_catT ?_)) (e_sl (e_var 1 rfl) (.inl ⟨rfl, rfl⟩) (p_some (e_op op_add (e_var 2 rfl) e_int od_add)) p_none) (od_catT ?_)) ?_) (lf_pl _) (by simp) (s_nil (main [x.set i q.2.2] (by simp) (by rw [if_pos hc])))
    · rw [cut_to, List.length_take, List.length_map]
      simp
      omega
    · rw [cut_to, hi1, cut_from]
      simp
      omega
    · rw [cut_to, hi1, cut_from]
      unfold pl
      rw [← List.map_take, ← List.map_drop, List.set_eq_take_append_cons_drop, if_pos hix]
      simp
end
end Fs
set_option Elab.async false
set_option linter.all false
set_option maxRecDepth 100000
set_option maxHeartbeats 2000000
/-! The walk: _law_three. -/
namespace Fs
open PySem PySem.Spec PyProof.Rows L2
theorem nodup_le {α : Type} [DecidableEq α] : ∀ {D U : List α}, D.Nodup → (∀ x ∈ D, x ∈ U) → D.length ≤ U.length
  | [], _, _, _ => Nat.zero_le _
  | x :: D, U, hn, hs => by
    rw [List.nodup_cons] at hn
    have hx := hs x List.mem_cons_self
    have ih := nodup_le (D := D) (U := U.erase x) hn.2 fun y hy => (List.mem_erase_of_ne fun e => hn.1 (by rw [← e]; exact hy)).mpr (hs y (List.mem_cons_of_mem _ hy))
    rw [List.length_erase_of_mem hx] at ih
    have : 0 < U.length := List.length_pos_of_mem hx
    rw [List.length_cons]
    omega
def rowsI (xs : List (List Int)) : List (List Leaf) := xs.map fun x => x.map Leaf.num
theorem num_inj : ∀ {x y : List Int}, x.map Leaf.num = y.map Leaf.num → x = y
  | [], [], _ => rfl
  | [], _ :: _, h => by cases h
  | _ :: _, [], h => by cases h
  | a :: x, b :: y, h => by
    rw [List.map_cons, List.map_cons, List.cons.injEq] at h
    rw [Leaf.num.inj h.1, num_inj h.2]
theorem rowD_num (x : List Int) : rowD (x.map Leaf.num) = pl x := by
  unfold rowD pl
  rw [List.map_map]
  rfl
theorem rowsI_map (xs : List (List Int)) : (rowsI xs).map rowD = xs.map pl := by
  unfold rowsI
  rw [List.map_map]
  exact List.map_congr_left fun x _ => rowD_num x
theorem rowsI_pre : ∀ {l : List (List Leaf)} {xs : List (List Int)}, (∀ k ∈ l, k ∈ rowsI xs) → ∃ N, l = rowsI N
  | [], _, _ => ⟨[], rfl⟩
  | k :: l, xs, h => by
    obtain ⟨x, _, rfl⟩ := List.mem_map.mp (h k List.mem_cons_self)
    obtain ⟨N, rfl⟩ := rowsI_pre (l := l) fun k hk => h k (List.mem_cons_of_mem _ hk)
    exact ⟨x :: N, rfl⟩
theorem mem_rowsI {x : List Int} {xs : List (List Int)} : x.map Leaf.num ∈ rowsI xs ↔ x ∈ xs := by
  constructor
  · intro h
    obtain ⟨y, hy, e⟩ := List.mem_map.mp h
    rw [← num_inj e]
    exact hy
  · exact fun h => List.mem_map.mpr ⟨x, h, rfl⟩
theorem sortU_ints (xs : List (List Int)) : ∃ N, sortU (rowsI xs) = rowsI N ∧ N.Nodup ∧ ∀ y, y ∈ N ↔ y ∈ xs := by
  obtain ⟨h1, h2, _⟩ := sortU_ok (rowsI xs)
  obtain ⟨N, hN⟩ := rowsI_pre (l := sortU (rowsI xs)) fun k hk => (h2 k).mp hk
  rw [hN] at h1
  refine ⟨N, hN, nodup_of_map h1, fun y => ?_⟩
  rw [← mem_rowsI, ← mem_rowsI (xs := xs), ← hN]
  exact h2 _
theorem eqd_nil2 (ds : List Da) : eqd (.lst ds) (.lst []) = ds.isEmpty := by
  unfold eqd
  rw [py_lst, py_lst, PyData.eqv]
  cases ds <;> simp [PyData.eqvAll]

/-! ### the search by levels -/
theorem DInv.level {ps : List Pt} {F N N' : List (List Int)} (D : DInv ps F N) (ha : ∀ x ∈ N, apart ps x = false) (hN : ∀ y, y ∈ N' ↔ (∃ x ∈ N, y ∈ moves ps x) ∧ y ∉ F ++ N) : DInv ps (F ++ N) N' := by
  refine ⟨fun x h => ?_, fun x h => ?_, fun x h y hy => ?_, ?_⟩
  · rcases h with h | h
    · exact D.r x (List.mem_append.mp h)
    · obtain ⟨⟨u, hu, hm⟩, _⟩ := (hN x).mp h
      exact .step (D.r u (.inr hu)) hm
  · rcases List.mem_append.mp h with h | h
    · exact D.a x h
    · exact ha x h
  · by_cases q : y ∈ F ++ N
    · exact .inl q
    · rcases List.mem_append.mp h with h | h
      · exact .inl (List.mem_append.mpr (D.c x h y hy))
      · exact .inr ((hN y).mpr ⟨⟨x, h, hy⟩, q⟩)
  · exact .inl (List.mem_append.mpr D.z)
def lev (U F N : List (List Int)) : Nat := 2 * unseen U F N + min 1 N.length
theorem lev_lt {U F N N' : List (List Int)} (hne : N ≠ []) (hN : ∀ y ∈ N', y ∈ U ∧ y ∉ F ++ N) : lev U (F ++ N) N' < lev U F N := by
  have hn : 1 ≤ N.length := by
    cases N with
    | nil => exact absurd rfl hne
    | cons x N => simp
  have hsub : ∀ u, (!(decide (u ∈ F ++ N) || decide (u ∈ N'))) = true → (!(decide (u ∈ F) || decide (u ∈ N))) = true := fun u hu => by
    rw [Bool.not_eq_true', Bool.or_eq_false_iff, decide_eq_false_iff_not, decide_eq_false_iff_not] at hu ⊢
    exact ⟨fun h => hu.1 (List.mem_append.mpr (.inl h)), fun h => hu.1 (List.mem_append.mpr (.inr h))⟩
  unfold lev unseen
  rw [Nat.min_eq_left hn]
  cases N' with
  | nil =>
    have := filter_le (U := U) hsub
    simp only [List.length_nil]
    omega
  | cons y ys =>
    obtain ⟨h1, h2⟩ := hN y List.mem_cons_self
    have k := filter_lt (U := U) (y := y) hsub h1 (by
      rw [Bool.not_eq_true', Bool.or_eq_false_iff, decide_eq_false_iff_not, decide_eq_false_iff_not]
      exact ⟨fun h => h2 (List.mem_append.mpr (.inl h)), fun h => h2 (List.mem_append.mpr (.inr h))⟩) (by
      rw [decide_eq_true (show y ∈ y :: ys from List.mem_cons_self), Bool.or_true]
      rfl)
    rw [Nat.min_eq_left (by rw [List.length_cons]; omega)]
    omega

/-! ### parts whose calls are their own -/
structure Gd (p : Pt) : Prop where
  c : ∀ q ∈ p.s, q.2.1 ∈ p.t ∨ q.2.1 ∈ p.m ∨ q.2.1 = ""
  d : ∀ x ∈ p.t, x ∉ p.m ∧ x ≠ ""
  e : ∀ x ∈ p.m, x ≠ ""
theorem deaf_none {ps : List Pt} (hg : ∀ p ∈ ps, Gd p) {x : List Int} : deaf (zz ps x) "" = false := by
  unfold deaf
  rw [List.any_eq_false]
  intro o ho h
  rw [Bool.and_eq_true, decide_eq_true_eq] at h
  exact ((hg _ (zz_mem ho)).d _ h.1).2 rfl
theorem gd_ap {ps : List Pt} (hg : ∀ p ∈ ps, Gd p) {x : List Int} {o : Zt} {q : Stp} (ho : o.2.1 ∈ ps) (hq : q ∈ o.2.1.s) (h1 : q.1 = o.2.2) (h2 : q.2.1 ∉ o.2.1.t) : apS (zz ps x) o q = deaf (zz ps x) q.2.1 ∧ heardL (zz ps x) x o.1 q = mvS (zz ps x) x o q := by
  unfold apS mvS heardL
  rw [decide_eq_true h1]
  rcases (hg _ ho).c q hq with h | h | h
  · exact absurd h h2
  · have hne : q.2.1 ≠ "" := (hg _ ho).e _ h
    rw [decide_eq_true h, decide_eq_false hne]
    exact ⟨rfl, rfl⟩
  · have hm : q.2.1 ∉ o.2.1.m := fun z => (hg _ ho).e _ z h
    rw [decide_eq_false hm, decide_eq_true h, h, deaf_none hg]
    refine ⟨rfl, ?_⟩
    have e : ((zz ps x).flatMap fun u => if decide (("" : Str) ∈ u.2.1.t) = true then (leadsI u.2.1.s u.2.2 "").map fun its => (x.set o.1 q.2.2).set u.1 its else []) = [] := by
      rw [List.flatMap_eq_nil_iff]
      intro u hu
      rw [decide_eq_false fun z => ((hg _ (zz_mem hu)).d _ z).2 rfl, if_neg Bool.false_ne_true]
    rw [e]
    rfl
theorem gd_no {ps : List Pt} (hg : ∀ p ∈ ps, Gd p) {x : List Int} {o : Zt} {q : Stp} (ho : o.2.1 ∈ ps) (h : ¬ (q.1 = o.2.2 ∧ q.2.1 ∉ o.2.1.t)) : apS (zz ps x) o q = false ∧ mvS (zz ps x) x o q = [] := by
  unfold apS mvS
  by_cases h1 : q.1 = o.2.2
  · have h2 : q.2.1 ∈ o.2.1.t := Classical.not_not.mp fun z => h ⟨h1, z⟩
    have h3 := (hg _ ho).d _ h2
    rw [decide_eq_true h1, decide_eq_false h3.1, decide_eq_false h3.2]
    exact ⟨rfl, rfl⟩
  · rw [decide_eq_false h1]
    exact ⟨rfl, rfl⟩
theorem mvS_len {ps : List Pt} (h3 : ps.length = 3) (hs : ∀ p ∈ ps, p.s.length ≤ 11) {x : List Int} (hx : x.length = ps.length) (o : Zt) (q : Stp) : (mvS (zz ps x) x o q).length ≤ 33 := by
  have hz : (zz ps x).length = 3 := (zz_len hx).trans h3
  unfold mvS
  split
  · simp
  · split
    · have k3 := flat_len (l := zz ps x) (f := fun u => if decide (q.2.1 ∈ u.2.1.t) = true then (leadsI u.2.1.s u.2.2 q.2.1).map fun its => (x.set o.1 q.2.2).set u.1 its else []) (b := 11) fun u hu => by
        split
        · rw [List.length_map]
          exact Nat.le_trans (leads_len _ _ _) (hs _ (zz_mem hu))
        · simp
      rw [hz] at k3
      exact k3
    · simp
section
variable {P : Program} {w : World} {K : PySem.W.Frag} {mg : Str → Option Value} {base : Heap}
theorem univ_len3 {p q r : Pt} (hp : p.n ≤ 3) (hq : q.n ≤ 3) (hr : r.n ≤ 3) : (univ [p, q, r]).length ≤ 27 := by
  have h0 : (bxs []).length = 1 := rfl
  have key : ∀ (n : Int) (ns : List Int), n ≤ 3 → (bxs (n :: ns)).length ≤ 3 * (bxs ns).length := fun n ns hn => by
    show ((List.range n.toNat).flatMap _).length ≤ _
    rw [flat_const (b := (bxs ns).length) fun x _ => by rw [List.length_map], List.length_range]
    exact Nat.mul_le_mul_right _ (by omega)
  show (bxs [p.n, q.n, r.n]).length ≤ 27
  have h1 := key r.n [] hr
  have h2 := key q.n [r.n] hq
  have h3 := key p.n [q.n, r.n] hp
  omega
theorem f_three (T : Tp K mg) {k : Nat} : Dfn P w K mg base CX0 (k + 3) "_law_three" (SpF K fun ds r => ∃ p q o, ds = [thr [p, q, o]] ∧ Fok p ∧ Fok q ∧ Fok o ∧ Gd p ∧ Gd q ∧ Gd o ∧ p.n ≤ 3 ∧ q.n ≤ 3 ∧ o.n ≤ 3 ∧ r = .bl (fitsB [p, q, o])) := by
  obtain ⟨fd, F⟩ := T.c.def_ 32 (d := d_law_three) rfl
  refine dfn_of F (T.glo 32) sc_law_three ?_ (fun _ _ _ _ _ _ us hl => match us, hl with | [_], _ => rfl) ?_
  · rintro ds r ⟨p, q, o, rfl, _⟩; rfl
  · rintro f cdv A outer s H EX hr ds r ⟨p, q, o, rfl, hp, hq, ho, gp, gq, go, np, nq, no, rfl⟩
    have nd := sc_law_three.nd
    have hun : (Wx P w K mg base n_law_three "_law_three" d_law_three.scope f cdv A outer s H EX).A.units + 64 < cLine := hr.units
    have hun5 : (Wx P w K mg base n_law_three "_law_three" d_law_three.scope f cdv A outer s H EX).A.units + 65 < cLine := by
      have := hr.un
      omega
    have hU := univ_len3 np nq no
    have three : ∀ {C : Pt → Prop}, C p → C q → C o → ∀ y ∈ [p, q, o], C y := fun h1 h2 h3 y hy => by
      rcases List.mem_cons.mp hy with rfl | hy
      · exact h1
      · rcases List.mem_cons.mp hy with rfl | hy
        · exact h2
        · rw [List.mem_singleton.mp hy]; exact h3
    have hin : ∀ y ∈ [p, q, o], Inb y := three hp.inb hq.inb ho.inb
    have hs : ∀ y ∈ [p, q, o], y.s.length ≤ 11 := three hp.s11 hq.s11 ho.s11
    have hok : ∀ y ∈ [p, q, o], PtOk y := three hp.ok hq.ok ho.ok
    have hgd : ∀ y ∈ [p, q, o], Gd y := three gp gq go
    have hfit := fitsB [p, q, o]
    have h3 : [p, q, o].length = 3 := rfl
    generalize hps : [p, q, o] = ps at *
    refine s_tup [1, 2] (e_tup (a_cons (e_lst a_nil (by simp)) (a_cons (e_lst (a_cons (e_tup (a_cons e_int (a_cons e_int (a_cons e_int a_nil))) (by simp)) a_nil) (by simp)) a_nil)) (by simp)) rfl (pg_tup rfl (pgs_cons (pg_name nd rfl (Or.inr rfl)) (pgs_cons (pg_name nd rfl (Or.inl rfl)) pgs_nil))) ?_
    refine s_while PassesOwn.never (fun m δ' => ∃ c3 c4 c5 c6 c7 c8 Fd N, δ' = [.kn (thr ps), .kn (.lst (Fd.map pl)), .kn (.lst (N.map pl)), c3, c4, c5, c6, c7, c8] ∧ DInv ps Fd N ∧ N.Nodup ∧ m = lev (univ ps) Fd N ∧ Fd.length + 64 * m ≤ 4000) ⟨_, .no, .no, .no, .no, .no, .no, [], [[0, 0, 0]], rfl, .start, by simp, rfl, ?_⟩ (fun m δ' hI => ?_)
    · have := List.length_filter_le (fun u => !(decide (u ∈ ([] : List (List Int))) || decide (u ∈ [[0, 0, 0]]))) (univ ps)
      unfold lev unseen
      simp only [List.length_nil, List.length_singleton]
      omega
    obtain ⟨c3, c4, c5, c6, c7, c8, Fd, N, rfl, hD, hNd, rfl, hz⟩ := hI
    refine ⟨!N.isEmpty, EB.is (eb_cmpE (op_neD hun) (e_var 2 rfl) (e_lst a_nil (by simp)) (od_neD (n := 2) (m := 1) (fit_pls 0 _) (by simp [fit]) (by decide) (by decide))) (by rw [eqd_nil2]; cases N <;> rfl), fun hc => ?_, fun hc => s_ret e_bl ?_⟩
    rotate_left
    · have hn : N = [] := by
        cases N with
        | nil => rfl
        | cons x N => cases hc
      subst hn
      show Da.bl true = Da.bl (fitsB ps)
      rw [fitsB_true hD.fits]
    have hne : N ≠ [] := fun h => by subst h; cases hc
    have hNU : ∀ x ∈ N, x ∈ univ ps := fun x hx => reach_in h3 hin (hD.r x (.inr hx))
    have hNl : N.length ≤ 27 := Nat.le_trans (nodup_le hNd hNU) hU
    refine s_tup [1, 3] (e_tup (a_cons (E.is (e_op op_cat (e_var 1 rfl) (e_var 2 rfl) (od_cat (by rw [List.length_map, List.length_map]; omega))) (congrArg Da.lst (List.map_append (f := pl) (l₁ := Fd) (l₂ := N)).symm)) (a_cons (e_lst a_nil (by simp)) a_nil)) (by simp)) rfl (pg_tup rfl (pgs_cons (pg_name nd rfl (Or.inr rfl)) (pgs_cons (pg_name nd rfl (Or.inl rfl)) pgs_nil))) ?_
    refine s_for 4 (items := N.map pl) (r_lst (e_var 2 rfl)) nd PassesOwn.never
      (fun h δ' => ∃ c4 c5 c6 c7 c8 Lt, δ' = [.kn (thr ps), .kn (.lst ((Fd ++ N).map pl)), .kn (.lst (N.map pl)), .kn (.lst (Lt.map pl)), c4, c5, c6, c7, c8] ∧ Lt = (N.take h).flatMap (moves ps) ∧ Lt.length ≤ 1089 * h ∧ (N.take h).any (apart ps) = false) ⟨_, _, _, _, _, [], rfl, rfl, Nat.le_refl _, rfl⟩ (fun h y δ' hy hI => ?_) (fun δ' hI => ?_)
    rotate_left
    · obtain ⟨c4, c5, c6, c7, c8, Lt, rfl, hL, hLl, hA⟩ := hI
      rw [List.length_map, List.take_length] at hL hA
      rw [List.length_map] at hLl
      have hAp : ∀ x ∈ N, apart ps x = false := fun x hx => by
        have := List.any_eq_false.mp hA x hx
        simpa using this
      obtain ⟨N', e', nd', hm'⟩ := sortU_ints (Lt.filter fun y => !decide (y ∈ Fd ++ N))
      have hm2 : ∀ y, y ∈ N' ↔ (∃ x ∈ N, y ∈ moves ps x) ∧ y ∉ Fd ++ N := fun y => by
        rw [hm', List.mem_filter, hL, List.mem_flatMap, Bool.not_eq_true', decide_eq_false_iff_not]
      have hmU : ∀ y ∈ N', y ∈ univ ps ∧ y ∉ Fd ++ N := fun y hy => by
        obtain ⟨⟨x, hx, hxy⟩, h2⟩ := (hm2 y).mp hy
        exact ⟨moves_in hin (hNU x hx) hxy, h2⟩
      have hlt := lev_lt hne hmU
      have hks : ∀ k ∈ rowsI (Lt.filter fun y => !decide (y ∈ Fd ++ N)), ∃ x, k = x.map Leaf.num ∧ x ∈ univ ps := fun k hk => by
        obtain ⟨x, hx, rfl⟩ := List.mem_map.mp hk
        exact ⟨x, rfl, (hmU x ((hm' x).mpr hx)).1⟩
      refine s_set 2 (d := .lst (N'.map pl)) (E.is (e_sortSet T (ks := rowsI (Lt.filter fun y => !decide (y ∈ Fd ++ N))) (E.is (e_lc 7 (items := Lt.map pl) (p := fun d => !((Fd ++ N).map pl).any fun z => eqd z d) (f := fun d => d) (r_lst (e_var 3 rfl)) (by rw [List.length_map]; omega) nd (blk_ok (own := [("_law_own", 7)]) (by kernel_rfl)) (fun y hy s0 H0 C cl fp => ?_) (fun _ _ _ _ _ => pg_name nd rfl (Or.inl rfl))) ?_) hun (fun D hDn hDs => ?_) (fun k hk => ?_)) ?_) nd (s_nil ⟨_, hlt, _, _, _, _, _, _, Fd ++ N, N', rfl, hD.level hAp hm2, nd', rfl, ?_⟩)
      · obtain ⟨v, hv, rfl⟩ := List.mem_map.mp hy
        exact ⟨ts_one (eb_cmpE (op_notInD hun5) (e_var 7 rfl) (e_var 1 rfl) (od_niD (n := 1) (m := 2) (fit_pl 0 v) (fit_pls 0 _) (by decide) (by decide))), fun _ => e_var 7 rfl⟩
      · rw [List.map_id', List.filter_map, rowsI_map]
        congr 2
        refine List.filter_congr fun v _ => ?_
        show (!((Fd ++ N).map pl).any fun z => eqd z (pl v)) = _
        rw [any_pl]
      · have h1 := nodup_le hDn (U := (univ ps).map fun x => x.map Leaf.num) fun k hk => by
          obtain ⟨x, rfl, hx⟩ := hks k (hDs k hk)
          exact List.mem_map.mpr ⟨x, hx, rfl⟩
        rw [List.length_map] at h1
        omega
      · obtain ⟨x, rfl, hx⟩ := hks k hk
        have hxl := (mem_bxs.mp hx).1
        rw [List.length_map, h3] at hxl
        refine ⟨fun e => ?_, by rw [List.length_map]; omega, fun u hu => ?_, fun k' hk' => ?_⟩
        · rw [List.map_eq_nil_iff] at e
          rw [e] at hxl
          cases hxl
        · obtain ⟨i, _, rfl⟩ := List.mem_map.mp hu
          exact fun e => nomatch e
        · obtain ⟨x', rfl, hx'⟩ := hks k' hk'
          rw [rowD_num, rowD_num]
          unfold pl
          rw [py_tup, py_tup, PySem.W.alike]
          have e : ∀ l : List Int, (l.map Da.int).map py = l.map PyData.int := fun l => by
            rw [List.map_map]
            exact List.map_congr_left fun i _ => by show py (.int i) = _; rw [py]
          rw [e, e]
          exact PySem.W.alike_ints _ _
      · rw [e', rowsI_map]
      · rw [List.length_append]
        omega
    obtain ⟨c4, c5, c6, c7, c8, Lt, rfl, hL, hLl, hA⟩ := hI
    rw [List.getElem?_map] at hy
    cases hxe : N[h]? with
    | none => rw [hxe] at hy; cases hy
    | some x =>
      rw [hxe] at hy
      cases hy
      have hxN := List.mem_of_getElem? hxe
      have hhl : h < N.length := (List.getElem?_eq_some_iff.mp hxe).1
      have hxr : Reach ps x := hD.r x (.inr hxN)
      have hl := reach_len h3 hin hxr
      refine s_forT [5, 6] (items := (ps.map enc).mapIdx fun i d => Da.tup [.int (i : Int), d]) (r_enumT (a_cons (e_var 0 rfl) a_nil) T.enumerate) PassesOwn.never (pg_tup rfl (pgs_cons (pg_name nd rfl (Or.inl rfl)) (pgs_cons (pg_name nd rfl (Or.inl rfl)) pgs_nil)))
        (fun j δ' => ∃ c5 c6 c7 c8 Mt, δ' = [.kn (thr ps), .kn (.lst ((Fd ++ N).map pl)), .kn (.lst (N.map pl)), .kn (.lst (Mt.map pl)), .kn (pl x), c5, c6, c7, c8] ∧ Mt = Lt ++ ((zz ps x).take j).flatMap (fun o => o.2.1.s.flatMap (mvS (zz ps x) x o)) ∧ Mt.length ≤ 1089 * h + 363 * j ∧ ((zz ps x).take j).any (fun o => o.2.1.s.any (apS (zz ps x) o)) = false) ⟨_, _, _, _, Lt, rfl, by simp, by omega, rfl⟩ (fun j y δ' hy hI => ?_) (fun δ' hI => ?_)
      rotate_left
      · obtain ⟨c5, c6, c7, c8, Mt, rfl, hM, hMl, hB⟩ := hI
        rw [List.length_mapIdx, List.length_map, ← zz_len hl, List.take_length] at hM hB
        rw [List.length_mapIdx, List.length_map, h3] at hMl
        refine s_nil ⟨_, _, _, _, _, Mt, rfl, ?_, by omega, ?_⟩
        · rw [flat_take hxe, ← hL, hM]
          rfl
        · rw [any_take hxe, hA]
          exact hB
      obtain ⟨c5, c6, c7, c8, Mt, rfl, hM, hMl, hB⟩ := hI
      obtain ⟨one, a, rfl, hone, hzj, hxj, hj⟩ := item_at hl hy
      refine ⟨_, rfl, rfl, ?_⟩
      have hs1 := hs one hone
      refine s_for 7 (items := one.s.map encS) (r_tup (e_ix 3 (e_var 6 rfl) e_int (.inl rfl) rfl rfl)) nd PassesOwn.never
        (fun l δ' => ∃ c7 c8 Kt, δ' = [.kn (thr ps), .kn (.lst ((Fd ++ N).map pl)), .kn (.lst (N.map pl)), .kn (.lst (Kt.map pl)), .kn (pl x), .kn (.int j), .kn (enc one), c7, c8] ∧ Kt = Mt ++ (one.s.take l).flatMap (mvS (zz ps x) x (j, one, a)) ∧ Kt.length ≤ 1089 * h + 363 * j + 33 * l ∧ (one.s.take l).any (apS (zz ps x) (j, one, a)) = false) ⟨_, _, Mt, rfl, by simp, by omega, rfl⟩ (fun l y δ' hy hI => ?_) (fun δ' hI => ?_)
      rotate_left
      · obtain ⟨c7, c8, Kt, rfl, hK, hKl, hC⟩ := hI
        rw [List.length_map, List.take_length] at hK hC
        rw [List.length_map] at hKl
        refine s_nil ⟨_, _, _, _, Kt, rfl, ?_, by omega, ?_⟩
        · rw [flat_take hzj, ← List.append_assoc, ← hM]
          exact hK
        · rw [any_take hzj, hB]
          exact hC
      obtain ⟨c7, c8, Kt, rfl, hK, hKl, hC⟩ := hI
      rw [List.getElem?_map] at hy
      cases hqe : one.s[l]? with
      | none => rw [hqe] at hy; cases hy
      | some u =>
        rw [hqe] at hy
        cases hy
        have hum := List.mem_of_getElem? hqe
        have hll : l < one.s.length := (List.getElem?_eq_some_iff.mp hqe).1
        have hml := mvS_len h3 hs hl (j, one, a) u
        refine s_if (k := decide (u.1 = a) && !decide (u.2.1 ∈ one.t)) (b_w (w_and (eb_cmpE op_eq (e_ix 0 (e_var 7 rfl) e_int (.inl rfl) rfl rfl) (e_ix j (e_var 4 rfl) (e_var 5 rfl) (.inl rfl) rfl (pl_at hxj)) od_eqI) fun _ => w_and1 (eb_cmpE op_notIn_seq (e_ix 1 (e_var 7 rfl) e_int (.inl rfl) rfl rfl) (e_ix 0 (e_var 6 rfl) e_int (.inl rfl) rfl rfl) (od_niS (.inl rfl))))) (fun hc => ?_) (fun hc => s_nil (s_nil ⟨_, _, Kt, rfl, ?_, by omega, ?_⟩))
        rotate_left
        · have := (gd_no hgd (x := x) (o := (j, one, a)) (q := u) hone (fun z => by
            rw [decide_eq_true z.1, decide_eq_false z.2] at hc
            cases hc)).2
          rw [flat_take hqe, this, List.append_nil]
          exact hK
        · have := (gd_no hgd (x := x) (o := (j, one, a)) (q := u) hone (fun z => by
            rw [decide_eq_true z.1, decide_eq_false z.2] at hc
            cases hc)).1
          rw [any_take hqe, hC, this]
          rfl
        rw [Bool.and_eq_true, decide_eq_true_eq, Bool.not_eq_true', decide_eq_false_iff_not] at hc
        obtain ⟨ga, gm⟩ := gd_ap hgd (x := x) (o := (j, one, a)) hone hum hc.1 hc.2
        refine s_set 8 (e_call (f_heard_by (k := 0) T) hr (by omega) pass0 (a_cons (e_var 0 rfl) (a_cons (e_var 4 rfl) (a_cons (e_var 5 rfl) (a_cons (e_var 7 rfl) a_nil)))) ⟨ps, x, j, u, rfl, hl, h3, by omega, hok, rfl⟩) nd ?_
        refine s_if (k := deaf (zz ps x) u.2.1) (EB.is (eb_cmpE op_isN (e_var 8 rfl) e_non od_isN) ?_) (fun hf => s_ret e_bl ?_) (fun hf => s_nil ?_)
        · unfold heardD
          cases deaf (zz ps x) u.2.1 <;> rfl
        · show Da.bl false = Da.bl (fitsB ps)
          have e : apart ps x = true := by
            unfold apart
            refine List.any_eq_true.mpr ⟨_, List.mem_of_getElem? hzj, List.any_eq_true.mpr ⟨u, hum, ?_⟩⟩
            rw [ga]
            exact hf
          rw [fitsB_false (hD.not hxN e)]
        have ed : heardD (zz ps x) x j u = .lst ((mvS (zz ps x) x (j, one, a) u).map pl) := by
          unfold heardD
          rw [hf, if_neg Bool.false_ne_true, gm]
        refine s_set 3 (d := .lst ((Kt ++ mvS (zz ps x) x (j, one, a) u).map pl)) (E.is (e_op op_cat (e_var 3 rfl) (E.is (e_var 8 rfl) ed) (od_cat (by rw [List.length_map, List.length_map]; omega))) (congrArg Da.lst (List.map_append (f := pl)).symm)) nd (s_nil (s_nil ⟨_, _, Kt ++ mvS (zz ps x) x (j, one, a) u, rfl, ?_, ?_, ?_⟩))
        · rw [flat_take hqe, ← List.append_assoc, ← hK]
        · rw [List.length_append]
          omega
        · rw [any_take hqe, hC, ga, hf]
          rfl
end
end Fs
set_option Elab.async false
set_option linter.all false
set_option maxRecDepth 100000
set_option maxHeartbeats 2000000
/-! The walk: _law_same, of data that are the same. -/
namespace Fs
open PySem PySem.Spec PyProof.Rows L2
section
variable {X : Cx} {e : Expr} {δ : De} {d : Da} {pos p p2 : Pos}
theorem e_isLst (T : Tp X.K X.mg) (h : E X e δ d) (hx : d ≠ .exc) (hg : Gl X "isinstance" := by rfl) (hg2 : Gl X "list" := by rfl)
    (he : starEach [e, .Name "list" p2] X.env = (false, eval e X.env) :: starEach [.Name "list" p2] X.env := by rfl) (he2 : starEach [.Name "list" p2] X.env = (false, eval (.Name "list" p2) X.env) :: starEach [] X.env := by rfl)
    (hpl : (backTo pos (starEach [.Name "list" p2] X.env)).any (·.1) = false := by rfl) : E X (.Call (.Name "isinstance" p) [e, .Name "list" p2] [] pos) δ (.bl (isLst d)) := e_isi h hx T.isinstance T.tlist (kit_lst hx) hg hg2 (by decide +kernel) (by decide) (by decide) he he2 hpl
theorem e_isInt (T : Tp X.K X.mg) (h : E X e δ d) (hx : d ≠ .exc) (hg : Gl X "isinstance" := by rfl) (hg2 : Gl X "int" := by rfl)
    (he : starEach [e, .Name "int" p2] X.env = (false, eval e X.env) :: starEach [.Name "int" p2] X.env := by rfl) (he2 : starEach [.Name "int" p2] X.env = (false, eval (.Name "int" p2) X.env) :: starEach [] X.env := by rfl)
    (hpl : (backTo pos (starEach [.Name "int" p2] X.env)).any (·.1) = false := by rfl) : E X (.Call (.Name "isinstance" p) [e, .Name "int" p2] [] pos) δ (.bl (isInt d)) := e_isi h hx T.isinstance T.tint (kit_int hx) hg hg2 (by decide +kernel) (by decide) (by decide) he he2 hpl
theorem e_isBl (T : Tp X.K X.mg) (h : E X e δ d) (hx : d ≠ .exc) (hg : Gl X "isinstance" := by rfl) (hg2 : Gl X "bool" := by rfl)
    (he : starEach [e, .Name "bool" p2] X.env = (false, eval e X.env) :: starEach [.Name "bool" p2] X.env := by rfl) (he2 : starEach [.Name "bool" p2] X.env = (false, eval (.Name "bool" p2) X.env) :: starEach [] X.env := by rfl)
    (hpl : (backTo pos (starEach [.Name "bool" p2] X.env)).any (·.1) = false := by rfl) : E X (.Call (.Name "isinstance" p) [e, .Name "bool" p2] [] pos) δ (.bl (isBl d)) := e_isi h hx T.isinstance T.tbool (kit_bool hx) hg hg2 (by decide +kernel) (by decide) (by decide) he he2 hpl
end
section
variable {P : Program} {w : World} {K : PySem.W.Frag} {mg : Str → Option Value} {base : Heap}
theorem eqd_refl {n : Nat} {d : Da} (h : fit n d = true) : eqd d d = true := PySem.SeqAt.eqv_refl _ (fit_lay n d h).1
def sameF : Da → Da := fun _ => .bl true
theorem zip_self {α β : Type} {g : α → α → β} : ∀ l : List α, List.zipWith g l l = l.map fun x => g x x
  | [] => rfl
  | x :: l => by rw [List.zipWith_cons_cons, zip_self l] <;> rfl
theorem f_same_low (T : Tp K mg) {k n : Nat} {f : Addr} {cdv : Value} {A : Around} {outer : List Env} {s : Shared} {H : Hp} {EX : XK} (hr : Room k (Wx P w K mg base n_law_same "_law_same" d_law_same.scope f cdv A outer s H EX).A) {d : Da} (hd : ok n d = true) (hq : isSeq d = false) (hn : n ≤ 50) :
    S (Wx P w K mg base n_law_same "_law_same" d_law_same.scope f cdv A outer s H EX) d_law_same.body (entry n_law_same [d, d]) (retP (.bl true)) := by
  have hx := ok_exc hd
  have hf := ok_fit n d hd
  have hun : (Wx P w K mg base n_law_same "_law_same" d_law_same.scope f cdv A outer s H EX).A.units + 64 < cLine := hr.units
  refine s_if (k := false) (EB.is (b_val (e_isi2 (e_var 1 rfl) hx T.isinstance T.tlist T.ttup (kit_lst hx) (kit_tup hx))) (by rw [isSeq_or, hq])) (fun h => nomatch h) (fun _ => s_nil ?_)
  by_cases hs : (isN d || (isBl d || isStr d)) = true
  · refine s_if (k := true) (EB.is (b_w (w_or (eb_cmpE op_isN (e_var 1 rfl) e_non od_isN) fun _ => w_or1 (b_val (e_isi2 (e_var 1 rfl) hx T.isinstance T.tbool T.tstr (kit_bool hx) (kit_str hx))))) hs) (fun _ => ?_) (fun h => nomatch h)
    refine s_set 2 (d := .bl true) (E.is (e_andB (e_cmp op_eq (e_isBl T (e_var 0 rfl) hx) (e_isBl T (e_var 1 rfl) hx) od_eqB) fun _ => e_one (e_cmp op_eq (e_cmp op_isN (e_var 0 rfl) e_non od_isN) (e_cmp op_isN (e_var 1 rfl) e_non od_isN) od_eqB)) ?_) sc_law_same.nd ?_
    · simp
    · exact s_ret (E.is (e_andB (e_var 2 rfl) fun _ => e_one (e_cmp (op_eqD hun) (e_var 0 rfl) (e_var 1 rfl) (od_eqD hf hf (by omega) (by omega)))) (by rw [eqd_refl hf] <;> rfl)) rfl
  · have hs' : (isN d || (isBl d || isStr d)) = false := by simpa using hs
    refine s_if (k := false) (EB.is (b_w (w_or (eb_cmpE op_isN (e_var 1 rfl) e_non od_isN) fun _ => w_or1 (b_val (e_isi2 (e_var 1 rfl) hx T.isinstance T.tbool T.tstr (kit_bool hx) (kit_str hx))))) hs') (fun h => nomatch h) (fun _ => s_nil ?_)
    have hi : isInt d = true ∧ isBl d = false := by
      cases d <;> first | exact ⟨rfl, rfl⟩ | exact Bool.noConfusion hq | exact Bool.noConfusion hs' | exact absurd rfl hx
    refine s_ret (E.is (e_andB (k' := true) (e_isInt T (e_var 0 rfl) hx) fun _ => E.is (e_andB (k' := true) (e_not (e_isBl T (e_var 0 rfl) hx)) fun _ => e_one (E.is (e_cmp (op_eqD hun) (e_var 0 rfl) (e_var 1 rfl) (od_eqD hf hf (by omega) (by omega))) (by rw [eqd_refl hf]))) ?_) ?_) rfl
    · rw [hi.2]; rfl
    · rw [hi.1]; rfl
theorem f_same (T : Tp K mg) : ∀ (n : Nat) {k : Nat}, n ≤ 50 → Dfn P w K mg base CX0 (k + n + 1) "_law_same" (SpF K fun ds r => ∃ d, ds = [d, d] ∧ ok n d = true ∧ r = .bl true) := by
  intro n
  induction n with
  | zero =>
    intro k hn
    obtain ⟨fd, F⟩ := T.c.def_ 24 (d := d_law_same) rfl
    refine dfn_of F (T.glo 24) sc_law_same ?_ (fun _ _ _ _ _ _ us hl => match us, hl with | [_, _], _ => rfl) ?_
    · rintro ds r ⟨d, rfl, _⟩; rfl
    · rintro f cdv A outer s H EX hr ds r ⟨d, rfl, hd, rfl⟩
      exact f_same_low T hr hd (ok0 hd) (by omega)
  | succ n ih =>
    intro k hn
    obtain ⟨fd, F⟩ := T.c.def_ 24 (d := d_law_same) rfl
    refine dfn_of F (T.glo 24) sc_law_same ?_ (fun _ _ _ _ _ _ us hl => match us, hl with | [_, _], _ => rfl) ?_
    · rintro ds r ⟨d, rfl, _⟩; rfl
    · rintro f cdv A outer s H EX hr ds r ⟨d, rfl, hd, rfl⟩
      cases hq : isSeq d with
      | false => exact f_same_low T hr hd hq (by omega)
      | true =>
        have hx := ok_exc hd
        obtain ⟨es, he⟩ := seq_of hq
        obtain ⟨e2, e3⟩ := ok_items hd he
        refine s_if (k := true) (EB.is (b_val (e_isi2 (e_var 1 rfl) hx T.isinstance T.tlist T.ttup (kit_lst hx) (kit_tup hx))) (by rw [isSeq_or, hq])) (fun _ => ?_) (fun h => nomatch h)
        refine s_if (k := false) (EB.is (eb_cmpE op_ne (e_isLst T (e_var 0 rfl) hx) (e_isLst T (e_var 1 rfl) hx) od_neB) (by simp)) (fun h => nomatch h) (fun _ => s_nil ?_)
        refine s_if (k := false) (EB.is (eb_cmpE op_ne (e_isTup T (e_var 0 rfl)) (e_isTup T (e_var 1 rfl)) od_neB) (by simp)) (fun h => nomatch h) (fun _ => s_nil ?_)
        have hz : (d = .lst es ∧ d = .lst es) ∨ (d = .tup es ∧ d = .tup es) := by
          rcases he with h | h
          · exact .inr ⟨h, h⟩
          · exact .inl ⟨h, h⟩
        refine s_ret (E.is (e_andB (k' := true) (e_cmp op_eq (e_len T (e_var 0 rfl) he) (e_len T (e_var 1 rfl) he) od_eqI) fun _ => e_one (E.is (e_all T (es.map fun _ => true) (e_lcT [3, 4] (items := es.map fun x => .tup [x, x]) (p := fun _ => true) (f := sameF) (zip_self (g := fun u v => Da.tup [u, v]) es ▸ r_zip (a_cons (e_var 0 rfl) (a_cons (e_var 1 rfl) a_nil)) hz T.zip) (by rw [List.length_map]; omega) sc_law_same.nd (blk_ok (own := [("_law_mine", 3), ("_law_its", 4)]) (by kernel_rfl)) (fun y hy => ?_)
          (fun _ _ _ _ _ => pg_tup rfl (pgs_cons (pg_name sc_law_same.nd rfl (Or.inl rfl)) (pgs_cons (pg_name sc_law_same.nd rfl (Or.inl rfl)) pgs_nil)))) ?_) ?_)) ?_) rfl
        · obtain ⟨x, hx', rfl⟩ := List.mem_map.mp hy
          exact ⟨_, rfl, rfl, fun s0 H0 C cl fp => ⟨ts_nil, fun _ => e_call (ih (k := 0) (by omega)) hr (by omega) pass0 (a_cons (e_var 3 rfl) (a_cons (e_var 4 rfl) a_nil)) ⟨x, rfl, e3 x hx', rfl⟩⟩⟩
        · rw [filter_tt, List.map_map, List.map_map]
          rfl
        · congr 1
          rw [List.all_map]
          exact List.all_eq_true.mpr fun _ _ => rfl
        · simp
end
end Fs
set_option Elab.async false
set_option linter.all false
set_option maxRecDepth 100000
set_option maxHeartbeats 2000000
/-! Expressions that change own lists: EE. Defs that are handed the tub. -/
namespace Fs
open PySem PySem.Spec PyProof.Rows L2
def EE (X : Cx) (e : Expr) (δ : De) (P : De → Da → Prop) : Prop := ∀ Gb Hb σ G H, Grow Gb Hb G H → Sto X.K Hb G H σ δ → ∀ Q : VK,
  (∀ δ' v d G' H', P δ' d → Grow Gb Hb G' H' → Same G G' → Sto X.K Hb G' H' σ δ' → At X.K G' v d → Q v H') → WE X e σ H Q
def EEA (X : Cx) (es : List Expr) (δ : De) (P : De → List Da → Prop) : Prop := ∀ Gb Hb σ G H, Grow Gb Hb G H → Sto X.K Hb G H σ δ → ∀ Q : List V → Hp → Prop,
  (∀ δ' vs ds G' H', P δ' ds → Grow Gb Hb G' H' → Same G G' → Sto X.K Hb G' H' σ δ' → AtL X.K G' vs ds → Q vs H') → WA X es σ H Q
section
variable {X : Cx} {a b e : Expr} {es : List Expr} {δ : De} {d : Da} {P : De → Da → Prop} {PA' : De → List Da → Prop} {pos p : Pos} {x : Str} {rest : List Stmt} {O : Post}
theorem EE.imp {P2 : De → Da → Prop} (h : EE X e δ P) (k : ∀ δ' d, P δ' d → P2 δ' d) : EE X e δ P2 := fun Gb Hb σ G H g St Q q => h Gb Hb σ G H g St Q fun δ' v d G' H' hp => q δ' v d G' H' (k δ' d hp)
theorem ee_pure (h : E X e δ d) (k : P δ d) : EE X e δ P := fun Gb Hb σ G H g St Q q => h σ G St.sk H g.gh Q fun v G2 H2 g2 hv => q δ v d G2 H2 k (g.trans g2) g2.gg (St.up g2) hv
theorem ee_pureF (h : E X e (fz δ) d) (hd : lf d = true) (k : P δ d) : EE X e δ P := fun Gb Hb σ G H g St Q q => by
  obtain ⟨G', sk, s1, kk⟩ := St.fz g
  refine h σ G' sk H s1 Q fun v G2 H2 g2 hv => ?_
  obtain ⟨Gn, g3, S3, s3, st⟩ := kk G2 H2 g2
  exact q δ v d Gn H2 k g3 s3 S3 (At.strip st d hd hv)
theorem eea_nil (k : PA' δ []) : EEA X [] δ PA' := fun Gb Hb σ G H g St Q q => wa_of pa_nil (q δ [] [] G H k g (Same.refl _) St .nil)
theorem eea_cons (h : EE X e δ fun δ1 d => EEA X es δ1 fun δ2 ds => PA' δ2 (d :: ds)) (hs : starEach (e :: es) X.env = (false, eval e X.env) :: starEach es X.env := by rfl) : EEA X (e :: es) δ PA' := fun Gb Hb σ G H g St Q q =>
  wa_of (pa_cons WE.pe WA.pa hs) (h Gb Hb σ G H g St _ fun δ1 v d G1 H1 h1 g1 s1 S1 hv => h1 Gb Hb σ G1 H1 g1 S1 _ fun δ2 vs ds G2 H2 h2 g2 s2 S2 hvs => q δ2 _ _ G2 H2 h2 g2 (s1.trans s2) S2 (.cons (hv.up s2) hvs))
theorem eea_pure {ds : List Da} (h : EA X es δ ds) (k : PA' δ ds) : EEA X es δ PA' := fun Gb Hb σ G H g St Q q => h σ G St.sk H g.gh Q fun vs G2 H2 g2 hv => q δ vs ds G2 H2 k (g.trans g2) g2.gg (St.up g2) hv
theorem ee_op {op : Operator} {f : R2} (hf : OpR X (binaryOp op) f) (h : EE X a δ fun δ1 d1 => EE X b δ1 fun δ2 d2 => ∃ r, OpD X.K f d1 d2 r ∧ P δ2 r) : EE X (.BinOp a op b pos) δ P := fun Gb Hb σ G H g St Q q =>
  we_of (pe_op hf WE.pe WE.pe) (h Gb Hb σ G H g St _ fun δ1 v d1 G1 H1 h1 g1 s1 S1 hv => h1 Gb Hb σ G1 H1 g1 S1 _ fun δ2 u d2 G2 H2 h2 g2 s2 S2 hu => by
    obtain ⟨r, ho, hp⟩ := h2
    exact ho v u G2 H2 Q g2.gh (hv.up s2) hu fun z G3 H3 g3 hz => q δ2 z r G3 H3 hp (g2.trans g3) ((s1.trans s2).trans g3.gg) (S2.up g3) hz)
theorem ee_tup {k : Nat} (h : EEA X es δ fun δ' ds => ds.length ≤ 100000 ∧ P δ' (.tup ds)) : EE X (.Tuple es k pos) δ P := fun Gb Hb σ G H g St Q q =>
  we_of (pe_tup WA.pa) (h Gb Hb σ G H g St _ fun δ' vs ds G' H' hp g1 s1 S1 hvs => ⟨by rw [hvs.len]; exact Nat.le_trans hp.1 (by decide), fun l hl => by
    have gn := Grow.new (o := .tup vs) g1.gh hl
    exact q δ' _ _ _ _ hp.2 (g1.trans gn) (s1.trans gn.gg) (S1.up gn) (.tup upd_same (hvs.up gn.gg))⟩)
/-- a pure def, its arguments with changes -/
theorem ee_call {CX : CXT} {k j : Nat} {R : List Da → Da → Prop} {EX : XK} (c : Dfn X.prog X.w X.K X.mg X.base CX k x (SpF X.K R)) (hr : Room j X.A) (hk : k ≤ j) (hx : Passes CX X EX) (h : EEA X (e :: es) δ fun δ' ds => ∃ r, R ds r ∧ P δ' r) (hg : Gl X x := by rfl)
    (hdb : (x == ("__debug__" : Str)) = false := by decide) (he : starEach (e :: es) X.env = (false, eval e X.env) :: starEach es X.env := by rfl) (hpl : (backTo pos (starEach es X.env)).any (·.1) = false := by rfl) : EE X (.Call (.Name x p) (e :: es) [] pos) δ P := fun Gb Hb σ G H g St Q q =>
  we_call c hr hk hx (h Gb Hb σ G H g St _ fun δ' vs ds G' H' hp g1 s1 S1 hvs => by
    obtain ⟨r, hR, hP⟩ := hp
    exact ⟨G', ds, r, g1.gh, hvs, hR, fun v G3 H3 g3 hv => q δ' v r G3 H3 hP (g1.trans g3) (s1.trans g3.gg) (S1.up g3) hv⟩) hg hdb he hpl
/-- x = e -/
theorem s_setE {p2 : Pos} (i : Nat) (h : EE X e δ fun δ' d => S X rest (δ'.set i (.kn d)) O) (hN : X.N.Nodup) (hi : X.N[i]? = some x := by rfl) (hx : Loc X.env.scope x := by first | exact Or.inl rfl | exact Or.inr rfl)
    (hs : swapsWith e (some (.Name x p2)) pos.line X.env = pure false := by rfl) (hf : X.fn x = true ∨ X.env.scope.names.lookup x = some .local := by first | exact .inl rfl | exact .inr rfl | assumption) : S X (.Assign [.Name x p2] e pos :: rest) δ O := fun Gb Hb σ G H D g St n r =>
  sts_cons (ws_setW hN hi hx (h Gb Hb σ G H g St _ fun δ' v d G' H' k g1 s1 S1 hv => k Gb Hb _ G' H' D g1 (S1.set hv i) n r) hs hf)
theorem s_retE (h : EE X e δ O.rt) : S X (.Return (some e) pos :: rest) δ O := fun Gb Hb σ G H D g St n r =>
  sts_cons (ws_retW (h Gb Hb σ G H g St _ fun δ' v d G' H' k g1 s1 S1 hv => r δ' d σ v G' H' k g1 S1 hv))
end

/-! ### the tub: three numbers -/
abbrev Tb := Int × Int × Int
def tubV (b : Tb) : List V := [.int b.1, .int b.2.1, .int b.2.2]
def tubD (b : Tb) : List Da := [.int b.1, .int b.2.1, .int b.2.2]
/-- a def that is handed the tub: D of what it is handed, R of what comes -/
def SpT (K : PySem.W.Frag) (D : Tb → List Da → Prop) (R : Tb → List Da → Tb → Da → Prop) : Sp := fun vs H Q _ => ∃ G t b ds vs', vs = .ref t :: vs' ∧ Same G (L2.del H t) ∧ H t = some (.lst (tubV b)) ∧ AtL K G vs' ds ∧ D b ds ∧
  ∀ b' r v G' H', R b ds b' r → Grow G (L2.del H t) G' (L2.del H' t) → H' t = some (.lst (tubV b')) → At K G' v r → Q v H'
theorem tub_at {K : PySem.W.Frag} {G : Hp} (b : Tb) : AtL K G (tubV b) (tubD b) := .cons (.int _) (.cons (.int _) (.cons (.int _) .nil))
theorem tub_eq {K : PySem.W.Frag} {G : Hp} {xs : List V} {b : Tb} (h : AtL K G xs (tubD b)) : xs = tubV b := by
  cases h with
  | cons h1 h2 =>
    cases h1
    cases h2 with
    | cons h1 h2 =>
      cases h1
      cases h2 with
      | cons h1 h2 =>
        cases h1
        cases h2
        rfl
theorem del_some {H : Hp} {t a : Addr} {o : HO} (h : L2.del H t a = some o) : a ≠ t ∧ H a = some o := by
  unfold L2.del at h
  by_cases e : a = t
  · rw [if_pos e] at h
    cases h
  · rw [if_neg e] at h
    exact ⟨e, h⟩
theorem del_of {H : Hp} {t a : Addr} {o : HO} (h : H a = some o) (e : a ≠ t) : L2.del H t a = some o := by rw [L2.del_ne e]; exact h
theorem tub_callee {Gb Hb G H G' H' : Hp} {t : Addr} (g : Grow Gb Hb G H) (ht : Hb t = none) (k : Grow G (L2.del H t) G' (L2.del H' t)) : Grow Gb Hb G' H' := by
  refine ⟨fun a o h => ?_, g.gg.trans k.gg, fun a o h => (del_some (k.gh a o h)).2, fun a h => ?_⟩
  · have hne : a ≠ t := fun e => by rw [e, ht] at h; cases h
    exact (del_some (k.hh a o (del_of (g.hh a o h) hne))).2
  · rcases k.fr a h with h | h
    · exact g.fr a h
    · by_cases e : a = t
      · exact .inr (by rw [e]; exact ht)
      · rw [L2.del_ne e] at h
        exact .inr (Same.free g.hh h)
section
variable {X : Cx} {a b e : Expr} {es : List Expr} {δ : De} {d : Da} {PP : De → Da → Prop} {pos p p2 : Pos} {x y : Str} {rest : List Stmt} {O : Post}
/-- f(tub, e, ..) -/
theorem ee_callT {CX : CXT} {k j : Nat} {D : Tb → List Da → Prop} {R : Tb → List Da → Tb → Da → Prop} {EX : XK} (i : Nat) {t : Addr} (c : Dfn X.prog X.w X.K X.mg X.base CX k x (SpT X.K D R)) (hr : Room j X.A) (hk : k ≤ j) (hx : Passes CX X EX)
    (h0 : ∃ ds, δ[i]? = some (Cl.ow t ds)) (h : EEA X es δ fun δ' ds => ∃ bb, δ'[i]? = some (Cl.ow t (tubD bb)) ∧ D bb ds ∧ ∀ b' r, R bb ds b' r → PP (δ'.set i (.ow t (tubD b'))) r) (hN : X.N[i]? = some y := by rfl)
    (hv : Vis X.env.scope y := by first | exact Or.inl rfl | exact Or.inr (Or.inl rfl) | exact Or.inr (Or.inr rfl)) (hd1 : (y == ("__debug__" : Str)) = false := by decide) (hcd : (y == ("__classdict__" : Str)) = false := by decide) (hg : Gl X x := by rfl)
    (hdb : (x == ("__debug__" : Str)) = false := by decide) (he : starEach (.Name y p2 :: es) X.env = (false, eval (.Name y p2) X.env) :: starEach es X.env := by rfl) (hpl : (backTo pos (starEach es X.env)).any (·.1) = false := by rfl) : EE X (.Call (.Name x p) (.Name y p2 :: es) [] pos) δ PP := fun Gb Hb σ G H g St Q q => by
  obtain ⟨ds0, h0⟩ := h0
  obtain ⟨w0, w1, _, _, _, _⟩ := St.ow i t ds0 h0
  refine we_call c hr hk hx (wa_of (pa_cons (pe_var hN hv hd1 hcd) WA.pa he) ⟨_, w0, ?_⟩) hg hdb he hpl
  refine h Gb Hb σ G H g St _ fun δ' vs ds G' H' hp g1 s1 S1 hvs => ?_
  obtain ⟨bb, hb, hD, hR⟩ := hp
  obtain ⟨w0', _, k2, xs, k3, k4⟩ := S1.ow i t _ hb
  have ex := tub_eq k4
  subst ex
  refine ⟨G', t, bb, ds, vs, rfl, fun b o z => del_of (g1.gh b o z) (fun e => by rw [e, k2] at z; cases z), k3, hvs, hD, fun b' r v G2 H2 hr2 gk ht hv2 => ?_⟩
  have g2 := tub_callee g1 w1 gk
  have hi : i < δ'.length := (List.getElem?_eq_some_iff.mp hb).1
  refine q _ v r G2 H2 (hR b' r hr2) g2 (s1.trans gk.gg) ⟨⟨by rw [List.length_set]; exact S1.sk.ln, fun j dd z => ?_⟩, fun j q' es' z => ?_, fun j l p1 p2 es1 es2 hn z1 z2 => ?_⟩ hv2
  · rcases get_set z with ⟨rfl, z2, _⟩ | ⟨hn, z⟩
    · cases z2
    · obtain ⟨u, u1, u2⟩ := S1.sk.kn j dd z
      exact ⟨u, u1, u2.up gk.gg⟩
  · rcases get_set z with ⟨rfl, z2, _⟩ | ⟨hn, z⟩
    · cases z2
      refine ⟨w0', w1, ?_, _, ht, tub_at b'⟩
      cases e : G2 t with
      | none => rfl
      | some o =>
        have := (del_some (gk.gh t o e)).1
        exact absurd rfl this
    · obtain ⟨u0, u1, u2, ys, u3, u4⟩ := S1.ow j q' es' z
      have hne : q' ≠ t := S1.ap j i q' t es' _ (fun e => hn e.symm) z hb
      refine ⟨u0, u1, gk.unk u2 (by rw [L2.del_ne hne, u3]; exact fun z => nomatch z), ys, ?_, u4.up gk.gg⟩
      exact (del_some (gk.hh q' _ (del_of u3 hne))).2
  · rcases get_set z1 with ⟨rfl, y1, _⟩ | ⟨hn1, z1⟩
    · cases y1
      rcases get_set z2 with ⟨rfl, y2, _⟩ | ⟨hn2, z2⟩
      · exact absurd rfl hn
      · exact S1.ap i l t p2 _ es2 hn hb z2
    · rcases get_set z2 with ⟨rfl, y2, _⟩ | ⟨hn2, z2⟩
      · cases y2
        exact S1.ap j i p1 t es1 _ hn z1 hb
      · exact S1.ap j l p1 p2 es1 es2 hn z1 z2
end
/-- the start store of a def that is handed the tub -/
def entryT (N : List Str) (t : Addr) (b : Tb) (ds : List Da) : De := .ow t (tubD b) :: (ds.map .kn ++ List.replicate (N.length - (ds.length + 1)) .no)
section
variable {P : Program} {w : World} {K : PySem.W.Frag} {mg : Str → Option Value} {base : Heap}
theorem dfnT_of {k : Nat} {x : Str} {params : Arguments} {body : List Stmt} {scope : Scope} {N ps : List Str} {D : Tb → List Da → Prop} {R : Tb → List Da → Tb → Da → Prop} {f : Addr} {fd : FuncData} (F : FunD K x x params body scope [] [] f fd) (hg : mg x = some (.ref f)) (sc : FnScope N ps scope) (hl : ∀ b ds, D b ds → ds.length + 1 = ps.length)
    (hb : ∀ (kV doc pm : Value) (an : Option Addr) (cdv ct : Value) (us : List Value), us.length = ps.length → bindArgs (PySem.W.fnOf x x params body scope .none kV doc pm an cdv ct) ⟨us, []⟩ = pure (ps.zip us))
    (walk : ∀ f cdv A outer s H EX, Room k (Wx P w K mg base N x scope f cdv A outer s H EX).A → ∀ t b ds, D b ds → S (Wx P w K mg base N x scope f cdv A outer s H EX) body (entryT N t b ds) ⟨fun _ => False, fun δ' d => ∃ b', δ'[0]? = some (Cl.ow t (tubD b')) ∧ R b ds b' d⟩) : Dfn P w K mg base CX0 (k + 1) x (SpT K D R) := by
  refine ⟨f, fd, ps, ?_, hg, F.kp, FunD.bindsN F hb⟩
  refine F.ok sc (fun vs H Q EX h => ?_) fun cdv A outer s H vs Q EX hr h => ⟨_, PSs.nox WSs.pss, ?_⟩
  · obtain ⟨G, t, b, ds, vs', rfl, _, _, hv, hD, _⟩ := h
    rw [List.length_cons, hv.len, hl b ds hD]
  · obtain ⟨G, t, b, ds, vs', rfl, e, ht, hv, hD, hQ⟩ := h
    have gt : G t = none := by
      cases z : G t with
      | none => rfl
      | some o => exact absurd rfl (del_some (e t o z)).1
    have sH : Same G H := fun a o z => (del_some (e a o z)).2
    have g0 : Grow G (L2.del H t) G H := ⟨fun a o z => (del_some z).2, Same.refl _, sH, fun _ z => .inl z⟩
    have St : Sto K (L2.del H t) G H (L2.start N (.ref t :: vs')) (entryT N t b ds) := by
      have hs : L2.start N (.ref t :: vs') = some (.ref t) :: (vs'.map some ++ List.replicate (N.length - (vs'.length + 1)) none) := rfl
      have key : ∀ (i : Nat) c, (ds.map Cl.kn ++ List.replicate (N.length - (ds.length + 1)) Cl.no)[i]? = some c → (∃ d, c = .kn d ∧ ∃ v, (vs'.map some ++ List.replicate (N.length - (vs'.length + 1)) none)[i]? = some (some v) ∧ At K G v d) ∨ c = .no := fun i c z => by
        by_cases hi : i < ds.length
        · rw [List.getElem?_append_left (by rw [List.length_map]; exact hi), List.getElem?_map] at z
          cases q : ds[i]? with
          | none => rw [q] at z; cases z
          | some u =>
            rw [q] at z
            cases z
            obtain ⟨v, e1, hv'⟩ := hv.get q
            exact .inl ⟨u, rfl, v, by rw [List.getElem?_append_left (by rw [List.length_map, hv.len]; exact hi), List.getElem?_map, e1] <;> rfl, hv'⟩
        · rw [List.getElem?_append_right (by rw [List.length_map]; omega), List.getElem?_replicate] at z
          split at z
          · cases z
            exact .inr rfl
          · cases z
      refine ⟨⟨?_, fun i d z => ?_⟩, fun i p es z => ?_, fun i j p q es es' hn z1 z2 => ?_⟩
      · rw [hs]
        unfold entryT
        simp [hv.len]
      · cases i with
        | zero => cases z
        | succ i =>
          rcases key i _ z with ⟨d', e1, v, e2, e3⟩ | e1
          · cases e1
            exact ⟨v, e2, e3⟩
          · cases e1
      · cases i with
        | zero =>
          cases z
          exact ⟨rfl, L2.del_same, gt, _, ht, tub_at b⟩
        | succ i =>
          rcases key i _ z with ⟨d', e1, _⟩ | e1
          · cases e1
          · cases e1
      · cases i with
        | zero =>
          cases j with
          | zero => exact absurd rfl hn
          | succ j =>
            rcases key j _ z2 with ⟨d', e1, _⟩ | e1 <;> cases e1
        | succ i =>
          rcases key i _ z1 with ⟨d', e1, _⟩ | e1 <;> cases e1
    refine walk f cdv A outer s H EX hr t b ds hD G (L2.del H t) _ G H _ g0 St (fun δ' σ' G' H' q _ _ => q.elim) fun δ' r σ' v G' H' q g S' hv' => ?_
    obtain ⟨b', hb', hR⟩ := q
    obtain ⟨_, _, k2, xs, k3, k4⟩ := S'.ow 0 t _ hb'
    have ex := tub_eq k4
    subst ex
    refine hQ b' r v G' H' hR ⟨fun a o z => ?_, g.gg, fun a o z => ?_, g.fr⟩ k3 hv'
    · exact del_of (g.hh a o z) (del_some z).1
    · exact del_of (g.gh a o z) (fun e => by rw [e, k2] at z; cases z)
end
end Fs
set_option Elab.async false
set_option linter.all false
set_option maxRecDepth 100000
set_option maxHeartbeats 2000000
/-! The walks: _law_take, _law_of. -/
namespace Fs
open PySem PySem.Spec PyProof.Rows L2
section
variable {K : PySem.W.Frag}
theorem od_mul {i j : Int} (h : CMul i j) : OpD K (rI CMul fun i j => .int (i * j)) (.int i) (.int j) (.int (i * j)) := od_I h fun _ => .int _
theorem od_fdiv {i j : Int} (h : CDiv i j) : OpD K (rI CDiv fun i j => .int (i / j)) (.int i) (.int j) (.int (i / j)) := od_I h fun _ => .int _
theorem od_mod {i j : Int} (h : 0 < j) : OpD K (rI (fun _ j => 0 < j) fun i j => .int (i % j)) (.int i) (.int j) (.int (i % j)) := od_I (C := fun _ j => 0 < j) h fun _ => .int _
theorem od_pow {i j : Int} (h : CPow i j) : OpD K (rI CPow fun i j => .int (i ^ j.toNat)) (.int i) (.int j) (.int (i ^ j.toNat)) := od_I h fun _ => .int _
end
theorem lf_int (i : Int) : lf (.int i) = true := by simp [lf]
section
variable {P : Program} {w : World} {K : PySem.W.Frag} {mg : Str → Option Value} {base : Heap}
/-- the counter is small -/
def Tok (m : Int) (b : Tb) : Prop := 0 ≤ b.2.2 ∧ b.2.2 ≤ m
theorem f_take (T : Tp K mg) {k : Nat} : Dfn P w K mg base CX0 (k + 1) "_law_take" (SpT K (fun b ds => ∃ n : Int, ds = [.int n] ∧ 1 ≤ n ∧ n ≤ 1000 ∧ Tok 1000000 b) fun b ds b' r => ∃ n i : Int, ds = [.int n] ∧ r = .int i ∧ 0 ≤ i ∧ i < n ∧ Tok (b.2.2 + 1) b') := by
  obtain ⟨fd, F⟩ := T.c.def_ 21 (d := d_law_take) rfl
  refine dfnT_of F (T.glo 21) sc_law_take ?_ (fun _ _ _ _ _ _ us hl => match us, hl with | [_, _], _ => rfl) ?_
  · rintro b ds ⟨n, rfl, _⟩; rfl
  · rintro f cdv A outer s H EX hr t ⟨a, b, c⟩ ds ⟨n, rfl, h1, h2, h3, h4⟩
    have h3 : 0 ≤ c := h3
    have h4 : c ≤ 1000000 := h4
    have nd := sc_law_take.nd
    refine s_if (k := decide (0 < a)) (eb_cmpE op_gt (e_ix 0 (e_var 0 rfl) e_int (.inr rfl) rfl rfl) e_int od_gt) (fun _ => ?_) (fun _ => s_nil ?_)
    · refine s_setF 2 (e_op op_mod (e_intI T (e_ix 0 (e_var 0 rfl) e_int (.inr rfl) rfl rfl)) (e_var 1 rfl) (od_mod (by omega))) (lf_int _) nd ?_
      refine s_setIx 0 0 rfl (e_op op_fdiv (e_ix 0 (e_var 0 rfl) e_int (.inr rfl) rfl rfl) (e_var 1 rfl) (od_fdiv ⟨by omega, by omega⟩)) (lf_int _) e_int rfl (by simp [tubD]) ?_
      exact s_ret (e_var 2 rfl) ⟨(a / n, b, c), rfl, n, a % n, rfl, rfl, Int.emod_nonneg _ (by omega), Int.emod_lt_of_pos _ (by omega), h3, by show c ≤ c + 1; omega⟩
    · refine s_setIx 0 2 rfl (e_op op_add (e_ix 2 (e_var 0 rfl) e_int (.inr rfl) rfl rfl) e_int od_add) (lf_int _) e_int rfl (by simp [tubD]) ?_
      refine s_setF 3 (e_op op_mod (e_intI T (e_op op_mul (e_op op_add (e_ix 1 (e_var 0 rfl) e_int (.inr rfl) rfl rfl) (e_op op_mul e_int (e_ix 2 (e_var 0 rfl) e_int (.inr rfl) rfl rfl) (od_mul (.inl (by decide)))) od_add) (e_op op_add e_int (e_ix 2 (e_var 0 rfl) e_int (.inr rfl) rfl rfl) od_add) (od_mul (.inr (by omega))))) e_int (od_mod (by decide))) (lf_int _) nd ?_
      refine s_set 4 (e_op op_add (e_op op_mod (e_intI T (e_var 3 rfl)) e_int (od_mod (by decide))) e_int od_add) nd ?_
      generalize hon : ((b + 48271 * (c + 1)) * (39373 + (c + 1))) % 2147483647 = on
      have hodd := Int.emod_lt_of_pos on (show (0 : Int) < 40009 by decide)
      have hodd0 := Int.emod_nonneg on (show (40009 : Int) ≠ 0 by decide)
      refine s_setF 5 (e_op op_mod (e_intI T (e_op op_mul (e_op op_add (e_op op_add (e_var 3 rfl) (e_ix 2 (e_var 0 rfl) e_int (.inr rfl) rfl rfl) od_add) (e_op op_fdiv (e_ix 1 (e_var 0 rfl) e_int (.inr rfl) rfl rfl) e_int (od_fdiv ⟨by decide, by decide⟩)) od_add) (e_var 4 rfl) (od_mul (.inr ⟨by omega, by omega⟩)))) e_int (od_mod (by decide))) (lf_int _) nd ?_
      refine s_ret (e_op op_mod (e_intI T (e_op op_fdiv (e_op op_mod (e_intI T (e_op op_add (e_op op_mul (e_var 5 rfl) e_int (od_mul (.inr (by decide)))) (e_var 3 rfl) od_add)) e_int (od_mod (by decide))) e_int (od_fdiv ⟨by decide, by decide⟩))) (e_var 1 rfl) (od_mod (by omega))) ⟨(a, b, c + 1), rfl, n, _, rfl, rfl, Int.emod_nonneg _ (by omega), Int.emod_lt_of_pos _ (by omega), by show 0 ≤ c + 1; omega, Int.le_refl _⟩
end
end Fs
set_option Elab.async false
set_option linter.all false
set_option maxRecDepth 100000
set_option maxHeartbeats 2000000
/-! Comprehensions and loops with the tub; _law_of, _law_set. -/
namespace Fs
open PySem PySem.Spec PyProof.Rows L2
section
variable {X : Cx} {a b c e : Expr} {es : List Expr} {δ : De} {d : Da} {ds : List Da} {PP : De → Da → Prop} {pos p : Pos} {x : Str} {rest body : List Stmt} {O : Post}
theorem ee_ixL (ha : E X a δ (.lst ds)) (hb : EE X b δ fun δ2 d2 => ∃ (n : Nat) (r : Da), d2 = .int (n : Int) ∧ ds[n]? = some r ∧ PP δ2 r) (hs : PlainIx b := by intro _ _; rfl) : EE X (.Subscript a b pos) δ PP := fun Gb Hb σ G H g St Q q =>
  we_of (pe_ix ix_list WE.pe WE.pe hs) (ha σ G St.sk H g.gh _ fun v G2 H2 g2 hv => hb Gb Hb σ G2 H2 (g.trans g2) (St.up g2) _ fun δ' u d2 G3 H3 h3 g3 s3 S3 hu => by
    obtain ⟨n, r, rfl, hx, hp⟩ := h3
    cases hu
    cases hv with
    | @lst a vs _ a1 a2 =>
      obtain ⟨v, e2, hv⟩ := a2.get hx
      exact ⟨a, vs, (n : Int), v, rfl, rfl, Same.sqL g3.gh (s3 _ _ a1), atI_nat e2, q δ' v r G3 H3 hp g3 (g2.gg.trans s3) S3 (hv.up s3)⟩)
/-- tests with changes -/
def EBE (X : Cx) (e : Expr) (δ : De) (P : De → Bool → Prop) : Prop := ∀ Gb Hb σ G H, Grow Gb Hb G H → Sto X.K Hb G H σ δ → ∀ Q : Bool → Hp → Prop,
  (∀ δ' k G' H', P δ' k → Grow Gb Hb G' H' → Same G G' → Sto X.K Hb G' H' σ δ' → Q k H') → WT X e σ H Q
def EETs (X : Cx) (ifs : List Expr) (δ : De) (P : De → Bool → Prop) : Prop := ∀ Gb Hb σ G H, Grow Gb Hb G H → Sto X.K Hb G H σ δ → ∀ Q : Bool → Hp → Prop,
  (∀ δ' k G' H', P δ' k → Grow Gb Hb G' H' → Same G G' → Sto X.K Hb G' H' σ δ' → Q k H') → WTs X ifs σ H Q
theorem ebe_cmp {op : CmpOp} {f : R2} {PB : De → Bool → Prop} (hf : OpR X (compareOp op) f) (h : EE X a δ fun δ1 d1 => EE X b δ1 fun δ2 d2 => ∃ k, OpD X.K f d1 d2 (.bl k) ∧ PB δ2 k) (hm : behindInMarks op b = false := by first | exact nomark _ | rfl) : EBE X (.Compare a [op] [b] pos) δ PB := fun Gb Hb σ G H g St Q q =>
  wt_of (pt_cmpR hf WE.pe WE.pe hm) (h Gb Hb σ G H g St _ fun δ1 v d1 G1 H1 h1 g1 s1 S1 hv => h1 Gb Hb σ G1 H1 g1 S1 _ fun δ2 u d2 G2 H2 h2 g2 s2 S2 hu => by
    obtain ⟨k, ho, hp⟩ := h2
    exact ho v u G2 H2 _ g2.gh (hv.up s2) hu fun z G3 H3 g3 hz => by
      cases hz
      exact ⟨k, rfl, q δ2 k G3 H3 hp (g2.trans g3) ((s1.trans s2).trans g3.gg) (S2.up g3)⟩)
theorem eets_nil {PB : De → Bool → Prop} (h : PB δ true) : EETs X [] δ PB := fun Gb Hb σ G H g St Q q pins s I => pts_nil.run pins s σ H Q I (q δ true G H h g (Same.refl _) St)
theorem eets_one {PB : De → Bool → Prop} (h : EBE X c δ PB) : EETs X [c] δ PB := fun Gb Hb σ G H g St Q q pins s I => (pts_one WT.pt).run pins s σ H Q I (h Gb Hb σ G H g St Q q)
end
/-- the store of a block, the tub's contents told -/
def blkD (δ : De) (vs : List Nat) (i0 i : Nat) (t : Addr) (b : Tb) (x : Da) : De := ((wipeD δ vs).set i0 (.ow t (tubD b))).set i (.kn x)
theorem wipeD_at {δ : De} {i : Nat} : ∀ {vs : List Nat}, i ∉ vs → (wipeD δ vs)[i]? = δ[i]?
  | [], _ => rfl
  | v :: vs, h => by
    show ((wipeD δ vs).set v .no)[i]? = _
    rw [List.getElem?_set_ne (fun e => h (by rw [e]; exact List.mem_cons_self))]
    exact wipeD_at fun z => h (List.mem_cons_of_mem _ z)
theorem wipeD_ow {δ : De} {i : Nat} {p : Addr} {ds : List Da} : ∀ {vs : List Nat}, (wipeD δ vs)[i]? = some (Cl.ow p ds) → δ[i]? = some (Cl.ow p ds)
  | [], h => h
  | v :: vs, h => by
    rcases get_set (show ((wipeD δ vs).set v .no)[i]? = some (Cl.ow p ds) from h) with ⟨_, e, _⟩ | ⟨_, h⟩
    · cases e
    · exact wipeD_ow h
theorem wipeD_len {δ : De} : ∀ {vs : List Nat}, (wipeD δ vs).length = δ.length
  | [] => rfl
  | v :: vs => by
    show ((wipeD δ vs).set v .no).length = _
    rw [List.length_set, wipeD_len]
section
variable {X : Cx} {elt tg iter : Expr} {ifs : List Expr} {scope : Scope} {own : List (Str × Nat)} {δ : De} {items : List Da} {pos p : Pos} {PP : De → Da → Prop} {x : Str} {rest body : List Stmt} {O : Post}
/-- a tub alone: what Sto says -/
theorem sto_tub {K : PySem.W.Frag} {Hb G H : Hp} {σ : L2.St} {δ : De} {i0 : Nat} {t : Addr} {b : Tb} (sk : StK K G σ δ) (hown : ∀ l p ds, δ[l]? = some (Cl.ow p ds) → l = i0) (h0 : δ[i0]? = some (Cl.ow t (tubD b))) (e : σ[i0]? = some (some (.ref t))) (hb : Hb t = none) (hg : G t = none) (hh : H t = some (.lst (tubV b))) : Sto K Hb G H σ δ :=
  ⟨sk, fun i p ds z => by
    have := hown i p ds z
    subst this
    rw [h0] at z
    cases z
    exact ⟨e, hb, hg, _, hh, tub_at b⟩, fun i j p q ds es hn z1 z2 => absurd ((hown i p ds z1).trans (hown j q es z2).symm) hn⟩
theorem stk_set_ow {K : PySem.W.Frag} {G : Hp} {σ : L2.St} {δ : De} (S : StK K G σ δ) (i : Nat) (p : Addr) (ds : List Da) : StK K G σ (δ.set i (.ow p ds)) := ⟨by rw [List.length_set]; exact S.ln, fun j d z => by
  rcases get_set z with ⟨_, e, _⟩ | ⟨_, z⟩
  · cases e
  · exact S.kn j d z⟩
/-- [elt for x in iter if ..], with the tub -/
theorem ee_lcT (i0 i : Nat) {t : Addr} {b0 : Tb} (hown : ∀ l p ds, δ[l]? = some (Cl.ow p ds) → l = i0) (h0 : δ[i0]? = some (Cl.ow t (tubD b0))) (hi0 : i0 ∉ own.map (·.2)) (hii : i ≠ i0) (hsrc : SrcE X tg iter δ items) (I : Nat → Tb → List Da → Prop) (hI0 : I 0 b0 [])
    (turn : ∀ j y b acc, items[j]? = some y → I j b acc → ∀ s0 H0 C cl fp, EETs (Blk X scope s0 H0 C cl fp) ifs (blkD δ (own.map (·.2)) i0 i t b y) fun δ2 k => ∃ b2, δ2[i0]? = some (Cl.ow t (tubD b2)) ∧
      if k = true then ∀ s0 H0 C cl fp, EE (Blk X scope s0 H0 C cl fp) elt δ2 fun δ3 z => ∃ b3, δ3[i0]? = some (Cl.ow t (tubD b3)) ∧ I (j + 1) b3 (acc ++ [z]) else I (j + 1) b2 acc)
    (hz : items.length ≤ 100000) (fin : ∀ b acc, I items.length b acc → PP (δ.set i0 (.ow t (tubD b))) (.lst acc)) (hlen : ∀ j b acc, I j b acc → acc.length ≤ j)
    (hN : X.N.Nodup) (ok : BlkOk X.N X.env.scope scope own) (hg : ∀ s0 H0 C cl fp, PG (Blk X scope s0 H0 C cl fp) tg (gName i)) (hi : i ∈ own.map (·.2) := by decide) (hc : X.calm = true := by rfl) (hs : ∀ x, foldedSetIterable iter X.env x = pure x := by intro _; rfl) :
    EE X (.ListComp elt [⟨tg, iter, ifs, 0⟩] scope pos) δ PP := fun Gb Hb σ G H g St Q q => by
  obtain ⟨item, ⟨wi, hwi, hw⟩, hit⟩ := hsrc σ G St.sk
  obtain ⟨w0, w1, w2, _, w3, w4⟩ := St.ow i0 t _ h0
  have ex := tub_eq w4
  subst ex
  refine we_of (pe_lc (g := gName i) (tt := fun σ H Q => ∀ s0 H0 C cl fp, WTs (Blk X scope s0 H0 C cl fp) ifs σ H Q) (te := fun σ H Q => ∀ s0 H0 C cl fp, WE (Blk X scope s0 H0 C cl fp) elt σ H Q) hc hN hwi ok (fun s0 H0 C cl fp => hg s0 H0 C cl fp)
    (fun s0 H0 C cl fp => ⟨fun pins s σ H Q I h => h s0 H0 C cl fp pins s I⟩) (fun s0 H0 C cl fp => ⟨fun pins s σ H Q I h => h s0 H0 C cl fp pins s I⟩) hs) ?_
  refine hw H g.gh _ fun J G2 H2 g2 w D hD => ?_
  have gD : G2 D = none := Same.free g2.gh hD
  have hDt : D ≠ t := fun e => by rw [e, g2.keeps w3] at hD; cases hD
  have hbD : Hb D = none := g.free (g2.free hD)
  have St2 := St.up g2
  have gt2 : G2 t = none := (St2.ow i0 t _ h0).2.2.1
  have i0l : i0 < δ.length := (List.getElem?_eq_some_iff.mp h0).1
  refine lc_it (g := gName i) (vs := own.map (·.2)) (σ := σ) (tt := fun σ H Q => ∀ s0 H0 C cl fp, WTs (Blk X scope s0 H0 C cl fp) ifs σ H Q) (te := fun σ H Q => ∀ s0 H0 C cl fp, WE (Blk X scope s0 H0 C cl fp) elt σ H Q) (Qd := fun H => Q (.ref D) H) w
    (fun j H => ∃ Gc b acc vs, Grow Gb Hb Gc H ∧ Same G2 Gc ∧ Gc t = none ∧ H t = some (.lst (tubV b)) ∧ H D = some (.lst vs) ∧ Gc D = none ∧ AtL X.K Gc vs acc ∧ I j b acc)
    ⟨G2, b0, [], [], (g.trans g2).trans (Grow.own g2.gh hD), Same.refl _, gt2, by rw [upd_ne (fun e => hDt e.symm)]; exact g2.keeps w3, upd_same, gD, .nil, hI0⟩ (fun j H _ h => ?_) (fun j y H H' hj h hy => ?_) (fun H h => ?_)
  · obtain ⟨Gc, b, acc, vs, gr, sg, _⟩ := h
    exact sg.trans gr.gh
  · obtain ⟨Gc, b, acc, vs, gr, sg, ct, eT, eD, cD, ha, hI⟩ := h
    obtain ⟨Gx, gx, hx⟩ := hy Gc sg gr.gh
    rw [hit j hj] at hx
    have hx0 := getD_some hj
    generalize items.getD j .non = y0 at hx hx0
    have eT' := gx.keeps eT
    have eD' := gx.keeps eD
    have gtx : Gx t = none := gx.unk ct (by rw [eT]; exact fun z => nomatch z)
    have gDx : Gx D = none := gx.unk cD (by rw [eD]; exact fun z => nomatch z)
    -- the base of this turn: the heap without the tub
    have g0 : Grow Gx (L2.del H' t) Gx H' := ⟨fun a o z => (del_some z).2, Same.refl _, gx.gh, fun _ z => .inl z⟩
    have skx : StK X.K Gx ((wipe σ (own.map (·.2))).set i (some y)) (blkD δ (own.map (·.2)) i0 i t b y0) := by
      have h1 : StK X.K Gx (wipe σ (own.map (·.2))) ((wipeD δ (own.map (·.2))).set i0 (.ow t (tubD b))) := stk_set_ow ((St2.sk.up (sg.trans gx.gg)).wipe _) i0 t _
      exact h1.set hx i
    have Stx : ∀ s0 H0 C cl fp, Sto (Blk X scope s0 H0 C cl fp).K (L2.del H' t) Gx H' ((wipe σ (own.map (·.2))).set i (some y)) (blkD δ (own.map (·.2)) i0 i t b y0) := fun s0 H0 C cl fp => by
      refine sto_tub (i0 := i0) (b := b) skx (fun l p ds z => ?_) ?_ ?_ L2.del_same gtx eT'
      · rcases get_set z with ⟨_, e, _⟩ | ⟨_, z⟩
        · cases e
        · rcases get_set z with ⟨e, _, _⟩ | ⟨_, z⟩
          · exact e.symm
          · exact hown l p ds (wipeD_ow z)
      · unfold blkD
        rw [List.getElem?_set_ne hii, List.getElem?_set_self (by rw [wipeD_len]; exact i0l)]
      · rw [List.getElem?_set_ne hii, wipe_out hi0]
        exact w0
    show wipe ((wipe σ (own.map (·.2))).set i (some y)) (own.map (·.2)) = _ ∧ _
    refine ⟨by rw [wipe_in hi, wipe_idem], fun s0 H0 C cl fp => ?_⟩
    refine turn j y0 b acc hx0 hI s0 H0 C cl fp Gx (L2.del H' t) _ Gx H' g0 (Stx s0 H0 C cl fp) _ fun δ2 k G3 H3 hP g3 s3 S3 => ?_
    obtain ⟨b2, hb2, hk⟩ := hP
    obtain ⟨_, _, u2, _, u3, u4⟩ := S3.ow i0 t _ hb2
    have ex := tub_eq u4
    subst ex
    have back : ∀ {Gy Hy : Hp}, Grow Gx (L2.del H' t) Gy Hy → Grow Gb Hb Gy Hy := fun {Gy Hy} gy => by
      refine ⟨fun a o z => ?_, (gr.trans gx).gg.trans gy.gg, gy.gh, fun a z => ?_⟩
      · have hne : a ≠ t := fun e => by rw [e, w1] at z; cases z
        exact gy.hh a o (del_of ((gr.trans gx).hh a o z) hne)
      · rcases gy.fr a z with z | z
        · exact (gr.trans gx).fr a z
        · by_cases e : a = t
          · exact .inr (by rw [e]; exact w1)
          · rw [L2.del_ne e] at z
            exact .inr (Same.free (gr.trans gx).hh z)
    have atD : ∀ {Gy Hy : Hp}, Grow Gx (L2.del H' t) Gy Hy → Hy D = some (.lst vs) ∧ Gy D = none := fun {Gy Hy} gy =>
      ⟨gy.hh D _ (del_of eD' hDt), gy.unk gDx (by rw [L2.del_ne hDt, eD']; exact fun z => nomatch z)⟩
    cases k with
    | false =>
      rw [if_neg Bool.false_ne_true] at hk ⊢
      exact ⟨G3, b2, acc, vs, back g3, (sg.trans gx.gg).trans s3, u2, u3, (atD g3).1, (atD g3).2, ha.up (gx.gg.trans s3), hk⟩
    | true =>
      rw [if_pos rfl] at hk ⊢
      intro s0 H0 C cl fp
      refine hk s0 H0 C cl fp Gx (L2.del H' t) _ G3 H3 g3 S3 _ fun δ3 z dz G4 H4 hP4 g4 s4 S4 hz4 => ?_
      obtain ⟨b3, hb3, hI3⟩ := hP4
      obtain ⟨_, _, t2, _, t3, t4⟩ := S4.ow i0 t _ hb3
      have ex := tub_eq t4
      subst ex
      have hl := hlen (j + 1) b3 _ hI3
      rw [List.length_append, List.length_singleton] at hl
      refine ⟨vs, (atD g4).1, by rw [ha.len]; exact Nat.lt_of_lt_of_le (show acc.length < 100000 by omega) (by decide), G4, b3, acc ++ [dz], vs ++ [z], (back g4).chg hbD (atD g4).2, ((sg.trans gx.gg).trans s3).trans s4, t2, ?_, upd_same, (atD g4).2, (ha.up ((gx.gg.trans s3).trans s4)).snoc hz4, hI3⟩
      rw [upd_ne (fun e => hDt e.symm)]
      exact t3
  · obtain ⟨Gc, b, acc, vs, gr, sg, ct, eT, eD, cD, ha, hI⟩ := h
    have gf := gr.frz hbD cD eD
    have sf : Same Gc (upd Gc D (.lst vs)) := fun b o z => by
      rw [upd_ne (ne_of_none z cD)]
      exact z
    have sk' : StK X.K (upd Gc D (.lst vs)) σ (δ.set i0 (.ow t (tubD b))) := stk_set_ow (St2.sk.up (sg.trans sf)) i0 t _
    refine q _ (.ref D) _ _ H (fin b acc hI) gf ((g2.gg.trans sg).trans sf) (sto_tub (i0 := i0) (b := b) sk' (fun l p ds z => ?_) (List.getElem?_set_self i0l) w0 w1 (by rw [upd_ne (fun e => hDt e.symm)]; exact ct) eT) (.lst upd_same (ha.up sf))
    rcases get_set z with ⟨e, _, _⟩ | ⟨_, z⟩
    · exact e.symm
    · exact hown l p ds z
end
section
variable {X : Cx} {e : Expr} {δ : De} {PP : De → Da → Prop} {pos p : Pos}
theorem ee_tuple (T : Tp X.K X.mg) (h : EE X e δ fun δ' d => ∃ ds, (d = .tup ds ∨ d = .lst ds) ∧ PP δ' (.tup ds)) (hg : Gl X "tuple" := by rfl) (he : starEach [e] X.env = (false, eval e X.env) :: starEach [] X.env := by rfl) (hpl : (backTo pos (starEach [] X.env)).any (·.1) = false := by rfl) : EE X (.Call (.Name "tuple" p) [e] [] pos) δ PP := fun Gb Hb σ G H g St Q q =>
  we_of (pe_callTy call_tuple_of hg T.ttup (by decide +kernel) (pa_cons WE.pe pa_nil he) (by decide) (by decide) he hpl) (h Gb Hb σ G H g St _ fun δ' v d G' H' hp g1 s1 S1 hv => by
    obtain ⟨ds, hd, hP⟩ := hp
    exact cd_tuple (X := X) hd [v] G' H' Q g1.gh (.cons hv .nil) fun u G3 H3 g3 hu => q δ' u _ G3 H3 hP (g1.trans g3) (s1.trans g3.gg) (S1.up g3) hu)
end
section
variable {P : Program} {w : World} {K : PySem.W.Frag} {mg : Str → Option Value} {base : Heap}
theorem f_of (T : Tp K mg) {k : Nat} : Dfn P w K mg base CX0 (k + 2) "_law_of" (SpT K (fun b ds => ∃ l : List Str, ds = [.lst (txs l)] ∧ 1 ≤ l.length ∧ l.length ≤ 1000 ∧ Tok 1000000 b) fun b ds b' r => ∃ (l : List Str) (z : Str), ds = [.lst (txs l)] ∧ r = .str z ∧ z ∈ l ∧ Tok (b.2.2 + 1) b') := by
  obtain ⟨fd, F⟩ := T.c.def_ 23 (d := d_law_of) rfl
  refine dfnT_of F (T.glo 23) sc_law_of ?_ (fun _ _ _ _ _ _ us hl => match us, hl with | [_, _], _ => rfl) ?_
  · rintro b ds ⟨n, rfl, _⟩; rfl
  · rintro f cdv A outer s H EX hr t b ds ⟨l, rfl, h1, h2, h3⟩
    refine s_retE (ee_ixL (e_var 1 rfl) (ee_callT 0 (t := t) (f_take (k := 0) T) hr (by omega) pass0 ⟨_, rfl⟩ (eea_pure (a_cons (e_len T (e_var 1 rfl) (.inr rfl)) a_nil) ⟨b, rfl, ⟨_, rfl, by rw [txs_len]; omega, by rw [txs_len]; omega, h3⟩, fun b' r hr => ?_⟩)))
    obtain ⟨n, i, e1, rfl, h4, h5, h6⟩ := hr
    have e2 : n = ((txs l).length : Int) := by
      have := (List.cons.inj e1).1
      cases this
      rfl
    rw [e2, txs_len] at h5
    obtain ⟨m, rfl⟩ : ∃ m : Nat, i = (m : Int) := ⟨i.toNat, by omega⟩
    have hm : m < l.length := by omega
    refine ⟨m, .str l[m], rfl, ?_, b', rfl, l, l[m], rfl, rfl, List.getElem_mem hm, h6⟩
    unfold txs
    rw [List.getElem?_map, List.getElem?_eq_getElem hm]
    rfl
theorem f_set (T : Tp K mg) {k : Nat} : Dfn P w K mg base CX0 (k + 2) "_law_set" (SpT K (fun b ds => ∃ (l : List Str) (n : Int), ds = [.lst (txs l), .int n] ∧ l.length ≤ 40 ∧ 1 ≤ n ∧ n ≤ 1000 ∧ Tok 900000 b) fun b ds b' r => ∃ (l l' : List Str) (n : Int), ds = [.lst (txs l), .int n] ∧ r = .tup (txs l') ∧ l'.Sublist l ∧ Tok (b.2.2 + 40) b') := by
  obtain ⟨fd, F⟩ := T.c.def_ 27 (d := d_law_set) rfl
  refine dfnT_of F (T.glo 27) sc_law_set ?_ (fun _ _ _ _ _ _ us hl => match us, hl with | [_, _, _], _ => rfl) ?_
  · rintro b ds ⟨l, n, rfl, _⟩; rfl
  · rintro f cdv A outer s H EX hr t b ds ⟨l, n, rfl, hl, h1, h2, h3, h4⟩
    have nd := sc_law_set.nd
    refine s_retE (ee_tuple T (ee_lcT 0 3 (t := t) (b0 := b) (items := txs l) (fun i p ds z => ?_) rfl (by decide) (by decide) (r_lst (e_var 1 rfl)) (fun j b' acc => ∃ l', acc = txs l' ∧ l'.Sublist (l.take j) ∧ 0 ≤ b'.2.2 ∧ b'.2.2 ≤ b.2.2 + (j : Int)) ⟨[], rfl, by simp, h3, by simp⟩ (fun j y b' acc hy hI s0 H0 C cl fp => ?_) (by rw [txs_len]; omega) (fun b' acc hI => ?_) (fun j b' acc hI => ?_) nd (blk_ok (own := [("_law_tag", 3)]) (by kernel_rfl)) (fun _ _ _ _ _ => pg_name nd rfl (Or.inl rfl))))
    · match i, z with
      | 0, z => rfl
      | 1, z => cases z
      | 2, z => cases z
      | 3, z => cases z
      | i + 4, z => simp [entryT] at z
    · obtain ⟨l', rfl, hs, q1, q2⟩ := hI
      have hj : j < l.length := by
        have := (List.getElem?_eq_some_iff.mp hy).1
        rw [txs_len] at this
        exact this
      have hy' : y = .str l[j] := by
        unfold txs at hy
        rw [List.getElem?_map, List.getElem?_eq_getElem hj] at hy
        exact (Option.some.inj hy).symm
      subst hy'
      refine eets_one (ebe_cmp op_eq (ee_callT 0 (t := t) (f_take (k := 0) T) hr (by omega) pass0 ⟨_, rfl⟩ (eea_pure (a_cons (e_var 2 rfl) a_nil) ⟨b', rfl, ⟨n, rfl, h1, h2, q1, by omega⟩, fun b2 r hr2 => ?_⟩)))
      obtain ⟨n', i, e1, rfl, h5, h6, h7⟩ := hr2
      refine ee_pure e_int ⟨decide (i = 0), od_eqI, b2, rfl, ?_⟩
      have hsn : l.take (j + 1) = l.take j ++ [l[j]] := take_snoc (List.getElem?_eq_getElem hj)
      have hb := h7.2
      cases hk : decide (i = 0) with
      | true =>
        rw [if_pos rfl]
        intro s0 H0 C cl fp
        refine ee_pure (e_var 3 rfl) ⟨b2, rfl, l' ++ [l[j]], ?_, ?_, h7.1, by omega⟩
        · rw [txs_app]; rfl
        · rw [hsn]
          exact hs.append (List.Sublist.refl _)
      | false =>
        rw [if_neg Bool.false_ne_true]
        refine ⟨l', rfl, ?_, h7.1, by omega⟩
        rw [hsn]
        exact hs.trans (List.sublist_append_left _ _)
    · obtain ⟨l', rfl, hs, q1, q2⟩ := hI
      rw [txs_len] at hs q2
      rw [List.take_length] at hs
      exact ⟨_, .inr rfl, b', rfl, l, l', n, rfl, rfl, hs, q1, by omega⟩
    · obtain ⟨l', rfl, hs, q1, q2⟩ := hI
      rw [txs_len]
      have := hs.length_le
      rw [List.length_take] at this
      omega
end
end Fs
set_option Elab.async false
set_option linter.all false
set_option maxRecDepth 100000
set_option maxHeartbeats 2000000
/-! The walk: _law_part. -/
namespace Fs
open PySem PySem.Spec PyProof.Rows L2
section
variable {X : Cx} {a b e : Expr} {es : List Expr} {δ : De} {d : Da} {ds : List Da} {pos p2 : Pos} {x y : Str} {rest body : List Stmt} {O : Post}
/-- x, y = a, [..]: the first with changes, the second own; plain locals -/
theorem s_parE (i j : Nat) {ds2 : List Da} {px py : Pos} {kt k2 pt2} (h : EE X a δ fun δ1 d1 => EO X b δ1 ds2 ∧ ∀ q, S X rest ((δ1.set i (.kn d1)).set j (.ow q ds2)) O) (hN : X.N.Nodup) (hc : X.calm = true := by rfl) (hi : X.N[i]? = some x := by rfl) (hj : X.N[j]? = some y := by rfl) (hij : i ≠ j := by decide)
    (hx : X.env.scope.names.lookup x = some .local := by rfl) (hy : X.env.scope.names.lookup y = some .local := by rfl) {pt : Pos} (hw : swappedStores [.Tuple [.Name x px, .Name y py] kt pt] (.Tuple [a, b] k2 pt2) X.env = pure (some [x, y]) := by rfl)
    (hs : swapsWithSole [.Tuple [.Name x px, .Name y py] kt pt] (.Tuple [a, b] k2 pt2) pos.line X.env = pure false := by rfl)
    (he1 : starEach [a, b] X.env = (false, eval a X.env) :: starEach [b] X.env := by rfl) (he2 : starEach [b] X.env = (false, eval b X.env) :: starEach [] X.env := by rfl) : S X (.Assign [.Tuple [.Name x px, .Name y py] kt pt] (.Tuple [a, b] k2 pt2) pos :: rest) δ O := fun Gb Hb σ G H D g St n r =>
  sts_cons (ws_of (ps_par hc hN hi hj hij hx hy (pa_cons WE.pe (pa_cons WE.pe pa_nil he2) he1) hw hs) (h Gb Hb σ G H g St _ fun δ1 v d1 G1 H1 hP g1 s1 S1 hv => by
    obtain ⟨hO, k⟩ := hP
    refine hO σ G1 S1.sk H1 g1.gh _ fun q ys G3 H3 g3 w1 w2 w3 w4 => ?_
    have S3 := (S1.up g3).set (hv.up g3.gg) i
    have no2 : ¬ Owned (δ1.set i (.kn d1)) q := fun ⟨l, es, e⟩ => by
      rcases get_set e with ⟨_, e, _⟩ | ⟨_, e⟩
      · cases e
      · obtain ⟨_, _, _, us, q', _⟩ := S1.ow l q es e
        rw [w2] at q'
        cases q'
    exact ⟨_, _, rfl, k q Gb Hb _ G3 H3 D (g1.trans g3) (S3.setO (i := j) (g1.free w2) w1 w3 w4 no2) n r⟩))
/-- for x in range(e): body, e with changes -/
theorem s_forR (i : Nat) {pr posr : Pos} (h : EEA X [a] δ fun δ1 ds => ∃ m : Nat, ds = [.int (m : Int)] ∧ m ≤ 1000000 ∧ ∃ I : Nat → De → Prop, I 0 δ1 ∧ (∀ j δ', j < m → I j δ' → S X body (δ'.set i (.kn (.int (j : Int)))) ⟨I (j + 1), O.rt⟩) ∧ ∀ δ', I m δ' → S X rest δ' O) (hm : X.mg "range" = none) (hN : X.N.Nodup) (hp : PassesOwn (model X.prog X.w) X.A X.env X.xe)
    (hi : X.N[i]? = some x := by rfl) (hx : Loc X.env.scope x := by first | exact Or.inl rfl | exact Or.inr rfl) (hc : X.calm = true := by rfl) (hf : X.fn x = true ∨ X.env.scope.names.lookup x = some .local := by first | exact .inl rfl | exact .inr rfl | assumption) (hg : Gl X "range" := by rfl) (hs1 : starEach [a] X.env = [(false, eval a X.env)] := by rfl)
    (hs : ∀ v, foldedSetIterable (.Call (.Name "range" pr) [a] [] posr) X.env v = pure v := by intro _; rfl) : S X (.For (.Name x p2) (.Call (.Name "range" pr) [a] [] posr) body [] pos :: rest) δ O := fun Gb Hb σ G H D g St n r => by
  refine sts_cons (ws_of (ps_for hp hc (pi_range1 hg hm WA.pa hs1) (pg_name hN hi hx hf) WSs.pss hs) ?_)
  refine h Gb Hb σ G H g St _ fun δ1 vs ds G1 H1 hP g1 s1 S1 hvs => ?_
  obtain ⟨m, rfl, hm1, I, h0, turn, fin⟩ := hP
  cases hvs with
  | cons q1 q2 =>
    cases q2
    cases q1
    refine ⟨(m : Int), rfl, by omega, by omega, ?_⟩
    rw [Int.toNat_natCast]
    refine for_it (walk_range (lo := 0) (n := m)) (fun j σ' H' => ∃ δ' Gc, I j δ' ∧ Grow Gb Hb Gc H' ∧ Sto X.K Hb Gc H' σ' δ') ⟨δ1, G1, h0, g1, S1⟩ (fun _ _ _ _ _ => trivial) (fun j y σ' H' Hx hj hI hy => ?_) (fun σ' H' hI => ?_)
    · obtain ⟨δ', Gc, hI, gc, Sc⟩ := hI
      obtain ⟨rfl, rfl⟩ := hy
      have e0 : (0 : Int) + (j : Int) = j := Int.zero_add _
      show WSs X body _ (σ'.set i (some (.int ((0 : Int) + (j : Int))))) _
      rw [e0]
      exact turn j δ' hj hI Gb Hb _ Gc _ _ gc (Sc.set (.int _) i) (fun δ3 σ3 G3 H3 q g3 S3 => ⟨δ3, G3, q, g3, S3⟩) r
    · obtain ⟨δ', Gc, hI, gc, Sc⟩ := hI
      exact fin δ' hI Gb Hb σ' Gc H' D gc Sc n r
/-- x.append(e), e with changes -/
theorem s_appE (i : Nat) {p : Addr} {p3 p4 p5 : Pos} (ho : ∃ ds0, δ[i]? = some (Cl.ow p ds0)) (h : EE X e δ fun δ' d => ∃ ds, δ'[i]? = some (Cl.ow p ds) ∧ ds.length < 100000 ∧ S X rest (δ'.set i (.ow p (ds ++ [d]))) O) (hN : X.N[i]? = some x := by rfl)
    (hv : Vis X.env.scope x := by first | exact Or.inl rfl | exact Or.inr (Or.inl rfl) | exact Or.inr (Or.inr rfl)) (hs : swapsWith (.Call (.Attribute (.Name x p3) "append" p4) [e] [] p5) none pos.line X.env = pure false := by rfl) (hd1 : (x == ("__debug__" : Str)) = false := by decide) (hcd : (x == ("__classdict__" : Str)) = false := by decide)
    (hbase : attributeBase (.Name x p3) "append" X.env (eval (.Name x p3) X.env) = eval (.Name x p3) X.env := by rfl)
    (hfew : ((backTo p5 (starEach [e] X.env)).all (fun x => !x.1) && (backToKw p5 (keywordEach [] X.env)).all (fun x => x.1.isSome) && decide (([e]).length + ([] : List Keyword).length + (if ([] : List Keyword).isEmpty then 0 else 1) < 30)) = true := by rfl)
    (hline : (p4.endLine == p5.line) = true := by rfl) (hse : starEach [e] X.env = (false, eval e X.env) :: starEach [] X.env := by rfl) (hpl : (backTo p5 (starEach [] X.env)).any (·.1) = false := by rfl) : S X (.Expr (.Call (.Attribute (.Name x p3) "append" p4) [e] [] p5) pos :: rest) δ O := fun Gb Hb σ G H D g St n r => by
  obtain ⟨ds0, ho⟩ := ho
  obtain ⟨h0, h1, h2, xs, h3, h4⟩ := St.ow i p ds0 ho
  refine sts_cons (ws_drop (we_of (pe_bm PySem.F.plainAttrs_list PySem.F.slot_list_append PySem.F.type_list_append mt_append (pe_var hN hv hd1 hcd) (pa_cons WE.pe pa_nil hse) hbase hfew hline hse hpl) ?_) hs)
  refine ⟨_, h0, .inl ⟨rfl, xs, SqL.of h3⟩, h Gb Hb σ G H g St _ fun δ' v d G2 H2 hP g2 s2 S2 hv => ?_⟩
  obtain ⟨ds, hb, hz, k⟩ := hP
  obtain ⟨_, _, k2, xs2, k3, k4⟩ := S2.ow i p ds hb
  refine ⟨p, xs2, v, rfl, rfl, k3, by rw [k4.len]; exact Nat.lt_of_lt_of_le hz (by decide), ?_⟩
  exact k Gb Hb σ G2 _ D (g2.chgO h1 k2) (S2.chg hb (k4.snoc hv)) n r
end
def encL (q : Stp) : List Leaf := [.num q.1, .text q.2.1, .num q.2.2]
theorem rowD_enc (q : Stp) : rowD (encL q) = encS q := rfl
theorem encL_inj {q r : Stp} (h : encL q = encL r) : q = r := by
  unfold encL at h
  rw [List.cons.injEq, List.cons.injEq, List.cons.injEq] at h
  exact Prod.ext (Leaf.num.inj h.1) (Prod.ext (Leaf.text.inj h.2.1) (Leaf.num.inj h.2.2.1))
theorem encL_pre : ∀ {l : List (List Leaf)} {F : List Stp}, (∀ k ∈ l, k ∈ F.map encL) → ∃ s : List Stp, l = s.map encL
  | [], _, _ => ⟨[], rfl⟩
  | k :: l, F, h => by
    obtain ⟨x, _, rfl⟩ := List.mem_map.mp (h k List.mem_cons_self)
    obtain ⟨s, rfl⟩ := encL_pre (l := l) fun k hk => h k (List.mem_cons_of_mem _ hk)
    exact ⟨x :: s, rfl⟩
/-- the steps rise -/
def Rise (s : List Stp) : Prop := s.Pairwise fun q r => dlt (encS q) (encS r) = true
theorem sortU_steps (F : List Stp) : ∃ s, sortU (F.map encL) = s.map encL ∧ s.Nodup ∧ (∀ q, q ∈ s ↔ q ∈ F) ∧ Rise s := by
  obtain ⟨h1, h2, h3⟩ := sortU_ok (F.map encL)
  obtain ⟨s, hs⟩ := encL_pre (l := sortU (F.map encL)) fun k hk => (h2 k).mp hk
  have hm : ∀ (q : Stp) (l : List Stp), encL q ∈ l.map encL ↔ q ∈ l := fun q l => ⟨fun h => by
    obtain ⟨r, hr, e⟩ := List.mem_map.mp h
    rw [← encL_inj e]
    exact hr, fun h => List.mem_map.mpr ⟨q, h, rfl⟩⟩
  rw [hs] at h1 h3
  have nd := nodup_of_map h1
  refine ⟨s, hs, nd, fun q => by rw [← hm, ← hm q F, ← hs]; exact h2 _, ?_⟩
  have h4 := List.pairwise_map.mp h3
  refine (h4.and nd).imp fun {q r} h => ?_
  cases e : dlt (encS q) (encS r) with
  | true => rfl
  | false =>
    have ln : ∀ q : Stp, ∀ x ∈ encL q, x ≠ Leaf.none := fun q x hx => by
      unfold encL at hx
      rcases List.mem_cons.mp hx with rfl | hx
      · exact fun e => nomatch e
      · rcases List.mem_cons.mp hx with rfl | hx
        · exact fun e => nomatch e
        · rw [List.mem_singleton.mp hx]
          exact fun e => nomatch e
    exact absurd (encL_inj (row_anti (ln q) (ln r) e h.1)) h.2
/-- a part as _law_part makes it -/
structure Made (t m : List Str) (k : Int) (p : Pt) : Prop where
  ht : p.t = t
  hm : p.m = m
  hn : 1 ≤ p.n ∧ p.n ≤ k
  hs : p.s.length ≤ 11 ∧ ∀ q ∈ p.s, (0 ≤ q.1 ∧ q.1 < p.n) ∧ (0 ≤ q.2.2 ∧ q.2.2 < p.n) ∧ (q.2.1 ∈ t ∨ q.2.1 ∈ m ∨ q.2.1 = "")
  hr : Rise p.s
theorem txq_list {X : Cx} {e : Expr} {δ : De} {d : Da} {l : List Str} {pos p : Pos} (T : Tp X.K X.mg) (h : E X e δ d) (hd : txq d l) (hg : Gl X "list" := by rfl) (he : starEach [e] X.env = (false, eval e X.env) :: starEach [] X.env := by rfl) (hpl : (backTo pos (starEach [] X.env)).any (·.1) = false := by rfl) : E X (.Call (.Name "list" p) [e] [] pos) δ (.lst (txs l)) := e_list T h hd hg he hpl
theorem txq_tuple {X : Cx} {e : Expr} {δ : De} {d : Da} {l : List Str} {pos p : Pos} (T : Tp X.K X.mg) (h : E X e δ d) (hd : txq d l) (hg : Gl X "tuple" := by rfl) (he : starEach [e] X.env = (false, eval e X.env) :: starEach [] X.env := by rfl) (hpl : (backTo pos (starEach [] X.env)).any (·.1) = false := by rfl) : E X (.Call (.Name "tuple" p) [e] [] pos) δ (.tup (txs l)) := e_tuple T h hd hg he hpl
section
variable {P : Program} {w : World} {K : PySem.W.Frag} {mg : Str → Option Value} {base : Heap}
theorem f_part (T : Tp K mg) {k : Nat} : Dfn P w K mg base CX0 (k + 3) "_law_part" (SpT K (fun b ds => ∃ (d1 d2 : Da) (t m : List Str) (n : Int), ds = [d1, d2, .int n] ∧ txq d1 t ∧ txq d2 m ∧ t.length ≤ 40 ∧ m.length ≤ 40 ∧ 1 ≤ n ∧ n ≤ 1000 ∧ Tok 800000 b)
    fun b ds b' r => ∃ (d1 d2 : Da) (t m : List Str) (n : Int) (p : Pt), ds = [d1, d2, .int n] ∧ txq d1 t ∧ txq d2 m ∧ r = enc p ∧ Made t m n p ∧ Tok (b.2.2 + 40) b') := by
  obtain ⟨fd, F⟩ := T.c.def_ 28 (d := d_law_part) rfl
  refine dfnT_of F (T.glo 28) sc_law_part ?_ (fun _ _ _ _ _ _ us hl => match us, hl with | [_, _, _, _], _ => rfl) ?_
  · rintro b ds ⟨d1, d2, t, m, n, rfl, _⟩; rfl
  · rintro f cdv A outer s H EX hr t ⟨ba, bb, bc⟩ ds ⟨d1, d2, tl, ml, n, rfl, q1, q2, l1, l2, n1, n2, c0, c1⟩
    have c0 : 0 ≤ bc := c0
    have c1 : bc ≤ 800000 := c1
    have nd := sc_law_part.nd
    have hun : (Wx P w K mg base n_law_part "_law_part" d_law_part.scope f cdv A outer s H EX).A.units + 64 < cLine := hr.units
    refine s_parE 4 5 (ds2 := []) (ee_op op_add (ee_pure e_int (ee_callT 0 (t := t) (f_take (k := 0) T) hr (by omega) pass0 ⟨_, rfl⟩ (eea_pure (a_cons (e_var 3 rfl) a_nil) ⟨(ba, bb, bc), rfl, ⟨n, rfl, n1, n2, c0, by show bc ≤ 1000000; omega⟩, fun b1 r hr1 => ?_⟩)))) nd
    obtain ⟨n', wi, e1, rfl, w1, w2, c2, c3⟩ := hr1
    have e2 : n = n' := by
      have := (List.cons.inj e1).1
      cases this
      rfl
    subst e2
    have c3 : b1.2.2 ≤ bc + 1 := c3
    refine ⟨.int (1 + wi), od_add, o_lst a_nil (by simp), fun pf => ?_⟩
    refine s_forR 6 (eea_cons (ee_callT 0 (t := t) (f_take (k := 0) T) hr (by omega) pass0 ⟨_, rfl⟩ (eea_pure (a_cons e_int a_nil) ⟨b1, rfl, ⟨12, rfl, by decide, by decide, c2, by omega⟩, fun b2 r hr2 => ?_⟩))) T.range nd PassesOwn.never
    obtain ⟨n', lap, e1, rfl, l3, l4, c4, c5⟩ := hr2
    have e2 : n' = 12 := by
      have := (List.cons.inj e1).1
      cases this
      rfl
    subst e2
    obtain ⟨laps, rfl⟩ : ∃ laps : Nat, lap = (laps : Int) := ⟨lap.toNat, by omega⟩
    refine eea_nil ⟨laps, rfl, by omega, fun j δ' => ∃ (c6 c7 : Cl) (F : List Stp) (b' : Tb), δ' = [.ow t (tubD b'), .kn d1, .kn d2, .kn (.int n), .kn (.int (1 + wi)), .ow pf (F.map encS), c6, c7] ∧ F.length ≤ j ∧ (∀ q ∈ F, (0 ≤ q.1 ∧ q.1 < 1 + wi) ∧ (0 ≤ q.2.2 ∧ q.2.2 < 1 + wi) ∧ (q.2.1 ∈ tl ∨ q.2.1 ∈ ml ∨ q.2.1 = "")) ∧ 0 ≤ b'.2.2 ∧ b'.2.2 ≤ bc + 2 + 3 * (j : Int), ⟨.no, .no, [], b2, rfl, Nat.le_refl _, fun q h => (by cases h), c4, by omega⟩, fun j δ' hj hI => ?_, fun δ' hI => ?_⟩
    · obtain ⟨c6, c7, Fl, b3, rfl, hF, hq, c8, c9⟩ := hI
      refine s_setE 7 (ee_callT 0 (t := t) (f_of (k := 0) T) hr (by omega) pass0 ⟨_, rfl⟩ (eea_pure (a_cons (E.is (e_op op_cat (E.is (e_op op_cat (txq_list T (e_var 1 rfl) q1) (txq_list T (e_var 2 rfl) q2) (od_cat (by rw [txs_len, txs_len]; omega))) (congrArg Da.lst (txs_app tl ml).symm)) (e_lst (a_cons e_str a_nil) (by simp)) (od_cat (by rw [txs_len, List.length_append]; simp; omega))) (congrArg Da.lst (txs_app (tl ++ ml) [("" : Str)]).symm)) a_nil) ⟨b3, rfl, ⟨tl ++ ml ++ [("" : Str)], rfl, by simp; omega, by simp; omega, c8, by omega⟩, fun b4 r hr4 => ?_⟩)) nd
      obtain ⟨l', z, e1, rfl, hz, c10, c11⟩ := hr4
      have e2 : z ∈ tl ++ ml ++ [("" : Str)] := by
        have h1 := (List.cons.inj e1).1
        have h2 : txs (tl ++ ml ++ [("" : Str)]) = txs l' := Da.lst.inj h1
        have h3 : Da.str z ∈ txs (tl ++ ml ++ [("" : Str)]) := by
          rw [h2]
          exact List.mem_map.mpr ⟨z, hz, rfl⟩
        obtain ⟨z', hz', ez⟩ := List.mem_map.mp h3
        cases ez
        exact hz'
      have e3 : z ∈ tl ∨ z ∈ ml ∨ z = "" := by
        rcases List.mem_append.mp e2 with h | h
        · rcases List.mem_append.mp h with h | h
          · exact .inl h
          · exact .inr (.inl h)
        · exact .inr (.inr (List.mem_singleton.mp h))
      refine s_appE 5 ⟨_, rfl⟩ (ee_tup (eea_cons (ee_callT 0 (t := t) (f_take (k := 0) T) hr (by omega) pass0 ⟨_, rfl⟩ (eea_pure (a_cons (e_var 4 rfl) a_nil) ⟨b4, rfl, ⟨1 + wi, rfl, by omega, by omega, c10, by omega⟩, fun b5 r hr5 => ?_⟩))))
      obtain ⟨n5, x5, e5, rfl, x51, x52, c12, c13⟩ := hr5
      have e6 : 1 + wi = n5 := by
        have := (List.cons.inj e5).1
        cases this
        rfl
      subst e6
      refine eea_cons (ee_pure (e_var 7 rfl) (eea_cons (ee_callT 0 (t := t) (f_take (k := 0) T) hr (by omega) pass0 ⟨_, rfl⟩ (eea_pure (a_cons (e_var 4 rfl) a_nil) ⟨b5, rfl, ⟨1 + wi, rfl, by omega, by omega, c12, by omega⟩, fun b6 r hr6 => ?_⟩))))
      obtain ⟨n6, x6, e7, rfl, x61, x62, c14, c15⟩ := hr6
      have e8 : 1 + wi = n6 := by
        have := (List.cons.inj e7).1
        cases this
        rfl
      subst e8
      refine eea_nil ⟨by simp, Fl.map encS, rfl, by rw [List.length_map]; omega, s_nil ⟨.kn (.int j), .kn (.str z), Fl ++ [(x5, z, x6)], b6, ?_, ?_, fun q hq' => ?_, c14, by omega⟩⟩
      · rw [List.map_append]; rfl
      · rw [List.length_append, List.length_singleton]; omega
      · rcases List.mem_append.mp hq' with h | h
        · exact hq q h
        · rw [List.mem_singleton.mp h]
          exact ⟨⟨x51, x52⟩, ⟨x61, x62⟩, e3⟩
    · obtain ⟨c6, c7, Fl, b3, rfl, hF, hq, c8, c9⟩ := hI
      obtain ⟨st, es, snd, smem, srise⟩ := sortU_steps Fl
      have hmem : ∀ k ∈ Fl.map encL, ∃ q ∈ Fl, k = encL q := fun k hk => by
        obtain ⟨q, hq', rfl⟩ := List.mem_map.mp hk
        exact ⟨q, hq', rfl⟩
      have hrow : (Fl.map encL).map rowD = Fl.map encS := by rw [List.map_map]; rfl
      have hfl : (Fl.map encS).length ≤ 11 := by rw [List.length_map]; omega
      refine s_fz 5 rfl ?_
      refine (s_ret (d := enc ⟨tl, ml, 1 + wi, st⟩) (E.is (e_tup (a_cons (txq_tuple T (e_var 1 rfl) q1) (a_cons (txq_tuple T (e_var 2 rfl) q2) (a_cons (e_var 4 rfl) (a_cons (e_tuple T (e_sortSet T (ks := Fl.map encL) (E.is (e_var 5 rfl) (congrArg Da.lst hrow.symm)) hun (fun D hDn hDs => ?_) (fun k hk => ?_)) (.inr rfl)) a_nil)))) (by simp)) ?_) ?_)
      · have := nodup_le hDn hDs
        rw [List.length_map] at this
        omega
      · obtain ⟨q, hq', rfl⟩ := hmem k hk
        refine ⟨fun e => (by cases e), by simp [encL], fun x hx => ?_, fun k' hk' => ?_⟩
        · unfold encL at hx
          rcases List.mem_cons.mp hx with rfl | hx
          · exact fun e => nomatch e
          · rcases List.mem_cons.mp hx with rfl | hx
            · exact fun e => nomatch e
            · rw [List.mem_singleton.mp hx]
              exact fun e => nomatch e
        · obtain ⟨q', hq2, rfl⟩ := hmem k' hk'
          simp [rowD, encL, lfD, py, pyL, PySem.W.alike, PySem.W.alikeAll]
      · rw [es, List.map_map]
        rfl
      · refine ⟨b3, rfl, d1, d2, tl, ml, n, ⟨tl, ml, 1 + wi, st⟩, rfl, q1, q2, rfl, ⟨rfl, rfl, ⟨by show 1 ≤ 1 + wi; omega, by show 1 + wi ≤ n; omega⟩, ⟨?_, fun q hq' => hq q ((smem q).mp hq')⟩, srise⟩, c8, by show b3.2.2 ≤ bc + 40; omega⟩
        have := nodup_le snd (U := Fl) fun q hq' => (smem q).mp hq'
        show st.length ≤ 11
        rw [List.length_map] at hfl
        omega
end
end Fs
set_option Elab.async false
set_option linter.all false
set_option maxRecDepth 100000
set_option maxHeartbeats 2000000
/-! The walk: _law_two. -/
namespace Fs
open PySem PySem.Spec PyProof.Rows L2
/-- four own lists of texts, and the list of them -/
structure Nst (K : PySem.W.Frag) (Gb Hb G H : Hp) (σ : L2.St) (t q : Addr) (ps : List Addr) (b : Tb) (ls : List (List Str)) (many : Int) : Prop where
  g : Grow Gb Hb G H
  ln : σ.length = 5
  s0 : σ[0]? = some (some (.ref t))
  s1 : σ[1]? = some (some (.int many))
  s2 : σ[2]? = some (some (.ref q))
  ht : Hb t = none ∧ G t = none ∧ H t = some (.lst (tubV b))
  hq : Hb q = none ∧ G q = none ∧ H q = some (.lst (ps.map V.ref))
  pl : ps.length = 4
  ll : ls.length = 4
  nd : ps.Nodup ∧ t ∉ ps ∧ q ∉ ps ∧ t ≠ q
  hp : ∀ (i : Nat) (p : Addr) (l : List Str), ps[i]? = some p → ls[i]? = some l → Hb p = none ∧ G p = none ∧ H p = some (.lst (l.map V.str))
section
variable {K : PySem.W.Frag} {Gb Hb G H G' H' : Hp} {σ σ' : L2.St} {t q : Addr} {ps : List Addr} {b b' : Tb} {ls : List (List Str)} {many : Int}
theorem Nst.pm (N : Nst K Gb Hb G H σ t q ps b ls many) {p : Addr} (h : p ∈ ps) : ∃ (i : Nat) (l : List Str), ps[i]? = some p ∧ ls[i]? = some l := by
  obtain ⟨i, hi, e⟩ := List.getElem_of_mem h
  have hl : i < ls.length := by rw [N.ll, ← N.pl]; exact hi
  exact ⟨i, ls[i], by rw [List.getElem?_eq_getElem hi, e], List.getElem?_eq_getElem hl⟩
/-- behind an expression without changes -/
theorem Nst.up (N : Nst K Gb Hb G H σ t q ps b ls many) (g : Grow G H G' H') : Nst K Gb Hb G' H' σ t q ps b ls many := by
  refine ⟨N.g.trans g, N.ln, N.s0, N.s1, N.s2, ⟨N.ht.1, g.unk N.ht.2.1 (by rw [N.ht.2.2]; exact fun z => nomatch z), g.keeps N.ht.2.2⟩, ⟨N.hq.1, g.unk N.hq.2.1 (by rw [N.hq.2.2]; exact fun z => nomatch z), g.keeps N.hq.2.2⟩, N.pl, N.ll, N.nd, fun i p l h1 h2 => ?_⟩
  obtain ⟨a1, a2, a3⟩ := N.hp i p l h1 h2
  exact ⟨a1, g.unk a2 (by rw [a3]; exact fun z => nomatch z), g.keeps a3⟩
theorem Nst.slot (N : Nst K Gb Hb G H σ t q ps b ls many) (i : Nat) (h : 3 ≤ i) (x : Option V) : Nst K Gb Hb G H (σ.set i x) t q ps b ls many :=
  ⟨N.g, by rw [List.length_set]; exact N.ln, by rw [List.getElem?_set_ne (by omega)]; exact N.s0, by rw [List.getElem?_set_ne (by omega)]; exact N.s1, by rw [List.getElem?_set_ne (by omega)]; exact N.s2, N.ht, N.hq, N.pl, N.ll, N.nd, N.hp⟩
/-- behind an expression that draws from the tub -/
theorem Nst.drawn (N : Nst K Gb Hb G H σ t q ps b ls many) (k : Grow G (L2.del H t) G' H') (gt : G' t = none) (ht : H' t = some (.lst (tubV b'))) : Nst K Gb Hb G' H' σ t q ps b' ls many := by
  refine ⟨⟨fun a o z => ?_, N.g.gg.trans k.gg, k.gh, fun a z => ?_⟩, N.ln, N.s0, N.s1, N.s2, ⟨N.ht.1, gt, ht⟩, ⟨N.hq.1, ?_, ?_⟩, N.pl, N.ll, N.nd, fun i p l h1 h2 => ?_⟩
  · have hne : a ≠ t := fun e => by rw [e, N.ht.1] at z; cases z
    exact k.hh a o (del_of (N.g.hh a o z) hne)
  · rcases k.fr a z with z | z
    · exact N.g.fr a z
    · by_cases e : a = t
      · exact .inr (by rw [e]; exact N.ht.1)
      · rw [L2.del_ne e] at z
        exact .inr (Same.free N.g.hh z)
  · exact k.unk N.hq.2.1 (by rw [L2.del_ne (fun e => N.nd.2.2.2 e.symm), N.hq.2.2]; exact fun z => nomatch z)
  · exact k.hh q _ (del_of N.hq.2.2 (fun e => N.nd.2.2.2 e.symm))
  · obtain ⟨a1, a2, a3⟩ := N.hp i p l h1 h2
    have hne : p ≠ t := fun e => N.nd.2.1 (by rw [← e]; exact List.mem_of_getElem? h1)
    exact ⟨a1, k.unk a2 (by rw [L2.del_ne hne, a3]; exact fun z => nomatch z), k.hh p _ (del_of a3 hne)⟩
/-- one list grows -/
theorem Nst.app (N : Nst K Gb Hb G H σ t q ps b ls many) {i : Nat} {p : Addr} {l : List Str} (h1 : ps[i]? = some p) (h2 : ls[i]? = some l) (x : Str) : Nst K Gb Hb G (upd H p (.lst ((l ++ [x]).map V.str))) σ t q ps b (ls.set i (l ++ [x])) many := by
  have pm := List.mem_of_getElem? h1
  obtain ⟨a1, a2, a3⟩ := N.hp i p l h1 h2
  refine ⟨N.g.chg a1 a2, N.ln, N.s0, N.s1, N.s2, ⟨N.ht.1, N.ht.2.1, ?_⟩, ⟨N.hq.1, N.hq.2.1, ?_⟩, N.pl, by rw [List.length_set]; exact N.ll, N.nd, fun j p' l' h3 h4 => ?_⟩
  · rw [upd_ne (fun e => N.nd.2.1 (by rw [e]; exact pm))]
    exact N.ht.2.2
  · rw [upd_ne (fun e => N.nd.2.2.1 (by rw [e]; exact pm))]
    exact N.hq.2.2
  · rcases get_set h4 with ⟨rfl, rfl, _⟩ | ⟨hn, h4⟩
    · rw [h1] at h3
      cases h3
      exact ⟨a1, a2, upd_same⟩
    · obtain ⟨c1, c2, c3⟩ := N.hp j p' l' h3 h4
      refine ⟨c1, c2, ?_⟩
      rw [upd_ne (fun e => ?_)]
      · exact c3
      · exact hn ((List.getElem?_inj (List.getElem?_eq_some_iff.mp h1).1 N.nd.1).mp (by rw [h1, h3, e]))
theorem Nst.stk (N : Nst K Gb Hb G H σ t q ps b ls many) {d3 d4 : Cl} (h3 : ∀ d, d3 = .kn d → ∃ v, σ[3]? = some (some v) ∧ At K G v d) (h4 : ∀ d, d4 = .kn d → ∃ v, σ[4]? = some (some v) ∧ At K G v d) (n3 : ∀ p ds, d3 ≠ .ow p ds) (n4 : ∀ p ds, d4 ≠ .ow p ds) :
    StK K G σ [.ow t (tubD b), .kn (.int many), .no, d3, d4] := ⟨N.ln, fun i d z => by
  match i, z with
  | 0, z => cases z
  | 1, z =>
    cases z
    exact ⟨_, N.s1, .int _⟩
  | 2, z => cases z
  | 3, z => exact h3 d (Option.some.inj z)
  | 4, z => exact h4 d (Option.some.inj z)
  | i + 5, z => simp at z⟩
theorem tub_only {t : Addr} {b : Tb} {c1 c2 c3 c4 : Cl} (h1 : ∀ p ds, c1 ≠ .ow p ds) (h2 : ∀ p ds, c2 ≠ .ow p ds) (h3 : ∀ p ds, c3 ≠ .ow p ds) (h4 : ∀ p ds, c4 ≠ .ow p ds) : ∀ (l : Nat) (p : Addr) (ds : List Da), [Cl.ow t (tubD b), c1, c2, c3, c4][l]? = some (Cl.ow p ds) → l = 0
  | 0, _, _, _ => rfl
  | 1, p, ds, z => absurd (Option.some.inj z) (h1 p ds)
  | 2, p, ds, z => absurd (Option.some.inj z) (h2 p ds)
  | 3, p, ds, z => absurd (Option.some.inj z) (h3 p ds)
  | 4, p, ds, z => absurd (Option.some.inj z) (h4 p ds)
  | l + 5, _, _, z => by simp at z
end
section
variable {X : Cx} {e ie : Expr} {Gb Hb G H : Hp} {σ : L2.St} {t q : Addr} {ps : List Addr} {b : Tb} {ls : List (List Str)} {many : Int} {pos pa pn px p2 p4 : Pos} {x y : Str} {D : Ends}
/-- an expression that draws, as the four lists see it -/
theorem Nst.run (N : Nst X.K Gb Hb G H σ t q ps b ls many) {c1 c2 c3 c4 : Cl} {P : De → Da → Prop} (sk : StK X.K G σ [.ow t (tubD b), c1, c2, c3, c4]) (n1 : ∀ p ds, c1 ≠ .ow p ds) (n2 : ∀ p ds, c2 ≠ .ow p ds) (n3 : ∀ p ds, c3 ≠ .ow p ds) (n4 : ∀ p ds, c4 ≠ .ow p ds) (h : EE X e [.ow t (tubD b), c1, c2, c3, c4] P) (Q : VK)
    (k : ∀ δ' v d G' H' b', P δ' d → δ'[0]? = some (Cl.ow t (tubD b')) → Nst X.K Gb Hb G' H' σ t q ps b' ls many → Same G G' → At X.K G' v d → Q v H') (hP : ∀ δ' d, P δ' d → ∃ b', δ'[0]? = some (Cl.ow t (tubD b'))) : WE X e σ H Q := by
  have g0 : Grow G (L2.del H t) G H := ⟨fun a o z => (del_some z).2, Same.refl _, N.g.gh, fun _ z => .inl z⟩
  refine h G (L2.del H t) σ G H g0 (sto_tub (i0 := 0) (b := b) sk (tub_only n1 n2 n3 n4) rfl N.s0 L2.del_same N.ht.2.1 N.ht.2.2) Q fun δ' v d G' H' hp g1 s1 S1 hv => ?_
  obtain ⟨b', hb⟩ := hP δ' d hp
  obtain ⟨_, _, u2, _, u3, u4⟩ := S1.ow 0 t _ hb
  have ex := tub_eq u4
  subst ex
  exact k δ' v d G' H' b' hp hb (N.drawn g1 u2 u3) s1 hv
/-- names[ie].append(x) -/
theorem nst_app (N : Nst X.K Gb Hb G H σ t q ps b ls many) {δ : De} {i : Nat} {z : Str} {l : List Str} {iv : Int} (sk : StK X.K G σ δ) (hi : E X ie δ (.int iv)) (hiv : iv = (i : Int)) (hl : ls[i]? = some l) (hz : l.length < 1000) (hx : σ[3]? = some (some (.str z))) (k : Same G G → ∀ G' H', Same G G' → Nst X.K Gb Hb G' H' σ t q ps b (ls.set i (l ++ [z])) many → D.nx σ H')
    (hN : X.N[2]? = some y := by rfl) (hN3 : X.N[3]? = some x := by rfl) (hv : Vis X.env.scope y := by first | exact Or.inl rfl | exact Or.inr (Or.inl rfl) | exact Or.inr (Or.inr rfl)) (hv3 : Vis X.env.scope x := by first | exact Or.inl rfl | exact Or.inr (Or.inl rfl) | exact Or.inr (Or.inr rfl))
    (hd1 : (y == ("__debug__" : Str)) = false := by decide) (hcd : (y == ("__classdict__" : Str)) = false := by decide) (hd3 : (x == ("__debug__" : Str)) = false := by decide) (hcd3 : (x == ("__classdict__" : Str)) = false := by decide) (hpl : PlainIx ie := by intro _ _; rfl)
    (hs : swapsWith (.Call (.Attribute (.Subscript (.Name y pn) ie px) "append" pa) [.Name x p2] [] p4) none pos.line X.env = pure false := by rfl)
    (hbase : attributeBase (.Subscript (.Name y pn) ie px) "append" X.env (eval (.Subscript (.Name y pn) ie px) X.env) = eval (.Subscript (.Name y pn) ie px) X.env := by rfl)
    (hfew : ((backTo p4 (starEach [.Name x p2] X.env)).all (fun x => !x.1) && (backToKw p4 (keywordEach [] X.env)).all (fun x => x.1.isSome) && decide (([Expr.Name x p2]).length + ([] : List Keyword).length + (if ([] : List Keyword).isEmpty then 0 else 1) < 30)) = true := by rfl)
    (hline : (pa.endLine == p4.line) = true := by rfl) (hse : starEach [.Name x p2] X.env = (false, eval (.Name x p2) X.env) :: starEach [] X.env := by rfl) (hpl2 : (backTo p4 (starEach [] X.env)).any (·.1) = false := by rfl) : WS X (.Expr (.Call (.Attribute (.Subscript (.Name y pn) ie px) "append" pa) [.Name x p2] [] p4) pos) D σ H := by
  refine ws_drop (we_of (pe_bm PySem.F.plainAttrs_list PySem.F.slot_list_append PySem.F.type_list_append mt_append (pe_ix ix_list (pe_var hN hv hd1 hcd) WE.pe hpl) (pa_cons (pe_var hN3 hv3 hd3 hcd3) pa_nil hse) hbase hfew hline hse hpl2) ?_) hs
  refine ⟨_, N.s2, hi σ G sk H N.g.gh _ fun u G2 H2 g2 hu => ?_⟩
  cases hu
  subst hiv
  have N2 := N.up g2
  have hip : i < ps.length := by rw [N.pl, ← N.ll]; exact (List.getElem?_eq_some_iff.mp hl).1
  have hp : ps[i]? = some ps[i] := List.getElem?_eq_getElem hip
  obtain ⟨a1, a2, a3⟩ := N2.hp i _ l hp hl
  refine ⟨q, ps.map V.ref, (i : Int), .ref ps[i], rfl, rfl, SqL.of N2.hq.2.2, atI_nat (by rw [List.getElem?_map, hp] <;> rfl), .inl ⟨rfl, _, SqL.of a3⟩, _, hx, ps[i], l.map V.str, .str z, rfl, rfl, a3, by rw [List.length_map]; exact Nat.lt_of_lt_of_le hz (by decide), ?_⟩
  have e : l.map V.str ++ [V.str z] = (l ++ [z]).map V.str := by rw [List.map_append]; rfl
  rw [e]
  exact k (Same.refl _) G2 _ g2.gg (N2.app hp hl z)
end
/-- what the four lists say of each other -/
structure Four (ts : List Str) (ls : List (List Str)) : Prop where
  ex : ∃ l0 l1 l2 l3, ls = [l0, l1, l2, l3] ∧ (l0.Sublist ts ∧ l1.Sublist ts ∧ l2.Sublist ts ∧ l3.Sublist ts) ∧ (∀ x ∈ l0, x ∉ l1 ∧ x ∉ l2) ∧ ∀ x ∈ l3, x ∉ l1 ∧ x ∉ l2
theorem four_add {ts : List Str} {l0 l1 l2 l3 : List Str} {x : Str} (hx : x ∉ ts) (F : Four ts [l0, l1, l2, l3]) {a0 a1 a2 a3 : Bool} (h : (a0 && a1 || a0 && a2 || a3 && a1 || a3 && a2) = false) :
    Four (ts ++ [x]) [if a0 then l0 ++ [x] else l0, if a1 then l1 ++ [x] else l1, if a2 then l2 ++ [x] else l2, if a3 then l3 ++ [x] else l3] := by
  obtain ⟨m0, m1, m2, m3, e, ⟨s0, s1, s2, s3⟩, d1, d2⟩ := F.ex
  cases e
  have sub : ∀ {l : List Str} (a : Bool), l.Sublist ts → (if a then l ++ [x] else l).Sublist (ts ++ [x]) := fun a s => by
    cases a with
    | true => exact s.append (List.Sublist.refl _)
    | false => exact s.trans (List.sublist_append_left _ _)
  have mem : ∀ {l : List Str} (a : Bool) (y : Str), y ∈ (if a then l ++ [x] else l) → y ∈ l ∨ (y = x ∧ a = true) := fun a y h => by
    cases a with
    | true =>
      rcases List.mem_append.mp h with h | h
      · exact .inl h
      · exact .inr ⟨List.mem_singleton.mp h, rfl⟩
    | false => exact .inl h
  refine ⟨_, _, _, _, rfl, ⟨sub a0 s0, sub a1 s1, sub a2 s2, sub a3 s3⟩, fun y hy => ⟨fun hz => ?_, fun hz => ?_⟩, fun y hy => ⟨fun hz => ?_, fun hz => ?_⟩⟩
  all_goals
    rcases mem _ _ hy with h1 | ⟨h1, h1'⟩ <;> rcases mem _ _ hz with h2 | ⟨h2, h2'⟩
  · exact (d1 y h1).1 h2
  · exact hx (by rw [← h2]; exact s0.subset h1)
  · exact hx (by rw [← h1]; exact s1.subset h2)
  · rw [h1', h2'] at h; cases a2 <;> cases a3 <;> cases h
  · exact (d1 y h1).2 h2
  · exact hx (by rw [← h2]; exact s0.subset h1)
  · exact hx (by rw [← h1]; exact s2.subset h2)
  · rw [h1', h2'] at h; cases a1 <;> cases a3 <;> cases h
  · exact (d2 y h1).1 h2
  · exact hx (by rw [← h2]; exact s3.subset h1)
  · exact hx (by rw [← h1]; exact s1.subset h2)
  · rw [h1', h2'] at h; cases a0 <;> cases a2 <;> cases h
  · exact (d2 y h1).2 h2
  · exact hx (by rw [← h2]; exact s3.subset h1)
  · exact hx (by rw [← h1]; exact s2.subset h2)
  · rw [h1', h2'] at h; cases a0 <;> cases a1 <;> cases h
end Fs
set_option Elab.async false
set_option linter.all false
set_option maxRecDepth 100000
set_option maxHeartbeats 2000000
/-! The walk: _law_two. -/
namespace Fs
open PySem PySem.Spec PyProof.Rows L2
def tags : List Str := ["ask", "b", "go", "ok", "x"]
theorem tags_nd : tags.Nodup := by decide +kernel
theorem stk_at {K : PySem.W.Frag} {G : Hp} {v : V} {d : Da} {σ : L2.St} {i : Nat} (h : σ[i]? = some (some v)) (hv : At K G v d) : ∀ d', Cl.kn d = .kn d' → ∃ v, σ[i]? = some (some v) ∧ At K G v d' := fun d' e => by
  cases e
  exact ⟨v, h, hv⟩
/-- four own lists become known, and the list of them -/
theorem Nst.freeze {K : PySem.W.Frag} {Gb Hb G H : Hp} {σ : L2.St} {t q p0 p1 p2 p3 : Addr} {b : Tb} {l0 l1 l2 l3 : List Str} {many : Int} (N : Nst K Gb Hb G H σ t q [p0, p1, p2, p3] b [l0, l1, l2, l3] many) :
    ∃ G', Grow Gb Hb G' H ∧ Same G G' ∧ G' t = none ∧ At K G' (.ref q) (.lst [.lst (txs l0), .lst (txs l1), .lst (txs l2), .lst (txs l3)]) := by
  have hp := fun i p l => N.hp i p l
  have step : ∀ {G1 : Hp} {p : Addr} {o : HO}, Grow Gb Hb G1 H → Hb p = none → G1 p = none → H p = some o → Grow Gb Hb (upd G1 p o) H ∧ Same G1 (upd G1 p o) := fun g b e h => ⟨g.frz b e h, fun a u z => by rw [upd_ne (ne_of_none z e)]; exact z⟩
  obtain ⟨ndp, tps, qps, tq⟩ := N.nd
  have h0 := hp 0 p0 l0 rfl rfl
  have h1 := hp 1 p1 l1 rfl rfl
  have h2 := hp 2 p2 l2 rfl rfl
  have h3 := hp 3 p3 l3 rfl rfl
  rw [List.nodup_cons, List.nodup_cons, List.nodup_cons] at ndp
  simp only [List.mem_cons, List.not_mem_nil, or_false, not_or] at ndp tps qps
  obtain ⟨g0, s0⟩ := step N.g h0.1 h0.2.1 h0.2.2
  obtain ⟨g1, s1⟩ := step g0 h1.1 (by rw [upd_ne (fun e => ndp.1.1 e.symm)]; exact h1.2.1) h1.2.2
  obtain ⟨g2, s2⟩ := step g1 h2.1 (by rw [upd_ne (fun e => ndp.2.1.1 e.symm), upd_ne (fun e => ndp.1.2.1 e.symm)]; exact h2.2.1) h2.2.2
  obtain ⟨g3, s3⟩ := step g2 h3.1 (by rw [upd_ne (fun e => ndp.2.2.1 e.symm), upd_ne (fun e => ndp.2.1.2 e.symm), upd_ne (fun e => ndp.1.2.2 e.symm)]; exact h3.2.1) h3.2.2
  obtain ⟨g4, s4⟩ := step g3 N.hq.1 (by rw [upd_ne qps.2.2.2, upd_ne qps.2.2.1, upd_ne qps.2.1, upd_ne qps.1]; exact N.hq.2.1) N.hq.2.2
  refine ⟨_, g4, (((s0.trans s1).trans s2).trans s3).trans s4, ?_, ?_⟩
  · rw [upd_ne tq, upd_ne tps.2.2.2, upd_ne tps.2.2.1, upd_ne tps.2.1, upd_ne tps.1]
    exact N.ht.2.1
  · refine .lst upd_same (.cons (.lst ((((s1.trans s2).trans s3).trans s4) _ _ upd_same) (AtL.strs l0)) (.cons (.lst (((s2.trans s3).trans s4) _ _ upd_same) (AtL.strs l1)) (.cons (.lst ((s3.trans s4) _ _ upd_same) (AtL.strs l2)) (.cons (.lst (s4 _ _ upd_same) (AtL.strs l3)) .nil))))
theorem we_e {X : Cx} {e : Expr} {δ : De} {d : Da} {σ : L2.St} {G H : Hp} {Q : VK} (sk : StK X.K G σ δ) (e1 : Same G H) (h : E X e δ d) (q : ∀ v G2 H2, Grow G H G2 H2 → At X.K G2 v d → Q v H2) : WE X e σ H Q := h σ G sk H e1 Q q
theorem ws_ifE {X : Cx} {c : Expr} {δ : De} {σ : L2.St} {G H : Hp} {D : Ends} {pos : Pos} {k : Bool} {as bs : List Stmt} (sk : StK X.K G σ δ) (z : Same G H) (h : EB X c δ k) (h1 : k = true → ∀ G2 H2, Grow G H G2 H2 → WSs X as D σ H2) (h2 : k = false → ∀ G2 H2, Grow G H G2 H2 → WSs X bs D σ H2) : WS X (.If c as bs pos) D σ H := ws_if (h σ G sk) z h1 h2
section
variable {P : Program} {w : World} {K : PySem.W.Frag} {mg : Str → Option Value} {base : Heap}
theorem f_two (T : Tp K mg) {k : Nat} : Dfn P w K mg base CX0 (k + 4) "_law_two" (SpT K (fun b ds => ∃ n : Int, ds = [.int n] ∧ 1 ≤ n ∧ n ≤ 1000 ∧ Tok 700000 b)
    fun b ds b' r => ∃ (n : Int) (p q : Pt) (l0 l1 l2 l3 : List Str), ds = [.int n] ∧ r = .tup [enc p, enc q] ∧ Made l0 l1 n p ∧ Made l2 l3 n q ∧ Four tags [l0, l1, l2, l3] ∧ Tok (b.2.2 + 100) b') := by
  obtain ⟨fd, F⟩ := T.c.def_ 29 (d := d_law_two) rfl
  refine dfnT_of F (T.glo 29) sc_law_two ?_ (fun _ _ _ _ _ _ us hl => match us, hl with | [_, _], _ => rfl) ?_
  · rintro b ds ⟨n, rfl, _⟩; rfl
  · rintro f cdv A outer s H EX hr t ⟨ba, bb, bc⟩ ds ⟨n, rfl, n1, n2, c0, c1⟩
    have c0 : 0 ≤ bc := c0
    have c1 : bc ≤ 700000 := c1
    have nd := sc_law_two.nd
    intro Gb Hb σ G H1 D g St nn rr
    obtain ⟨w0, w1, w2, xs, w3, w4⟩ := St.ow 0 t _ rfl
    have ex := tub_eq w4
    subst ex
    have ln : σ.length = 5 := St.sk.ln
    obtain ⟨u1, e1, hu1⟩ := St.sk.kn 1 _ rfl
    cases hu1
    -- names = [[], [], [], []]
    refine sts_cons (ws_setW (i := 2) nd rfl (Or.inl rfl) (we_of (pe_lst (pa_cons (pe_lst pa_nil) (pa_cons (pe_lst pa_nil) (pa_cons (pe_lst pa_nil) (pa_cons (pe_lst pa_nil) pa_nil))))) ?_))
    refine ⟨Nat.zero_le _, fun p0 h0 => ⟨Nat.zero_le _, fun p1 h1 => ⟨Nat.zero_le _, fun p2 h2 => ⟨Nat.zero_le _, fun p3 h3 => ⟨by show 4 ≤ sizeLine; decide, fun q hq => ?_⟩⟩⟩⟩⟩
    have n01 : p1 ≠ p0 := fun e => by rw [e, upd_same] at h1; cases h1
    have h1' : H1 p1 = none := by rw [upd_ne n01] at h1; exact h1
    have n12 : p2 ≠ p1 := fun e => by rw [e, upd_same] at h2; cases h2
    rw [upd_ne n12] at h2
    have n02 : p2 ≠ p0 := fun e => by rw [e, upd_same] at h2; cases h2
    rw [upd_ne n02] at h2
    have n23 : p3 ≠ p2 := fun e => by rw [e, upd_same] at h3; cases h3
    rw [upd_ne n23] at h3
    have n13 : p3 ≠ p1 := fun e => by rw [e, upd_same] at h3; cases h3
    rw [upd_ne n13] at h3
    have n03 : p3 ≠ p0 := fun e => by rw [e, upd_same] at h3; cases h3
    rw [upd_ne n03] at h3
    have m3 : q ≠ p3 := fun e => by rw [e, upd_same] at hq; cases hq
    rw [upd_ne m3] at hq
    have m2 : q ≠ p2 := fun e => by rw [e, upd_same] at hq; cases hq
    rw [upd_ne m2] at hq
    have m1 : q ≠ p1 := fun e => by rw [e, upd_same] at hq; cases hq
    rw [upd_ne m1] at hq
    have m0 : q ≠ p0 := fun e => by rw [e, upd_same] at hq; cases hq
    rw [upd_ne m0] at hq
    have tn : ∀ p, H1 p = none → t ≠ p := fun p hp e => by rw [← e, w3] at hp; cases hp
    have gn : ∀ p, H1 p = none → G p = none := fun p hp => Same.free g.gh hp
    have bn : ∀ p, H1 p = none → Hb p = none := fun p hp => g.free hp
    have gg : Grow Gb Hb G (upd (upd (upd (upd (upd H1 p0 (.lst [])) p1 (.lst [])) p2 (.lst [])) p3 (.lst [])) q (.lst [.ref p0, .ref p1, .ref p2, .ref p3])) :=
      ((((g.chg (bn _ h0) (gn _ h0)).chg (bn _ h1') (gn _ h1')).chg (bn _ h2) (gn _ h2)).chg (bn _ h3) (gn _ h3)).chg (bn _ hq) (gn _ hq)
    have N0 : Nst K Gb Hb G (upd (upd (upd (upd (upd H1 p0 (.lst [])) p1 (.lst [])) p2 (.lst [])) p3 (.lst [])) q (.lst [.ref p0, .ref p1, .ref p2, .ref p3])) (σ.set 2 (some (.ref q))) t q [p0, p1, p2, p3] (ba, bb, bc) [[], [], [], []] n := by
      refine ⟨gg, by rw [List.length_set]; exact ln, by rw [List.getElem?_set_ne (by decide)]; exact w0, by rw [List.getElem?_set_ne (by decide)]; exact e1, List.getElem?_set_self (by omega), ⟨w1, w2, ?_⟩, ⟨bn _ hq, gn _ hq, upd_same⟩, rfl, rfl, ⟨?_, ?_, ?_, tn _ hq⟩, fun i p l z1 z2 => ?_⟩
      · rw [upd_ne (tn _ hq), upd_ne (tn _ h3), upd_ne (tn _ h2), upd_ne (tn _ h1'), upd_ne (tn _ h0)]
        exact w3
      · simp only [List.nodup_cons, List.mem_cons, List.not_mem_nil, or_false, not_or, List.nodup_nil, and_true]
        exact ⟨⟨fun e => n01 e.symm, fun e => n02 e.symm, fun e => n03 e.symm⟩, ⟨fun e => n12 e.symm, fun e => n13 e.symm⟩, fun e => n23 e.symm, fun e => e⟩
      · simp only [List.mem_cons, List.not_mem_nil, or_false, not_or]
        exact ⟨tn _ h0, tn _ h1', tn _ h2, tn _ h3⟩
      · simp only [List.mem_cons, List.not_mem_nil, or_false, not_or]
        exact ⟨m0, m1, m2, m3⟩
      · match i, z1, z2 with
        | 0, z1, z2 =>
          cases z1; cases z2
          exact ⟨bn _ h0, gn _ h0, by rw [upd_ne (fun e => m0 e.symm), upd_ne (fun e => n03 e.symm), upd_ne (fun e => n02 e.symm), upd_ne (fun e => n01 e.symm), upd_same]; rfl⟩
        | 1, z1, z2 =>
          cases z1; cases z2
          exact ⟨bn _ h1', gn _ h1', by rw [upd_ne (fun e => m1 e.symm), upd_ne (fun e => n13 e.symm), upd_ne (fun e => n12 e.symm), upd_same]; rfl⟩
        | 2, z1, z2 =>
          cases z1; cases z2
          exact ⟨bn _ h2, gn _ h2, by rw [upd_ne (fun e => m2 e.symm), upd_ne (fun e => n23 e.symm), upd_same]; rfl⟩
        | 3, z1, z2 =>
          cases z1; cases z2
          exact ⟨bn _ h3, gn _ h3, by rw [upd_ne (fun e => m3 e.symm), upd_same]; rfl⟩
        | i + 4, z1, z2 => simp at z1
    show WSs (Wx P w K mg base n_law_two "_law_two" d_law_two.scope f cdv A outer s H EX) _ D (σ.set 2 (some (.ref q))) (upd (upd (upd (upd (upd H1 p0 (.lst [])) p1 (.lst [])) p2 (.lst [])) p3 (.lst [])) q (.lst [.ref p0, .ref p1, .ref p2, .ref p3]))
    generalize upd (upd (upd (upd (upd H1 p0 (.lst [])) p1 (.lst [])) p2 (.lst [])) p3 (.lst [])) q (.lst [.ref p0, .ref p1, .ref p2, .ref p3]) = H2 at N0 ⊢
    generalize σ.set 2 (some (.ref q)) = σ2 at N0 ⊢
    have sk0 : StK K G σ2 [.ow t (tubD (ba, bb, bc)), .kn (.int n), .no, .no, .no] := N0.stk (fun d e => nomatch e) (fun d e => nomatch e) (fun _ _ e => nomatch e) fun _ _ e => nomatch e
    -- for tag in [..][:1 + take(tub, 5)]
    refine sts_cons (ws_of (ps_for PassesOwn.never rfl (pi_list (pe_slice sl_list WE.pe WP.po (po_some WE.pe))) (pg_name (i := 3) nd rfl (Or.inl rfl)) WSs.pss) ?_)
    refine we_e sk0 N0.g.gh (e_lst (a_cons e_str (a_cons e_str (a_cons e_str (a_cons e_str (a_cons e_str a_nil))))) (by simp)) fun v G3 H3 g3 hv => ?_
    have hv : At K G3 v (.lst (txs tags)) := hv
    have N1 := N0.up g3
    have sk1 := sk0.up g3.gg
    refine N1.run (c1 := .kn (.int n)) (c2 := .no) (c3 := .no) (c4 := .no) (P := fun δ' d => ∃ (m : Nat) (b' : Tb), d = .int (m : Int) ∧ m ≤ 5 ∧ δ'[0]? = some (Cl.ow t (tubD b')) ∧ 0 ≤ b'.2.2 ∧ b'.2.2 ≤ bc + 1) sk1 (fun _ _ e => nomatch e) (fun _ _ e => nomatch e) (fun _ _ e => nomatch e) (fun _ _ e => nomatch e) (ee_op op_add (ee_pure e_int (ee_callT 0 (t := t) (f_take (k := 0) T) hr (by omega) pass0 ⟨_, rfl⟩ (eea_pure (a_cons e_int a_nil) ⟨(ba, bb, bc), rfl, ⟨5, rfl, by decide, by decide, c0, by show bc ≤ 1000000; omega⟩, fun b1 r hr1 => ?_⟩)))) _ (fun δ' v4 d4 G4 H4 b4 hP hb4 N4 s4 hv4 => ?_) (fun δ' d hP => ?_)
    · obtain ⟨n', wi, q1, rfl, q2, q3, q4, q5⟩ := hr1
      have q6 : (5 : Int) = n' := by
        have := (List.cons.inj q1).1
        cases this
        rfl
      subst q6
      obtain ⟨m, rfl⟩ : ∃ m : Nat, wi = (m : Int) := ⟨wi.toNat, by omega⟩
      refine ⟨.int (1 + (m : Int)), od_add, m + 1, b1, ?_, by omega, rfl, q4, q5⟩
      rw [Int.natCast_add, Int.add_comm]
      rfl
    · obtain ⟨m, b1, rfl, hm, hb1, c2, c3⟩ := hP
      rw [hb4] at hb1
      have eb : b4 = b1 := by
        have h := Option.some.inj hb1
        injection h with _ h
        unfold tubD at h
        simp only [List.cons.injEq, Da.int.injEq, and_true] at h
        exact Prod.ext h.1 (Prod.ext h.2.1 h.2.2)
      subst eb
      cases hv4
      have hv4 := hv.up s4
      cases hv4 with
      | @lst a xs _ a1 a2 =>
        refine ⟨(m : Int), rfl, ?_⟩
        refine ⟨a, xs, rfl, Same.sqL N4.g.gh a1, fun pl hpl => ?_⟩
        have gl := Grow.new (o := .lst (cutV xs none (some (m : Int)))) N4.g.gh hpl
        have atl : AtL K (upd G4 pl (.lst (cutV xs none (some (m : Int))))) (cutV xs none (some (m : Int))) (txs (tags.take m)) := by
          have h := cutD_at a2 none (some (m : Int))
          rw [cut_to] at h
          have e : (txs tags).take m = txs (tags.take m) := by unfold txs; rw [List.map_take]
          rw [e] at h
          exact h.up gl.gg
        have N5 := N4.up gl
        refine ⟨pl, rfl, ⟨_, SqL.of upd_same⟩, ?_⟩
        have wk := walk_list (K := K) (a := pl) (xs := cutV xs none (some (m : Int)))
        have hlen : (cutV xs none (some (m : Int))).length = (tags.take m).length := by rw [atl.len, txs_len]
        rw [hlen] at wk
        have gpl : (upd G4 pl (.lst (cutV xs none (some (m : Int))))) pl = some (.lst (cutV xs none (some (m : Int)))) := upd_same
        generalize cutV xs none (some (m : Int)) = its at *
        generalize upd G4 pl (.lst its) = G5 at *
        generalize upd H4 pl (.lst its) = H5 at *
        refine for_it wk (fun j σ' H' => ∃ G' b' ls', Same G5 G' ∧ Nst K Gb Hb G' H' σ' t q [p0, p1, p2, p3] b' ls' n ∧ Four (tags.take j) ls' ∧ 0 ≤ b'.2.2 ∧ b'.2.2 ≤ bc + 1 + (j : Int)) ⟨G5, b4, _, Same.refl _, N5, ⟨[], [], [], [], rfl, ⟨by simp, by simp, by simp, by simp⟩, fun _ h => (by cases h), fun _ h => (by cases h)⟩, c2, by omega⟩ (fun j σ' H' _ hI => ?_) (fun j y σ' H6 H6' hj hI hy => ?_) (fun σ' H' hI => ?_)
        · obtain ⟨G', b', ls', sG, N', _⟩ := hI
          exact SqL.of (N'.g.gh _ _ (sG _ _ gpl))
        · obtain ⟨G', b', ls', sG, N', hF, c4, c5⟩ := hI
          obtain ⟨rfl, hy⟩ := hy
          have hjt : j < (tags.take m).length := hj
          obtain ⟨z, hz⟩ : ∃ z, (tags.take m)[j]? = some z := ⟨_, List.getElem?_eq_getElem hjt⟩
          have hzt0 : tags[j]? = some z := by
            rw [List.getElem?_take] at hz
            split at hz
            · exact hz
            · cases hz
          have hyz : y = .str z := by
            obtain ⟨v, e1, hv⟩ := atl.get (i := j) (d := .str z) (by unfold txs; rw [List.getElem?_map, hz] <;> rfl)
            rw [hy] at e1
            cases e1
            cases hv
            rfl
          subst hyz
          have hzt : z ∉ tags.take j := fun h => by
            have nd := tags_nd
            have e : tags = tags.take j ++ z :: tags.drop (j + 1) := by
              have hl : j < tags.length := (List.getElem?_eq_some_iff.mp hzt0).1
              have e2 : tags[j] = z := (List.getElem?_eq_some_iff.mp hzt0).2
              rw [← e2, List.getElem_cons_drop, List.take_append_drop]
            rw [e, List.nodup_append] at nd
            exact nd.2.2 z h z List.mem_cons_self rfl
          have hj5 : j < 5 := (List.getElem?_eq_some_iff.mp hzt0).1
          have N7 := N'.slot 3 (by decide) (some (.str z))
          have hz3' : (σ'.set 3 (some (.str z)))[3]? = some (some (.str z)) := List.getElem?_set_self (by rw [N'.ln]; decide)
          show WSs (Wx P w K mg base n_law_two "_law_two" d_law_two.scope f cdv A outer s H EX) _ _ (σ'.set 3 (some (.str z))) _
          generalize σ'.set 3 (some (.str z)) = σ7 at N7 hz3' ⊢
          have sk7 : StK K G' σ7 [.ow t (tubD b'), .kn (.int n), .no, .kn (.str z), .no] := N7.stk (stk_at hz3' (.str z)) (fun d e => nomatch e) (fun _ _ e => nomatch e) fun _ _ e => nomatch e
          refine sts_cons (ws_setW (i := 4) nd rfl (Or.inl rfl) ?_)
          refine N7.run (c1 := .kn (.int n)) (c2 := .no) (c3 := .kn (.str z)) (c4 := .no) (P := fun δ' d => ∃ (i : Int) (b2 : Tb), d = .int i ∧ 0 ≤ i ∧ i < 8 ∧ δ'[0]? = some (Cl.ow t (tubD b2)) ∧ 0 ≤ b2.2.2 ∧ b2.2.2 ≤ b'.2.2 + 1) sk7 (fun _ _ e => nomatch e) (fun _ _ e => nomatch e) (fun _ _ e => nomatch e) (fun _ _ e => nomatch e) (ee_callT 0 (t := t) (f_take (k := 0) T) hr (by omega) pass0 ⟨_, rfl⟩ (eea_pure (a_cons e_int a_nil) ⟨b', rfl, ⟨8, rfl, by decide, by decide, c4, by omega⟩, fun b1 r hr1 => ?_⟩)) _ (fun δ' v8 d8 G8 H8 b8 hP hb8 N8 s8 hv8 => ?_) (fun δ' d hP => ?_)
          · obtain ⟨n', wi, q1, rfl, q2, q3, q4, q5⟩ := hr1
            have q6 : (8 : Int) = n' := by
              have := (List.cons.inj q1).1
              cases this
              rfl
            subst q6
            exact ⟨wi, b1, rfl, q2, q3, rfl, q4, q5⟩
          · obtain ⟨i, b2, rfl, i0, i8, hb2, c6, c7⟩ := hP
            rw [hb8] at hb2
            have eb : b8 = b2 := by
              have h := Option.some.inj hb2
              injection h with _ h
              unfold tubD at h
              simp only [List.cons.injEq, Da.int.injEq, and_true] at h
              exact Prod.ext h.1 (Prod.ext h.2.1 h.2.2)
            subst eb
            cases hv8
            have N8 := N8.slot 4 (by decide) (some (.int i))
            have hz3 : (σ7.set 4 (some (.int i)))[3]? = some (some (.str z)) := by rw [List.getElem?_set_ne (by decide)]; exact hz3'
            have hi4 : (σ7.set 4 (some (.int i)))[4]? = some (some (.int i)) := List.getElem?_set_self (by rw [N7.ln]; decide)
            have s5 : Same G5 G8 := sG.trans s8
            generalize σ7.set 4 (some (.int i)) = σ8 at N8 hz3 hi4 ⊢
            have skB : StK K G8 σ8 [.ow t (tubD b8), .kn (.int n), .no, .kn (.str z), .kn (.int i)] := N8.stk (stk_at hz3 (.str z)) (stk_at hi4 (.int i)) (fun _ _ e => nomatch e) fun _ _ e => nomatch e
            have fin : ∀ GC HC ls2 (b2 : Tb), Same G5 GC → Nst K Gb Hb GC HC σ8 t q [p0, p1, p2, p3] b2 ls2 n → Four (tags.take j ++ [z]) ls2 → 0 ≤ b2.2.2 → b2.2.2 ≤ bc + 1 + (j : Int) + 1 → ∃ G' b' ls', Same G5 G' ∧ Nst K Gb Hb G' HC σ8 t q [p0, p1, p2, p3] b' ls' n ∧ Four (tags.take (j + 1)) ls' ∧ 0 ≤ b'.2.2 ∧ b'.2.2 ≤ bc + 1 + ((j + 1 : Nat) : Int) := fun GC HC ls2 b2 sC NC FC c8 c9 => ⟨GC, b2, ls2, sC, NC, by rw [take_snoc hzt0]; exact FC, c8, by omega⟩
            obtain ⟨l0, l1, l2, l3, rfl, ⟨u0, u1, u2, u3⟩, _⟩ := hF.ex
            have tl5 : (tags.take j).length ≤ 5 := by rw [List.length_take]; show min j 5 ≤ 5; omega
            have hlen1 : ∀ (a : Nat) (l : List Str), [l0, l1, l2, l3][a]? = some l → l.length < 1000 := fun a l h => by
              have : l.Sublist (tags.take j) := by
                match a, h with
                | 0, h => cases h; exact u0
                | 1, h => cases h; exact u1
                | 2, h => cases h; exact u2
                | 3, h => cases h; exact u3
                | a + 4, h => simp at h
              have := this.length_le
              omega
            have i_cases : i = 0 ∨ i = 1 ∨ i = 2 ∨ i = 3 ∨ i = 4 ∨ i = 5 ∨ i = 6 ∨ i = 7 := by omega
            rcases i_cases with rfl | rfl | rfl | rfl | rfl | rfl | rfl | rfl
            · -- k = 0
              refine sts_cons (nst_app N8 (i := 0) (iv := (0 : Int) % 4) (l := l0) skB (e_op op_mod (e_var 4 rfl) e_int (od_mod (by decide))) (by decide) rfl (hlen1 0 l0 rfl) hz3 fun _ G9 H9 s9 N9 => ?_)
              refine sts_one (ws_ifE (k := decide ((0 : Int) < 4)) (skB.up s9) N9.g.gh (eb_cmpE op_lt (e_var 4 rfl) e_int od_lt) (fun hc GA HA gA => ?_) (fun hc GA HA gA => ?_))
              · refine sts_one (nst_app (N9.up gA) (i := 3) (iv := 3 - (0 : Int)) (l := l3) ((skB.up s9).up gA.gg) (e_op op_sub e_int (e_var 4 rfl) od_sub) (by decide) rfl (hlen1 3 l3 rfl) hz3 fun _ GC HC sC NC => fin GC HC _ b8 (((s5.trans s9).trans gA.gg).trans sC) NC (four_add hzt hF (a0 := true) (a1 := false) (a2 := false) (a3 := true) rfl) c6 (by omega))
              · cases hc
            · -- k = 1
              refine sts_cons (nst_app N8 (i := 1) (iv := (1 : Int) % 4) (l := l1) skB (e_op op_mod (e_var 4 rfl) e_int (od_mod (by decide))) (by decide) rfl (hlen1 1 l1 rfl) hz3 fun _ G9 H9 s9 N9 => ?_)
              refine sts_one (ws_ifE (k := decide ((1 : Int) < 4)) (skB.up s9) N9.g.gh (eb_cmpE op_lt (e_var 4 rfl) e_int od_lt) (fun hc GA HA gA => ?_) (fun hc GA HA gA => ?_))
              · refine sts_one (nst_app (N9.up gA) (i := 2) (iv := 3 - (1 : Int)) (l := l2) ((skB.up s9).up gA.gg) (e_op op_sub e_int (e_var 4 rfl) od_sub) (by decide) rfl (hlen1 2 l2 rfl) hz3 fun _ GC HC sC NC => fin GC HC _ b8 (((s5.trans s9).trans gA.gg).trans sC) NC (four_add hzt hF (a0 := false) (a1 := true) (a2 := true) (a3 := false) rfl) c6 (by omega))
              · cases hc
            · -- k = 2
              refine sts_cons (nst_app N8 (i := 2) (iv := (2 : Int) % 4) (l := l2) skB (e_op op_mod (e_var 4 rfl) e_int (od_mod (by decide))) (by decide) rfl (hlen1 2 l2 rfl) hz3 fun _ G9 H9 s9 N9 => ?_)
              refine sts_one (ws_ifE (k := decide ((2 : Int) < 4)) (skB.up s9) N9.g.gh (eb_cmpE op_lt (e_var 4 rfl) e_int od_lt) (fun hc GA HA gA => ?_) (fun hc GA HA gA => ?_))
              · refine sts_one (nst_app (N9.up gA) (i := 1) (iv := 3 - (2 : Int)) (l := l1) ((skB.up s9).up gA.gg) (e_op op_sub e_int (e_var 4 rfl) od_sub) (by decide) rfl (hlen1 1 l1 rfl) hz3 fun _ GC HC sC NC => fin GC HC _ b8 (((s5.trans s9).trans gA.gg).trans sC) NC (four_add hzt hF (a0 := false) (a1 := true) (a2 := true) (a3 := false) rfl) c6 (by omega))
              · cases hc
            · -- k = 3
              refine sts_cons (nst_app N8 (i := 3) (iv := (3 : Int) % 4) (l := l3) skB (e_op op_mod (e_var 4 rfl) e_int (od_mod (by decide))) (by decide) rfl (hlen1 3 l3 rfl) hz3 fun _ G9 H9 s9 N9 => ?_)
              refine sts_one (ws_ifE (k := decide ((3 : Int) < 4)) (skB.up s9) N9.g.gh (eb_cmpE op_lt (e_var 4 rfl) e_int od_lt) (fun hc GA HA gA => ?_) (fun hc GA HA gA => ?_))
              · refine sts_one (nst_app (N9.up gA) (i := 0) (iv := 3 - (3 : Int)) (l := l0) ((skB.up s9).up gA.gg) (e_op op_sub e_int (e_var 4 rfl) od_sub) (by decide) rfl (hlen1 0 l0 rfl) hz3 fun _ GC HC sC NC => fin GC HC _ b8 (((s5.trans s9).trans gA.gg).trans sC) NC (four_add hzt hF (a0 := true) (a1 := false) (a2 := false) (a3 := true) rfl) c6 (by omega))
              · cases hc
            · -- k = 4
              refine sts_cons (nst_app N8 (i := 0) (iv := (4 : Int) % 4) (l := l0) skB (e_op op_mod (e_var 4 rfl) e_int (od_mod (by decide))) (by decide) rfl (hlen1 0 l0 rfl) hz3 fun _ G9 H9 s9 N9 => ?_)
              refine sts_one (ws_ifE (k := decide ((4 : Int) < 4)) (skB.up s9) N9.g.gh (eb_cmpE op_lt (e_var 4 rfl) e_int od_lt) (fun hc GA HA gA => ?_) (fun hc GA HA gA => ?_))
              · cases hc
              · exact sts_nil (fin GA HA _ b8 ((s5.trans s9).trans gA.gg) (N9.up gA) (four_add hzt hF (a0 := true) (a1 := false) (a2 := false) (a3 := false) rfl) c6 (by omega))
            · -- k = 5
              refine sts_cons (nst_app N8 (i := 1) (iv := (5 : Int) % 4) (l := l1) skB (e_op op_mod (e_var 4 rfl) e_int (od_mod (by decide))) (by decide) rfl (hlen1 1 l1 rfl) hz3 fun _ G9 H9 s9 N9 => ?_)
              refine sts_one (ws_ifE (k := decide ((5 : Int) < 4)) (skB.up s9) N9.g.gh (eb_cmpE op_lt (e_var 4 rfl) e_int od_lt) (fun hc GA HA gA => ?_) (fun hc GA HA gA => ?_))
              · cases hc
              · exact sts_nil (fin GA HA _ b8 ((s5.trans s9).trans gA.gg) (N9.up gA) (four_add hzt hF (a0 := false) (a1 := true) (a2 := false) (a3 := false) rfl) c6 (by omega))
            · -- k = 6
              refine sts_cons (nst_app N8 (i := 2) (iv := (6 : Int) % 4) (l := l2) skB (e_op op_mod (e_var 4 rfl) e_int (od_mod (by decide))) (by decide) rfl (hlen1 2 l2 rfl) hz3 fun _ G9 H9 s9 N9 => ?_)
              refine sts_one (ws_ifE (k := decide ((6 : Int) < 4)) (skB.up s9) N9.g.gh (eb_cmpE op_lt (e_var 4 rfl) e_int od_lt) (fun hc GA HA gA => ?_) (fun hc GA HA gA => ?_))
              · cases hc
              · exact sts_nil (fin GA HA _ b8 ((s5.trans s9).trans gA.gg) (N9.up gA) (four_add hzt hF (a0 := false) (a1 := false) (a2 := true) (a3 := false) rfl) c6 (by omega))
            · -- k = 7
              refine sts_cons (nst_app N8 (i := 3) (iv := (7 : Int) % 4) (l := l3) skB (e_op op_mod (e_var 4 rfl) e_int (od_mod (by decide))) (by decide) rfl (hlen1 3 l3 rfl) hz3 fun _ G9 H9 s9 N9 => ?_)
              refine sts_one (ws_ifE (k := decide ((7 : Int) < 4)) (skB.up s9) N9.g.gh (eb_cmpE op_lt (e_var 4 rfl) e_int od_lt) (fun hc GA HA gA => ?_) (fun hc GA HA gA => ?_))
              · cases hc
              · exact sts_nil (fin GA HA _ b8 ((s5.trans s9).trans gA.gg) (N9.up gA) (four_add hzt hF (a0 := false) (a1 := false) (a2 := false) (a3 := true) rfl) c6 (by omega))
          · obtain ⟨i, b2, _, _, _, hb2, _⟩ := hP
            exact ⟨b2, hb2⟩
        · obtain ⟨G', b', ls', sG, N', hF, c4, c5⟩ := hI
          obtain ⟨l0, l1, l2, l3, rfl, ⟨u0, u1, u2, u3⟩, dj⟩ := hF.ex
          obtain ⟨Gf, gf, sf, gtf, atq⟩ := N'.freeze
          have hml : (tags.take m).length ≤ 5 := by rw [List.length_take]; show min m 5 ≤ 5; omega
          have tw : ∀ {l : List Str}, l.Sublist (tags.take (tags.take m).length) → l.Sublist tags ∧ l.length ≤ 5 := fun h => ⟨h.trans (List.take_sublist _ _), Nat.le_trans h.length_le (by rw [List.length_take]; omega)⟩
          have skf : StK K Gf σ' [.ow t (tubD b'), .kn (.int n), .kn (.lst [.lst (txs l0), .lst (txs l1), .lst (txs l2), .lst (txs l3)]), .no, .no] := ⟨N'.ln, fun i d z => by
            match i, z with
            | 0, z => cases z
            | 1, z =>
              cases z
              exact ⟨_, N'.s1, .int _⟩
            | 2, z =>
              cases z
              exact ⟨_, N'.s2, atq⟩
            | 3, z => cases z
            | 4, z => cases z
            | i + 5, z => simp at z⟩
          have Stf : Sto K Hb Gf H' σ' [.ow t (tubD b'), .kn (.int n), .kn (.lst [.lst (txs l0), .lst (txs l1), .lst (txs l2), .lst (txs l3)]), .no, .no] := sto_tub (i0 := 0) (b := b') skf (tub_only (fun _ _ e => nomatch e) (fun _ _ e => nomatch e) (fun _ _ e => nomatch e) (fun _ _ e => nomatch e)) rfl N'.s0 N'.ht.1 gtf N'.ht.2.2
          have c5' : b'.2.2 ≤ bc + 6 := by omega
          refine (show S (Wx P w K mg base n_law_two "_law_two" d_law_two.scope f cdv A outer s H EX) (d_law_two.body.drop 2) [.ow t (tubD b'), .kn (.int n), .kn (.lst [.lst (txs l0), .lst (txs l1), .lst (txs l2), .lst (txs l3)]), .no, .no] ⟨fun _ => False, fun δ' d => ∃ b', δ'[0]? = some (Cl.ow t (tubD b')) ∧ _⟩ from ?_) Gb Hb σ' Gf H' D gf Stf nn rr
          refine s_retE (ee_tup (eea_cons (ee_callT 0 (t := t) (f_part (k := 0) T) hr (by omega) pass0 ⟨_, rfl⟩ (eea_pure (a_cons (e_ix 0 (e_var 2 rfl) e_int (.inr rfl) rfl rfl) (a_cons (e_ix 1 (e_var 2 rfl) e_int (.inr rfl) rfl rfl) (a_cons (e_var 1 rfl) a_nil))) ⟨b', rfl, ⟨_, _, l0, l1, n, rfl, .inr rfl, .inr rfl, by have := (tw u0).2; omega, by have := (tw u1).2; omega, n1, n2, c4, by omega⟩, fun b1 r1 hr1 => ?_⟩))))
          obtain ⟨d1, d2, t1, m1', n', pp, q1, q2, q3, rfl, q4, q5, q6⟩ := hr1
          refine eea_cons (ee_callT 0 (t := t) (f_part (k := 0) T) hr (by omega) pass0 ⟨_, rfl⟩ (eea_pure (a_cons (e_ix 2 (e_var 2 rfl) e_int (.inr rfl) rfl rfl) (a_cons (e_ix 3 (e_var 2 rfl) e_int (.inr rfl) rfl rfl) (a_cons (e_var 1 rfl) a_nil))) ⟨b1, rfl, ⟨_, _, l2, l3, n, rfl, .inr rfl, .inr rfl, by have := (tw u2).2; omega, by have := (tw u3).2; omega, n1, n2, q5, by omega⟩, fun b2 r2 hr2 => ?_⟩))
          obtain ⟨d3, d4, t2, m2', n3, qq, y1, y2, y3, rfl, y4, y5, y6⟩ := hr2
          simp only [List.cons.injEq, and_true] at q1 y1
          obtain ⟨rfl, rfl, qn⟩ := q1
          obtain ⟨rfl, rfl, yn⟩ := y1
          cases qn
          cases yn
          have tx : ∀ {l l' : List Str}, txq (.lst (txs l)) l' → l = l' := fun h => by
            rcases h with h | h
            · cases h
            · have h := Da.lst.inj h
              unfold txs at h
              exact (List.map_inj_right (fun x y e => Da.str.inj e)).mp h
          rw [← tx q2, ← tx q3] at q4
          rw [← tx y2, ← tx y3] at y4
          refine eea_nil ⟨by simp, b2, rfl, n, pp, qq, l0, l1, l2, l3, rfl, rfl, q4, y4, ⟨l0, l1, l2, l3, rfl, ⟨(tw u0).1, (tw u1).1, (tw u2).1, (tw u3).1⟩, dj⟩, y5, by show b2.2.2 ≤ bc + 100; omega⟩
    · obtain ⟨m, b1, _, _, hb1, _⟩ := hP
      exact ⟨b1, hb1⟩
end
end Fs
set_option Elab.async false
set_option linter.all false
set_option maxRecDepth 100000
set_option maxHeartbeats 2000000
/-! The plain law: drawn parts. -/
namespace Fs
open PySem PySem.Spec PyProof.Rows
def slt (a b : Str) : Bool := decide (a.cps.toList < b.cps.toList)
abbrev Asc (l : List Str) : Prop := l.Pairwise fun a b => slt a b = true
theorem ris_pw : ∀ {es : List Da}, es.Pairwise (fun a b => dlt a b = true) → ris es = true
  | [], _ => rfl
  | [_], _ => rfl
  | x :: y :: l, h => by
    rw [List.pairwise_cons] at h
    have ih := ris_pw h.2
    have h1 := h.1 y List.mem_cons_self
    unfold ris at ih ⊢
    rw [List.tail_cons, List.zipWith_cons_cons, List.all_cons, h1]
    exact ih
theorem dlt_str (a b : Str) : dlt (.str a) (.str b) = slt a b := by
  unfold dlt slt
  rw [py, py, PySem.W.dataLt_str, ← ltCps_eq]
theorem asc_ris {l : List Str} (h : Asc l) : ris (txs l) = true := by
  refine ris_pw ?_
  unfold txs
  rw [List.pairwise_map]
  exact h.imp fun {a b} h => by rw [dlt_str]; exact h
theorem slt_of {a b : Str} (h : sle a b = true) (hne : a ≠ b) : slt a b = true := by
  unfold slt
  refine decide_eq_true ?_
  rcases List.le_iff_lt_or_eq.mp (sle_iff.mp h) with h | h
  · exact h
  · exact absurd (str_ext h) hne
theorem srt_asc {l : List Str} (h : l.Nodup) : Asc (srt l) := by
  have nd := (srt_perm l).nodup_iff.mpr h
  exact ((srt_sorted l).and nd).imp fun {a b} h => slt_of h.1 h.2
theorem tags_asc : Asc tags := by decide +kernel
theorem tags_name : tags.all (fun z => isName (.str z) && PySem.PyData.strOk z && decide (z.length ≤ 8) && slt z "zzz" && decide (z ≠ "zzz") && decide (z ≠ "")) = true := by decide +kernel
theorem tag_ok {z : Str} (h : z ∈ tags) : isName (.str z) = true ∧ PySem.PyData.strOk z = true ∧ z.length ≤ 8 ∧ slt z "zzz" = true ∧ z ≠ "zzz" ∧ z ≠ "" := by
  have := List.all_eq_true.mp tags_name z h
  simp only [Bool.and_eq_true, decide_eq_true_eq] at this
  exact ⟨this.1.1.1.1.1, this.1.1.1.1.2, this.1.1.1.2, this.1.1.2, this.1.2, this.2⟩
/-- names out of the tags, ascending -/
structure Ns (l : List Str) : Prop where
  a : Asc l
  t : ∀ z ∈ l, z ∈ tags
theorem Ns.nd {l : List Str} (h : Ns l) : l.Nodup := h.a.imp fun {a b} h e => by
  subst e
  unfold slt at h
  exact absurd (of_decide_eq_true h) (List.lt_irrefl _)
theorem Ns.len {l : List Str} (h : Ns l) : l.length ≤ 5 := nodup_le h.nd h.t
theorem Ns.sub {l l' : List Str} (h : Ns l) (s : l'.Sublist l) : Ns l' := ⟨h.a.sublist s, fun z hz => h.t z (s.subset hz)⟩
theorem Ns.set {l : List Str} (h : Ns l) : isNameSet (.tup (txs l)) = true := by
  show ((txs l).all isName && ris (txs l)) = true
  rw [asc_ris h.a, Bool.and_true]
  refine List.all_eq_true.mpr fun d hd => ?_
  obtain ⟨z, hz, rfl⟩ := List.mem_map.mp hd
  exact (tag_ok (h.t z hz)).1
theorem Ns.srt {l : List Str} (nd : l.Nodup) (h : ∀ z ∈ l, z ∈ tags) : Ns (srt l) := ⟨srt_asc nd, fun z hz => h z ((srt_perm l).mem_iff.mp hz)⟩
theorem tags_ns {l : List Str} (h : l.Sublist tags) : Ns l := ⟨tags_asc.sublist h, fun z hz => h.subset hz⟩
/-- a good part: names, disjoint, numbers and steps in bounds -/
structure Gp (k : Int) (p : Pt) : Prop where
  t : Ns p.t
  m : Ns p.m
  tm : ∀ x ∈ p.t, x ∉ p.m
  n : 1 ≤ p.n ∧ p.n ≤ k
  s : p.s.length ≤ 11 ∧ ∀ q ∈ p.s, (0 ≤ q.1 ∧ q.1 < p.n) ∧ (0 ≤ q.2.2 ∧ q.2.2 < p.n) ∧ (q.2.1 ∈ p.t ∨ q.2.1 ∈ p.m ∨ q.2.1 = "")
  r : Rise p.s
theorem Made.gp {t m : List Str} {k : Int} {p : Pt} (h : Made t m k p) (ht : Ns t) (hm : Ns m) (hd : ∀ x ∈ t, x ∉ m) : Gp k p := by
  obtain ⟨rfl, rfl, h1, h2, h3⟩ := h
  exact ⟨ht, hm, hd, h1, h2, h3⟩
section
variable {k : Int} {p q : Pt}
theorem Gp.call (h : Gp k p) {x : Stp} (hx : x ∈ p.s) : PySem.PyData.strOk x.2.1 = true ∧ x.2.1.length ≤ 8 := by
  rcases (h.s.2 x hx).2.2 with h1 | h1 | h1
  · have := tag_ok (h.t.t _ h1)
    exact ⟨this.2.1, this.2.2.1⟩
  · have := tag_ok (h.m.t _ h1)
    exact ⟨this.2.1, this.2.2.1⟩
  · rw [h1]
    exact ⟨by decide +kernel, by decide +kernel⟩
theorem Gp.ptok (h : Gp k p) : PtOk p := by
  have h1 := h.t.len
  have h2 := h.m.len
  have h3 := h.s.1
  exact ⟨⟨by omega, fun z hz => ⟨(tag_ok (h.t.t z hz)).2.1, by have := (tag_ok (h.t.t z hz)).2.2.1; omega⟩⟩, ⟨by omega, fun z hz => ⟨(tag_ok (h.m.t z hz)).2.1, by have := (tag_ok (h.m.t z hz)).2.2.1; omega⟩⟩, ⟨by omega, fun q hq => ⟨(h.call hq).1, by have := (h.call hq).2; omega⟩⟩⟩
theorem Gp.inb (h : Gp k p) : Inb p := ⟨h.n.1, fun q hq => ⟨(h.s.2 q hq).1.1, (h.s.2 q hq).1.2, (h.s.2 q hq).2.1.1, (h.s.2 q hq).2.1.2⟩⟩
theorem Gp.fok (h : Gp k p) (hk : k ≤ 4) : Fok p := ⟨h.ptok, h.inb, Int.le_trans h.n.2 hk, h.s.1⟩
theorem Gp.gd (h : Gp k p) : Gd p := ⟨fun q hq => (h.s.2 q hq).2.2, fun x hx => ⟨h.tm x hx, (tag_ok (h.t.t x hx)).2.2.2.2.2⟩, fun x hx => (tag_ok (h.m.t x hx)).2.2.2.2.2⟩
theorem steps_ris {s : List Stp} (h : Rise s) : ris (s.map encS) = true := by
  refine ris_pw ?_
  rw [List.pairwise_map]
  exact h
theorem Gp.part (h : Gp k p) : isPart (enc p) = true := by
  unfold enc
  rw [isPart_eq, strs_txs, strs_txs, h.t.set, h.m.set, steps_ris h.r]
  have e1 : (p.t.any fun x => decide (x ∈ p.m)) = false := List.any_eq_false.mpr fun x hx e => h.tm x hx (of_decide_eq_true e)
  have e2 : (p.s.map encS).all (isStep (p.t ++ p.m) p.n) = true := by
    refine List.all_eq_true.mpr fun d hd => ?_
    obtain ⟨q, hq, rfl⟩ := List.mem_map.mp hd
    obtain ⟨⟨a1, a2⟩, ⟨b1, b2⟩, c⟩ := h.s.2 q hq
    show ((decide (q.2.1 = "") || decide (q.2.1 ∈ p.t ++ p.m)) && ((decide (0 ≤ q.1) && decide (q.1 < p.n)) && (decide (0 ≤ q.2.2) && decide (q.2.2 < p.n)))) = true
    rw [decide_eq_true a1, decide_eq_true a2, decide_eq_true b1, decide_eq_true b2]
    rcases c with c | c | c
    · rw [decide_eq_true (List.mem_append.mpr (.inl c)), Bool.or_true]; rfl
    · rw [decide_eq_true (List.mem_append.mpr (.inr c)), Bool.or_true]; rfl
    · rw [decide_eq_true c]; rfl
  rw [e1, e2, decide_eq_true h.n.1]
  rfl
theorem ok_txs {n : Nat} {l : List Str} (h : ∀ z ∈ l, PySem.PyData.strOk z = true ∧ z.length ≤ 1000) (hl : l.length ≤ 1000) : ok (n + 1) (.tup (txs l)) = true ∧ ok (n + 1) (.lst (txs l)) = true := by
  have key : (txs l).all (ok n) = true := List.all_eq_true.mpr fun d hd => by
    obtain ⟨z, hz, rfl⟩ := List.mem_map.mp hd
    rw [ok, (h z hz).1, decide_eq_true (h z hz).2]
    rfl
  rw [ok, ok, txs_len, key, decide_eq_true hl]
  exact ⟨rfl, rfl⟩
theorem ok_steps {n : Nat} {s : List Stp} (h : ∀ q ∈ s, PySem.PyData.strOk q.2.1 = true ∧ q.2.1.length ≤ 1000) (hl : s.length ≤ 1000) : ok (n + 2) (.tup (s.map encS)) = true := by
  have key : (s.map encS).all (ok (n + 1)) = true := List.all_eq_true.mpr fun d hd => by
    obtain ⟨q, hq, rfl⟩ := List.mem_map.mp hd
    simp [encS, ok, (h q hq).1, (h q hq).2]
  rw [ok, List.length_map, key, decide_eq_true hl]
  rfl
theorem PtOk.ok (h : PtOk p) (n : Nat) : Fs.ok (n + 3) (enc p) = true := by
  have h1 := (ok_txs (n := n + 1) h.t.2 (by have := h.t.1; omega)).1
  have h2 := (ok_txs (n := n + 1) h.m.2 (by have := h.m.1; omega)).1
  have h3 := ok_steps (n := n) h.s.2 (by have := h.s.1; omega)
  unfold enc
  rw [Fs.ok, List.all_cons, List.all_cons, List.all_cons, List.all_cons, h1, h2, h3, Fs.ok]
  rfl
theorem tpl_txs (l : List Str) : tpl (.tup (txs l)) = .tup (txs l) ∧ tpl (.lst (txs l)) = .tup (txs l) := by
  have e : (txs l).map tpl = txs l := by
    unfold txs
    rw [List.map_map]
    exact List.map_congr_left fun z _ => by show tpl (.str z) = _; simp [tpl]
  rw [tpl_tup, tpl_lst, e]
  exact ⟨rfl, rfl⟩
theorem tpl_steps (s : List Stp) : (s.map encS).map tpl = s.map encS ∧ ((s.map encS).map lsts).map tpl = s.map encS := by
  rw [List.map_map, List.map_map, List.map_map]
  refine ⟨List.map_congr_left fun q _ => ?_, List.map_congr_left fun q _ => ?_⟩
  · show tpl (encS q) = _
    unfold encS
    rw [tpl_tup]
    simp [tpl]
  · show tpl (lsts (encS q)) = _
    unfold encS
    rw [lsts_tup, tpl_lst]
    simp [tpl, lsts]
theorem raw_enc (h : PtOk p) : Raw (enc p) p := by
  refine ⟨h.ok 0, ?_, _, _, _, _, .inl rfl, .inl rfl, .inl rfl⟩
  unfold enc
  rw [tpl_tup, List.map_cons, List.map_cons, List.map_cons, List.map_cons, (tpl_txs _).1, (tpl_txs _).1, tpl_tup, (tpl_steps _).1]
  simp [tpl]
theorem lsts_txs (l : List Str) : lsts (.tup (txs l)) = .lst (txs l) := by
  rw [lsts_tup]
  congr 1
  unfold txs
  rw [List.map_map]
  exact List.map_congr_left fun z _ => by show lsts (.str z) = _; simp [lsts]
theorem lsts_enc (p : Pt) : lsts (enc p) = .lst [.lst (txs p.t), .lst (txs p.m), .int p.n, .lst ((p.s.map encS).map lsts)] := by
  unfold enc
  rw [lsts_tup, List.map_cons, List.map_cons, List.map_cons, List.map_cons, lsts_txs, lsts_txs, lsts_tup]
  simp [lsts]
theorem ok_steps2 {n : Nat} {s : List Stp} (h : ∀ q ∈ s, PySem.PyData.strOk q.2.1 = true ∧ q.2.1.length ≤ 1000) (hl : s.length ≤ 1000) : ok (n + 2) (.lst ((s.map encS).map lsts)) = true := by
  have key : ((s.map encS).map lsts).all (ok (n + 1)) = true := List.all_eq_true.mpr fun d hd => by
    obtain ⟨d', hd', rfl⟩ := List.mem_map.mp hd
    obtain ⟨q, hq, rfl⟩ := List.mem_map.mp hd'
    unfold encS
    rw [lsts_tup]
    simp [lsts, ok, (h q hq).1, (h q hq).2]
  rw [ok, List.length_map, List.length_map, key, decide_eq_true hl]
  rfl
theorem raw_lsts (h : PtOk p) : Raw (lsts (enc p)) p := by
  have h1 := (ok_txs (n := 1) h.t.2 (by have := h.t.1; omega)).2
  have h2 := (ok_txs (n := 1) h.m.2 (by have := h.m.1; omega)).2
  have h3 := ok_steps2 (n := 0) h.s.2 (by have := h.s.1; omega)
  rw [lsts_enc]
  refine ⟨?_, ?_, _, _, _, _, .inr rfl, .inr rfl, .inr rfl⟩
  · rw [Fs.ok, List.all_cons, List.all_cons, List.all_cons, List.all_cons, h1, h2, h3, Fs.ok]
    rfl
  · unfold enc
    rw [tpl_lst, List.map_cons, List.map_cons, List.map_cons, List.map_cons, (tpl_txs _).2, (tpl_txs _).2, tpl_lst, (tpl_steps _).2]
    simp [tpl]
theorem PtOk.okp (h : PtOk p) : OkP (enc p) := by
  refine ⟨fun t m c e z => ?_, fun t m c sts z => ?_⟩
  · unfold enc at z
    cases z
    have sn : ∀ l : List Str, l.length ≤ 20 → (∀ z ∈ l, PySem.PyData.strOk z = true ∧ z.length ≤ 1000) → smN (.tup (txs l)) := fun l hl hz es e => by
      cases e
      refine ⟨by rw [txs_len]; omega, fun d hd z ez => ?_⟩
      obtain ⟨z', hz', rfl⟩ := List.mem_map.mp hd
      cases ez
      exact (hz z hz').2
    exact ⟨sn _ h.t.1 h.t.2, sn _ h.m.1 h.m.2, fun e => nomatch e⟩
  · unfold enc at z
    cases z
    refine ⟨by rw [List.length_map]; have := h.s.1; omega, fun x hx es e y hy => ?_⟩
    obtain ⟨q, hq, rfl⟩ := List.mem_map.mp hx
    unfold encS at e
    cases e
    simp only [List.mem_cons, List.not_mem_nil, or_false] at hy
    rcases hy with rfl | rfl | rfl
    · exact ⟨(fun e => nomatch e), (fun z e => nomatch e)⟩
    · exact ⟨(fun e => nomatch e), (fun z e => by cases e; exact (h.s.2 q hq).1)⟩
    · exact ⟨(fun e => nomatch e), (fun z e => nomatch e)⟩
end
end Fs
set_option Elab.async false
set_option linter.all false
set_option maxRecDepth 100000
set_option maxHeartbeats 2000000
/-! The plain law: two drawn parts, what stands around them; the two swapped. -/
namespace Fs
open PySem PySem.Spec PyProof.Rows
structure Pair (p q : Pt) : Prop where
  gp : Gp 3 p
  gq : Gp 3 q
  tt : ∀ x ∈ p.t, x ∉ q.t
  mm : ∀ x ∈ p.m, x ∉ q.m
theorem Pair.of {p q : Pt} {l0 l1 l2 l3 : List Str} (h1 : Made l0 l1 3 p) (h2 : Made l2 l3 3 q) (F : Four tags [l0, l1, l2, l3]) : Pair p q := by
  obtain ⟨m0, m1, m2, m3, e, ⟨s0, s1, s2, s3⟩, d1, d2⟩ := F.ex
  cases e
  have e1 := h1.ht
  have e2 := h1.hm
  have e3 := h2.ht
  have e4 := h2.hm
  refine ⟨h1.gp (tags_ns s0) (tags_ns s1) (fun x hx => (d1 x hx).1), h2.gp (tags_ns s2) (tags_ns s3) (fun x hx h => (d2 x h).2 hx), fun x hx h => ?_, fun x hx h => ?_⟩
  · rw [e1] at hx
    rw [e3] at h
    exact (d1 x hx).2 h
  · rw [e2] at hx
    rw [e4] at h
    exact (d2 x h).1 hx
section
variable {p q o : Pt}
theorem Pair.sw (h : Pair p q) : Pair q p := ⟨h.gq, h.gp, fun x hx h2 => h.tt x h2 hx, fun x hx h2 => h.mm x h2 hx⟩
theorem filter_none {l m : List Str} (h : ∀ x ∈ l, x ∉ m) : l.filter (fun x => decide (x ∈ m)) = [] := List.filter_eq_nil_iff.mpr fun x hx e => h x hx (of_decide_eq_true e)
theorem Pair.unj (h : Pair p q) : unj p q = [] := by
  unfold Fs.unj
  rw [filter_none h.tt, filter_none h.mm]
  rfl
theorem mem_com {x : Str} : x ∈ com p q ↔ (x ∈ p.t ∨ x ∈ p.m) ∧ (x ∈ q.t ∨ x ∈ q.m) := by
  unfold com
  rw [(srt_perm _).mem_iff, List.mem_filter, decide_eq_true_eq, List.mem_append, List.mem_append]
theorem mem_outT {x : Str} : x ∈ outT p q ↔ (x ∈ p.t ∨ x ∈ q.t) ∧ x ∉ com p q := by
  unfold outT
  rw [(srt_perm _).mem_iff, List.mem_filter, Bool.not_eq_true', decide_eq_false_iff_not, List.mem_append]
theorem mem_outM {x : Str} : x ∈ outM p q ↔ (x ∈ p.m ∨ x ∈ q.m) ∧ x ∉ com p q := by
  unfold outM
  rw [(srt_perm _).mem_iff, List.mem_filter, Bool.not_eq_true', decide_eq_false_iff_not, List.mem_append]
theorem nd_app {l m : List Str} (h1 : l.Nodup) (h2 : m.Nodup) (h : ∀ x ∈ l, x ∉ m) : (l ++ m).Nodup := List.nodup_append.mpr ⟨h1, h2, fun a ha b hb e => h a ha (by rw [e]; exact hb)⟩
theorem Pair.outT (h : Pair p q) : Ns (outT p q) := Ns.srt ((nd_app h.gp.t.nd h.gq.t.nd h.tt).sublist List.filter_sublist) fun z hz => by
  rcases List.mem_append.mp (List.mem_filter.mp hz).1 with hz | hz
  · exact h.gp.t.t z hz
  · exact h.gq.t.t z hz
theorem Pair.outM (h : Pair p q) : Ns (outM p q) := Ns.srt ((nd_app h.gp.m.nd h.gq.m.nd h.mm).sublist List.filter_sublist) fun z hz => by
  rcases List.mem_append.mp (List.mem_filter.mp hz).1 with hz | hz
  · exact h.gp.m.t z hz
  · exact h.gq.m.t z hz
theorem Pair.mt (h : Pair p q) {x : Str} (hm : x ∈ Fs.outM p q) : x ∉ Fs.outT p q := fun ht => by
  obtain ⟨h1, h2⟩ := mem_outM.mp hm
  obtain ⟨h3, _⟩ := mem_outT.mp ht
  rw [mem_com] at h2
  rcases h1 with h1 | h1 <;> rcases h3 with h3 | h3
  · exact h.gp.tm x h3 h1
  · exact h2 ⟨.inr h1, .inl h3⟩
  · exact h2 ⟨.inl h3, .inr h1⟩
  · exact h.gq.tm x h3 h1
/-- own stands around p and q -/
structure Own (p q o : Pt) : Prop where
  g : Gp 3 o
  t : o.t = Fs.outM p q
  m : ∀ x ∈ o.m, x ∈ Fs.outT p q
theorem dlt_still {a b : Str} (h : slt a b = true) : dlt (encS (0, a, 0)) (encS (0, b, 0)) = true := by
  unfold dlt PySem.W.dataLt encS
  have hlt : itemLt (.inr a.cps.toList) (.inr b.cps.toList) = true := by
    have := dlt_str a b
    unfold dlt PySem.W.dataLt at this
    rw [py, py, PySem.W.keyToks, PySem.W.keyToks] at this
    have e : lexLt itemOrd [Sum.inr a.cps.toList] [Sum.inr b.cps.toList] = (itemLt (.inr a.cps.toList) (.inr b.cps.toList) || (!itemLt (.inr b.cps.toList) (.inr a.cps.toList) && false)) := rfl
    rw [e, Bool.and_false, Bool.or_false, h] at this
    exact this
  have e1 : ∀ z : Str, PySem.W.keyToks (py (.tup [.int 0, .str z, .int 0])) = [Sum.inl 1, Sum.inl 0, Sum.inl 1, Sum.inr z.cps.toList, Sum.inl 1, Sum.inl 0, Sum.inl 0] := fun z => by
    rw [py_tup]
    simp [py, PySem.W.keyToks, PySem.W.keyToksAll]
  rw [e1, e1]
  show (itemLt (.inl 1) (.inl 1) || (!itemLt (.inl 1) (.inl 1) && (itemLt (.inl 0) (.inl 0) || (!itemLt (.inl 0) (.inl 0) && (itemLt (.inl 1) (.inl 1) || (!itemLt (.inl 1) (.inl 1) && (itemLt (.inr a.cps.toList) (.inr b.cps.toList) || _))))))) = true
  rw [hlt]
  rfl
theorem Pair.quiet (h : Pair p q) : Own p q (quiet p q) := by
  have ho := h.outM
  refine ⟨⟨ho, ⟨.nil, fun z hz => (by cases hz)⟩, fun x _ hx => (by cases hx), ⟨by show (1 : Int) ≤ 1; decide, by show (1 : Int) ≤ 3; decide⟩, ⟨?_, fun c hc => ?_⟩, ?_⟩, rfl, fun x hx => (by cases hx)⟩
  · show ((Fs.outM p q).map fun c => ((0 : Int), c, (0 : Int))).length ≤ 11
    rw [List.length_map]
    have := ho.len
    omega
  · obtain ⟨x, hx, rfl⟩ := List.mem_map.mp (show c ∈ (Fs.outM p q).map fun c => ((0 : Int), c, (0 : Int)) from hc)
    exact ⟨⟨by show (0 : Int) ≤ 0; decide, by show (0 : Int) < 1; decide⟩, ⟨by show (0 : Int) ≤ 0; decide, by show (0 : Int) < 1; decide⟩, .inl hx⟩
  · show ((Fs.outM p q).map fun c => ((0 : Int), c, (0 : Int))).Pairwise _
    rw [List.pairwise_map]
    exact ho.a.imp fun {a b} h => dlt_still h
theorem Own.around (h : Pair p q) (w : Own p q o) : around p q (enc o) = true := by
  have e1 : thT (enc o) = o.t := strs_txs o.t
  have e2 : thM (enc o) = o.m := strs_txs o.m
  unfold Fs.around
  rw [w.g.part, e1, e2, w.t]
  have a1 : (o.m.all fun x => decide (x ∈ Fs.outT p q)) = true := List.all_eq_true.mpr fun x hx => decide_eq_true (w.m x hx)
  have a2 : ((Fs.outM p q).all fun x => decide (x ∈ Fs.outM p q)) = true := List.all_eq_true.mpr fun x hx => decide_eq_true hx
  have a3 : ((every p q).any fun x => decide (x ∈ Fs.outM p q) && !decide (x ∈ Fs.outM p q)) = false := List.any_eq_false.mpr fun x _ e => by
    cases hd : decide (x ∈ Fs.outM p q) <;> rw [hd] at e <;> cases e
  rw [a1, a2, a3]
  rfl
theorem around_self (h : Pair p q) : around p q (enc p) = (p.t.isEmpty && ((Fs.outM p q).isEmpty && p.m.isEmpty)) := by
  have e1 : thT (enc p) = p.t := strs_txs p.t
  have e2 : thM (enc p) = p.m := strs_txs p.m
  unfold Fs.around
  rw [h.gp.part, e1, e2]
  have b1 : (p.m.all fun x => decide (x ∈ Fs.outT p q)) = p.m.isEmpty := by
    cases hm : p.m with
    | nil => rfl
    | cons x l =>
      have hx : x ∈ p.m := by rw [hm]; exact List.mem_cons_self
      have : x ∉ Fs.outT p q := fun hz => by
        obtain ⟨h1, h2⟩ := mem_outT.mp hz
        rcases h1 with h1 | h1
        · exact h.gp.tm x h1 hx
        · exact h2 (mem_com.mpr ⟨.inr hx, .inl h1⟩)
      rw [List.all_cons, decide_eq_false this]
      rfl
  have nt : ∀ x ∈ p.t, x ∉ Fs.outM p q := fun x hx hz => by
    obtain ⟨h1, h2⟩ := mem_outM.mp hz
    rcases h1 with h1 | h1
    · exact h.gp.tm x hx h1
    · exact h2 (mem_com.mpr ⟨.inl hx, .inr h1⟩)
  have b2 : ((Fs.outM p q).all fun x => decide (x ∈ p.t)) = (Fs.outM p q).isEmpty := by
    cases hm : Fs.outM p q with
    | nil => rfl
    | cons x l =>
      have hx : x ∈ Fs.outM p q := by rw [hm]; exact List.mem_cons_self
      rw [List.all_cons, decide_eq_false fun hz => nt x hz hx]
      rfl
  have b3 : (!((every p q).any fun x => decide (x ∈ p.t) && !decide (x ∈ Fs.outM p q))) = p.t.isEmpty := by
    cases hm : p.t with
    | nil =>
      have : ((every p q).any fun x => decide (x ∈ ([] : List Str)) && !decide (x ∈ Fs.outM p q)) = false := List.any_eq_false.mpr fun x _ e => by
        rw [decide_eq_false (List.not_mem_nil)] at e
        cases e
      rw [this]
      rfl
    | cons x l =>
      have hx : x ∈ p.t := by rw [hm]; exact List.mem_cons_self
      have : ((every p q).any fun y => decide (y ∈ x :: l) && !decide (y ∈ Fs.outM p q)) = true := List.any_eq_true.mpr ⟨x, by unfold every; rw [hm]; simp, by
        rw [decide_eq_true (List.mem_cons_self), decide_eq_false (nt x hx)]
        rfl⟩
      rw [this]
      rfl
  rw [b1, b2, b3]
  cases p.t.isEmpty <;> cases (Fs.outM p q).isEmpty <;> cases p.m.isEmpty <;> rfl
/-- the open part that takes a call more -/
def zzz (l : List Str) : Pt := ⟨l ++ [("zzz" : Str)], [], 1, []⟩
theorem zzz_set {l : List Str} (h : Ns l) : isNameSet (.tup (txs (l ++ [("zzz" : Str)]))) = true := by
  show ((txs (l ++ [("zzz" : Str)])).all isName && ris (txs (l ++ [("zzz" : Str)]))) = true
  have ha : Asc (l ++ [("zzz" : Str)]) := List.pairwise_append.mpr ⟨h.a, List.pairwise_singleton _ _, fun a ha b hb => by
    rw [List.mem_singleton.mp hb]
    exact (tag_ok (h.t a ha)).2.2.2.1⟩
  rw [asc_ris ha, Bool.and_true]
  refine List.all_eq_true.mpr fun d hd => ?_
  obtain ⟨z, hz, rfl⟩ := List.mem_map.mp hd
  rcases List.mem_append.mp hz with hz | hz
  · exact (tag_ok (h.t z hz)).1
  · rw [List.mem_singleton.mp hz]
    decide +kernel
theorem around_zzz (h : Pair p q) : around p q (enc (zzz (Fs.outM p q))) = true := by
  have e1 : thT (enc (zzz (Fs.outM p q))) = Fs.outM p q ++ [("zzz" : Str)] := strs_txs _
  have e2 : thM (enc (zzz (Fs.outM p q))) = [] := strs_txs []
  have ep : isPart (enc (zzz (Fs.outM p q))) = true := by
    unfold enc
    rw [isPart_eq, strs_txs, strs_txs]
    show (isNameSet (.tup (txs (Fs.outM p q ++ [("zzz" : Str)]))) && isNameSet (.tup (txs [])) && !((Fs.outM p q ++ [("zzz" : Str)]).any fun x => decide (x ∈ ([] : List Str))) && decide ((1 : Int) ≤ 1) && (([] : List Da).all _ && ris [])) = true
    have e3 : ((Fs.outM p q ++ [("zzz" : Str)]).any fun x => decide (x ∈ ([] : List Str))) = false := List.any_eq_false.mpr fun x _ e => by
      rw [decide_eq_false (List.not_mem_nil)] at e
      cases e
    rw [zzz_set h.outM, e3]
    rfl
  unfold Fs.around
  rw [ep, e1, e2]
  have a2 : ((Fs.outM p q).all fun x => decide (x ∈ Fs.outM p q ++ [("zzz" : Str)])) = true := List.all_eq_true.mpr fun x hx => decide_eq_true (List.mem_append.mpr (.inl hx))
  have tg : ∀ x ∈ every p q, x ∈ tags := fun x hx => by
    unfold every at hx
    rcases List.mem_append.mp hx with hx | hx
    · rcases List.mem_append.mp hx with hx | hx
      · exact h.gp.t.t x hx
      · exact h.gp.m.t x hx
    · rcases List.mem_append.mp hx with hx | hx
      · exact h.gq.t.t x hx
      · exact h.gq.m.t x hx
  have a3 : ((every p q).any fun x => decide (x ∈ Fs.outM p q ++ [("zzz" : Str)]) && !decide (x ∈ Fs.outM p q)) = false := List.any_eq_false.mpr fun x hx e => by
    rw [Bool.and_eq_true, decide_eq_true_eq, Bool.not_eq_true', decide_eq_false_iff_not] at e
    rcases List.mem_append.mp e.1 with z | z
    · exact e.2 z
    · exact (tag_ok (tg x hx)).2.2.2.2.1 (List.mem_singleton.mp z)
  rw [a2, a3]
  rfl

/-! ### the two swapped -/
def swp : List Int → List Int
  | [a, b, c] => [b, a, c]
  | x => x
def tau (i : Nat) : Nat := if i = 0 then 1 else if i = 1 then 0 else i
theorem len3 {x : List Int} (h : x.length = 3) : ∃ a b c, x = [a, b, c] := by
  match x, h with
  | [a, b, c], _ => exact ⟨a, b, c, rfl⟩
theorem swp_len {x : List Int} (h : x.length = 3) : (swp x).length = 3 := by
  obtain ⟨a, b, c, rfl⟩ := len3 h
  rfl
theorem swp_swp {x : List Int} (h : x.length = 3) : swp (swp x) = x := by
  obtain ⟨a, b, c, rfl⟩ := len3 h
  rfl
theorem swp_set {x : List Int} (h : x.length = 3) {i : Nat} (hi : i < 3) (v : Int) : swp (x.set i v) = (swp x).set (tau i) v := by
  obtain ⟨a, b, c, rfl⟩ := len3 h
  match i, hi with
  | 0, _ => rfl
  | 1, _ => rfl
  | 2, _ => rfl
theorem zz_swp {x : List Int} (h : x.length = 3) {u : Zt} (hu : u ∈ zz [p, q, o] x) : (tau u.1, u.2.1, u.2.2) ∈ zz [q, p, o] (swp x) ∧ u.1 < 3 := by
  obtain ⟨a, b, c, rfl⟩ := len3 h
  have e : zz [p, q, o] [a, b, c] = [(0, p, a), (1, q, b), (2, o, c)] := rfl
  have e2 : zz [q, p, o] (swp [a, b, c]) = [(0, q, b), (1, p, a), (2, o, c)] := rfl
  rw [e] at hu
  rw [e2]
  simp only [List.mem_cons, List.not_mem_nil, or_false] at hu
  rcases hu with rfl | rfl | rfl
  · exact ⟨List.mem_cons_of_mem _ List.mem_cons_self, (show 0 < 3 by decide)⟩
  · exact ⟨List.mem_cons_self, (show 1 < 3 by decide)⟩
  · exact ⟨List.mem_cons_of_mem _ (List.mem_cons_of_mem _ List.mem_cons_self), (show 2 < 3 by decide)⟩
theorem deaf_swp {x : List Int} (h : x.length = 3) (d : Str) : deaf (zz [q, p, o] (swp x)) d = deaf (zz [p, q, o] x) d := by
  obtain ⟨a, b, c, rfl⟩ := len3 h
  show ((decide (d ∈ q.t) && (leadsI q.s b d).isEmpty) || ((decide (d ∈ p.t) && (leadsI p.s a d).isEmpty) || _)) = ((decide (d ∈ p.t) && (leadsI p.s a d).isEmpty) || ((decide (d ∈ q.t) && (leadsI q.s b d).isEmpty) || _))
  rw [← Bool.or_assoc, ← Bool.or_assoc, Bool.or_comm (decide (d ∈ q.t) && (leadsI q.s b d).isEmpty)]
  rfl
theorem apart_swp {x : List Int} (h : x.length = 3) : apart [q, p, o] (swp x) = apart [p, q, o] x := by
  obtain ⟨a, b, c, rfl⟩ := len3 h
  have ed := fun d => deaf_swp (p := p) (q := q) (o := o) (x := [a, b, c]) rfl d
  have es : ∀ (i j : Nat) (r : Pt) (v : Int), r.s.any (apS (zz [q, p, o] (swp [a, b, c])) (i, r, v)) = r.s.any (apS (zz [p, q, o] [a, b, c]) (j, r, v)) := fun i j r v => by
    congr 1
    funext u
    unfold apS
    rw [ed]
  show ((q.s.any (apS (zz [q, p, o] (swp [a, b, c])) (0, q, b))) || ((p.s.any (apS (zz [q, p, o] (swp [a, b, c])) (1, p, a))) || ((o.s.any (apS (zz [q, p, o] (swp [a, b, c])) (2, o, c))) || false))) = ((p.s.any (apS (zz [p, q, o] [a, b, c]) (0, p, a))) || ((q.s.any (apS (zz [p, q, o] [a, b, c]) (1, q, b))) || ((o.s.any (apS (zz [p, q, o] [a, b, c]) (2, o, c))) || false)))
  rw [es 0 1, es 1 0, es 2 2]
  exact Bool.or_left_comm _ _ _
theorem moves_swp {x y : List Int} (h : x.length = 3) (hy : y ∈ moves [p, q, o] x) : swp y ∈ moves [q, p, o] (swp x) := by
  unfold moves at hy ⊢
  obtain ⟨u, hu, hy⟩ := List.mem_flatMap.mp hy
  obtain ⟨s, hs, hy⟩ := List.mem_flatMap.mp hy
  obtain ⟨k1, k2⟩ := zz_swp (p := p) (q := q) (o := o) h hu
  refine List.mem_flatMap.mpr ⟨_, k1, List.mem_flatMap.mpr ⟨s, hs, ?_⟩⟩
  unfold mvS at hy ⊢
  split at hy
  · rename_i c
    rw [if_pos c]
    rw [List.mem_singleton.mp hy]
    exact List.mem_singleton.mpr (swp_set h k2 _)
  · rename_i c
    rw [if_neg c]
    split at hy
    · rename_i c2
      rw [if_pos c2]
      obtain ⟨v, hv, hy⟩ := List.mem_flatMap.mp hy
      obtain ⟨k3, k4⟩ := zz_swp (p := p) (q := q) (o := o) h hv
      refine List.mem_flatMap.mpr ⟨_, k3, ?_⟩
      split at hy
      · rename_i c3
        rw [if_pos c3]
        obtain ⟨its, hits, rfl⟩ := List.mem_map.mp hy
        refine List.mem_map.mpr ⟨its, hits, ?_⟩
        rw [swp_set (by rw [List.length_set]; exact h) k4, swp_set h k2]
      · cases hy
    · cases hy
theorem reach_swp (hp : ∀ r ∈ [p, q, o], Inb r) {x : List Int} (h : Reach [p, q, o] x) : Reach [q, p, o] (swp x) := by
  induction h with
  | zero => exact .zero
  | step h1 h2 ih => exact .step ih (moves_swp (reach_len rfl hp h1) h2)
theorem fits_swp (hp : ∀ r ∈ [p, q, o], Inb r) (h : Fits [p, q, o]) : Fits [q, p, o] := fun x hx => by
  have hp' : ∀ r ∈ [q, p, o], Inb r := fun r hr => hp r (by
    simp only [List.mem_cons, List.not_mem_nil, or_false] at hr ⊢
    rcases hr with h | h | h
    · exact .inr (.inl h)
    · exact .inl h
    · exact .inr (.inr h))
  have hl := reach_len rfl hp' hx
  have h1 := h _ (reach_swp hp' hx)
  rw [apart_swp (p := q) (q := p) hl] at h1
  exact h1
theorem fitsB_swp (hp : ∀ r ∈ [p, q, o], Inb r) : fitsB [q, p, o] = fitsB [p, q, o] := by
  have hp' : ∀ r ∈ [q, p, o], Inb r := fun r hr => hp r (by
    simp only [List.mem_cons, List.not_mem_nil, or_false] at hr ⊢
    rcases hr with h | h | h
    · exact .inr (.inl h)
    · exact .inl h
    · exact .inr (.inr h))
  by_cases h : Fits [p, q, o]
  · rw [fitsB_true h, fitsB_true (fits_swp hp h)]
  · rw [fitsB_false h, fitsB_false fun z => h (fits_swp hp' z)]
end
end Fs
set_option Elab.async false
set_option linter.all false
set_option maxRecDepth 100000
set_option maxHeartbeats 4000000
/-! The walk: _law_right. -/
namespace Fs
open PySem PySem.Spec PyProof.Rows L2
section
variable {X : Cx} {e : Expr} {δ : De} {pos : Pos} {rest : List Stmt} {O : Post}
/-- x, y, .. = e, a tuple's items; e with changes -/
theorem s_tupE (js : List Nat) {tg : Expr} (h : EE X e δ fun δ' d => ∃ ds, d = .tup ds ∧ ds.length = js.length ∧ S X rest (setAllD δ' (js.zip ds)) O) (hg : PG X tg (gTup X.K js.length (gNames js)))
    (hs : swapsWithSole [tg] e pos.line X.env = pure false := by rfl) (hw : swappedStores [tg] e X.env = pure none := by rfl) (h1 : (assignEach [tg] X.env).map (·.2) = [assign tg X.env] := by rfl) : S X (.Assign [tg] e pos :: rest) δ O := fun Gb Hb σ G H D g St n r =>
  sts_cons (ws_asgW hg (h Gb Hb σ G H g St _ fun δ' v d G2 H2 hP g2 s2 S2 hv => by
    obtain ⟨ds, rfl, hl, k⟩ := hP
    refine gTup_at (X := X) hv g2.gh hl fun vs hvs => gNames_ok (by rw [hvs.len, hl]) ?_
    have key : ∀ (js : List Nat) (vs : List V) (ds : List Da) (σ : L2.St) (δ : De), Sto X.K Hb G2 H2 σ δ → AtL X.K G2 vs ds → Sto X.K Hb G2 H2 (setAll σ (js.zip vs)) (setAllD δ (js.zip ds)) := by
      intro js
      induction js with
      | nil => intro _ _ _ _ h _; exact h
      | cons j js ih =>
        intro vs ds σ δ h ha
        cases ha with
        | nil => exact h
        | cons a1 a2 => exact ih _ _ _ _ (h.set a1 j) a2
    exact k Gb Hb _ G2 H2 D g2 (key js vs ds σ δ' S2 hvs) n r) hs hw h1)
end
theorem eqd_tnil (ds : List Da) : eqd (.tup ds) (.tup []) = ds.isEmpty := by
  unfold eqd
  rw [py_tup, py_tup, PyData.eqv]
  cases ds <;> simp [PyData.eqvAll]
theorem txs_emp (l : List Str) : (txs l).isEmpty = l.isEmpty := by cases l <;> rfl
theorem ok_up : ∀ {n : Nat} {d : Da}, ok n d = true → ok (n + 1) d = true
  | n, .non, _ => by rw [ok]
  | n, .bl _, _ => by rw [ok]
  | n, .int _, _ => by rw [ok]
  | n, .str x, h => by rw [ok] at h ⊢; exact h
  | n + 1, .lst xs, h => by
    rw [ok, Bool.and_eq_true, List.all_eq_true] at h ⊢
    exact ⟨h.1, fun x hx => ok_up (h.2 x hx)⟩
  | n + 1, .tup xs, h => by
    rw [ok, Bool.and_eq_true, List.all_eq_true] at h ⊢
    exact ⟨h.1, fun x hx => ok_up (h.2 x hx)⟩
  | 0, .lst xs, h => by rw [ok] at h; cases h
  | 0, .tup xs, h => by rw [ok] at h; cases h
  | _, .exc, h => by rw [ok] at h; cases h
section
variable {P : Program} {w : World} {K : PySem.W.Frag} {mg : Str → Option Value} {base : Heap}
theorem fit_txs {n : Nat} {l : List Str} (h : ∀ z ∈ l, PySem.PyData.strOk z = true) : fit (n + 1) (.tup (txs l)) = true := by
  rw [fit]
  refine List.all_eq_true.mpr fun d hd => ?_
  obtain ⟨z, hz, rfl⟩ := List.mem_map.mp hd
  rw [fit]
  exact h z hz
theorem f_right (T : Tp K mg) {k : Nat} : Dfn P w K mg base CX0 (k + 9) "_law_right" (SpT K (fun b ds => ds = [] ∧ Tok 600000 b) fun b ds b' r => r = .bl true) := by
  obtain ⟨fd, F⟩ := T.c.def_ 38 (d := d_law_right) rfl
  refine dfnT_of F (T.glo 38) sc_law_right ?_ (fun _ _ _ _ _ _ us hl => match us, hl with | [_], _ => rfl) ?_
  · rintro b ds ⟨rfl, _⟩; rfl
  · rintro f cdv A outer s H EX hr t b0 ds ⟨rfl, c0, c1⟩
    have nd := sc_law_right.nd
    have hun : (Wx P w K mg base n_law_right "_law_right" d_law_right.scope f cdv A outer s H EX).A.units + 64 < cLine := hr.units
    refine s_for 1 (items := (List.range 10).map fun (i : Nat) => Da.int (i : Int)) (r_range 10 (a_cons e_int a_nil) rfl T.range (by decide)) nd PassesOwn.never
      (fun j δ' => ∃ (b : Tb) (c1 c2 c3 c4 c5 c6 c7 c8 c9 c10 c11 : Cl), δ' = [.ow t (tubD b), c1, c2, c3, c4, c5, c6, c7, c8, c9, c10, c11] ∧ (∀ p ds, c1 ≠ .ow p ds) ∧ (∀ p ds, c7 ≠ .ow p ds) ∧ (∀ p ds, c8 ≠ .ow p ds) ∧ (∀ p ds, c9 ≠ .ow p ds) ∧ (∀ p ds, c10 ≠ .ow p ds) ∧ (∀ p ds, c11 ≠ .ow p ds) ∧ (∀ p ds, c6 ≠ .ow p ds) ∧ 0 ≤ b.2.2 ∧ b.2.2 ≤ b0.2.2 + 400 * (j : Int))
      ⟨b0, _, _, _, _, _, _, _, _, _, _, _, rfl, (fun _ _ e => nomatch e), (fun _ _ e => nomatch e), (fun _ _ e => nomatch e), (fun _ _ e => nomatch e), (fun _ _ e => nomatch e), (fun _ _ e => nomatch e), (fun _ _ e => nomatch e), c0, by omega⟩ (fun j y δ' hy hI => ?_) (fun δ' hI => ?_)
    rotate_left
    · obtain ⟨b, _, _, _, _, _, _, _, _, _, _, _, rfl, _⟩ := hI
      exact s_ret e_bl ⟨b, rfl, rfl⟩
    obtain ⟨b, c1', c2, c3, c4, c5, c6, c7, c8, c9, c10, c11, rfl, n1, n7, n8, n9, n10, n11, n6, c2', c3'⟩ := hI
    have hj : j < 10 := by
      have := (List.getElem?_eq_some_iff.mp hy).1
      rw [List.length_map, List.length_range] at this
      exact this
    have hyi : y = .int (j : Int) := by
      rw [List.getElem?_map, List.getElem?_range hj] at hy
      exact (Option.some.inj hy).symm
    subst hyi
    refine s_tupE [2, 3] (ee_callT 0 (t := t) (f_two (k := 0) T) hr (by omega) pass0 ⟨_, rfl⟩ (eea_pure (a_cons e_int a_nil) ⟨b, rfl, ⟨3, rfl, by decide, by decide, c2', by omega⟩, fun b1 r hr1 => ?_⟩)) (pg_tup rfl (pgs_cons (pg_name nd rfl (Or.inl rfl)) (pgs_cons (pg_name nd rfl (Or.inl rfl)) pgs_nil)))
    obtain ⟨n', p, q, l0, l1, l2, l3, e1, rfl, m1, m2, hF, c4', c5'⟩ := hr1
    have e2 : n' = 3 := by
      have := (List.cons.inj e1).1
      cases this
      rfl
    subst e2
    have hpq : Pair p q := .of m1 m2 hF
    refine ⟨_, rfl, rfl, ?_⟩
    have okp := hpq.gp.ptok
    have okq := hpq.gq.ptok
    refine s_tup [4, 5] (e_call (f_outer (k := 0) T) hr (by omega) pass0 (a_cons (e_var 2 rfl) (a_cons (e_var 3 rfl) a_nil)) ⟨p, q, rfl, okp, okq, rfl⟩) rfl (pg_tup rfl (pgs_cons (pg_name nd rfl (Or.inr rfl)) (pgs_cons (pg_name nd rfl (Or.inr rfl)) pgs_nil))) ?_
    have hoT := hpq.outT
    have hoM := hpq.outM
    -- some
    refine s_setE 6 (ee_op op_cat (ee_pure (e_lst (a_cons (e_call (f_quiet (k := 0) T) hr (by omega) pass0 (a_cons (e_var 2 rfl) (a_cons (e_var 3 rfl) a_nil)) ⟨_, _, p, q, rfl, raw_enc okp, raw_enc okq, okp, okq, hpq.unj, rfl⟩) a_nil) (by simp))
      (ee_lcT 0 10 (t := t) (b0 := b1) (items := (List.range 3).map fun (i : Nat) => Da.int (i : Int)) (fun i p ds z => ?_) rfl (by decide) (by decide) (r_range 3 (a_cons e_int a_nil) rfl T.range (by decide)) (fun l b' acc => acc.length = l ∧ (∀ d ∈ acc, ∃ o, d = enc o ∧ Own p q o) ∧ 0 ≤ b'.2.2 ∧ b'.2.2 ≤ b.2.2 + 100 + 80 * (l : Int)) ⟨rfl, fun _ h => (by cases h), c4', by omega⟩ (fun l y b' acc hy hI s0 H0 C cl fp => ?_) (by simp) (fun b' acc hI => ?_) (fun l b' acc hI => by rw [hI.1]; exact Nat.le_refl _) nd (blk_ok (own := [("_law_lap", 10)]) (by kernel_rfl)) (fun _ _ _ _ _ => pg_name nd rfl (Or.inl rfl))))) nd
    · match i, z with
      | 0, z => rfl
      | 1, z => cases z
      | 2, z => cases z
      | 3, z => cases z
      | 4, z => cases z
      | 5, z => cases z
      | 6, z => exact absurd (Option.some.inj z) (n6 _ _)
      | 7, z => exact absurd (Option.some.inj z) (n7 _ _)
      | 8, z => exact absurd (Option.some.inj z) (n8 _ _)
      | 9, z => exact absurd (Option.some.inj z) (n9 _ _)
      | 10, z => exact absurd (Option.some.inj z) (n10 _ _)
      | 11, z => exact absurd (Option.some.inj z) (n11 _ _)
      | i + 12, z => simp [setAllD] at z
    · obtain ⟨hl, hacc, d0, d1⟩ := hI
      have hl3 : l < 3 := by
        have := (List.getElem?_eq_some_iff.mp hy).1
        rw [List.length_map, List.length_range] at this
        exact this
      refine eets_nil ⟨b', rfl, ?_⟩
      rw [if_pos rfl]
      intro s0 H0 C cl fp
      refine ee_callT 0 (t := t) (f_part (k := 0) T) hr (by omega) pass0 ⟨_, rfl⟩ (eea_cons (ee_pure (e_var 5 rfl) (eea_cons (ee_callT 0 (t := t) (f_set (k := 0) T) hr (by omega) pass0 ⟨_, rfl⟩ (eea_pure (a_cons (e_var 4 rfl) (a_cons e_int a_nil)) ⟨b', rfl, ⟨outT p q, 2, rfl, by have := hoT.len; omega, by decide, by decide, d0, by omega⟩, fun b2 r hr2 => ?_⟩)))))
      obtain ⟨lT, l', n2, e1, rfl, hsub, d2, d3⟩ := hr2
      have eT : lT = outT p q := by
        have h := Da.lst.inj (List.cons.inj e1).1
        exact ((List.map_inj_right (fun x y e => Da.str.inj e)).mp h).symm
      subst eT
      refine eea_pure (a_cons e_int a_nil) ⟨b2, rfl, ⟨_, _, outM p q, l', 3, rfl, .inr rfl, .inl rfl, by have := hoM.len; omega, by have := hsub.length_le; have := hoT.len; omega, by decide, by decide, d2, by omega⟩, fun b3 r hr3 => ?_⟩
      obtain ⟨d1', d2', t1, m1', n3, o, e3, x1, x2, rfl, hm, d4, d5⟩ := hr3
      simp only [List.cons.injEq, and_true] at e3
      obtain ⟨rfl, rfl, e4⟩ := e3
      cases e4
      have et : t1 = outM p q := by
        rcases x1 with h | h
        · cases h
        · exact ((List.map_inj_right (fun x y e => Da.str.inj e)).mp (Da.lst.inj h)).symm
      have em : m1' = l' := by
        rcases x2 with h | h
        · exact ((List.map_inj_right (fun x y e => Da.str.inj e)).mp (Da.tup.inj h)).symm
        · cases h
      subst et em
      have hown : Own p q o := ⟨hm.gp hoM (hoT.sub hsub) fun x hx h2 => hpq.mt hx (hsub.subset h2), hm.ht, fun x hx => by rw [hm.hm] at hx; exact hsub.subset hx⟩
      refine ⟨b3, rfl, by rw [List.length_append, hl]; rfl, fun d hd => ?_, d4, by omega⟩
      rcases List.mem_append.mp hd with hd | hd
      · exact hacc d hd
      · rw [List.mem_singleton.mp hd]
        exact ⟨o, rfl, hown⟩
    · obtain ⟨hl, hacc, d0, d1⟩ := hI
      have hl3 : acc.length = 3 := by rw [hl, List.length_map, List.length_range]
      rw [List.length_map, List.length_range] at d1
      refine ⟨_, od_cat (by simp; omega), ?_⟩
      have hsome : ∀ d ∈ [enc (quiet p q)] ++ acc, ∃ o, d = enc o ∧ Own p q o := fun d hd => by
        rcases List.mem_append.mp hd with hd | hd
        · rw [List.mem_singleton.mp hd]
          exact ⟨_, rfl, hpq.quiet⟩
        · exact hacc d hd
      generalize [enc (quiet p q)] ++ acc = some' at hsome
      -- for own in some
      refine s_for 7 (items := some') (r_lst (e_var 6 rfl)) nd PassesOwn.never
        (fun l δ' => ∃ (c7 c8 c9 : Cl), δ' = [.ow t (tubD b'), .kn (.int j), .kn (enc p), .kn (enc q), .kn (.lst (txs (outT p q))), .kn (.lst (txs (outM p q))), .kn (.lst some'), c7, c8, c9, c10, c11] ∧ (∀ p ds, c7 ≠ .ow p ds) ∧ (∀ p ds, c8 ≠ .ow p ds) ∧ (∀ p ds, c9 ≠ .ow p ds)) ⟨c7, c8, c9, rfl, n7, n8, n9⟩ (fun l y δ' hy hI => ?_) (fun δ' hI => ?_)
      · obtain ⟨e7, e8, e9, rfl, _⟩ := hI
        obtain ⟨o, rfl, ho⟩ := hsome y (List.mem_of_getElem? hy)
        have oko := ho.g.ptok
        have fp := hpq.gp.fok (by decide)
        have fq := hpq.gq.fok (by decide)
        have fo := ho.g.fok (by decide)
        have hin : ∀ r ∈ [p, q, o], Inb r := fun r hr => by
          simp only [List.mem_cons, List.not_mem_nil, or_false] at hr
          rcases hr with rfl | rfl | rfl
          · exact fp.inb
          · exact fq.inb
          · exact fo.inb
        refine s_set 8 (e_call (f_three (k := 0) T) hr (by omega) pass0 (a_cons (E.is (e_tup (a_cons (e_var 2 rfl) (a_cons (e_var 3 rfl) (a_cons (e_var 7 rfl) a_nil))) (by simp)) (show _ = thr [p, q, o] from rfl)) a_nil) ⟨p, q, o, rfl, fp, fq, fo, hpq.gp.gd, hpq.gq.gd, ho.g.gd, hpq.gp.n.2, hpq.gq.n.2, ho.g.n.2, rfl⟩) nd ?_
        refine s_set 9 (e_lst (a_cons (e_call (f_around (k := 0) T) hr (by omega) pass0 (a_cons (e_var 2 rfl) (a_cons (e_var 3 rfl) (a_cons (e_var 7 rfl) a_nil))) ⟨_, _, _, p, q, rfl, raw_enc okp, raw_enc okq, okp, okq, hpq.unj, oko.okp, rfl⟩) (a_cons (e_call (f_fits (k := 0) T) hr (by omega) pass0 (a_cons (e_var 2 rfl) (a_cons (e_var 3 rfl) (a_cons (e_var 7 rfl) a_nil))) ⟨_, _, _, p, q, o, rfl, raw_enc okp, raw_enc okq, raw_enc oko, fp, fq, fo, hpq.unj, rfl⟩) a_nil)) (by simp)) nd ?_
        refine s_set 9 (e_op op_cat (e_var 9 rfl) (e_lst (a_cons (e_call (f_fits (k := 0) T) hr (by omega) pass0 (a_cons (e_var 3 rfl) (a_cons (e_var 2 rfl) (a_cons (e_var 7 rfl) a_nil))) ⟨_, _, _, q, p, o, rfl, raw_enc okq, raw_enc okp, raw_enc oko, fq, fp, fo, hpq.sw.unj, rfl⟩) a_nil) (by simp)) (od_cat (by simp))) nd ?_
        have lsv : ∀ {r : Pt} (hr : PtOk r), ok 3 (enc r) = true := fun hr => hr.ok 0
        refine s_set 9 (e_op op_cat (e_var 9 rfl) (e_lst (a_cons (e_call (f_fits (k := 0) T) hr (by omega) pass0 (a_cons (e_call (f_lists (k := 0) T 3) hr (by omega) pass0 (a_cons (e_var 2 rfl) a_nil) ⟨_, rfl, lsv okp, rfl⟩) (a_cons (e_call (f_lists (k := 0) T 3) hr (by omega) pass0 (a_cons (e_var 3 rfl) a_nil) ⟨_, rfl, lsv okq, rfl⟩) (a_cons (e_call (f_lists (k := 0) T 3) hr (by omega) pass0 (a_cons (e_var 7 rfl) a_nil) ⟨_, rfl, lsv oko, rfl⟩) a_nil))) ⟨_, _, _, p, q, o, rfl, raw_lsts okp, raw_lsts okq, raw_lsts oko, fp, fq, fo, hpq.unj, rfl⟩) a_nil) (by simp)) (od_cat (by simp))) nd ?_
        have eg : ([Da.bl (around p q (enc o)), Da.bl (fitsB [p, q, o])] ++ [Da.bl (fitsB [q, p, o])] ++ [Da.bl (fitsB [p, q, o])]) = [Da.bl true, .bl (fitsB [p, q, o]), .bl (fitsB [p, q, o]), .bl (fitsB [p, q, o])] := by
          rw [ho.around hpq, fitsB_swp hin]
          rfl
        refine s_if (k := false) (b_not (b_val (e_call (f_same (k := 0) T 4 (by decide)) hr (by omega) pass0 (a_cons (E.is (e_var 9 rfl) (congrArg Da.lst eg)) (a_cons (e_lst (a_cons e_bl (a_cons (e_var 8 rfl) (a_cons (e_var 8 rfl) (a_cons (e_var 8 rfl) a_nil)))) (by simp)) a_nil)) ⟨_, rfl, by simp [ok], rfl⟩))) (fun h => nomatch h) (fun _ => s_nil (s_nil ⟨_, _, _, rfl, (fun _ _ e => nomatch e), (fun _ _ e => nomatch e), (fun _ _ e => nomatch e)⟩))
      · obtain ⟨e7, e8, e9, rfl, n7', n8', n9'⟩ := hI
        have okz : PtOk (zzz (outM p q)) := by
          refine ⟨⟨?_, fun z hz => ?_⟩, ⟨Nat.zero_le _, fun z hz => (by cases hz)⟩, ⟨Nat.zero_le _, fun z hz => (by cases hz)⟩⟩
          · show (outM p q ++ [("zzz" : Str)]).length ≤ 20
            rw [List.length_append]
            have := hoM.len
            simp
            omega
          · rcases List.mem_append.mp (show z ∈ outM p q ++ [("zzz" : Str)] from hz) with hz | hz
            · exact ⟨(tag_ok (hoM.t z hz)).2.1, by have := (tag_ok (hoM.t z hz)).2.2.1; omega⟩
            · rw [List.mem_singleton.mp hz]
              exact ⟨by decide +kernel, by decide +kernel⟩
        refine s_set 9 (e_lst (a_cons (e_call (f_quiet (k := 0) T) hr (by omega) pass0 (a_cons (e_var 2 rfl) (a_cons (e_var 3 rfl) a_nil)) ⟨_, _, p, q, rfl, raw_enc okp, raw_enc okq, okp, okq, hpq.unj, rfl⟩) (a_cons (e_call (f_around (k := 0) T) hr (by omega) pass0 (a_cons (e_var 2 rfl) (a_cons (e_var 3 rfl) (a_cons (e_var 2 rfl) a_nil))) ⟨_, _, _, p, q, rfl, raw_enc okp, raw_enc okq, okp, okq, hpq.unj, okp.okp, rfl⟩) a_nil)) (by simp)) nd ?_
        refine s_set 9 (e_op op_cat (e_var 9 rfl) (e_lst (a_cons (e_call (f_around (k := 0) T) hr (by omega) pass0 (a_cons (e_var 2 rfl) (a_cons (e_var 3 rfl) (a_cons (d := enc (zzz (outM p q))) (E.is (e_tup (a_cons (e_op op_catA (e_tuple T (e_var 5 rfl) (.inr rfl)) (e_tup (a_cons e_str a_nil) (by simp)) (od_catT (by rw [txs_len]; have := hoM.len; simp; omega))) (a_cons (e_tup a_nil (by simp)) (a_cons e_int (a_cons (e_tup a_nil (by simp)) a_nil)))) (by simp)) ?_) a_nil))) ⟨_, _, _, p, q, rfl, raw_enc okp, raw_enc okq, okp, okq, hpq.unj, okz.okp, rfl⟩) a_nil) (by simp)) (od_cat (by simp))) nd ?_
        · unfold enc zzz
          rw [txs_app]
          rfl
        refine s_set 8 (d := enc (quiet p q)) (E.is (e_tup (a_cons (e_tuple T (e_var 5 rfl) (.inr rfl)) (a_cons (e_tup a_nil (by simp)) (a_cons e_int (a_cons (e_tuple T (e_lc 11 (p := fun _ => true) (f := fun d => .tup [.int 0, d, .int 0]) (r_lst (e_var 5 rfl)) (by rw [txs_len]; have := hoM.len; omega) nd (blk_ok (own := [("_law_tag", 11)]) (by kernel_rfl)) (fun x hx s0 H0 C cl fp => ⟨ts_nil, fun _ => e_tup (a_cons e_int (a_cons (e_var 11 rfl) (a_cons e_int a_nil))) (by simp)⟩) (fun _ _ _ _ _ => pg_name nd rfl (Or.inl rfl))) (.inr rfl)) a_nil)))) (by simp)) ?_) nd ?_
        · rw [filter_tt]
          unfold quiet enc still txs
          rw [List.map_map, List.map_map]
          rfl
        have eg : ([enc (quiet p q), Da.bl (around p q (enc p))] ++ [Da.bl (around p q (enc (zzz (outM p q))))]) = [enc (quiet p q), .bl (p.t.isEmpty && ((outM p q).isEmpty && p.m.isEmpty)), .bl true] := by
          rw [around_self hpq, around_zzz hpq]
          rfl
        have stO : ∀ {l : List Str}, Ns l → ∀ z ∈ l, PySem.PyData.strOk z = true := fun h z hz => (tag_ok (h.t z hz)).2.1
        have okQ : ok 4 (.lst [enc (quiet p q), .bl (p.t.isEmpty && ((outM p q).isEmpty && p.m.isEmpty)), .bl true]) = true := by
          have h := hpq.quiet.g.ptok.ok 0
          rw [ok, List.all_cons, List.all_cons, List.all_cons, h]
          simp [ok]
        refine s_if (k := false) (b_not (b_val (e_call (f_same (k := 0) T 4 (by decide)) hr (by omega) pass0 (a_cons (E.is (e_var 9 rfl) (congrArg Da.lst eg)) (a_cons (e_lst (a_cons (e_var 8 rfl) (a_cons (E.is (e_andB (E.is (e_cmp (op_eqD hun) (e_ix 0 (e_var 2 rfl) e_int (.inl rfl) rfl rfl) (e_tup a_nil (by simp)) (od_eqD (n := 1) (m := 1) (fit_txs (stO hpq.gp.t)) (by simp [fit]) (by decide) (by decide))) (by rw [eqd_tnil, txs_emp])) fun _ => e_andB (E.is (e_cmp (op_eqD hun) (e_tuple T (e_var 5 rfl) (.inr rfl)) (e_tup a_nil (by simp)) (od_eqD (n := 1) (m := 1) (fit_txs (stO hoM)) (by simp [fit]) (by decide) (by decide))) (by rw [eqd_tnil, txs_emp])) fun _ => e_one (E.is (e_cmp (op_eqD hun) (e_ix 1 (e_var 2 rfl) e_int (.inl rfl) rfl rfl) (e_tup a_nil (by simp)) (od_eqD (n := 1) (m := 1) (fit_txs (stO hpq.gp.m)) (by simp [fit]) (by decide) (by decide))) (by rw [eqd_tnil, txs_emp]))) rfl) (a_cons e_bl a_nil))) (by simp)) a_nil)) ⟨_, rfl, okQ, rfl⟩))) (fun h => nomatch h) (fun _ => s_nil (s_nil ⟨b', _, _, _, _, _, _, _, _, _, _, _, rfl, (fun _ _ e => nomatch e), n7', (fun _ _ e => nomatch e), (fun _ _ e => nomatch e), n10, n11, (fun _ _ e => nomatch e), d0, by omega⟩))
end
end Fs
set_option Elab.async false
set_option linter.all false
set_option maxRecDepth 100000
set_option maxHeartbeats 2000000
/-! The walks: _law_box, _law_cells. -/
namespace Fs
open PySem PySem.Spec PyProof.Rows L2
/-- a def that makes a list of its own -/
def SpO (K : PySem.W.Frag) (R : List Da → List Da → Prop) : Sp := fun vs H Q _ => ∃ G ds l, Same G H ∧ AtL K G vs ds ∧ R ds l ∧ ∀ p xs G' H', Grow G H G' H' → G' p = none → H p = none → H' p = some (.lst xs) → AtL K G' xs l → Q (.ref p) H'
/-- statements that return a list of their own -/
def SO (X : Cx) (sts : List Stmt) (δ : De) (l : List Da) : Prop := ∀ σ G H (D : Ends), Same G H → StK X.K G σ δ →
  (∀ p xs G' H', Grow G H G' H' → G' p = none → H p = none → H' p = some (.lst xs) → AtL X.K G' xs l → D.rt (.ref p) H') → WSs X sts D σ H
section
variable {X : Cx} {a b e : Expr} {es : List Expr} {rest : List Stmt} {δ : De} {d : Da} {l ds : List Da} {pos p2 : Pos} {x : Str}
theorem so_ret (h : EO X e δ l) : SO X (.Return (some e) pos :: rest) δ l := fun σ G H D g St r =>
  sts_cons (ws_retW (h σ G St H g _ fun p xs G2 H2 g2 z1 z2 z3 z4 => r p xs G2 H2 g2 z1 z2 z3 z4))
theorem so_set (i : Nat) (h : E X e δ d) (hN : X.N.Nodup) (k : SO X rest (δ.set i (.kn d)) l) (hi : X.N[i]? = some x := by rfl) (hx : Loc X.env.scope x := by first | exact Or.inl rfl | exact Or.inr rfl)
    (hs : swapsWith e (some (.Name x p2)) pos.line X.env = pure false := by rfl) (hf : X.fn x = true ∨ X.env.scope.names.lookup x = some .local := by first | exact .inl rfl | exact .inr rfl | assumption) : SO X (.Assign [.Name x p2] e pos :: rest) δ l := fun σ G H D g St r =>
  sts_cons (ws_set (h σ G St) g hN hi hx (fun v G2 H2 g2 hv => k _ G2 H2 D g2.gh ((St.up g2.gg).set hv i) fun p xs G' H' g' a b c d => r p xs G' H' (g2.trans g') a (g2.free b) c d) hs hf)
theorem EO.is {l2 : List Da} (h : EO X e δ l) (k : l = l2) : EO X e δ l2 := k ▸ h
/-- list(e) or [..] -/
theorem o_orL {p posL : Pos} (h : E X e δ d) (hd : d = .tup ds ∨ d = .lst ds) (hm : X.mg "list" = none) (h2 : EA X es δ l) (hl : l.length ≤ 100000) (hg : Gl X "list" := by rfl) (he : starEach [e] X.env = (false, eval e X.env) :: starEach [] X.env := by rfl) (hpl : (backTo pos (starEach [] X.env)).any (·.1) = false := by rfl) :
    EO X (.BoolOp .Or [.Call (.Name "list" p) [e] [] pos, .List es posL] p2) δ (if ds.isEmpty = true then l else ds) := fun σ G St H1 e1 Q q => by
  refine we_of (pe_orT WE.pe (pe_one WE.pe)) (o_list h hd hm hg he hpl σ G St H1 e1 _ fun p xs G2 H2 g2 z1 z2 z3 z4 => ?_)
  have hln := z4.len
  cases hds : ds with
  | nil =>
    subst hds
    cases z4
    refine ⟨false, .inl ⟨[], SqL.of z3, rfl⟩, ?_⟩
    rw [if_neg (fun e => nomatch e)]
    refine o_lst h2 hl σ G2 (St.up g2.gg) H2 g2.gh _ fun p' xs' G3 H3 g3 w1 w2 w3 w4 => ?_
    exact q p' xs' G3 H3 (g2.trans g3) w1 (g2.free w2) w3 w4
  | cons d0 ds0 =>
    subst hds
    cases z4 with
    | cons a1 a2 =>
      refine ⟨true, .inl ⟨_, SqL.of z3, rfl⟩, ?_⟩
      rw [if_pos rfl]
      exact q p _ G2 H2 g2 z1 z2 z3 (.cons a1 a2)
end
section
variable {P : Program} {w : World} {K : PySem.W.Frag} {mg : Str → Option Value} {base : Heap}
theorem dfnO_of {k : Nat} {x : Str} {params : Arguments} {body : List Stmt} {scope : Scope} {N ps : List Str} {R : List Da → List Da → Prop} {f : Addr} {fd : FuncData} (F : FunD K x x params body scope [] [] f fd) (hg : mg x = some (.ref f)) (sc : FnScope N ps scope) (hl : ∀ ds r, R ds r → ds.length = ps.length)
    (hb : ∀ (kV doc pm : Value) (an : Option Addr) (cdv ct : Value) (us : List Value), us.length = ps.length → bindArgs (PySem.W.fnOf x x params body scope .none kV doc pm an cdv ct) ⟨us, []⟩ = pure (ps.zip us))
    (walk : ∀ f cdv A outer s H EX, Room k (Wx P w K mg base N x scope f cdv A outer s H EX).A → ∀ ds r, R ds r → SO (Wx P w K mg base N x scope f cdv A outer s H EX) body (entry N ds) r) : Dfn P w K mg base CX0 (k + 1) x (SpO K R) := by
  refine ⟨f, fd, ps, ?_, hg, F.kp, FunD.bindsN F hb⟩
  refine F.ok sc (fun vs H Q EX h => ?_) fun cdv A outer s H vs Q EX hr h => ⟨_, PSs.nox WSs.pss, ?_⟩
  · obtain ⟨G, ds, d, _, hv, hR, _⟩ := h
    rw [hv.len, hl ds d hR]
  · obtain ⟨G, ds, l, e, hv, hR, hQ⟩ := h
    exact walk f cdv A outer s H EX hr ds l hR _ G H _ e (start_kn hv) hQ
def ils (l : List Int) : List Da := l.map .int
theorem by01 (b : Bool) : -(2 ^ 64) < (if b = true then (1 : Int) else 0) ∧ (if b = true then (1 : Int) else 0) < 2 ^ 64 := by cases b <;> decide
def boxF (c : Int) (k : Nat) : Tb := ((if c < 0 then -c else c) * (if decide ((10 : Int) ^ 18 ≤ (if c < 0 then -c else c)) = true then 1 else 0), c % 2305843009213693951 + 39373 * (k : Int) + 1190530, 0)
theorem f_box (T : Tp K mg) {k : Nat} : Dfn P w K mg base CX0 (k + 1) "_law_box" (SpO K fun ds r => ∃ (l : List Int) (i : Nat) (c : Int), ds = [.lst (ils l), .int i] ∧ l[i]? = some c ∧ i < 1000 ∧ r = tubD (boxF c i)) := by
  obtain ⟨fd, F⟩ := T.c.def_ 20 (d := d_law_box) rfl
  refine dfnO_of F (T.glo 20) sc_law_box ?_ (fun _ _ _ _ _ _ us hl => match us, hl with | [_, _], _ => rfl) ?_
  · rintro ds r ⟨l, i, c, rfl, _⟩; rfl
  · rintro f cdv A outer s H EX hr ds r ⟨l, i, c, rfl, hc, hi, rfl⟩
    have nd := sc_law_box.nd
    have hlt : decide ((i : Int) < ((ils l).length : Int)) = true := by
      have h := (List.getElem?_eq_some_iff.mp hc).1
      refine decide_eq_true ?_
      rw [ils, List.length_map]
      omega
    refine so_set 2 (d := .int c) (e_ife (k := true) (EB.is (eb_cmpE op_lt (e_var 1 rfl) (e_len T (e_var 0 rfl) (.inr rfl)) od_lt) hlt) (fun _ => e_ix i (e_var 0 rfl) (e_var 1 rfl) (.inr rfl) rfl (by rw [ils, List.getElem?_map, hc] <;> rfl)) (fun h => nomatch h)) nd ?_
    refine so_ret (o_lst (ds := tubD (boxF c i)) (a_cons (e_op op_mul (e_abs T (e_var 2 rfl)) (e_intB T (e_cmp op_ge (e_abs T (e_var 2 rfl)) (e_op op_pow e_int e_int (od_pow ⟨by decide, by decide, by decide⟩)) od_ge)) (od_mul (.inr (by01 _)))) (a_cons (e_op op_add (e_op op_add (e_op op_mod (e_intI T (e_var 2 rfl)) e_int (od_mod (by decide))) (e_op op_mul e_int (e_var 1 rfl) (od_mul (.inl (by decide)))) od_add) e_int od_add) (a_cons e_int a_nil))) (by show 3 ≤ 100000; decide))
def cell0 (s : List Int) : List Int := if (s.take 2).isEmpty = true then [0] else s.take 2
def farI (s : List Int) : List Int := (s.take 63).drop 2
def cellN (s : List Int) : Nat → List Int
  | 0 => cell0 s
  | j + 1 => (cellN s j).set (j % 2) ((cellN s j).getD (j % 2) 0 + (farI s).getD j 0 * ((j : Int) + 2))
theorem cellN_len (s : List Int) : ∀ j, (cellN s j).length = (cell0 s).length
  | 0 => rfl
  | j + 1 => by rw [cellN, List.length_set, cellN_len s j]
theorem cell0_len (s : List Int) : 1 ≤ (cell0 s).length ∧ (cell0 s).length ≤ 2 := by
  unfold cell0
  match s with
  | [] => exact ⟨by decide, by decide⟩
  | [_] => exact ⟨by simp, by simp⟩
  | _ :: _ :: _ => exact ⟨by simp, by simp⟩
theorem cell0_two {s : List Int} {j : Nat} (h : j < (farI s).length) : (cell0 s).length = 2 ∧ j < 61 := by
  have e : (farI s).length = min 63 s.length - 2 := by
    rw [farI, List.length_drop, List.length_take]
  match s, h, e with
  | [], h, e => simp [farI] at h
  | [_], h, e => simp [farI] at h
  | _ :: _ :: _, h, e => exact ⟨by simp [cell0], by omega⟩
theorem cut_mid {ds : List Da} {i j : Nat} (hij : i ≤ j) : cutD ds (some (i : Int)) (some (j : Int)) = (ds.take j).drop i := by
  unfold cutD
  rw [HT.sIx_nat, HT.sIx_nat, List.drop_take]
  by_cases h : i ≤ ds.length
  · rw [Nat.min_eq_left h]
    rw [List.take_eq_take_iff, List.length_drop]
    omega
  · have e1 : ds.drop i = [] := List.drop_eq_nil_of_le (by omega)
    have e2 : ds.drop (min i ds.length) = [] := List.drop_eq_nil_of_le (by omega)
    rw [e1, e2]
    simp
theorem f_cells (T : Tp K mg) {k : Nat} : Dfn P w K mg base CX0 (k + 1) "_law_cells" (SpF K fun ds r => ∃ (s : List Int), ds = [.lst (ils s), .int 2] ∧ r = .lst (ils (cellN s (farI s).length))) := by
  obtain ⟨fd, F⟩ := T.c.def_ 22 (d := d_law_cells) rfl
  refine dfn_of F (T.glo 22) sc_law_cells ?_ (fun _ _ _ _ _ _ us hl => match us, hl with | [_, _], _ => rfl) ?_
  · rintro ds r ⟨s, rfl, _⟩; rfl
  · rintro f cdv A outer s0 H EX hr ds r ⟨s, rfl, rfl⟩
    have nd := sc_law_cells.nd
    have e0 : (if ((ils s).take 2).isEmpty = true then [Da.int 0] else (ils s).take 2) = ils (cell0 s) := by
      unfold cell0 ils
      match s with
      | [] => rfl
      | [_] => rfl
      | _ :: _ :: _ => rfl
    refine s_setO 2 (ds := ils (cell0 s)) (EO.is (o_orL (ds := (ils s).take 2) (e_sl (e_var 0 rfl) (.inr ⟨rfl, rfl⟩) p_none (p_some (e_var 1 rfl))) (.inr (by rw [show (2 : Int) = ((2 : Nat) : Int) from rfl, cut_to])) T.tlist (a_cons e_int a_nil) (by show 1 ≤ 100000; decide)) e0) nd fun p => ?_
    refine s_forT [3, 4] (items := (ils (farI s)).mapIdx fun i d => Da.tup [.int (i : Int), d]) (r_enumL (a_cons (E.is (e_sl (e_var 0 rfl) (.inr ⟨rfl, rfl⟩) (p_some (e_var 1 rfl)) (p_some e_int)) ?_) a_nil) T.enumerate) PassesOwn.never (pg_tup rfl (pgs_cons (pg_name nd rfl (Or.inl rfl)) (pgs_cons (pg_name nd rfl (Or.inl rfl)) pgs_nil)))
      (fun j δ' => ∃ c3 c4 c5, δ' = [.kn (.lst (ils s)), .kn (.int 2), .ow p (ils (cellN s j)), c3, c4, c5]) ⟨_, _, _, rfl⟩ (fun j y δ' hy hI => ?_) (fun δ' hI => ?_)
    · rw [show (2 : Int) = ((2 : Nat) : Int) from rfl, show (63 : Int) = ((63 : Nat) : Int) from rfl, cut_mid (by decide), ils, ils, farI, List.map_drop, List.map_take]
    rotate_left
    · obtain ⟨c3, c4, c5, rfl⟩ := hI
      refine s_fz 2 rfl (s_ret (e_var 2 rfl) ?_)
      show _ = Da.lst _
      rw [List.length_mapIdx, ils, ils, List.length_map]
      rfl
    obtain ⟨c3, c4, c5, rfl⟩ := hI
    rw [List.getElem?_mapIdx, ils, List.getElem?_map] at hy
    cases hq : (farI s)[j]? with
    | none => rw [hq] at hy; cases hy
    | some a =>
      rw [hq] at hy
      cases hy
      have hj := (List.getElem?_eq_some_iff.mp hq).1
      obtain ⟨h2, h61⟩ := cell0_two hj
      have hlen : (cellN s j).length = 2 := by rw [cellN_len, h2]
      have hm : ((j : Int) % 2) = ((j % 2 : Nat) : Int) := by omega
      have hlt : j % 2 < (cellN s j).length := by omega
      have hat : (cellN s j)[j % 2]? = some ((cellN s j).getD (j % 2) 0) := by
        rw [List.getD_eq_getElem?_getD, List.getElem?_eq_getElem hlt] <;> rfl
      refine ⟨_, rfl, rfl, ?_⟩
      refine s_set 5 (e_op op_mod (e_intI T (e_var 3 rfl)) (e_var 1 rfl) (od_mod (by decide))) nd ?_
      refine s_setIx 2 (j % 2) rfl (e_op op_add (e_ix (j % 2) (e_var 2 rfl) (e_var 5 rfl) (.inr rfl) hm (by rw [ils, List.getElem?_map, hat] <;> rfl)) (e_op op_mul (e_var 4 rfl) (e_op op_add (e_var 3 rfl) e_int od_add) (od_mul (.inr ⟨by omega, by omega⟩))) od_add) (lf_int _) (e_var 5 rfl) hm (by rw [ils, List.length_map]; exact hlt) ?_
      have key : ((ils (cellN s j)).set (j % 2) (Da.int ((cellN s j).getD (j % 2) 0 + a * ((j : Int) + 2)))) = ils (cellN s (j + 1)) := by
        rw [cellN, ils, ils, List.map_set]
        congr 2
        rw [List.getD_eq_getElem?_getD (l := farI s), hq]
        rfl
      rw [key]
      exact s_nil ⟨_, _, _, rfl⟩
end
end Fs
set_option Elab.async false
set_option linter.all false
set_option maxRecDepth 100000
set_option maxHeartbeats 4000000
/-! NotJoinable is made: its __init__, by the heap. -/
namespace Fs
open PySem PySem.Spec PyProof.Rows
def njS : Stmt := match topS 1 with
  | .ClassDef _ _ _ b _ _ _ _ _ _ _ => b.getD 0 (.Pass ⟨0, 0, 0, 0⟩)
  | s => s
abbrev njA : Arguments := L2.defArgs njS
abbrev njB : List Stmt := L2.defBody njS
abbrev njSc : Scope := L2.defScope njS
def njB2 : List Stmt := [.Expr (.Call (.Attribute (.Call (.Name "super" ⟨5, 8, 5, 13⟩) [] [] ⟨5, 8, 5, 15⟩) "__init__" ⟨5, 8, 5, 24⟩) [.Name "name" ⟨5, 25, 5, 29⟩] [] ⟨5, 8, 5, 30⟩) ⟨5, 8, 5, 30⟩, .Assign [.Attribute (.Name "self" ⟨6, 8, 6, 12⟩) "name" ⟨6, 8, 6, 17⟩] (.Name "name" ⟨6, 20, 6, 24⟩) ⟨6, 8, 6, 24⟩]
theorem njB_eq : njB = njB2 := by with_unfolding_all rfl
def veTail : List Value := [.type "ValueError", .type "Exception", .type "BaseException", .type "object"]
theorem along_ve (K : PySem.W.Frag) : PySem.W.alongIn K "__init__" veTail = some (some (.builtin "ValueError.__init__")) := by kernel_rfl
/-- what the written part says of NotJoinable's __init__ -/
structure NJI (P : Program) (K : PySem.W.Frag) (C fI : Addr) : Prop where
  oe : L2.OexC K C
  fn : ∃ (cc cda : Addr) (oc : Value) (od : Option Addr) (kV doc pm : Value) (an : Option Addr) (ct : Value) (osl : Array (Option Value)) (ccl : Value) (cdd : Option Addr) (vs : Array Value) (ccs : Array (Option Value)) (file : Str) (tf : PySem.Tok) (cl : Value) (cld : Option Addr) (csl : Array (Option Value)),
    K.lookup fI = some ⟨oc, od, .func (PySem.W.ksFn "__init__" "NotJoinable.__init__" njA njB njSc .none kV doc pm an (.ref cda) ct cc), osl⟩ ∧ PySem.W.codeIn K (.ref cda) "NotJoinable.__init__" = true ∧
    K.lookup cda = some ⟨ccl, cdd, .fields vs, ccs⟩ ∧ vs[2]? = some (.str file tf) ∧ ((P.main.file : Str) == file) = true ∧ K.lookup cc = some ⟨cl, cld, .cell (some (.ref C)), csl⟩
  htop : (P.main.scope.names.lookup ("super" : Str)).isSome = false
  cls : ∃ cd, PySem.W.clsIn K C = some cd ∧ cd.mro = .ref C :: veTail
  sup : PySem.W.nsIn K PySem.cStatics "thirdparty.any" = some none
  noN : PySem.W.findIn K (.ref C) "name" = some none
  iC : PySem.W.findIn K (.ref C) "__init__" = some (some (.ref fI))
  tC : PySem.W.typeIn K (.ref fI) = some (.type "function")
  subV : PySem.W.subIn K (.ref C) (.type "ValueError") = some true
  mro : PySem.W.mroIn K C (.ref C) = some true
  ga : PySem.W.findIn K (.ref C) "__getattribute__" = some (some (.builtin "BaseException.__getattribute__"))
  gg : PySem.W.findIn K (.ref C) "__getattr__" = some none
  hdC : PySem.W.hasDictIn K C = true
  te : PySem.W.exmOne K (.ref C) (.ref C) = some true
  kV : PySem.W.kitOne K (.ref C) (.type "ValueError") = some true
section
open PySem.W PySem.Calls PySem.HandSPX
variable {prog : Program} {w : World} {M : Model} {A : Around} {E : Value → Shared → Prop} {R : Result → Shared → Prop} {h : Heap} {g : Array GenState} {d : Drawn} {t : Nat} {os : OsState} {s : Shared} {K : PySem.W.Frag} {mg : Str → Option Value} {base : Heap} {C fI : Addr}
variable {nm q : Str} {N : Addr} {bs bm : List Value} {hdct : Bool} {sn : List Str} {sub : List Value} {ab : Bool} {col : Option Bool} {dd : Option Addr} {k0 k1 k2 k3 k5 : Option Value}
theorem nj_call {u e t0 : Addr} {rest : List Value} {Q : Value → Shared → Prop}
    (hC : h.get? C = some (excClassObj nm q C N bs bm hdct sn sub ab col dd k0 k1 k2 k3 k5 "ValueError.__new__")) (he : h.get? e = some (excO C t0)) (hu : h.get? u = some (kxs_mw "ValueError.__init__" e)) (hrest : rest.length ≤ sizeLine)
    (hq : ∀ h' t1, (∀ b o, b ≠ e → h.get? b = some o → h'.get? b = some o) → h'.get? e = some (excO C t1) → Q .none ⟨h', g, d, t, os⟩) :
    wpAny (model prog w) A (call (.ref u) rest) Q E ⟨h, g, d, t, os⟩ := by
  refine wpAny_call (codeAny_of_tree ?_)
  show wpAny _ A.in1 (callAny (.ref u) ⟨rest, []⟩) _ _ _
  simp only [callAny]
  refine wpAny_bind (wpAny_load hu ?_)
  simp only [kxs_mw, show (Value.type "method-wrapper" == Value.type "method" || Value.type "method-wrapper" == Value.type "builtin_function_or_method" || Value.type "method-wrapper" == Value.type "method-wrapper") = true by decide, if_true]
  refine KFB.if_so (by decide) ?_
  refine wpAny_bind (PySem.ESX.check_bound F.excBase_ValueError hC he rfl ?_)
  refine wpAny_bind (wpAny_pure (wpAny_pure ?_))
  refine ⟨Code.quiet_builtin _ (by decide +kernel), codeAny_builtin F.excBase_ValueError.initEntry ?_⟩
  rw [Around.under_plainId F.excBase_ValueError.init.plain _]
  wp_walk
  refine hq _ h.objs.size (fun b o hb ho => ?_) ?_
  · rw [Heap.get?_update_other _ _ (Ne.symm hb)]
    exact Heap.get?_push_of_some _ ho
  · rw [Heap.get?_update_self _ (Heap.get?_push_of_some _ he) rfl]
    rfl
/-- what __init__ leaves of a fresh exception at x -/
structure NjEnd (h h' : Heap) (x C dx : Addr) (v : Value) : Prop where
  keep : ∀ b o, b ≠ x → h.get? b = some o → h'.get? b = some o
  obj : ∃ t1 : Addr, h'.get? x = some { cls := .ref C, dict := some dx, data := .fields #[.ref t1, .none, .none, .none, .bool false, .none] }
  dbig : h.objs.size ≤ dx
  dne : dx ≠ x
  ns : h'.Ns1 dx (fun y => if y = "name" then some v else none)
theorem nj_init (T : NJI prog K C fI) (Md : L2.Mod K mg base) (hmg : mg "super" = none) {x t0 : Addr} {v : Value} (kb : ∀ b o, base.get? b = some o → s.heap.get? b = some o) (hx : s.heap.get? x = some (excO C t0)) (hnx : base.get? x = none) (hroom : A.depth < recursionLimit)
    (hq : ∀ h' tk dx, NjEnd s.heap h' x C dx v → R (.ok (.ret .none)) { s with heap := h', toks := tk }) :
    codeAny (model prog w) A (.call (.ref fI) ⟨[.ref x, v], []⟩) R s := by
  obtain ⟨cc, cda, oc, od, kV, doc, pm, an, ct, osl, ccl, cdd, vs, ccs, file, tf, cl, cld, csl, hf, hcode, hcda, hvs, hfile, hcell⟩ := T.fn
  obtain ⟨nm, q, N, bs, bm, sn, sub, ab, col, dd, k0, k1, k2, k3, k5, hC, hbm⟩ := T.oe.cls
  obtain ⟨cdC, hcC, hmro⟩ := T.cls
  have X : K.In s.heap := Md.kin.keeps kb
  have hxC : x ≠ C := fun z => by
    have e := Md.kin _ _ hC
    rw [← z, hnx] at e
    cases e
  refine ks_codeAny_call_defAt (fd := ksFn "__init__" "NotJoinable.__init__" njA njB njSc .none kV doc pm an (.ref cda) ct cc) (body := njB) (binds := [("self", .ref x), ("name", v)]) hroom (X _ _ hf) rfl (Md.nolimit.keeps kb) (codeRec_of X hcode) rfl
    (BindsTo.of_eq (by first | rfl | with_unfolding_all rfl)) (show ∀ y ∈ njSc.names, y.2 ≠ .cell by decide +kernel) (by intro y hy; simp only [List.mem_cons, List.not_mem_nil, or_false] at hy; rcases hy with rfl | rfl <;> rfl) (fun h₁ hn hk => ?_) rfl rfl rfl
  rw [njB_eq]
  have X1 : K.In h₁ := X.keeps hk
  have k1' : ∀ b o, base.get? b = some o → h₁.get? b = some o := fun b o e => hk b o (kb b o e)
  have hx1 := hk _ _ hx
  obtain ⟨mb, hmb, hbt⟩ := Md.blt
  have I1 : InstAt h₁ x (excO C t0) C none := ⟨hx1, rfl, rfl, trivial⟩
  unfold njB2
  refine ks_wpAt_execs_cons (ks_wpAt_Expr_any (ks_wpAt_MethodCall ?_))
  refine ks_wpAt_super_base (env := callEnv (ksFn "__init__" "NotJoinable.__init__" njA njB njSc .none kV doc pm an (.ref cda) ct cc) s.heap.objs.size fI) rfl rfl rfl rfl (X1 _ _ hf) rfl rfl rfl (X1 _ _ hcda) rfl hvs hfile T.htop ?_
  refine ks_loadName_global rfl rfl (loadGlobal_builtin (mg := mg) (mb := mb) (v := .type "super") (Md.glob.keeps k1') hmg (hmb.keeps k1') ((hbt _ (by decide +kernel)).trans (by decide +kernel)) ⟨rfl, ?_⟩)
  refine wpAny_loadName_free rfl rfl rfl ⟨_, X1 _ _ hcell, rfl⟩ ?_
  refine wpAny_loadName_local (v := .ref x) rfl rfl hn (by first | rfl | with_unfolding_all rfl | kernel_rfl) ?_
  refine ks_wpAny_isType_cls (X1 _ _ hC) rfl ⟨rfl, ?_⟩
  refine ks_wpAny_call_super (X1 _ _ hC) rfl hx1 rfl (fun c e => by cases e) (looks_mroIn X1 T.mro) (fun h2 e2 kk2 => ?_)
  have X2 : K.In h2 := X1.keeps kk2
  have hI2 : Looks (model prog w) h2 (isInstance (.ref x) (.type "ValueError")) true := (InstAt.type (⟨kk2 _ _ hx1, rfl, rfl, trivial⟩ : InstAt h2 x (excO C t0) C none)).andThen (looks_subIn X2 T.subV)
  refine kxs_getMethod kxs_ValueError e2 (looks_opaque X2 T.sup) (l₀ := cdC.mro) (l := veTail) ?_ (by rw [hmro]; exact PySem.ESX.drop_own C veTail) X2 (along_ve K) hI2 hxC rfl ?_
  · exact fun A Q E s k q => wpAny_bind ((looks_clsIn X2 hcC) A _ E s k (wpAny_pure q))
  have k3' : ∀ b o, h2.get? b = some o → (h2.push (kxs_mw "ValueError.__init__" x)).get? b = some o := fun b o e => Heap.get?_push_of_some _ e
  have hu : (h2.push (kxs_mw "ValueError.__init__" x)).get? h2.objs.size = some (kxs_mw "ValueError.__init__" x) := Heap.get?_push_at rfl rfl
  have hn3 : (h2.push (kxs_mw "ValueError.__init__" x)).Ns s.heap.objs.size (fun y => [(("self" : Str), Value.ref x), (("name" : Str), v)].reverse.lookup y) := (hn.keeps kk2).keeps k3'
  show wpAny _ _ (callWith _ (.ref h2.objs.size) [] _ []) _ _ _
  refine kxs_callWith (i := "ValueError.__init__") (x := x) rfl ?_
  refine evalArgs_plain (Calls.spliced_cons ?_)
  refine PySem.ESX.ldL (v := v) hn3 (by first | rfl | with_unfolding_all rfl | kernel_rfl) ?_
  refine Calls.spliced_nil ⟨hu, ?_⟩
  refine nj_call (rest := [v]) (X2.keeps k3' _ _ hC) (k3' _ _ (kk2 _ _ hx1)) hu (by rw [List.length_singleton, sizeLine_eq]; decide) fun h4 t4 k4 hx4 => ?_
  have X4 : K.In h4 := fun a o e => k4 a o (fun z => by
    have e2 := Md.kin _ _ e
    rw [z, hnx] at e2
    cases e2) (X2.keeps k3' a o e)
  have hsz : x < s.heap.objs.size := Heap.lt_size hx
  have hn4 : h4.Ns s.heap.objs.size (fun y => [(("self" : Str), Value.ref x), (("name" : Str), v)].reverse.lookup y) := by
    obtain ⟨oL, es, ep, hL, r⟩ := hn3
    exact ⟨oL, es, ep, k4 _ _ (Nat.ne_of_gt hsz) hL, r⟩
  refine wpAt_of_wpAny ?_
  show wpAny _ _ (execs _ _) _ _ _
  refine wpAny_execs_cons (plainObj_wpAny_Assign_Attribute ?_)
  refine PySem.ESX.ldL (v := v) hn4 (by first | rfl | with_unfolding_all rfl | kernel_rfl) (PySem.ESX.ldL (v := .ref x) hn4 (by first | rfl | with_unfolding_all rfl | kernel_rfl) ?_)
  refine set_plain X4 (ox := excO C t4) (od := none) ⟨hx4, rfl, rfl, trivial⟩ T.oe.sa ?_
  have hcl : PySem.W.clsIn K C = some { name := nm, bases := bs, mro := .ref C :: bm, ns := N, qualname := q, hasDict := true, slotNames := sn, subclasses := sub, abstract := ab, collection := col, hasDel := false } := by unfold PySem.W.clsIn; rw [hC] <;> rfl
  refine exc_osa X4 hx4 hcl (show PySem.HandSPX.refsVE (.ref C :: bm) = true from hbm) rfl T.noN (fun h5 tk5 dx k5 dn dne hx5 hn5 => ?_)
  show wpAny _ _ (execs _ _) _ _ _
  have keep : ∀ b o, b ≠ x → s.heap.get? b = some o → h5.get? b = some o := fun b o hb e => k5 b o hb (k4 b o hb (k3' b o (kk2 b o (hk b o e))))
  refine wpAny_execs_nil (hq h5 tk5 dx ⟨keep, ⟨t4, hx5⟩, ?_, dne, hn5⟩)
  have z : s.heap.objs.size < h4.objs.size := hn4.lt
  have dn' : h4.objs.size ≤ dx := dn
  omega
/-- a made NotJoinable -/
structure NjMade (h h' : Heap) (e C d : Addr) (v : Value) : Prop where
  keep : ∀ b o, h.get? b = some o → h'.get? b = some o
  new : h.objs.size ≤ e
  obj : ∃ t1 : Addr, h'.get? e = some { cls := .ref C, dict := some d, data := .fields #[.ref t1, .none, .none, .none, .bool false, .none] }
  dbig : h.objs.size ≤ d
  dne : d ≠ e
  ns : h'.Ns1 d (fun y => if y = "name" then some v else none)
theorem nj_made (T : NJI prog K C fI) (Md : L2.Mod K mg base) (hmg : mg "super" = none) {v : Value} (kb : ∀ b o, base.get? b = some o → s.heap.get? b = some o) (hroom : A.depth + 1 < recursionLimit)
    (hq : ∀ h' tk e d, NjMade s.heap h' e C d v → R (.ok (.ret (.ref e))) { s with heap := h', toks := tk }) :
    codeAny (model prog w) A (.call (.ref C) ⟨[v], []⟩) R s := by
  obtain ⟨nm, q, N, bs, bm, sn, sub, ab, col, dd, k0, k1, k2, k3, k5, hC, hbm⟩ := T.oe.cls
  have X : K.In s.heap := Md.kin.keeps kb
  obtain ⟨hp, g, dr, tk, os⟩ := s
  have k : ∀ b o, hp.get? b = some o → ((hp.push (kdv_tup [v])).push (excO C hp.objs.size)).get? b = some o := fun b o e => Heap.get?_push_of_some _ (Heap.get?_push_of_some _ e)
  have hget : ((hp.push (kdv_tup [v])).push (excO C hp.objs.size)).get? (hp.objs.size + 1) = some (excO C hp.objs.size) := by heap_get
  have hnx : base.get? (hp.objs.size + 1) = none := by
    cases e : base.get? (hp.objs.size + 1) with
    | none => rfl
    | some o =>
      have z : hp.get? (hp.objs.size + 1) = some o := kb _ _ e
      exact absurd (Nat.lt_of_succ_lt (Heap.lt_size z)) (Nat.lt_irrefl _)
  refine call_own F.excBase_ValueError (fun X => refsVE_contains X bm hbm) (X _ _ hC) (looks_findIn X T.iC) (fun self => bind_fn X self T.tC) (by rw [List.length_singleton, sizeLine_eq]; decide) ?_
  refine nj_init (s := ⟨(hp.push (kdv_tup [v])).push (excO C hp.objs.size), g, dr, tk, os⟩) T Md hmg (fun b o e => k b o (kb b o e)) hget hnx ?_ fun h' tk' dx ⟨k', hx, dn, dne, hns⟩ => ?_
  · show A.depth + 1 < recursionLimit
    exact hroom
  · have old : ∀ b o, hp.get? b = some o → h'.get? b = some o := fun b o e => k' b o (Nat.ne_of_lt (Nat.lt_succ_of_lt (Heap.lt_size e))) (k b o e)
    have z : hp.objs.size + 1 + 1 ≤ dx := by
      first
        | (simpa only [Heap.size_push] using dn)
        | exact dn
        | (have q := dn; rw [Heap.size_push, Heap.size_push] at q; exact q)
    exact ⟨rfl, hq h' tk' (hp.objs.size + 1) dx ⟨old, Nat.le_succ _, hx, Nat.le_trans (Nat.le_trans (Nat.le_succ _) (Nat.le_succ _)) z, dne, hns⟩⟩
end
end Fs
namespace L2
open PySem PySem.Spec PyProof.Rows
section
variable {X : Cx} {C fI : Addr}
/-- NotJoinable(e), raised -/
def tMkNj (C : Addr) (ta : TA) : St → Hp → XK → Prop := fun σ H Q => ta σ H fun vs H1 => ∃ v, vs = [v] ∧ ∀ d, H1 d = none → Q (.ref C) (some d) (upd H1 d (.xd [(("name" : Str), v)]))
theorem pmk_nj {a : Expr} {ta : TA} {p pos : Pos} {k : Nat} (T : Fs.NJI X.prog X.K C fI) (gC : X.mg "NotJoinable" = some (.ref C)) (hsu : X.mg "super" = none) (hr : Room k X.A) (ha : PA X [a] ta) (hg : Gl X "NotJoinable" := by rfl)
    (he : starEach (a :: []) X.env = (false, eval a X.env) :: starEach [] X.env := by rfl) (hpl : (backTo pos (starEach [] X.env)).any (·.1) = false := by rfl) :
    PMk X (.Call (.Name "NotJoinable" p) [a] [] pos) (tMkNj C ta) := by
  intro pins s σ H Q I h
  refine wpAny_Call_Name_kw (ld_glob I hg gC ?_)
  refine PySem.W.callWith_K (h₀ := X.base) I.ok.mod.kin T.oe.kC (thn (ha.run pos pins s σ H _ I h) fun us s1 hh => ?_) he hpl
  obtain ⟨vs, H1, I1, r1, v, ev, q1⟩ := hh
  subst ev
  refine ⟨I1.kIn, ?_⟩
  cases r1 with
  | cons rv rn =>
    rename_i v' us'
    cases rn
    show wpAny _ _ (call (.ref C) [v']) _ _ _
    have kb := I1.bk
    obtain ⟨hp, g, dr, tk, os⟩ := s1
    refine wpAny_call (Fs.nj_made T I1.ok.mod hsu kb (by have := hr.dp; omega) fun h' tk' e d M => ?_)
    show MkP X pins σ Q (.ref e) ⟨h', g, dr, tk', os⟩
    obtain ⟨t1, hoe⟩ := M.obj
    have hns := M.ns
    obtain ⟨G', g1, g2⟩ := restrict h' fun b => decide (b ≠ e)
    have gk : ∀ b, b ≠ e → G'.get? b = h'.get? b := fun b hb => g1 b (decide_eq_true hb)
    have ge : G'.get? e = none := g2 e (by simp)
    have old : ∀ b o, hp.get? b = some o → G'.get? b = some o := fun b o q => (gk b (Nat.ne_of_lt (Nat.lt_of_lt_of_le (Heap.lt_size q) M.new))).trans (M.keep b o q)
    have ob : ObjOk X.prog X.w (upd H1 d (.xd [(("name" : Str), v)])) G' d (.xd [(("name" : Str), v)]) :=
      ⟨_, hns.at (fun o q => (gk d M.dne).trans q), relO_put (fs := []) (mA := fun _ => none) rv fun _ => True.intro⟩
    have J : Inv X pins σ (upd H1 d (.xd [(("name" : Str), v)])) ⟨G', g, dr, tk', os⟩ := I1.laid (t' := tk') old M.dbig ob
    refine ⟨e, _, _, ⟨G', g, dr, tk', os⟩, _, .ref C, some d, rfl, J, fun b o q => ?_, ge, hoe, ⟨rfl, rfl⟩, rfl, rfl, ?_, rfl, I1.bare, raises_own T.oe.exC T.oe.tyC, q1 d (I1.hok.fresh M.dbig)⟩
    · by_cases hb : b = e
      · have q' : G'.get? b = some o := q
        rw [hb, ge] at q'; cases q'
      · exact (gk b hb).symm.trans q
    · rw [upd_ne (Ne.symm M.dne)]
      exact I1.hok.fresh M.new
/-- NotJoinable(e) as a value -/
def tValNj (C : Addr) (ta : TA) : TE := fun σ H Q => ta σ H fun vs H1 => ∃ v, vs = [v] ∧ ∀ d a, H1 d = none → H1 a = none → d ≠ a → Q (.ref a) (upd (upd H1 d (exd d [(("name" : Str), v)])) a (exo a C (some d)))
theorem pe_nj {a : Expr} {ta : TA} {p pos : Pos} {k : Nat} (T : Fs.NJI X.prog X.K C fI) (gC : X.mg "NotJoinable" = some (.ref C)) (hsu : X.mg "super" = none) (hr : Room k X.A) (ha : PA X [a] ta) (hg : Gl X "NotJoinable" := by rfl)
    (he : starEach (a :: []) X.env = (false, eval a X.env) :: starEach [] X.env := by rfl) (hpl : (backTo pos (starEach [] X.env)).any (·.1) = false := by rfl) :
    PE X (.Call (.Name "NotJoinable" p) [a] [] pos) (tValNj C ta) := by
  refine ⟨fun pins s σ H Q I h => ?_⟩
  refine wpAny_Call_Name_kw (ld_glob I hg gC ?_)
  refine PySem.W.callWith_K (h₀ := X.base) I.ok.mod.kin T.oe.kC (thn (ha.run pos pins s σ H _ I h) fun us s1 hh => ?_) he hpl
  obtain ⟨vs, H1, I1, r1, v, ev, q1⟩ := hh
  subst ev
  refine ⟨I1.kIn, ?_⟩
  cases r1 with
  | cons rv rn =>
    rename_i v' us'
    cases rn
    show wpAny _ _ (call (.ref C) [v']) _ _ _
    have kb := I1.bk
    obtain ⟨hp, g, dr, tk, os⟩ := s1
    refine wpAny_call (Fs.nj_made T I1.ok.mod hsu kb (by have := hr.dp; omega) fun h' tk' e d M => ?_)
    obtain ⟨t1, hoe⟩ := M.obj
    have hnd : H1 d = none := I1.hok.fresh M.dbig
    have hne : H1 e = none := I1.hok.fresh M.new
    have nd : ∀ {b : Addr} {o : Obj}, hp.get? b = some o → b ≠ d := fun {b o} q => Nat.ne_of_lt (Nat.lt_of_lt_of_le (Heap.lt_size q) M.dbig)
    have ne : ∀ {b : Addr} {o : Obj}, hp.get? b = some o → b ≠ e := fun {b o} q => Nat.ne_of_lt (Nat.lt_of_lt_of_le (Heap.lt_size q) M.new)
    have Un1 : Un X.fs [] H1 (upd (upd H1 d (exd d [(("name" : Str), v)])) e (exo e C (some d))) hp h' := {
      keep := fun b o q n _ _ => M.keep b o q
      slot := fun b o q n _ _ => ⟨o.slots, M.keep b o q⟩
      free := fun b o q n _ => by rw [upd_ne (ne q), upd_ne (nd q)]; exact n
      there := fun b o q _ => ⟨o, M.keep b o q⟩
      tups := fun b xs q => by rw [upd_ne (ne_of_none q hne), upd_ne (ne_of_none q hnd)]; exact q
      frzs := fun b o v q => by rw [upd_ne (ne_of_none q hne), upd_ne (ne_of_none q hnd)]; exact q
      tbls := fun b ps q => ⟨#[], by rw [upd_ne (ne_of_none q hne), upd_ne (ne_of_none q hnd), q]; simp⟩ }
    refine ⟨.ref e, _, I1.un (t' := tk') Un1 fun b o q => ?_, rfl, q1 d e hnd hne M.dne⟩
    by_cases hb : b = e
    · subst hb
      rw [upd_same] at q
      cases q
      exact exo_ok hoe
    · rw [upd_ne hb] at q
      by_cases hd : b = d
      · subst hd
        rw [upd_same] at q
        cases q
        exact exd_ok M.ns (relO_put (fs := []) rv fun g => True.intro)
      · rw [upd_ne hd] at q
        exact (I1.hok b o q).stay (fun c v hc z => M.keep c _ z)
          (fun c hc => by rw [upd_ne (ne_of_none hc hne), upd_ne (ne_of_none hc hnd)]; exact hc) (fun c xs hc => by rw [upd_ne (ne_of_none hc hne), upd_ne (ne_of_none hc hnd)]; exact hc)
end
end L2
set_option Elab.async false
set_option linter.all false
set_option maxRecDepth 100000
set_option maxHeartbeats 4000000
/-! What is refused: check_joinable raises; who calls it. -/
namespace Fs
open PySem PySem.Spec PyProof.Rows L2
abbrev cNJ (K : PySem.W.Frag) : Addr := He.ga K "NotJoinable"
/-- a def that raises NotJoinable(z) -/
def SpX (K : PySem.W.Frag) (R : List Da → Str → Prop) : Sp := fun vs H _ E => ∃ G ds z, Same G H ∧ AtL K G vs ds ∧ R ds z ∧ ∀ d G' H', Grow G H G' H' → H' d = some (.xd [(("name" : Str), .str z)]) → E (.ref (cNJ K)) (some d) H'
/-- statements that raise it -/
def SX (X : Cx) (sts : List Stmt) (δ : De) (z : Str) (E : XK) : Prop := ∀ σ G H (D : Ends), Same G H → StK X.K G σ δ →
  (∀ d G' H', Grow G H G' H' → H' d = some (.xd [(("name" : Str), .str z)]) → E (.ref (cNJ X.K)) (some d) H') → WSs X sts D σ H
section
variable {P : Program} {w : World} {K : PySem.W.Frag} {mg : Str → Option Value} {base : Heap} {fI : Addr}
abbrev Wz (P : Program) (w : World) (K : PySem.W.Frag) (mg : Str → Option Value) (base : Heap) (N : List Str) (x : Str) (scope : Scope) (f : Addr) (cdv : Value) (A : Around) (outer : List Env) (s : Shared) (H : Hp) (EX : XK) : Cx := cxOf (L2.CX P w) P w K mg base N x scope f cdv A outer s H EX
theorem dfnX_of {k : Nat} {x : Str} {params : Arguments} {body : List Stmt} {scope : Scope} {N ps : List Str} {R : List Da → Str → Prop} {f : Addr} {fd : FuncData} (F : FunD K x x params body scope [] [] f fd) (hg : mg x = some (.ref f)) (sc : FnScope N ps scope) (hl : ∀ ds r, R ds r → ds.length = ps.length)
    (hb : ∀ (kV doc pm : Value) (an : Option Addr) (cdv ct : Value) (us : List Value), us.length = ps.length → bindArgs (PySem.W.fnOf x x params body scope .none kV doc pm an cdv ct) ⟨us, []⟩ = pure (ps.zip us))
    (walk : ∀ f cdv A outer s H EX, Room k (Wz P w K mg base N x scope f cdv A outer s H EX).A → Takes (Wz P w K mg base N x scope f cdv A outer s H EX) (fun cls d _ H' => EX cls d H') → PassesOwn (model P w) (Wz P w K mg base N x scope f cdv A outer s H EX).A (Wz P w K mg base N x scope f cdv A outer s H EX).env (Wz P w K mg base N x scope f cdv A outer s H EX).xe →
      ∀ ds r, R ds r → SX (Wz P w K mg base N x scope f cdv A outer s H EX) body (entry N ds) r EX) : Dfn P w K mg base (L2.CX P w) (k + 1) x (SpX K R) := by
  refine ⟨f, fd, ps, ?_, hg, F.kp, FunD.bindsN F hb⟩
  refine F.ok sc (fun vs H Q EX h => ?_) fun cdv A outer s H vs Q EX hr h => ⟨_, WSs.pss, ?_⟩
  · obtain ⟨G, ds, z, _, hv, hR, _⟩ := h
    rw [hv.len, hl ds z hR]
  · obtain ⟨G, ds, z, e, hv, hR, hE⟩ := h
    exact walk f cdv A outer s H EX hr (takes_of rfl rfl rfl rfl) (passes_of rfl) ds z hR _ G H _ e (start_kn hv) hE
theorem wa_e {X : Cx} {es : List Expr} {δ : De} {ds : List Da} {σ : L2.St} {G H : Hp} {Q : List V → Hp → Prop} (sk : StK X.K G σ δ) (z : Same G H) (h : EA X es δ ds) (k : ∀ vs G2 H2, Grow G H G2 H2 → AtL X.K G2 vs ds → Q vs H2) : WA X es σ H Q := h σ G sk H z Q k
theorem at_str {G : Hp} {v : V} {z : Str} (h : At K G v (.str z)) : v = .str z := by cases h; rfl
theorem f_check_x (T : Tp K mg) (J : NJI P K (cNJ K) fI) {k : Nat} : Dfn P w K mg base (L2.CX P w) (k + 7) "check_joinable" (SpX K fun ds z => ∃ d e p q l, ds = [d, e] ∧ Raw d p ∧ Raw e q ∧ PtOk p ∧ PtOk q ∧ unj p q = z :: l) := by
  obtain ⟨fd, F⟩ := T.c.def_ 8 (d := d_check_joinable) rfl
  refine dfnX_of F (T.glo 8) sc_check_joinable ?_ (fun _ _ _ _ _ _ us hl => match us, hl with | [_, _], _ => rfl) ?_
  · rintro ds r ⟨d, e, p, q, l, rfl, _⟩; rfl
  · rintro f cdv A outer s H EX hr tk hp ds z ⟨d, e, p, q, l, rfl, h1, h2, h3, h4, hu⟩
    intro σ G H0 D g St hE
    obtain ⟨item, hsr, hit⟩ := r_tup (tg := .Name "call" ⟨45, 8, 45, 12⟩) (e_call (f_unjoinable (k := 0) T) hr (by omega) pass0 (a_cons (e_var 0 rfl) (a_cons (e_var 1 rfl) a_nil)) ⟨d, e, p, q, rfl, h1, h2, h3, h4, rfl⟩) σ G St
    refine sts_cons (ws_for hsr g hp rfl (pg_name (i := 2) sc_check_joinable.nd rfl (Or.inl rfl)) (fun i σ' Gc H' => i = 0 ∧ Grow G H0 Gc H' ∧ StK K Gc σ' (entry n_check_joinable [d, e])) (fun G2 H2 g2 => ⟨rfl, g2, St.up g2.gg⟩) (fun i σ' Gc H' x Gx Hx N hi hP gs gx hx kN => ?_) (fun σ' Gc H' hP _ => ?_))
    · obtain ⟨rfl, g1, S1⟩ := hP
      have hx : At K Gx x (item 0) := hx
      have ei : item 0 = .str z := by
        have e0 := hit 0 (by rw [hu]; simp [txs])
        rw [e0, hu]
        rfl
      rw [ei] at hx
      have S2 := (S1.up gx.gg).set hx 2
      refine sts_cons (ws_of (ps_raise rfl tk (pmk_nj J (T.glo 63) T.super hr WA.pa)) ?_)
      refine wa_e S2 gx.gh (a_cons (e_var 2 rfl) a_nil) fun vs G3 H3 g3 hvs => ?_
      cases hvs with
      | cons a1 a2 =>
        cases a2
        rw [at_str a1]
        refine ⟨_, rfl, fun dd hd => ?_⟩
        exact hE dd G3 _ (((g1.trans gx).trans g3).trans (Grow.own g3.gh hd)) upd_same
    · have := hP.1
      rw [hu] at this
      cases this
end
end Fs
set_option Elab.async false
set_option linter.all false
set_option maxRecDepth 100000
set_option maxHeartbeats 4000000
/-! What is refused: quiet_both, is_around_both, fits_both; _law_heard. -/
namespace Fs
open PySem PySem.Spec PyProof.Rows L2
section
variable {X : Cx} {e : Expr} {es : List Expr} {rest : List Stmt} {δ : De} {ds : List Da} {pos pos2 p : Pos} {x : Str} {z : Str} {E : XK}
theorem sx_call {k j : Nat} {R : List Da → Str → Prop} (c : Dfn X.prog X.w X.K X.mg X.base (L2.CX X.prog X.w) k x (SpX X.K R)) (hr : Room j X.A) (hk : k ≤ j) (tk : Takes X (fun cls d _ H' => E cls d H')) (h : EA X (e :: es) δ ds) (hR : R ds z) (hg : Gl X x := by rfl)
    (hdb : (x == ("__debug__" : Str)) = false := by decide) (he : starEach (e :: es) X.env = (false, eval e X.env) :: starEach es X.env := by rfl) (hpl : (backTo pos (starEach es X.env)).any (·.1) = false := by rfl)
    (hs : swapsWith (.Call (.Name x p) (e :: es) [] pos) none pos2.line X.env = pure false := by rfl) : SX X (.Expr (.Call (.Name x p) (e :: es) [] pos) pos2 :: rest) δ z E := fun σ G H D g St hE =>
  sts_cons (ws_drop (we_call (E := E) c hr hk (passes_call tk fun _ _ _ _ h => h) (wa_e St g h fun vs G2 H2 g2 hvs => ⟨G2, ds, z, g2.gh, hvs, hR, fun d G' H' g' hd => hE d G' H' (g2.trans g') hd⟩) hg hdb he hpl) hs)
end
section
variable {P : Program} {w : World} {K : PySem.W.Frag} {mg : Str → Option Value} {base : Heap} {fI : Addr}
theorem f_quiet_x (T : Tp K mg) (J : NJI P K (cNJ K) fI) {k : Nat} : Dfn P w K mg base (L2.CX P w) (k + 8) "quiet_both" (SpX K fun ds z => ∃ d e p q l, ds = [d, e] ∧ Raw d p ∧ Raw e q ∧ PtOk p ∧ PtOk q ∧ unj p q = z :: l) := by
  obtain ⟨fd, F⟩ := T.c.def_ 15 (d := d_quiet_both) rfl
  refine dfnX_of F (T.glo 15) sc_quiet_both ?_ (fun _ _ _ _ _ _ us hl => match us, hl with | [_, _], _ => rfl) ?_
  · rintro ds r ⟨d, e, p, q, l, rfl, _⟩; rfl
  · rintro f cdv A outer s H EX hr tk hp ds z ⟨d, e, p, q, l, rfl, h1, h2, h3, h4, hu⟩
    exact sx_call (f_check_x (k := 0) T J) hr (by omega) tk (a_cons (e_var 0 rfl) (a_cons (e_var 1 rfl) a_nil)) ⟨d, e, p, q, l, rfl, h1, h2, h3, h4, hu⟩
theorem f_around_x (T : Tp K mg) (J : NJI P K (cNJ K) fI) {k : Nat} : Dfn P w K mg base (L2.CX P w) (k + 8) "is_around_both" (SpX K fun ds z => ∃ d e th p q l, ds = [d, e, th] ∧ Raw d p ∧ Raw e q ∧ PtOk p ∧ PtOk q ∧ unj p q = z :: l) := by
  obtain ⟨fd, F⟩ := T.c.def_ 14 (d := d_is_around_both) rfl
  refine dfnX_of F (T.glo 14) sc_is_around_both ?_ (fun _ _ _ _ _ _ us hl => match us, hl with | [_, _, _], _ => rfl) ?_
  · rintro ds r ⟨d, e, th, p, q, l, rfl, _⟩; rfl
  · rintro f cdv A outer s H EX hr tk hp ds z ⟨d, e, th, p, q, l, rfl, h1, h2, h3, h4, hu⟩
    exact sx_call (f_check_x (k := 0) T J) hr (by omega) tk (a_cons (e_var 0 rfl) (a_cons (e_var 1 rfl) a_nil)) ⟨d, e, p, q, l, rfl, h1, h2, h3, h4, hu⟩
theorem f_fits_x (T : Tp K mg) (J : NJI P K (cNJ K) fI) {k : Nat} : Dfn P w K mg base (L2.CX P w) (k + 8) "fits_both" (SpX K fun ds z => ∃ d e th p q l, ds = [d, e, th] ∧ Raw d p ∧ Raw e q ∧ PtOk p ∧ PtOk q ∧ unj p q = z :: l) := by
  obtain ⟨fd, F⟩ := T.c.def_ 19 (d := d_fits_both) rfl
  refine dfnX_of F (T.glo 19) sc_fits_both ?_ (fun _ _ _ _ _ _ us hl => match us, hl with | [_, _, _], _ => rfl) ?_
  · rintro ds r ⟨d, e, th, p, q, l, rfl, _⟩; rfl
  · rintro f cdv A outer s H EX hr tk hp ds z ⟨d, e, th, p, q, l, rfl, h1, h2, h3, h4, hu⟩
    exact sx_call (f_check_x (k := 0) T J) hr (by omega) tk (a_cons (e_var 0 rfl) (a_cons (e_var 1 rfl) a_nil)) ⟨d, e, p, q, l, rfl, h1, h2, h3, h4, hu⟩
end
/-! ### the clause -/
section
variable {X : Cx} {C : Addr}
/-- error.name, error the exception that the suite holds -/
def tByNj (C : Addr) (a : Addr) (cls : Value) (d : Option Addr) (te : TE) : TE := fun σ H Q => te σ H fun x H1 => x = .ref a ∧ cls = .ref C ∧ ∃ (dd : Addr) (v : V), d = some dd ∧ H1 dd = some (.xd [(("name" : Str), v)]) ∧ Q v H1
theorem pe_byNj {a fI : Addr} {oe : Obj} {cls : Value} {d : Option Addr} {pn : List (Addr × Obj)} {e : Expr} {te : TE} {pos : Pos} (T : NJI X.prog X.K C fI) (hz : Zc cls d oe) (hf : ∃ vs, oe.data = .fields vs) (he : PE (X.suite a ((a, oe) :: pn)) e te)
    (hb : attributeBase e "name" X.env (eval e X.env) = eval e X.env := by rfl) :
    PE (X.suite a ((a, oe) :: pn)) (.Attribute e "name" pos) (tByNj C a cls d te) := by
  refine ⟨fun pins s σ H Q I h => ?_⟩
  refine attr_of hb (thn (he.run pins s σ H _ I h) fun u s1 hh => ?_)
  obtain ⟨x, H1, I1, rx, ex, ec, dd, v, ed, ea, q⟩ := hh
  subst ex
  obtain rfl : u = Value.ref a := rx
  subst ec
  subst ed
  obtain ⟨ha, _⟩ := I1.pin (a, oe) (List.mem_append_left _ List.mem_cons_self)
  obtain ⟨vs, hd⟩ := hf
  have hx : ObjOk X.prog X.w H1 s1.heap dd (.xd [(("name" : Str), v)]) := I1.hok dd _ ea
  obtain ⟨mA, hns, hr⟩ := hx
  obtain ⟨od, ho, hl⟩ := L2.lookIn_ns hns
  have l : List.lookup ("name" : Str) [(("name" : Str), v)] = some v := by simp [List.lookup]
  obtain ⟨u, hu, ru⟩ := RelO.some_of (v := v) (o := mA "name") (by rw [← l]; exact hr "name")
  have J : PySem.W.InstAt s1.heap a oe C (some od) := ⟨ha, hz.1, by unfold PySem.W.notCls; rw [hd] <;> rfl, by rw [hz.2]; exact ho⟩
  exact HandSPX.exc_get I1.kIn J T.ga T.gg T.oe.exC (PySem.W.findObj_own T.hdC T.noN rfl (by rw [hl, hu])) (handed_of ru) ⟨v, H1, I1.tok _, ru, q⟩
/-- isinstance(error, T) -/
def rIsD (K : PySem.W.Frag) (C a : Addr) (d : Option Addr) : List V → Hp → VK → Prop := fun xs H Q => ∃ dd fs T b, xs = [.ref a, .ty T] ∧ d = some dd ∧ H dd = some (.xd fs) ∧ PySem.W.kitOne K (.ref C) (.type T) = some b ∧ Q (.bl b) H
theorem call_isD {a : Addr} {oe : Obj} {d : Option Addr} {pn : List (Addr × Obj)} (E : ExcC X.K C) (hz : Zc (.ref C) d oe) (hf : ∃ vs, oe.data = .fields vs) : CallR (X.suite a ((a, oe) :: pn)) (.builtin "isinstance") (rIsD X.K C a d) := by
  intro pins s σ H xs us Q I r h
  obtain ⟨dd, fs, T, b, rfl, ed, h2, hk, q⟩ := h
  obtain ⟨u1, u2, rfl, r1, r2⟩ := vals2 r
  cases r1
  cases (show u2 = Value.type T from r2)
  subst ed
  obtain ⟨ha, _⟩ := I.pin (a, oe) (List.mem_append_left _ List.mem_cons_self)
  obtain ⟨vs, hd⟩ := hf
  have hx : ObjOk X.prog X.w H s.heap dd (.xd fs) := I.hok dd _ h2
  obtain ⟨mA, hns, _⟩ := hx
  obtain ⟨o, es, ep, e2, _⟩ := hns
  have J : PySem.W.InstAt s.heap a oe C (some o) := ⟨ha, hz.1, by unfold PySem.W.notCls; rw [hd] <;> rfl, by rw [hz.2]; exact e2⟩
  exact PySem.W.kia_one (PySem.W.kitx_exc (by obtain ⟨cd, hc, _⟩ := PySem.W.any_some E.hd; rw [hc]; rfl) E.hg E.hk E.hs E.ha E.hn E.ht E.hm) I.kIn J hk (fun z => nomatch z) fun tk => ⟨.bl b, H, I.tok tk, rfl, q⟩
end
/-! ### _law_heard -/
section
variable {X : Cx} {e : Expr} {es : List Expr} {x : Str} {p pos : Pos} {σ : L2.St} {H : Hp} {Q : VK}
theorem we_callX {k j : Nat} {sp : Sp} {W : WX} (c : Dfn X.prog X.w X.K X.mg X.base (L2.CX X.prog X.w) k x sp) (hr : Room j X.A) (hk : k ≤ j) (tk : Takes X W) (h : WA X (e :: es) σ H fun vs H1 => sp vs H1 Q (fun cls d H' => W cls d σ H')) (hg : Gl X x := by rfl)
    (hdb : (x == ("__debug__" : Str)) = false := by decide) (he : starEach (e :: es) X.env = (false, eval e X.env) :: starEach es X.env := by rfl) (hpl : (backTo pos (starEach es X.env)).any (·.1) = false := by rfl) : WE X (.Call (.Name x p) (e :: es) [] pos) σ H Q := by
  obtain ⟨f, fd, ps, F, hm, hkp, hb⟩ := c.ex
  exact we_of (pe_callS (F.mono hk) hr hg hm hkp hb (fun σ => passAt tk σ) WA.pa hdb he hpl) h
/-- try: .. except C as n: .. -/
theorem ws_try {n cn : Str} {c : Value} {i : Nat} {body suite : List Stmt} {b₀ : Stmt} {np pos pos' : Pos} {D : Ends} (hs : X.stack = X.env :: X.outer) (hf : X.env.frame = some X.env.locals) (hN : X.N.Nodup) (hi : X.N[i]? = some n) (hln : X.env.kindOf n = some .local) (hc : Names X cn c) (tk : Takes X fun _ _ _ _ => False)
    (h : ∀ pn xe, Takes (X.tr pn xe) (wAs X.K c i (fun a cls d D σ H => ∀ oe pn, Zc cls d oe → (∃ vs, oe.data = .fields vs) → WSs (X.suite a ((a, oe) :: pn)) (b₀ :: suite) D σ H) (fun _ _ _ _ => False) D) → WSs (X.tr pn xe) body D σ H) :
    WS X (.Try body [.ExceptHandler (some (.Name cn np)) (some n) (b₀ :: suite) pos'] [] [] pos) D σ H :=
  ws_of (ps_try_as (i := i) (tb := fun W D σ H => ∀ pn xe, Takes (X.tr pn xe) W → WSs (X.tr pn xe) body D σ H) (ts := fun a cls d D σ H => ∀ oe pn, Zc cls d oe → (∃ vs, oe.data = .fields vs) → WSs (X.suite a ((a, oe) :: pn)) (b₀ :: suite) D σ H) (Wout := fun _ _ _ _ => False)
    hs hf hN hi hln hc tk (fun W pn xe tk' _ => ⟨fun pins s σ H D I h => h pn xe tk' pins s I⟩) (fun a oe cls d pn hz hf' => ⟨fun pins s σ H D I h => h oe pn hz hf' pins s I⟩)) h
/-- .. where the exception's name is told -/
theorem ws_tryC {C : Addr} {z : Str} {G : Hp} {n cn : Str} {i : Nat} {body suite : List Stmt} {b₀ : Stmt} {np pos pos' : Pos} {D : Ends} (hs : X.stack = X.env :: X.outer) (hf : X.env.frame = some X.env.locals) (hN : X.N.Nodup) (hi : X.N[i]? = some n) (hln : X.env.kindOf n = some .local) (hc : Names X cn (.ref C)) (tk : Takes X fun _ _ _ _ => False)
    (te : PySem.W.exmOne X.K (.ref C) (.ref C) = some true)
    (h : ∀ pn xe (W : WX), Takes (X.tr pn xe) W → (∀ G2 H2 dd, Grow G H G2 H2 → H2 dd = some (.xd [(("name" : Str), .str z)]) → W (.ref C) (some dd) σ H2) → WSs (X.tr pn xe) body D σ H)
    (h2 : ∀ G2 H2 dd a oe pn, Grow G H G2 H2 → H2 dd = some (.xd [(("name" : Str), .str z)]) → Zc (.ref C) (some dd) oe → (∃ vs, oe.data = .fields vs) → WSs (X.suite a ((a, oe) :: pn)) (b₀ :: suite) { nx := fun σ' H' => D.nx (σ'.set i none) H', rt := D.rt, bk := fun σ' H' => D.bk (σ'.set i none) H', ct := fun σ' H' => D.ct (σ'.set i none) H' } (σ.set i (some (.ref a))) H2) :
    WS X (.Try body [.ExceptHandler (some (.Name cn np)) (some n) (b₀ :: suite) pos'] [] [] pos) D σ H :=
  ws_try hs hf hN hi hln hc tk fun pn xe tk' => h pn xe _ tk' fun G2 H2 dd g2 hdd => ⟨true, te, fun _ a _ oe pn hz hf' => h2 G2 H2 dd a oe pn g2 hdd hz hf', fun e => nomatch e⟩
theorem sto_plain {K : PySem.W.Frag} {Hb G H : Hp} {σ : L2.St} {δ : De} (sk : StK K G σ δ) (h : ∀ (i : Nat) p ds, δ[i]? = some (Cl.ow p ds) → False) : Sto K Hb G H σ δ := ⟨sk, fun i p ds e => (h i p ds e).elim, fun i j p q ds es _ e _ => (h i p ds e).elim⟩
end
section
variable {P : Program} {w : World} {K : PySem.W.Frag} {mg : Str → Option Value} {base : Heap} {fI : Addr}
theorem f_heard (T : Tp K mg) (J : NJI P K (cNJ K) fI) {k : Nat} : Dfn P w K mg base CX0 (k + 9) "_law_heard" (SpF K fun ds r => ∃ (i : Nat) (d e : Da) (p q : Pt) (z : Str) (l : List Str), ds = [.int i, d, e] ∧ i < 3 ∧ Raw d p ∧ Raw e q ∧ PtOk p ∧ PtOk q ∧ unj p q = z :: l ∧ r = .lst [.str z, .bl true]) := by
  obtain ⟨fd, F⟩ := T.c.def_ 35 (d := d_law_heard) rfl
  refine dfn_of F (T.glo 35) sc_law_heard ?_ (fun _ _ _ _ _ _ us hl => match us, hl with | [_, _, _], _ => rfl) ?_
  · rintro ds r ⟨i, d, e, p, q, z, l, rfl, _⟩; rfl
  · rintro f cdv A outer s H EX hr ds r ⟨i, d, e, p, q, z, l, rfl, hi, h1, h2, h3, h4, hu, rfl⟩
    have nd := sc_law_heard.nd
    refine s_tup [3, 4] (e_tup (a_cons e_non (a_cons e_non a_nil)) (by show 2 ≤ 100000; decide)) rfl (pg_tup rfl (pgs_cons (pg_name nd rfl (Or.inl rfl)) (pgs_cons (pg_name nd rfl (Or.inl rfl)) pgs_nil))) ?_
    show S _ _ [.kn (.int i), .kn d, .kn e, .kn .non, .kn .non, .no] _
    intro Gb Hb σ G H0 D g St n r
    refine sts_cons (ws_tryC (i := 5) (z := z) (G := G) rfl rfl nd rfl rfl ⟨rfl, by decide, .inl (T.glo 63)⟩ takes0 J.te (fun pn xe W tk hW => ?_) (fun G2 H2 dd a oe pn g2 hdd hz hf => ?_))
    · have sk := St.sk
      refine sts_cons (ws_ifE (k := decide ((i : Int) = 0)) sk g.gh (eb_cmpE op_eq (e_var 0 rfl) e_int od_eqI) (fun _ G2 H2 g2 => ?_) fun _ G2 H2 g2 => ?_)
      · exact sts_cons (ws_setW (i := 4) nd rfl (Or.inl rfl) (we_callX (f_quiet_x (k := 0) T J) hr (by omega) tk (wa_e (sk.up g2.gg) g2.gh (a_cons (e_var 1 rfl) (a_cons (e_var 2 rfl) a_nil)) fun vs G3 H3 g3 hvs => ⟨G3, _, z, g3.gh, hvs, ⟨d, e, p, q, l, rfl, h1, h2, h3, h4, hu⟩, fun dd G' H' g' hd => hW G' H' dd ((g2.trans g3).trans g') hd⟩)))
      · refine sts_cons (ws_ifE (k := decide ((i : Int) = 1)) (sk.up g2.gg) g2.gh (eb_cmpE op_eq (e_var 0 rfl) e_int od_eqI) (fun _ G4 H4 g4 => ?_) fun _ G4 H4 g4 => ?_)
        · exact sts_cons (ws_setW (i := 4) nd rfl (Or.inl rfl) (we_callX (f_around_x (k := 0) T J) hr (by omega) tk (wa_e (sk.up (g2.trans g4).gg) g4.gh (a_cons (e_var 1 rfl) (a_cons (e_var 2 rfl) (a_cons e_non a_nil))) fun vs G3 H3 g3 hvs => ⟨G3, _, z, g3.gh, hvs, ⟨d, e, .non, p, q, l, rfl, h1, h2, h3, h4, hu⟩, fun dd G' H' g' hd => hW G' H' dd (((g2.trans g4).trans g3).trans g') hd⟩)))
        · exact sts_cons (ws_setW (i := 4) nd rfl (Or.inl rfl) (we_callX (f_fits_x (k := 0) T J) hr (by omega) tk (wa_e (sk.up (g2.trans g4).gg) g4.gh (a_cons (e_var 1 rfl) (a_cons (e_var 2 rfl) (a_cons (e_var 1 rfl) a_nil))) fun vs G3 H3 g3 hvs => ⟨G3, _, z, g3.gh, hvs, ⟨d, e, d, p, q, l, rfl, h1, h2, h3, h4, hu⟩, fun dd G' H' g' hd => hW G' H' dd (((g2.trans g4).trans g3).trans g') hd⟩)))
    · have h5 : (σ.set 5 (some (.ref a)))[5]? = some (some (V.ref a)) := by
        rw [List.getElem?_set_self]
        rw [St.sk.ln]
        exact (by decide : 5 < 6)
      refine sts_cons (ws_setW (i := 3) nd rfl (Or.inl rfl) (we_of (pe_lst (pa_cons (pe_byNj J hz hf (pe_var (i := 5) rfl (Or.inl rfl))) (pa_cons (pe_callB (call_isD T.nj.ex hz hf) rfl T.isinstance (by decide +kernel) (pa_cons (pe_var (i := 5) rfl (Or.inl rfl)) (pa_cons (pe_bltn (v := .ty "ValueError") rfl T.value (by decide +kernel) rfl) pa_nil))) pa_nil))) ?_))
      refine ⟨.ref a, h5, rfl, rfl, dd, .str z, rfl, hdd, .ref a, h5, dd, _, "ValueError", true, rfl, rfl, hdd, J.kV, (by show 2 ≤ sizeLine; rw [sizeLine_eq]; decide), fun pp hp => ?_⟩
      have g3 := g2.trans (Grow.new (o := .lst [.str z, .bl true]) g2.gh hp)
      refine sts_nil ?_
      have hv : At K (upd G2 pp (.lst [.str z, .bl true])) (.ref pp) (.lst [.str z, .bl true]) := .lst upd_same (.cons (.str z) (.cons (.bl true) .nil))
      have sk := (((St.sk.no 5 (some (.ref a))).up g3.gg).set hv 3).no 5 none
      have S3 : S (Wx P w K mg base n_law_heard "_law_heard" d_law_heard.scope f cdv A outer s H EX) (d_law_heard.body.drop 2) [.kn (.int i), .kn d, .kn e, .kn (.lst [.str z, .bl true]), .kn .non, .no] (retP (.lst [.str z, .bl true])) :=
        s_ret (e_ife (k := false) (eb_cmpE op_isN (e_var 3 rfl) e_non od_isN) (fun h => nomatch h) (fun _ => e_var 3 rfl)) rfl
      exact S3 Gb Hb _ _ _ D (g.trans g3) (sto_plain sk fun i p ds e => by
        match i, e with
        | 0, e => cases e
        | 1, e => cases e
        | 2, e => cases e
        | 3, e => cases e
        | 4, e => cases e
        | 5, e => cases e
        | i + 6, e => cases e) n r
end
end Fs
set_option Elab.async false
set_option linter.all false
set_option maxRecDepth 100000
set_option maxHeartbeats 4000000
/-! Parts by hand: the search by computing; what is told of them. -/
namespace Fs
open PySem PySem.Spec PyProof.Rows L2
theorem DInv.congr {ps : List Pt} {f1 f2 r1 r2 : List (List Int)} (D : DInv ps f1 r1) (hf : ∀ x, x ∈ f2 ↔ x ∈ f1) (hr : ∀ x, x ∈ r2 ↔ x ∈ r1) : DInv ps f2 r2 := by
  refine ⟨fun x h => D.r x ?_, fun x h => D.a x ((hf x).mp h), fun x h y hy => ?_, ?_⟩
  · rcases h with h | h
    · exact .inl ((hf x).mp h)
    · exact .inr ((hr x).mp h)
  · rcases D.c x ((hf x).mp h) y hy with h | h
    · exact .inl ((hf y).mpr h)
    · exact .inr ((hr y).mpr h)
  · rcases D.z with h | h
    · exact .inl ((hf _).mpr h)
    · exact .inr ((hr _).mpr h)
def goP (ps : List Pt) : Nat → List (List Int) → List (List Int) → Option Bool
  | 0, _, _ => none
  | _ + 1, _, [] => some true
  | n + 1, found, x :: rest => if apart ps x = true then some false else goP ps n (x :: found) (((moves ps x).filter fun y => !decide (y ∈ x :: found) && !decide (y ∈ rest)) ++ rest)
theorem goP_ok {ps : List Pt} : ∀ (n : Nat) (found fresh : List (List Int)) (b : Bool), DInv ps found fresh → goP ps n found fresh = some b → fitsB ps = b
  | 0, _, _, _, _, h => by cases h
  | n + 1, found, [], b, D, h => by
    have e : true = b := Option.some.inj h
    rw [← e]
    exact fitsB_true D.fits
  | n + 1, found, x :: rest, b, D, h => by
    unfold goP at h
    by_cases ha : apart ps x = true
    · rw [if_pos ha] at h
      have e : false = b := Option.some.inj h
      rw [← e]
      exact fitsB_false (D.not (List.mem_cons_self ..) ha)
    · rw [if_neg ha] at h
      have ha' : apart ps x = false := by simpa using ha
      have D1 : DInv ps found (rest ++ [x]) := D.congr (fun _ => Iff.rfl) fun y => by rw [List.mem_append, List.mem_singleton, List.mem_cons, or_comm]
      refine goP_ok n _ _ b ((D1.step ha').congr (fun y => ?_) fun y => ?_) h
      · rw [List.mem_append, List.mem_singleton, List.mem_cons, or_comm]
      · have e : news ps (found ++ [x]) rest x = (moves ps x).filter fun y => !decide (y ∈ x :: found) && !decide (y ∈ rest) := by
          unfold news
          refine List.filter_congr fun y _ => ?_
          have e2 : decide (y ∈ found ++ [x]) = decide (y ∈ x :: found) := decide_eq_decide.mpr (by rw [List.mem_append, List.mem_singleton, List.mem_cons, or_comm])
          rw [e2]
        rw [e, List.mem_append, List.mem_append, or_comm]
theorem fits_by {ps : List Pt} {b : Bool} (h : goP ps 80 [] [[0, 0, 0]] = some b) : fitsB ps = b := goP_ok 80 _ _ b .start h
def strB (z : Str) : Bool := PySem.PyData.strOk z && decide (z.length ≤ 1000)
def ptB (p : Pt) : Bool := (decide (p.t.length ≤ 20) && p.t.all strB) && ((decide (p.m.length ≤ 20) && p.m.all strB) && (decide (p.s.length ≤ 100) && p.s.all fun q => strB q.2.1))
theorem strB_ok {z : Str} (h : strB z = true) : PySem.PyData.strOk z = true ∧ z.length ≤ 1000 := by
  unfold strB at h
  rw [Bool.and_eq_true, decide_eq_true_eq] at h
  exact h
theorem ptB_ok {p : Pt} (h : ptB p = true) : PtOk p := by
  unfold ptB at h
  simp only [Bool.and_eq_true, decide_eq_true_eq, List.all_eq_true] at h
  obtain ⟨⟨a, b⟩, ⟨c, d⟩, e, f⟩ := h
  exact ⟨⟨a, fun z hz => strB_ok (b z hz)⟩, ⟨c, fun z hz => strB_ok (d z hz)⟩, ⟨e, fun q hq => strB_ok (f q hq)⟩⟩
def fokB (p : Pt) : Bool := ptB p && (decide (1 ≤ p.n) && (p.s.all (fun q => decide (0 ≤ q.1) && decide (q.1 < p.n) && decide (0 ≤ q.2.2) && decide (q.2.2 < p.n)) && (decide (p.n ≤ 4) && decide (p.s.length ≤ 11))))
theorem fokB_ok {p : Pt} (h : fokB p = true) : Fok p := by
  unfold fokB at h
  simp only [Bool.and_eq_true, decide_eq_true_eq, List.all_eq_true] at h
  obtain ⟨a, b, c, d, e⟩ := h
  exact ⟨ptB_ok a, ⟨b, fun q hq => ⟨(c q hq).1.1.1, (c q hq).1.1.2, (c q hq).1.2, (c q hq).2⟩⟩, d, e⟩
def smB : Da → Bool
  | .tup es => decide (es.length ≤ 1000) && es.all fun e => match e with
    | .str z => decide (z.length ≤ 1000)
    | _ => true
  | _ => true
theorem smB_ok {d : Da} (h : smB d = true) : smN d := fun es e => by
  subst e
  unfold smB at h
  rw [Bool.and_eq_true, decide_eq_true_eq, List.all_eq_true] at h
  refine ⟨h.1, fun d hd z ez => ?_⟩
  have := h.2 d hd
  rw [ez] at this
  exact of_decide_eq_true this
def isExc : Da → Bool
  | .exc => true
  | _ => false
def stB : Da → Bool
  | .tup es => es.all fun y => match y with
    | .exc => false
    | .str z => PySem.PyData.strOk z
    | _ => true
  | _ => true
def opB : Da → Bool
  | .tup [t, m, c, e] => smB t && smB m && !isExc c && match e with
    | .tup sts => decide (sts.length ≤ 1000) && sts.all stB
    | _ => true
  | _ => true
theorem opB_ok {d : Da} (h : opB d = true) : OkP d := by
  refine ⟨fun t m c e z => ?_, fun t m c sts z => ?_⟩
  · subst z
    unfold opB at h
    rw [Bool.and_eq_true, Bool.and_eq_true, Bool.and_eq_true] at h
    refine ⟨smB_ok h.1.1.1, smB_ok h.1.1.2, fun z => ?_⟩
    have := h.1.2
    rw [z] at this
    cases this
  · subst z
    unfold opB at h
    rw [Bool.and_eq_true] at h
    have h2 := h.2
    rw [Bool.and_eq_true, decide_eq_true_eq, List.all_eq_true] at h2
    refine ⟨h2.1, fun x hx es ex y hy => ?_⟩
    have h3 := h2.2 x hx
    rw [ex] at h3
    unfold stB at h3
    have h4 := List.all_eq_true.mp h3 y hy
    refine ⟨fun z => ?_, fun z ez => ?_⟩
    · rw [z] at h4
      cases h4
    · rw [ez] at h4
      exact h4
/-! ### the parts -/
def pC : Pt := ⟨["err", "ok"], ["ask"], 2, [(0, "ask", 1), (1, "ok", 0)]⟩
def pS : Pt := ⟨["ask"], ["err", "ok"], 2, [(0, "ask", 1), (1, "err", 0), (1, "ok", 0)]⟩
def pW : Pt := ⟨["err", "go", "ok"], ["ask"], 3, [(0, "go", 1), (1, "ask", 2), (2, "ok", 0)]⟩
def pT : Pt := ⟨["ask", "mode"], ["err", "ok"], 4, [(0, "ask", 1), (0, "mode", 2), (1, "err", 0), (1, "ok", 0), (2, "ask", 3), (3, "ok", 2)]⟩
def pGo : Pt := ⟨[], ["go"], 1, [(0, "go", 0)]⟩
def pCh : Pt := ⟨[], ["go", "mode"], 3, [(0, "mode", 1), (1, "go", 2)]⟩
def p0 : Pt := ⟨[], [], 1, []⟩
def pLa : Pt := ⟨[], ["go", "mode"], 2, [(0, "", 1), (0, "mode", 0), (1, "go", 1)]⟩
def pSl : Pt := ⟨[], ["go", "mode"], 4, [(0, "mode", 1), (1, "", 2), (2, "go", 3)]⟩
def pN : Pt := ⟨["t"], ["m", "n"], 2, [(0, "m", 1), (0, "n", 0), (1, "t", 0)]⟩
def pF : Pt := ⟨["m", "x"], ["a"], 2, [(0, "m", 1), (1, "", 0), (1, "a", 0)]⟩
def some9 : List Pt := [pGo, pCh, p0, pC, ⟨[], ["ask"], 1, []⟩, ⟨["ask"], [], 1, []⟩, ⟨["go"], [], 1, []⟩, ⟨["zoo"], ["mode"], 9, []⟩, ⟨[], ["go", "zoo"], 1, []⟩]
def rows8 : List Pt := [⟨["a", "n"], [], 1, [(0, "a", 0), (0, "n", 0)]⟩, ⟨["a", "n"], ["t"], 2, [(0, "a", 1), (0, "n", 0), (1, "a", 1), (1, "n", 1), (1, "t", 0)]⟩, ⟨["a", "n"], ["x"], 1, [(0, "a", 0), (0, "n", 0), (0, "x", 0)]⟩, ⟨["a"], [], 1, [(0, "a", 0)]⟩, ⟨["a", "m", "n"], [], 1, []⟩, ⟨["a", "n"], ["m"], 1, []⟩, ⟨["a", "n"], [], 1, [(0, "a", 0)]⟩, ⟨["a", "n"], [], 2, [(0, "a", 1), (0, "n", 0), (1, "a", 1), (1, "n", 1)]⟩]
theorem some_p : some9.all ptB = true := by decide +kernel
theorem rows_p : rows8.all ptB = true := by decide +kernel
theorem kit_p : [pC, pS, pW, pT, pGo, pCh, p0, pLa, pSl, pN, pF].all fokB = true := by decide +kernel
theorem rows_f : [0, 1, 2, 6, 7].all (fun i => fokB (rows8.getD i p0)) = true := by decide +kernel
theorem unj_WT : unj pW pT = [] := by decide +kernel
theorem unj_TW : unj pT pW = [] := by decide +kernel
theorem unj_CS : unj pC pS = [] := by decide +kernel
theorem unj_NF : unj pN pF = [] := by decide +kernel
theorem unj_CW : unj pC pW = ("ask" : Str) :: ("err" : Str) :: [("ok" : Str)] := by decide +kernel
theorem ar_WT : some9.map (fun o => around pW pT (enc o)) = [true, true, true, false, false, false, false, true, false] := by decide +kernel
theorem ar_TW : some9.map (fun o => around pT pW (enc o)) = [true, true, true, false, false, false, false, true, false] := by decide +kernel
theorem ar_NF : rows8.map (fun o => around pN pF (enc o)) = [true, true, true, false, false, false, true, true] := by decide +kernel
theorem qu_WT : quiet pW pT = p0 := by decide +kernel
theorem qu_CS : quiet pC pS = p0 := by decide +kernel
theorem qu_NF : quiet pN pF = rows8.getD 0 p0 := by decide +kernel
theorem fi_CS : fitsB [pC, pS, p0] = false := fits_by (by decide +kernel)
theorem fi_WT : fitsB [pW, pT, pGo] = false ∧ fitsB [pW, pT, pCh] = true ∧ fitsB [pW, pT, p0] = true ∧ fitsB [pW, pT, pLa] = false ∧ fitsB [pW, pT, pSl] = true := ⟨fits_by (by decide +kernel), fits_by (by decide +kernel), fits_by (by decide +kernel), fits_by (by decide +kernel), fits_by (by decide +kernel)⟩
theorem fi_NF : [0, 1, 2, 6, 7].map (fun i => fitsB [pN, pF, rows8.getD i p0]) = [true, true, false, false, true] := by
  rw [List.map_cons, List.map_cons, List.map_cons, List.map_cons, List.map_cons, List.map_nil]
  rw [fits_by (ps := [pN, pF, rows8.getD 0 p0]) (b := true) (by decide +kernel), fits_by (ps := [pN, pF, rows8.getD 1 p0]) (b := true) (by decide +kernel), fits_by (ps := [pN, pF, rows8.getD 2 p0]) (b := false) (by decide +kernel), fits_by (ps := [pN, pF, rows8.getD 6 p0]) (b := false) (by decide +kernel), fits_by (ps := [pN, pF, rows8.getD 7 p0]) (b := true) (by decide +kernel)]
end Fs
set_option Elab.async false
set_option linter.all false
set_option maxRecDepth 100000
set_option maxHeartbeats 4000000
/-! Calls by keywords: quiet_both, is_around_both, fits_both. -/
namespace Fs
open PySem PySem.Spec PyProof.Rows L2
section
variable {P : Program} {w : World} {K : PySem.W.Frag} {mg : Str → Option Value} {base : Heap}
theorem fnk_of {k : Nat} {x : Str} {params : Arguments} {body : List Stmt} {scope : Scope} {N ps : List Str} {R : List Da → Da → Prop} {f : Addr} {fd : FuncData} (F : FunD K x x params body scope [] [] f fd) (sc : FnScope N ps scope) (hl : ∀ ds r, R ds r → ds.length = ps.length)
    (walk : ∀ f cdv A outer s H EX, Room k (Wx P w K mg base N x scope f cdv A outer s H EX).A → ∀ ds r, R ds r → S (Wx P w K mg base N x scope f cdv A outer s H EX) body (entry N ds) (retP r)) : FnOk P w K mg base CX0 (k + 1) f fd ps (SpF K R) := by
  refine F.ok sc (fun vs H Q EX h => ?_) fun cdv A outer s H vs Q EX hr h => ⟨_, PSs.nox WSs.pss, ?_⟩
  · obtain ⟨G, ds, d, _, hv, hR, _⟩ := h
    rw [hv.len, hl ds d hR]
  · obtain ⟨G, ds, d, e, hv, hR, hQ⟩ := h
    refine walk f cdv A outer s H EX hr ds d hR G H _ G H _ (Grow.refl e) ⟨start_kn hv, fun i p es q => (entry_no_ow q).elim, fun i j p q ds es _ h1 _ => (entry_no_ow h1).elim⟩ (fun δ' σ' G' H' q g _ => ?_) fun δ' r σ' v G' H' q g _ hv' => ?_
    · have q' : d = .non := q
      rw [q'] at hQ
      exact hQ .non G' H' g .non
    · have q' : r = d := q
      rw [q'] at hv'
      exact hQ v G' H' g hv'
theorem fk_quiet (T : Tp K mg) {k : Nat} {fd : FuncData} (F : FunD K "quiet_both" "quiet_both" d_quiet_both.params d_quiet_both.body d_quiet_both.scope [] [] (He.ga K "quiet_both") fd) : FnOk P w K mg base CX0 (k + 8) (He.ga K "quiet_both") fd ["one", "other"] (SpF K fun ds r => ∃ d e p q, ds = [d, e] ∧ Raw d p ∧ Raw e q ∧ PtOk p ∧ PtOk q ∧ unj p q = [] ∧ r = enc (quiet p q)) := by
  refine fnk_of F sc_quiet_both ?_ ?_
  · rintro ds r ⟨d, e, p, q, rfl, _⟩; rfl
  · rintro f cdv A outer s H EX hr ds r ⟨d, e, p, q, rfl, hd, he, hp, hq, hu, rfl⟩
    refine s_drop (e_call (f_check (k := 0) T) hr (by omega) pass0 (a_cons (e_var 0 rfl) (a_cons (e_var 1 rfl) a_nil)) ⟨d, e, p, q, rfl, hd, he, hp, hq, hu, rfl⟩) ?_
    refine s_ret (e_call (f_still (k := 0) T) hr (by omega) pass0 (a_cons (e_ix 1 (e_call (f_outside (k := 0) T) hr (by omega) pass0 (a_cons (e_call (f_tupled (k := 0) T 3) hr (by omega) pass0 (a_cons (e_var 0 rfl) a_nil) ⟨d, rfl, hd.1, rfl⟩) (a_cons (e_call (f_tupled (k := 0) T 3) hr (by omega) pass0 (a_cons (e_var 1 rfl) a_nil) ⟨e, rfl, he.1, rfl⟩) a_nil)) ⟨p, q, ?_, hp, hq, rfl⟩) e_int (.inr rfl) rfl rfl) a_nil) ⟨outM p q, rfl, ?_, rfl⟩) rfl
    · rw [hd.2.1, he.2.1]
    · have := outM_len hp hq
      omega
theorem fk_around (T : Tp K mg) {k : Nat} {fd : FuncData} (F : FunD K "is_around_both" "is_around_both" d_is_around_both.params d_is_around_both.body d_is_around_both.scope [] [] (He.ga K "is_around_both") fd) : FnOk P w K mg base CX0 (k + 8) (He.ga K "is_around_both") fd ["one", "other", "thing"] (SpF K fun ds r => ∃ d e th p q, ds = [d, e, th] ∧ Raw d p ∧ Raw e q ∧ PtOk p ∧ PtOk q ∧ unj p q = [] ∧ OkP th ∧ r = .bl (around p q th)) := by
  refine fnk_of F sc_is_around_both ?_ ?_
  · rintro ds r ⟨d, e, th, p, q, rfl, _⟩; rfl
  · rintro f cdv A outer s H EX hr ds r ⟨d, e, th, p, q, rfl, hd, he, hp, hq, hu, hx, rfl⟩
    have h1 := hp.t.1
    have h2 := hp.m.1
    have h3 := hq.t.1
    have h4 := hq.m.1
    have hz := outM_len hp hq
    refine s_drop (e_call (f_check (k := 0) T) hr (by omega) pass0 (a_cons (e_var 0 rfl) (a_cons (e_var 1 rfl) a_nil)) ⟨d, e, p, q, rfl, hd, he, hp, hq, hu, rfl⟩) ?_
    refine s_unl [3, 4] (ds := [.tup (txs (outT p q)), .tup (txs (outM p q))]) (e_call (f_outside (k := 0) T) hr (by omega) pass0 (a_cons (e_call (f_tupled (k := 0) T 3) hr (by omega) pass0 (a_cons (e_var 0 rfl) a_nil) ⟨d, rfl, hd.1, rfl⟩) (a_cons (e_call (f_tupled (k := 0) T 3) hr (by omega) pass0 (a_cons (e_var 1 rfl) a_nil) ⟨e, rfl, he.1, rfl⟩) a_nil)) ⟨p, q, by rw [hd.2.1, he.2.1], hp, hq, rfl⟩) rfl
      (pg_unl rfl (pgs_cons (pg_name sc_is_around_both.nd rfl (Or.inl rfl)) (pgs_cons (pg_name sc_is_around_both.nd rfl (Or.inr rfl)) pgs_nil))) ?_
    by_cases hth : isPart th = true
    rotate_left
    · have hf : isPart th = false := by simpa using hth
      refine s_if (k := true) (EB.is (b_w (w_or (k' := true) (b_not (b_val (e_call (f_is_part (k := 0) T) hr (by omega) pass0 (a_cons (e_var 2 rfl) a_nil) ⟨th, rfl, hx, rfl⟩))) fun h => ?_)) ?_) (fun h => s_ret e_bl ?_) (fun h => nomatch h)
      · rw [hf] at h; cases h
      · rw [hf]; rfl
      · show Da.bl false = Da.bl (around p q th)
        unfold around
        rw [hf]; rfl
    obtain ⟨tl, ml, c, sts, rfl⟩ := part_shape hth
    have hl : tl.length ≤ 1000 ∧ ml.length ≤ 1000 := by
      obtain ⟨z1, z2, _⟩ := hx.s0 _ _ _ _ rfl
      have z1 := (z1 _ rfl).1
      have z2 := (z2 _ rfl).1
      rw [txs_len] at z1 z2
      exact ⟨z1, z2⟩
    refine s_if (k := !true || !(ml.all fun x => decide (x ∈ outT p q)) || !((outM p q).all fun x => decide (x ∈ tl))) (EB.is (b_w (w_or (b_not (b_val (e_call (f_is_part (k := 0) T) hr (by omega) pass0 (a_cons (e_var 2 rfl) a_nil) ⟨_, rfl, hx, rfl⟩))) fun _ =>
      w_or (b_not (b_val (e_call (f_is_within (k := 0) T) hr (by omega) pass0 (a_cons (e_ix 1 (e_var 2 rfl) e_int (.inl rfl) rfl rfl) (a_cons (e_var 3 rfl) a_nil)) ⟨ml, outT p q, rfl, hl.2, rfl⟩))) fun _ =>
      w_or1 (b_not (b_val (e_call (f_is_within (k := 0) T) hr (by omega) pass0 (a_cons (e_var 4 rfl) (a_cons (e_ix 0 (e_var 2 rfl) e_int (.inl rfl) rfl rfl) a_nil)) ⟨outM p q, tl, rfl, by omega, rfl⟩))))) ?_) (fun h => s_ret e_bl ?_) (fun h => s_nil ?_)
    · rw [hth, Bool.or_assoc]
    · show Da.bl false = Da.bl (around p q _)
      unfold around
      rw [hth]
      show Da.bl false = Da.bl (true && ((strs' (.tup (txs ml))).all fun x => decide (x ∈ outT p q)) && ((outM p q).all fun x => decide (x ∈ strs' (.tup (txs tl)))) && _)
      rw [strs_txs, strs_txs]
      revert h
      cases (ml.all fun x => decide (x ∈ outT p q)) <;> cases ((outM p q).all fun x => decide (x ∈ tl)) <;> intro h <;> first | rfl | cases h
    obtain ⟨a1, b1, c1, e1, hd1, hd2, hd3⟩ := hd.2.2
    obtain ⟨a2, b2, c2, e2, he1, he2, he3⟩ := he.2.2
    have sd : d = .tup [a1, b1, c1, e1] ∨ d = .lst [a1, b1, c1, e1] := hd1
    refine s_set 5 (d := .lst (txs (every p q))) (E.is (e_lst (txq_ix (e_ix 0 (e_var 0 rfl) e_int hd1 rfl rfl) hd2 (txq_ix (e_ix 1 (e_var 0 rfl) e_int hd1 rfl rfl) hd3 (txq_ix (e_ix 0 (e_var 1 rfl) e_int he1 rfl rfl) he2 (txq_ix (e_ix 1 (e_var 1 rfl) e_int he1 rfl rfl) he3 a_nil)))) ?_) ?_) sc_is_around_both.nd ?_
    · simp only [List.length_append, txs_len, List.length_nil]
      omega
    · unfold every
      rw [List.append_nil, txs_app, txs_app, txs_app, List.append_assoc]
    refine s_ret (E.is (e_not (e_any T ((every p q).map fun x => decide (x ∈ tl) && !decide (x ∈ outM p q)) (e_lc 6 (p := fun _ => true) (f := aroundF tl (outM p q)) (r_lst (e_var 5 rfl)) ?_ sc_is_around_both.nd (blk_ok (own := [("call", 6)]) (by kernel_rfl)) (fun x hx s0 H0 C cl fp => ⟨ts_nil, fun _ => ?_⟩) (fun _ _ _ _ _ => pg_name sc_is_around_both.nd rfl (Or.inl rfl))) ?_)) ?_) rfl
    · rw [txs_len]
      unfold every
      simp only [List.length_append]
      omega
    · obtain ⟨z, hz, rfl⟩ := List.mem_map.mp hx
      exact e_andB (e_cmp op_in_seq (e_var 6 rfl) (e_ix 0 (e_var 2 rfl) e_int (.inl rfl) rfl rfl) (od_inS (.inl rfl))) fun _ => e_one (e_cmp op_notIn_seq (e_var 6 rfl) (e_var 4 rfl) (od_niS (.inl rfl)))
    · rw [filter_tt]
      unfold txs
      rw [List.map_map, List.map_map]
      rfl
    · show _ = Da.bl (around p q _)
      unfold around
      rw [hth]
      show _ = Da.bl (true && ((strs' (.tup (txs ml))).all fun x => decide (x ∈ outT p q)) && ((outM p q).all fun x => decide (x ∈ strs' (.tup (txs tl)))) && !((every p q).any fun x => decide (x ∈ strs' (.tup (txs tl))) && !decide (x ∈ outM p q)))
      rw [strs_txs, strs_txs, List.any_map]
      revert h
      cases (ml.all fun x => decide (x ∈ outT p q)) <;> cases ((outM p q).all fun x => decide (x ∈ tl)) <;> intro h <;> first | rfl | cases h
theorem fk_fits (T : Tp K mg) {k : Nat} {fd : FuncData} (F : FunD K "fits_both" "fits_both" d_fits_both.params d_fits_both.body d_fits_both.scope [] [] (He.ga K "fits_both") fd) : FnOk P w K mg base CX0 (k + 8) (He.ga K "fits_both") fd ["one", "other", "around"] (SpF K fun ds r => ∃ d e g p q o, ds = [d, e, g] ∧ Raw d p ∧ Raw e q ∧ Raw g o ∧ Fok p ∧ Fok q ∧ Fok o ∧ unj p q = [] ∧ r = .bl (fitsB [p, q, o])) := by
  refine fnk_of F sc_fits_both ?_ ?_
  · rintro ds r ⟨d, e, g, p, q, o, rfl, _⟩; rfl
  · rintro f cdv A outer s H EX hr ds r ⟨d, e, g, p, q, o, rfl, hd, he, hg, hp, hq, ho, hu, rfl⟩
    have nd := sc_fits_both.nd
    have hun : (Wx P w K mg base n_fits_both "fits_both" d_fits_both.scope f cdv A outer s H EX).A.units + 65 < cLine := by
      have := hr.un
      omega
    have h3 : [p, q, o].length = 3 := rfl
    have hin : ∀ y ∈ [p, q, o], Inb y := fun y hy => by
      rcases List.mem_cons.mp hy with rfl | hy
      · exact hp.inb
      · rcases List.mem_cons.mp hy with rfl | hy
        · exact hq.inb
        · rw [List.mem_singleton.mp hy]; exact ho.inb
    have hs : ∀ y ∈ [p, q, o], y.s.length ≤ 11 := fun y hy => by
      rcases List.mem_cons.mp hy with rfl | hy
      · exact hp.s11
      · rcases List.mem_cons.mp hy with rfl | hy
        · exact hq.s11
        · rw [List.mem_singleton.mp hy]; exact ho.s11
    have hok : ∀ y ∈ [p, q, o], PtOk y := fun y hy => by
      rcases List.mem_cons.mp hy with rfl | hy
      · exact hp.ok
      · rcases List.mem_cons.mp hy with rfl | hy
        · exact hq.ok
        · rw [List.mem_singleton.mp hy]; exact ho.ok
    have hU := univ_len hp.n4 hq.n4 ho.n4
    refine s_drop (e_call (f_check (k := 0) T) hr (by omega) pass0 (a_cons (e_var 0 rfl) (a_cons (e_var 1 rfl) a_nil)) ⟨d, e, p, q, rfl, hd, he, hp.ok, hq.ok, hu, rfl⟩) ?_
    refine s_set 3 (d := thr [p, q, o]) (E.is (e_tup (a_cons (e_call (f_tupled (k := 0) T 3) hr (by omega) pass0 (a_cons (e_var 0 rfl) a_nil) ⟨d, rfl, hd.1, rfl⟩) (a_cons (e_call (f_tupled (k := 0) T 3) hr (by omega) pass0 (a_cons (e_var 1 rfl) a_nil) ⟨e, rfl, he.1, rfl⟩) (a_cons (e_call (f_tupled (k := 0) T 3) hr (by omega) pass0 (a_cons (e_var 2 rfl) a_nil) ⟨g, rfl, hg.1, rfl⟩) a_nil))) (by simp)) (by rw [hd.2.1, he.2.1, hg.2.1]; rfl)) nd ?_
    refine s_tupO 4 5 (o_lst a_nil (by simp)) (o_lst (a_cons (e_op op_repT (e_tup (a_cons e_int a_nil) (by simp)) (e_gint T.three) (od_repT (n := 3) (by simp) (by decide) (by decide) (by simp))) a_nil) (by simp)) (pg_tup rfl (pgs_cons (pg_name nd rfl (Or.inr rfl)) (pgs_cons (pg_name nd rfl (Or.inr rfl)) pgs_nil))) (fun pf pq => ?_)
    refine s_while PassesOwn.never (fun m δ' => ∃ c6 c7 found fresh, δ' = [.kn d, .kn e, .kn g, .kn (thr [p, q, o]), .ow pf (found.map pl), .ow pq (fresh.map pl), c6, c7] ∧ DInv [p, q, o] found fresh ∧ m = todo (univ [p, q, o]) found fresh ∧ found.length + m ≤ 80000) ⟨_, .no, .no, [], [[0, 0, 0]], rfl, .start, rfl, ?_⟩ (fun m δ' hI => ?_)
    · unfold todo unseen
      have := List.length_filter_le (fun u => !(decide (u ∈ ([] : List (List Int))) || decide (u ∈ [[0, 0, 0]]))) (univ [p, q, o])
      simp only [List.length_nil, List.length_singleton]
      omega
    obtain ⟨c6, c7, found, fresh, rfl, hD, rfl, hz⟩ := hI
    refine ⟨decide ((0 : Int) < ((fresh.map pl).length : Int)), eb_cmpE op_gt (e_len T (e_var 5 rfl) (.inr rfl)) e_int od_gt, fun hc => ?_, fun hc => s_ret e_bl ?_⟩
    rotate_left
    · have hn : fresh = [] := by
        have := of_decide_eq_false hc
        rw [List.length_map] at this
        exact List.eq_nil_of_length_eq_zero (by omega)
      subst hn
      show Da.bl true = Da.bl (fitsB _)
      rw [fitsB_true hD.fits]
    have hne : fresh ≠ [] := fun h => by
      subst h
      cases of_decide_eq_true hc
    obtain ⟨init, x, rfl⟩ : ∃ init x, fresh = init ++ [x] := ⟨fresh.dropLast, fresh.getLast hne, (List.dropLast_concat_getLast hne).symm⟩
    have hx : Reach [p, q, o] x := hD.r x (.inr (List.mem_append.mpr (.inr (List.mem_singleton.mpr rfl))))
    have hxl := reach_len h3 hin hx
    have hlt := todo_lt h3 hin hs hD
    have hml := moves_len h3 hs hxl
    have hfl : init.length + 1 ≤ todo (univ [p, q, o]) found (init ++ [x]) := by
      unfold todo
      rw [List.length_append, List.length_singleton]
      omega
    refine s_pop 5 6 (p := pq) (ds := init.map pl) (d := pl x) (by rw [List.map_append]; rfl) nd ?_
    refine s_if (k := apart [p, q, o] x) (b_val (e_call (f_apart (k := 0) T) hr (by omega) pass0 (a_cons (e_var 3 rfl) (a_cons (e_var 6 rfl) a_nil)) ⟨_, x, rfl, hxl, hok, rfl⟩)) (fun hf => s_ret e_bl ?_) (fun hf => s_nil ?_)
    · show Da.bl false = Da.bl (fitsB _)
      rw [fitsB_false (hD.not (List.mem_append.mpr (.inr (List.mem_singleton.mpr rfl))) hf)]
    refine s_app 4 rfl (d := pl x) (e_var 6 rfl) (lf_pl x) (by rw [List.length_map]; omega) ?_
    refine s_ext 5 rfl (es := (news [p, q, o] (found ++ [x]) init x).map pl) (E.is (e_lc 7 (items := (moves [p, q, o] x).map pl) (p := fun d => (!((found ++ [x]).map pl).any fun z => eqd z d) && (!(init.map pl).any fun z => eqd z d)) (f := fun d => d) (r_lst (e_call (f_moves (k := 0) T) hr (by omega) pass0 (a_cons (e_var 3 rfl) (a_cons (e_var 6 rfl) a_nil)) ⟨_, x, rfl, hxl, h3, hok, rfl⟩)) (by rw [List.length_map]; omega) nd (blk_ok (own := [("after", 7)]) (by kernel_rfl)) (fun y hy s0 H0 C cl fp => ?_) (fun _ _ _ _ _ => pg_name nd rfl (Or.inl rfl))) ?_) (lfL_pls _) ?_ (s_nil ⟨_, ?_, .kn (pl x), c7, found ++ [x], init ++ news [p, q, o] (found ++ [x]) init x, ?_, hD.step hf, rfl, ?_⟩)
    · obtain ⟨v, hv, rfl⟩ := List.mem_map.mp hy
      have ef : found.map pl ++ [pl x] = (found ++ [x]).map pl := by rw [List.map_append]; rfl
      refine ⟨ts_one (b_w (w_and (eb_cmpE (op_notInD hun) (e_var 7 rfl) (E.is (e_var 4 rfl) (congrArg Da.lst ef)) (od_niD (n := 1) (m := 2) (fit_pl 0 v) (fit_pls 0 _) (by decide) (by decide))) fun _ => w_and1 (eb_cmpE (op_notInD hun) (e_var 7 rfl) (e_var 5 rfl) (od_niD (n := 1) (m := 2) (fit_pl 0 v) (fit_pls 0 _) (by decide) (by decide))))), fun _ => e_var 7 rfl⟩
    · rw [List.map_id', List.filter_map]
      unfold news
      congr 2
      refine List.filter_congr fun v _ => ?_
      show ((!((found ++ [x]).map pl).any fun z => eqd z (pl v)) && (!(init.map pl).any fun z => eqd z (pl v))) = _
      rw [any_pl, any_pl]
    · have : (news [p, q, o] (found ++ [x]) init x).length ≤ 1089 := Nat.le_trans (List.length_filter_le _ _) hml
      rw [List.length_map, List.length_map]
      omega
    · exact Nat.lt_of_succ_le hlt
    · simp only [List.map_append]
      rfl
    · rw [List.length_append, List.length_singleton]
      omega
end
/-! ### f(k = e, ..) -/
section
variable {X : Cx} {CX : CXT} {k : Nat} {f : Addr} {fd : FuncData} {ps ks : List Str} {sp : Sp} {E : XK} {x : Str} {p pos : Pos} {kws : List Keyword} {tk : TA} {g : List Value → List Value → List Value} {gV : List V → List V → List V}
theorem pe_callK0 (F : FnOk X.prog X.w X.K X.mg X.base CX k f fd ps sp) (hr : Room k X.A) (hg : Gl X x) (hm : X.mg x = some (.ref f)) (hk : PySem.W.keepIn X.K (.ref f) = true) (hb : KBinds X.K fd ps ks g gV) (hx : Passes CX X E)
    (hkw : PK X kws tk) (hall : (backToKw pos (keywordEach kws X.env)).all (·.1.isSome) = true := by rfl) (hks : (backToKw pos (keywordEach kws X.env)).filterMap (·.1) = ks := by rfl)
    (hdb : (x == ("__debug__" : Str)) = false := by decide) (hpl : ((backTo pos (starEach [] X.env)).any (·.1) || (backToKw pos (keywordEach kws X.env)).any (·.1.isNone)) = false := by rfl) :
    PE X (.Call (.Name x p) [] kws pos) (fun σ H Q => tk σ H fun zs H2 => sp (gV [] zs) H2 Q E) := by
  refine ⟨fun pins s σ H Q I h => ?_⟩
  refine wpAny_Call_Name_kw (ld_glob I hg hm ?_ hdb)
  refine PySem.W.callWith_KW0 (h₀ := X.base) I.ok.mod.kin hk hall ?_ hpl
  refine thn (hkw.run pos pins _ σ H _ (I.tok _) h) fun ws s2 ⟨zs, H2, I2, rz, q2⟩ => ⟨I2.kIn, ?_⟩
  rw [hks]
  exact run_fnk F hr hb hx I2 .nil rz q2
end
def WK (X : Cx) (kws : List Keyword) : TA := fun σ H Q => ∀ (pos : Pos) (pins : List (Addr × Obj)) (s : Shared), Inv X pins σ H s → wpAny (model X.prog X.w) X.A (evalAll ((backToKw pos (keywordEach kws X.env)).map (·.2))) (AP X pins σ Q) X.xe s
def EK (X : Cx) (kws : List Keyword) (δ : De) (ds : List Da) : Prop := ∀ σ G, StK X.K G σ δ → ∀ H1, Same G H1 → ∀ Q : List V → Hp → Prop, (∀ vs G2 H2, Grow G H1 G2 H2 → AtL X.K G2 vs ds → Q vs H2) → WK X kws σ H1 Q
section
variable {X : Cx} {e : Expr} {kws : List Keyword} {δ : De} {d r : Da} {ds : List Da} {nm : Option Str} {kpos p pos : Pos} {x : Str}
theorem WK.pk : PK X kws (WK X kws) := ⟨fun pos pins s _ _ _ I h => h pos pins s I⟩
theorem wk_of {σ : L2.St} {H : Hp} {u : TA} {Q : List V → Hp → Prop} (h : PK X kws u) (q : u σ H Q) : WK X kws σ H Q := fun pos pins s I => h.run pos pins s σ H Q I q
theorem k_nil : EK X [] δ [] := fun σ G S H1 z Q q => wk_of pk_nil (q [] G H1 (Grow.refl z) .nil)
theorem k_cons (h : E X e δ d) (k : EK X kws δ ds) : EK X (⟨nm, e, kpos⟩ :: kws) δ (d :: ds) := fun σ G S H1 z Q q =>
  wk_of (pk_cons WE.pe WK.pk) (h σ G S H1 z _ fun v G2 H2 g2 hv => k σ G2 (S.up g2.gg) H2 g2.gh _ fun vs G3 H3 g3 hvs => q (v :: vs) G3 H3 (g2.trans g3) (.cons (hv.up g3.gg) hvs))
def gRev {α : Type} : List α → List α → List α
  | [], ws => ws.reverse
  | _ :: _, _ => []
theorem vals_rev {vs : List V} {us : List Value} {zs : List V} {ws : List Value} (h : Vals vs us) (k : Vals zs ws) : Vals (gRev vs zs) (gRev us ws) := by
  cases h with
  | nil =>
    show Vals zs.reverse ws.reverse
    induction k with
    | nil => exact .nil
    | cons h1 h2 ih =>
      rw [List.reverse_cons, List.reverse_cons]
      exact ih.append (.cons h1 .nil)
  | cons _ _ => exact .nil
theorem atl_rev {K : PySem.W.Frag} {G : Hp} : ∀ {ds : List Da} {vs : List V}, AtL K G vs ds → AtL K G vs.reverse ds.reverse
  | [], _, h => by cases h; exact .nil
  | d :: ds, _, h => by
    cases h with
    | cons h1 h2 =>
      rw [List.reverse_cons, List.reverse_cons]
      exact (atl_rev h2).snoc h1
theorem e_callKw {k j : Nat} {R : List Da → Da → Prop} {f : Addr} {fd : FuncData} {ps ks : List Str} (F : FnOk X.prog X.w X.K X.mg X.base CX0 k f fd ps (SpF X.K R)) (hm : X.mg x = some (.ref f)) (hkp : PySem.W.keepIn X.K (.ref f) = true) (hr : Room j X.A) (hk : k ≤ j)
    (hb : KBinds X.K fd ps ks gRev gRev) (h : EK X kws δ ds) (hR : R ds.reverse r) (hg : Gl X x := by rfl) (hall : (backToKw pos (keywordEach kws X.env)).all (·.1.isSome) = true := by rfl) (hks : (backToKw pos (keywordEach kws X.env)).filterMap (·.1) = ks := by rfl)
    (hdb : (x == ("__debug__" : Str)) = false := by decide) (hpl : ((backTo pos (starEach [] X.env)).any (·.1) || (backToKw pos (keywordEach kws X.env)).any (·.1.isNone)) = false := by rfl) : E X (.Call (.Name x p) [] kws pos) δ r := fun σ G S H1 z Q q =>
  we_of (pe_callK0 (E := fun _ _ _ => False) (F.mono hk) hr hg hm hkp hb pass0 WK.pk hall hks hdb hpl) (h σ G S H1 z _ fun vs G2 H2 g2 hvs => ⟨G2, ds.reverse, r, g2.gh, atl_rev hvs, hR, fun v G3 H3 g3 hv => q v G3 H3 (g2.trans g3) hv⟩)
end
section
variable {K : PySem.W.Frag} {f : Addr} {fd : FuncData}
theorem kb_three {x : Str} {params : Arguments} {body : List Stmt} {scope : Scope} {a b c : Str} (F : FunD K x x params body scope [] [] f fd) (h : ∀ (kV doc pm : Value) (an : Option Addr) (cdv ct u1 u2 u3 : Value), bindArgs (PySem.W.fnOf x x params body scope .none kV doc pm an cdv ct) ⟨[], [(c, u1), (b, u2), (a, u3)]⟩ = pure [(a, u3), (b, u2), (c, u1)]) : KBinds K fd [a, b, c] [c, b, a] gRev gRev := by
  refine ⟨fun s us ws _ hl => ?_, fun h k => vals_rev h k⟩
  obtain ⟨oc, od, dV, kV, doc, pm, an, cdv, ct, osl, rfl, lk, hcd, hD, hK⟩ := F.ex
  rcases hD with ⟨_, rfl⟩ | ⟨e, _⟩
  · match us, ws, hl with
    | [], [u1, u2, u3], _ => exact .of_eq (h kV doc pm an cdv ct u1 u2 u3)
    | [], [], hl => simp [gRev] at hl
    | [], [_], hl => simp [gRev] at hl
    | [], [_, _], hl => simp [gRev] at hl
    | [], _ :: _ :: _ :: _ :: _, hl => simp [gRev] at hl
    | _ :: _, _, hl => simp [gRev] at hl
  · exact absurd rfl e
theorem kb_two {x : Str} {params : Arguments} {body : List Stmt} {scope : Scope} {a b : Str} (F : FunD K x x params body scope [] [] f fd) (h : ∀ (kV doc pm : Value) (an : Option Addr) (cdv ct u1 u2 : Value), bindArgs (PySem.W.fnOf x x params body scope .none kV doc pm an cdv ct) ⟨[], [(b, u1), (a, u2)]⟩ = pure [(a, u2), (b, u1)]) : KBinds K fd [a, b] [b, a] gRev gRev := by
  refine ⟨fun s us ws _ hl => ?_, fun h k => vals_rev h k⟩
  obtain ⟨oc, od, dV, kV, doc, pm, an, cdv, ct, osl, rfl, lk, hcd, hD, hK⟩ := F.ex
  rcases hD with ⟨_, rfl⟩ | ⟨e, _⟩
  · match us, ws, hl with
    | [], [u1, u2], _ => exact .of_eq (h kV doc pm an cdv ct u1 u2)
    | [], [], hl => simp [gRev] at hl
    | [], [_], hl => simp [gRev] at hl
    | [], _ :: _ :: _ :: _, hl => simp [gRev] at hl
    | _ :: _, _, hl => simp [gRev] at hl
  · exact absurd rfl e
end
end Fs
set_option Elab.async false
set_option linter.all false
set_option maxRecDepth 100000
set_option maxHeartbeats 1000000
/-! Literals by computing. -/
namespace Fs
open PySem PySem.Spec PyProof.Rows L2
def litL (f : Expr → Option Da) : List Expr → Option (List Da)
  | [] => some []
  | e :: es => match f e with
    | some d => (litL f es).map fun ds => d :: ds
    | none => none
def litN : Nat → Expr → Option Da
  | 0, _ => none
  | n + 1, e => match e with
    | .Constant (.int i) _ _ => some (.int i)
    | .Constant (.str z) _ _ => some (.str z)
    | .Constant (.bool b) _ _ => some (.bl b)
    | .Constant .none _ _ => some .non
    | .Tuple es _ _ => (litL (litN n) es).bind fun ds => if ds.length ≤ 100000 then some (.tup ds) else none
    | .List es _ => (litL (litN n) es).bind fun ds => if ds.length ≤ 100000 then some (.lst ds) else none
    | _ => none
mutual
def eqDa : Da → Da → Bool
  | .non, .non => true
  | .bl a, .bl b => a == b
  | .int a, .int b => decide (a = b)
  | .str a, .str b => decide (a = b)
  | .lst xs, .lst ys => eqDaL xs ys
  | .tup xs, .tup ys => eqDaL xs ys
  | .exc, .exc => true
  | _, _ => false
def eqDaL : List Da → List Da → Bool
  | [], [] => true
  | x :: xs, y :: ys => eqDa x y && eqDaL xs ys
  | _, _ => false
end
mutual
theorem eqDa_ok : ∀ (a b : Da), eqDa a b = true → a = b
  | .non, b, h => by cases b <;> first | rfl | (simp [eqDa] at h)
  | .bl x, b, h => by cases b <;> first | (simp [eqDa] at h; done) | (simp [eqDa] at h; rw [h])
  | .int x, b, h => by cases b <;> first | (simp [eqDa] at h; done) | (simp [eqDa] at h; rw [h])
  | .str x, b, h => by cases b <;> first | (simp [eqDa] at h; done) | (simp [eqDa] at h; rw [h])
  | .exc, b, h => by cases b <;> first | rfl | (simp [eqDa] at h)
  | .lst xs, b, h => by
    cases b with
    | lst ys =>
      rw [eqDa] at h
      rw [eqDaL_ok xs ys h]
    | _ => simp [eqDa] at h
  | .tup xs, b, h => by
    cases b with
    | tup ys =>
      rw [eqDa] at h
      rw [eqDaL_ok xs ys h]
    | _ => simp [eqDa] at h
theorem eqDaL_ok : ∀ (a b : List Da), eqDaL a b = true → a = b
  | [], b, h => by
    cases b with
    | nil => rfl
    | cons y ys => simp [eqDaL] at h
  | x :: xs, b, h => by
    cases b with
    | nil => simp [eqDaL] at h
    | cons y ys =>
      rw [eqDaL, Bool.and_eq_true] at h
      rw [eqDa_ok x y h.1, eqDaL_ok xs ys h.2]
end
def litB (e : Expr) (d : Da) : Bool := match litN 8 e with
  | some d' => eqDa d' d
  | none => false
theorem litB_ok {e : Expr} {d : Da} (h : litB e d = true) : litN 8 e = some d := by
  unfold litB at h
  split at h
  · rename_i d' hd
    rw [hd, eqDa_ok _ _ h]
  · cases h
section
variable {X : Cx} {δ : De}
theorem litL_ok {f : Expr → Option Da} (hf : ∀ e d, f e = some d → E X e δ d ∧ ∀ es, starEach (e :: es) X.env = (false, eval e X.env) :: starEach es X.env) : ∀ (es : List Expr) (ds : List Da), litL f es = some ds → EA X es δ ds
  | [], ds, h => by
    cases h
    exact a_nil
  | e :: es, ds, h => by
    unfold litL at h
    cases hd : f e with
    | none => rw [hd] at h; cases h
    | some d =>
      rw [hd] at h
      cases hl : litL f es with
      | none => rw [hl] at h; cases h
      | some ds' =>
        rw [hl] at h
        cases h
        exact a_cons (hf e d hd).1 (litL_ok hf es ds' hl) ((hf e d hd).2 es)
theorem litN_ok : ∀ (n : Nat) (e : Expr) (d : Da), litN n e = some d → E X e δ d ∧ ∀ es, starEach (e :: es) X.env = (false, eval e X.env) :: starEach es X.env
  | 0, _, _, h => by cases h
  | n + 1, e, d, h => by
    unfold litN at h
    split at h
    · cases h; exact ⟨e_int, fun _ => rfl⟩
    · cases h; exact ⟨e_str, fun _ => rfl⟩
    · cases h; exact ⟨e_bl, fun _ => rfl⟩
    · cases h; exact ⟨e_non, fun _ => rfl⟩
    · rename_i es _ _
      cases hl : litL (litN n) es with
      | none => rw [hl] at h; cases h
      | some ds =>
        rw [hl] at h
        by_cases hz : ds.length ≤ 100000
        · rw [Option.bind_some, if_pos hz] at h
          cases h
          exact ⟨e_tup (litL_ok (fun e d => litN_ok n e d) es ds hl) hz, fun _ => rfl⟩
        · rw [Option.bind_some, if_neg hz] at h
          cases h
    · rename_i es _
      cases hl : litL (litN n) es with
      | none => rw [hl] at h; cases h
      | some ds =>
        rw [hl] at h
        by_cases hz : ds.length ≤ 100000
        · rw [Option.bind_some, if_pos hz] at h
          cases h
          exact ⟨e_lst (litL_ok (fun e d => litN_ok n e d) es ds hl) hz, fun _ => rfl⟩
        · rw [Option.bind_some, if_neg hz] at h
          cases h
    · cases h
theorem e_lit {e : Expr} {d : Da} (h : litB e d = true) : E X e δ d := (litN_ok 8 e d (litB_ok h)).1
end
end Fs
set_option Elab.async false
set_option linter.all false
set_option maxRecDepth 100000
set_option maxHeartbeats 2000000
/-! Data expressions by computing, over a store: names, literals, sums, repeats, items. Statements told by their parts. -/
namespace Fs
open PySem PySem.Spec PyProof.Rows L2
def visB (sc : Scope) (x : Str) : Bool := decide (sc.names.lookup x = some .local) || (decide (sc.names.lookup x = some .cell) || decide (sc.names.lookup x = some .free))
theorem visB_ok {sc : Scope} {x : Str} (h : visB sc x = true) : Vis sc x := by
  unfold visB at h
  rw [Bool.or_eq_true, Bool.or_eq_true, decide_eq_true_eq, decide_eq_true_eq, decide_eq_true_eq] at h
  exact h
def idxS (x : Str) : List Str → Option Nat
  | [] => none
  | y :: ys => if decide (y = x) = true then some 0 else (idxS x ys).map Nat.succ
theorem idxS_ok {x : Str} : ∀ {N : List Str} {i : Nat}, idxS x N = some i → N[i]? = some x
  | [], _, h => by cases h
  | y :: ys, i, h => by
    unfold idxS at h
    by_cases e : y = x
    · rw [if_pos (decide_eq_true e)] at h
      cases h
      rw [e]
      rfl
    · rw [if_neg (by rw [decide_eq_false e]; exact Bool.false_ne_true)] at h
      cases q : idxS x ys with
      | none => rw [q] at h; cases h
      | some j =>
        rw [q] at h
        cases h
        exact idxS_ok (N := ys) q
def nameV (sc : Scope) (N : List Str) (δ : De) (x : Str) : Option Da := match idxS x N with
  | some i => (match δ[i]? with
    | some (.kn d) => if (visB sc x && (!(x == ("__debug__" : Str)) && !(x == ("__classdict__" : Str)))) = true then some d else none
    | _ => none)
  | none => none
def catV (a b : Option Da) : Option Da := match a, b with
  | some (.lst xs), some (.lst ys) => if xs.length + ys.length ≤ 100000 then some (.lst (xs ++ ys)) else none
  | some (.tup xs), some (.tup ys) => if xs.length + ys.length ≤ 100000 then some (.tup (xs ++ ys)) else none
  | _, _ => none
def repV (a : Option Da) (n : Int) : Option Da := match a with
  | some (.lst xs) => if (n = (n.toNat : Int)) ∧ xs.length * n.toNat ≤ 100000 ∧ n.toNat ≤ 1000 then some (.lst (List.replicate n.toNat xs).flatten) else none
  | _ => none
def ixV (a : Option Da) (n : Int) : Option Da := match a with
  | some (.lst xs) => if n = (n.toNat : Int) then xs[n.toNat]? else none
  | some (.tup xs) => if n = (n.toNat : Int) then xs[n.toNat]? else none
  | _ => none
def slV (a : Option Da) (n : Int) : Option Da := match a with
  | some (.lst xs) => some (.lst (cutD xs none (some n)))
  | some (.tup xs) => some (.tup (cutD xs none (some n)))
  | _ => none
def litV (sc : Scope) (N : List Str) (δ : De) : Nat → Expr → Option Da
  | 0, _ => none
  | n + 1, e => match e with
    | .Constant (.int i) _ _ => some (.int i)
    | .Constant (.str z) _ _ => some (.str z)
    | .Constant (.bool b) _ _ => some (.bl b)
    | .Constant .none _ _ => some .non
    | .Name x _ => nameV sc N δ x
    | .Tuple es _ _ => (litL (litV sc N δ n) es).bind fun ds => if ds.length ≤ 100000 then some (.tup ds) else none
    | .List es _ => (litL (litV sc N δ n) es).bind fun ds => if ds.length ≤ 100000 then some (.lst ds) else none
    | .BinOp a .Add b _ => catV (litV sc N δ n a) (litV sc N δ n b)
    | .BinOp a .Mult (.Constant (.int i) _ _) _ => repV (litV sc N δ n a) i
    | .Subscript a (.Constant (.int i) _ _) _ => ixV (litV sc N δ n a) i
    | .Subscript a (.Slice none (some (.Constant (.int i) _ _)) none _) _ => slV (litV sc N δ n a) i
    | _ => none
def litVB (sc : Scope) (N : List Str) (δ : De) (e : Expr) (d : Da) : Bool := match litV sc N δ 12 e with
  | some d' => eqDa d' d
  | none => false
theorem litVB_ok {sc : Scope} {N : List Str} {δ : De} {e : Expr} {d : Da} (h : litVB sc N δ e d = true) : litV sc N δ 12 e = some d := by
  unfold litVB at h
  split at h
  · rename_i d' hd
    rw [hd, eqDa_ok _ _ h]
  · cases h
section
variable {X : Cx} {δ : De}
theorem nameV_ok {x : Str} {p : Pos} {d : Da} (h : nameV X.env.scope X.N δ x = some d) : E X (.Name x p) δ d := by
  unfold nameV at h
  cases hi : idxS x X.N with
  | none => rw [hi] at h; cases h
  | some i =>
    rw [hi] at h
    cases hd : δ[i]? with
    | none =>
      have h2 : (match δ[i]? with
        | some (Cl.kn d) => if (visB X.env.scope x && (!(x == ("__debug__" : Str)) && !(x == ("__classdict__" : Str)))) = true then some d else none
        | _ => none) = some d := h
      rw [hd] at h2
      cases h2
    | some c =>
      have h2 : (match δ[i]? with
        | some (Cl.kn d) => if (visB X.env.scope x && (!(x == ("__debug__" : Str)) && !(x == ("__classdict__" : Str)))) = true then some d else none
        | _ => none) = some d := h
      rw [hd] at h2
      cases c with
      | no => cases h2
      | ow p ds => cases h2
      | kn d' =>
        have h3 : (if (visB X.env.scope x && (!(x == ("__debug__" : Str)) && !(x == ("__classdict__" : Str)))) = true then some d' else none) = some d := h2
        by_cases q : (visB X.env.scope x && (!(x == ("__debug__" : Str)) && !(x == ("__classdict__" : Str)))) = true
        · rw [if_pos q] at h3
          cases h3
          rw [Bool.and_eq_true, Bool.and_eq_true] at q
          obtain ⟨q1, q2, q3⟩ := q
          exact e_var i hd (idxS_ok hi) (visB_ok q1) (by simpa using q2) (by simpa using q3)
        · rw [if_neg q] at h3
          cases h3
theorem catV_ok {a b : Expr} {d : Da} {p : Pos} {oa ob : Option Da} (h : catV oa ob = some d) (ha : ∀ d, oa = some d → E X a δ d) (hb : ∀ d, ob = some d → E X b δ d) : E X (.BinOp a .Add b p) δ d := by
  unfold catV at h
  split at h
  · rename_i xs ys
    by_cases z : xs.length + ys.length ≤ 100000
    · rw [if_pos z] at h
      cases h
      exact e_op op_cat (ha _ rfl) (hb _ rfl) (od_cat z)
    · rw [if_neg z] at h
      cases h
  · rename_i xs ys
    by_cases z : xs.length + ys.length ≤ 100000
    · rw [if_pos z] at h
      cases h
      exact e_op op_catA (ha _ rfl) (hb _ rfl) (od_catT z)
    · rw [if_neg z] at h
      cases h
  · cases h
theorem repV_ok {a : Expr} {d : Da} {p p2 : Pos} {i : Int} {j : Nat} {oa : Option Da} (h : repV oa i = some d) (ha : ∀ d, oa = some d → E X a δ d) : E X (.BinOp a .Mult (.Constant (.int i) j p2) p) δ d := by
  unfold repV at h
  split at h
  · rename_i xs
    by_cases z : (i = (i.toNat : Int)) ∧ xs.length * i.toNat ≤ 100000 ∧ i.toNat ≤ 1000
    · rw [if_pos z] at h
      cases h
      have e : E X (.Constant (.int i) j p2) δ (.int (i.toNat : Int)) := by
        have h := e_int (X := X) (δ := δ) (i := i) (j := j) (pos := p2)
        rw [← z.1]
        exact h
      exact e_op op_rep (ha _ rfl) e (od_rep z.2.1 z.2.2)
    · rw [if_neg z] at h
      cases h
  · cases h
theorem ixV_ok {a : Expr} {d : Da} {p p2 : Pos} {i : Int} {j : Nat} {oa : Option Da} (h : ixV oa i = some d) (ha : ∀ d, oa = some d → E X a δ d) : E X (.Subscript a (.Constant (.int i) j p2) p) δ d := by
  unfold ixV at h
  split at h
  · rename_i xs
    by_cases z : i = (i.toNat : Int)
    · rw [if_pos z] at h
      exact e_ix i.toNat (ha _ rfl) e_int (.inr rfl) z h
    · rw [if_neg z] at h
      cases h
  · rename_i xs
    by_cases z : i = (i.toNat : Int)
    · rw [if_pos z] at h
      exact e_ix i.toNat (ha _ rfl) e_int (.inl rfl) z h
    · rw [if_neg z] at h
      cases h
  · cases h
theorem slV_ok {a : Expr} {d : Da} {p p2 p3 : Pos} {i : Int} {j : Nat} {oa : Option Da} (h : slV oa i = some d) (ha : ∀ d, oa = some d → E X a δ d) : E X (.Subscript a (.Slice none (some (.Constant (.int i) j p2)) none p3) p) δ d := by
  unfold slV at h
  split at h
  · cases h
    exact e_sl (ha _ rfl) (.inr ⟨rfl, rfl⟩) p_none (p_some e_int)
  · cases h
    exact e_sl (ha _ rfl) (.inl ⟨rfl, rfl⟩) p_none (p_some e_int)
  · cases h
theorem litV_ok : ∀ (n : Nat) (e : Expr) (d : Da), litV X.env.scope X.N δ n e = some d → E X e δ d ∧ ∀ es, starEach (e :: es) X.env = (false, eval e X.env) :: starEach es X.env
  | 0, _, _, h => by cases h
  | n + 1, e, d, h => by
    unfold litV at h
    split at h
    · cases h; exact ⟨e_int, fun _ => rfl⟩
    · cases h; exact ⟨e_str, fun _ => rfl⟩
    · cases h; exact ⟨e_bl, fun _ => rfl⟩
    · cases h; exact ⟨e_non, fun _ => rfl⟩
    · exact ⟨nameV_ok h, fun _ => rfl⟩
    · rename_i es _ _
      cases hl : litL (litV X.env.scope X.N δ n) es with
      | none => rw [hl] at h; cases h
      | some ds =>
        rw [hl] at h
        by_cases hz : ds.length ≤ 100000
        · rw [Option.bind_some, if_pos hz] at h
          cases h
          exact ⟨e_tup (litL_ok (fun e d => litV_ok n e d) es ds hl) hz, fun _ => rfl⟩
        · rw [Option.bind_some, if_neg hz] at h
          cases h
    · rename_i es _
      cases hl : litL (litV X.env.scope X.N δ n) es with
      | none => rw [hl] at h; cases h
      | some ds =>
        rw [hl] at h
        by_cases hz : ds.length ≤ 100000
        · rw [Option.bind_some, if_pos hz] at h
          cases h
          exact ⟨e_lst (litL_ok (fun e d => litV_ok n e d) es ds hl) hz, fun _ => rfl⟩
        · rw [Option.bind_some, if_neg hz] at h
          cases h
    · exact ⟨catV_ok h (fun d q => (litV_ok n _ d q).1) fun d q => (litV_ok n _ d q).1, fun _ => rfl⟩
    · exact ⟨repV_ok h fun d q => (litV_ok n _ d q).1, fun _ => rfl⟩
    · exact ⟨ixV_ok h fun d q => (litV_ok n _ d q).1, fun _ => rfl⟩
    · exact ⟨slV_ok h fun d q => (litV_ok n _ d q).1, fun _ => rfl⟩
    · cases h
theorem e_litV {e : Expr} {d : Da} (h : litVB X.env.scope X.N δ e d = true) : E X e δ d := (litV_ok 12 e d (litVB_ok h)).1
end
/-! ### statements by their parts -/
def asE : Stmt → Expr
  | .Assign _ e _ => e
  | .Return (some e) _ => e
  | _ => .Constant .none 0 ⟨0, 0, 0, 0⟩
def asT : Stmt → Expr
  | .Assign (t :: _) _ _ => t
  | _ => .Constant .none 0 ⟨0, 0, 0, 0⟩
def asN1 : Stmt → Pos
  | .Assign (.Name _ p :: _) _ _ => p
  | _ => ⟨0, 0, 0, 0⟩
def asP : Stmt → Pos
  | .Assign _ _ p => p
  | .Return _ p => p
  | _ => ⟨0, 0, 0, 0⟩
section
variable {X : Cx} {st : Stmt} {rest : List Stmt} {δ : De} {d : Da} {ds : List Da} {x : Str} {O : Post}
/-- x = e, told by parts -/
theorem s_setP (i : Nat) (x : Str) (hst : st = .Assign [.Name x (asN1 st)] (asE st) (asP st)) (h : E X (asE st) δ d) (hN : X.N.Nodup) (hs : swapsWith (asE st) (some (.Name x (asN1 st))) (asP st).line X.env = pure false) (k : S X rest (δ.set i (.kn d)) O) (hi : X.N[i]? = some x := by rfl)
    (hx : Loc X.env.scope x := by first | exact Or.inl rfl | exact Or.inr rfl) (hf : X.fn x = true ∨ X.env.scope.names.lookup x = some .local := by first | exact .inl rfl | exact .inr rfl) : S X (st :: rest) δ O := by
  have key : S X (.Assign [.Name x (asN1 st)] (asE st) (asP st) :: rest) δ O := s_set i h hN k hi hx hs hf
  rw [← hst] at key
  exact key
/-- x = e, a list of its own, told by parts -/
theorem s_setOP (i : Nat) (x : Str) (hst : st = .Assign [.Name x (asN1 st)] (asE st) (asP st)) (h : EO X (asE st) δ ds) (hN : X.N.Nodup) (hs : swapsWith (asE st) (some (.Name x (asN1 st))) (asP st).line X.env = pure false) (k : ∀ p, S X rest (δ.set i (.ow p ds)) O) (hi : X.N[i]? = some x := by rfl)
    (hx : Loc X.env.scope x := by first | exact Or.inl rfl | exact Or.inr rfl) (hf : X.fn x = true ∨ X.env.scope.names.lookup x = some .local := by first | exact .inl rfl | exact .inr rfl) : S X (st :: rest) δ O := by
  have key : S X (.Assign [.Name x (asN1 st)] (asE st) (asP st) :: rest) δ O := s_setO i h hN k hi hx hs hf
  rw [← hst] at key
  exact key
/-- x, y, .. = e, told by parts -/
theorem s_tupP (js : List Nat) (hst : st = .Assign [asT st] (asE st) (asP st)) (h : E X (asE st) δ (.tup ds)) (hl : ds.length = js.length) (hg : PG X (asT st) (gTup X.K js.length (gNames js))) (hs : swapsWithSole [asT st] (asE st) (asP st).line X.env = pure false) (hw : swappedStores [asT st] (asE st) X.env = pure none)
    (h1 : (assignEach [asT st] X.env).map (·.2) = [assign (asT st) X.env]) (k : S X rest (setAllD δ (js.zip ds)) O) : S X (st :: rest) δ O := by
  have key : S X (.Assign [asT st] (asE st) (asP st) :: rest) δ O := s_tup js h hl hg k hs hw h1
  rw [← hst] at key
  exact key
/-- return e, told by parts -/
theorem s_retP (hst : st = .Return (some (asE st)) (asP st)) (h : E X (asE st) δ d) (hO : O.rt δ d) : S X (st :: rest) δ O := by
  have key : S X (.Return (some (asE st)) (asP st) :: rest) δ O := s_ret h hO
  rw [← hst] at key
  exact key
end
def tuN (e : Expr) (i : Nat) : Pos := match e with
  | .Tuple es _ _ => (match es[i]? with
    | some (.Name _ p) => p
    | _ => ⟨0, 0, 0, 0⟩)
  | _ => ⟨0, 0, 0, 0⟩
def tuK : Expr → Nat
  | .Tuple _ k _ => k
  | _ => 0
def tuP : Expr → Pos
  | .Tuple _ _ p => p
  | _ => ⟨0, 0, 0, 0⟩
section
variable {X : Cx} {t : Expr}
theorem pg_two {x y : Str} {i j : Nat} (h : t = .Tuple [.Name x (tuN t 0), .Name y (tuN t 1)] (tuK t) (tuP t)) (hx : PG X (.Name x (tuN t 0)) (gName i)) (hy : PG X (.Name y (tuN t 1)) (gName j)) (hc : X.calm = true := by rfl) : PG X t (gTup X.K [i, j].length (gNames [i, j])) := by
  have key : PG X (.Tuple [.Name x (tuN t 0), .Name y (tuN t 1)] (tuK t) (tuP t)) (gTup X.K [i, j].length (gNames [i, j])) := pg_tup hc (pgs_cons hx (pgs_cons hy pgs_nil))
  rw [← h] at key
  exact key
theorem pg_four {x y z u : Str} {i j k l : Nat} (h : t = .Tuple [.Name x (tuN t 0), .Name y (tuN t 1), .Name z (tuN t 2), .Name u (tuN t 3)] (tuK t) (tuP t)) (hx : PG X (.Name x (tuN t 0)) (gName i)) (hy : PG X (.Name y (tuN t 1)) (gName j)) (hz : PG X (.Name z (tuN t 2)) (gName k)) (hu : PG X (.Name u (tuN t 3)) (gName l)) (hc : X.calm = true := by rfl) :
    PG X t (gTup X.K [i, j, k, l].length (gNames [i, j, k, l])) := by
  have key : PG X (.Tuple [.Name x (tuN t 0), .Name y (tuN t 1), .Name z (tuN t 2), .Name u (tuN t 3)] (tuK t) (tuP t)) (gTup X.K [i, j, k, l].length (gNames [i, j, k, l])) := pg_tup hc (pgs_cons hx (pgs_cons hy (pgs_cons hz (pgs_cons hu pgs_nil))))
  rw [← h] at key
  exact key
end
/-! ### the same, kept shut (a look at the type must not run the expression) -/
@[irreducible] def EI (X : Cx) (e : Expr) (δ : De) (d : Da) : Prop := E X e δ d
@[irreducible] def EAI (X : Cx) (es : List Expr) (δ : De) (ds : List Da) : Prop := EA X es δ ds
section
variable {X : Cx} {e a b : Expr} {es : List Expr} {δ : De} {d d1 : Da} {ds xs ys : List Da} {pos : Pos}
theorem ei_to (h : EI X e δ d) : E X e δ d := by unfold EI at h; exact h
theorem i_e (h : E X e δ d) : EI X e δ d := by unfold EI; exact h
theorem eai_to (h : EAI X es δ ds) : EA X es δ ds := by unfold EAI at h; exact h
theorem i_lit (h : litVB X.env.scope X.N δ e d = true) : EI X e δ d := i_e (e_litV h)
theorem ia_nil : EAI X [] δ [] := by unfold EAI; exact a_nil
theorem ia_cons (h : EI X e δ d) (k : EAI X es δ ds) (hs : starEach (e :: es) X.env = (false, eval e X.env) :: starEach es X.env := by rfl) : EAI X (e :: es) δ (d :: ds) := by
  unfold EAI
  exact a_cons (ei_to h) (eai_to k) hs
theorem i_tup {k : Nat} (h : EAI X es δ ds) (hz : ds.length ≤ 100000) : EI X (.Tuple es k pos) δ (.tup ds) := i_e (e_tup (eai_to h) hz)
theorem i_lst (h : EAI X es δ ds) (hz : ds.length ≤ 100000) : EI X (.List es pos) δ (.lst ds) := i_e (e_lst (eai_to h) hz)
theorem i_cat (ha : EI X a δ (.lst xs)) (hb : EI X b δ (.lst ys)) (hz : xs.length + ys.length ≤ 100000) : EI X (.BinOp a .Add b pos) δ (.lst (xs ++ ys)) := i_e (e_op op_cat (ei_to ha) (ei_to hb) (od_cat hz))
theorem EI.is (h : EI X e δ d) (k : d = d1) : EI X e δ d1 := k ▸ h
end
end Fs
set_option Elab.async false
set_option linter.all false
set_option maxRecDepth 100000
set_option maxHeartbeats 0
/-! The head's hook: the facts of the defs and what is told of NotJoinable. -/
namespace Fs
open PySem PySem.Spec PyProof.Rows L2
abbrev FnI : Type := Option (Str × Str × Arguments × FuncBody × Scope × Addr × Value × Addr)
def iniObs (K : PySem.W.Frag) : FnI := match K.lookup (He.ma K (He.ga K "NotJoinable") "__init__") with
  | some ⟨_, _, .func fd, _⟩ => some (fd.name, fd.qualname, fd.params, fd.body, fd.scope, fd.globals, fd.defaults, fd.builtins)
  | _ => none
def iniVal : FnI := some ("__init__", "NotJoinable.__init__", njA, .stmts njB, njSc, mainGlobals, .none, builtinsNs)
def cellB (K : PySem.W.Frag) (cc C : Addr) : Bool := match K.lookup cc with
  | some ⟨_, _, .cell (some (.ref D)), _⟩ => decide (D = C)
  | _ => false
theorem cellB_ok {K : PySem.W.Frag} {cc C : Addr} (h : cellB K cc C = true) : ∃ cl cld csl, K.lookup cc = some ⟨cl, cld, .cell (some (.ref C)), csl⟩ := by
  unfold cellB at h
  split at h
  · rename_i q
    rw [of_decide_eq_true h] at q
    exact ⟨_, _, _, q⟩
  · cases h
def codeB (K : PySem.W.Frag) (v : Value) (file : Str) : Bool := match v with
  | .ref cda => PySem.W.codeIn K (.ref cda) "NotJoinable.__init__" && (match K.lookup cda with
    | some ⟨_, _, .fields vs, _⟩ => (match vs[2]? with
      | some (Value.str f _) => file == f
      | _ => false)
    | _ => false)
  | _ => false
theorem codeB_ok {K : PySem.W.Frag} {v : Value} {file : Str} (h : codeB K v file = true) : ∃ (cda : Addr) (ccl : Value) (cdd : Option Addr) (vs : Array Value) (ccs : Array (Option Value)) (f : Str) (tf : PySem.Tok), v = .ref cda ∧ PySem.W.codeIn K (.ref cda) "NotJoinable.__init__" = true ∧
    K.lookup cda = some ⟨ccl, cdd, .fields vs, ccs⟩ ∧ vs[2]? = some (.str f tf) ∧ (file == f) = true := by
  unfold codeB at h
  split at h
  · rename_i cda
    obtain ⟨h1, h2⟩ := He.ba h
    split at h2
    · rename_i vs _ q
      split at h2
      · rename_i f tf q2
        exact ⟨cda, _, _, vs, _, f, tf, rfl, h1, q, q2, h2⟩
      · cases h2
    · cases h2
  · cases h
def cloB (K : PySem.W.Frag) (cl : List (Str × Addr)) (code : Value) (file : Str) : Bool := match cl with
  | [(n, cc)] => decide (n = ("__class__" : Str)) && (cellB K cc (He.ga K "NotJoinable") && codeB K code file)
  | _ => false
theorem cloB_ok {K : PySem.W.Frag} {cl : List (Str × Addr)} {code : Value} {file : Str} (h : cloB K cl code file = true) : ∃ cc, cl = [(("__class__" : Str), cc)] ∧ cellB K cc (He.ga K "NotJoinable") = true ∧ codeB K code file = true := by
  unfold cloB at h
  split at h
  · rename_i n cc
    obtain ⟨d1, d2⟩ := He.ba h
    obtain ⟨d2, d3⟩ := He.ba d2
    rw [of_decide_eq_true d1]
    exact ⟨cc, rfl, d2, d3⟩
  · cases h
def iniB (K : PySem.W.Frag) (file : Str) : Bool := match K.lookup (He.ma K (He.ga K "NotJoinable") "__init__") with
  | some ⟨_, _, .func fd, _⟩ => cloB K fd.closure fd.code file
  | _ => false
def claB (K : PySem.W.Frag) (C : Addr) : Bool := match K.lookup C with
  | some ⟨.type t, _, .cls cd, sl⟩ => (match cd.mro, sl.toList with
    | .ref D :: bm, [_, _, _, _, some (.builtin n), _] => decide (t = "type") && (decide (D = C) && (decide (n = "ValueError.__new__") && (cd.hasDict && (!cd.hasDel && decide (bm = veTail)))))
    | _, _ => false)
  | _ => false
theorem claB_ok {K : PySem.W.Frag} {C : Addr} (h : claB K C = true) : (∃ nm q N bs bm sn sub ab col dd k0 k1 k2 k3 k5, K.lookup C = some (excClassObj nm q C N bs bm true sn sub ab col dd k0 k1 k2 k3 k5 "ValueError.__new__") ∧ PySem.HandSPX.refsVE bm = true) ∧ ∃ cd, PySem.W.clsIn K C = some cd ∧ cd.mro = .ref C :: veTail := by
  unfold claB at h
  split at h
  · rename_i t dd cd sl q
    split at h
    · rename_i D bm k0 k1 k2 k3 n k5 em es
      obtain ⟨h1, h⟩ := He.ba h
      obtain ⟨h2, h⟩ := He.ba h
      obtain ⟨h3, h⟩ := He.ba h
      obtain ⟨h4, h⟩ := He.ba h
      obtain ⟨h5, h6⟩ := He.ba h
      have h1 := of_decide_eq_true h1
      have h2 := of_decide_eq_true h2
      have h3 := of_decide_eq_true h3
      have h6 := of_decide_eq_true h6
      have h5 : cd.hasDel = false := by simpa using h5
      subst h1 h2 h3 h6
      have hs : sl = #[k0, k1, k2, k3, some (.builtin "ValueError.__new__"), k5] := by
        rw [← es]
      obtain ⟨c1, c2, c3, c4, c5, c6, c7, c8, c9, c10, c11⟩ := cd
      have em' : c3 = .ref D :: veTail := em
      have h4' : c6 = true := h4
      have h5' : c11 = false := h5
      subst em' h4' h5' hs
      refine ⟨⟨c1, c5, c4, c2, veTail, c7, c8, c9, c10, dd, k0, k1, k2, k3, k5, q, by decide⟩, ⟨⟨c1, c2, .ref D :: veTail, c4, c5, true, c7, c8, c9, c10, false⟩, ?_, rfl⟩⟩
      unfold PySem.W.clsIn
      rw [q]
    · cases h
  · cases h
def bq (a b : Option Bool) : Bool := decide (a = b)
/-- what is told of NotJoinable, by looking -/
def ndB (K : PySem.W.Frag) (file : Str) : Bool :=
  (claB K (He.ga K "NotJoinable") && (He.eqO (PySem.W.findIn K (.ref (He.ga K "NotJoinable")) "__setattr__") (some (some (.builtin "object.__setattr__"))) && (bq (PySem.W.subIn K (.ref (He.ga K "NotJoinable")) (.type "BaseException")) (some true) && (decide (PySem.W.typeIn K (.ref (He.ga K "NotJoinable")) = some (.type "type")) &&
  (He.eqO (PySem.W.findIn K (.ref (He.ga K "NotJoinable")) "__getattribute__") (some (some (.builtin "BaseException.__getattribute__"))) && (He.eqO (PySem.W.findIn K (.ref (He.ga K "NotJoinable")) "__getattr__") (some none) && (PySem.W.hasDictIn K (He.ga K "NotJoinable") && (He.eqO (PySem.W.findIn K (.ref (He.ga K "NotJoinable")) "__class__") (some (some (.builtin "object.__class__"))) &&
  (He.eqO (PySem.W.specialIn K (.builtin "object.__class__") "__get__") (some (some (.builtin "getset_descriptor.__get__"))) && (bq (PySem.W.takesIn K (.builtin "object.__class__")) (some true) && (bq (PySem.W.mroIn K (He.ga K "NotJoinable") (.type "object")) (some true) && bq (PySem.W.kitOne K (.ref (He.ga K "NotJoinable")) (.type "str")) (some false))))))))))) ) &&
  (bq (PySem.W.kitOne K (.ref (He.ga K "NotJoinable")) (.type "tuple")) (some false) && (iniB K file && (He.eqO (PySem.W.nsIn K PySem.cStatics "thirdparty.any") (some none) && (He.eqO (PySem.W.findIn K (.ref (He.ga K "NotJoinable")) "name") (some none) && (He.eqO (PySem.W.findIn K (.ref (He.ga K "NotJoinable")) "__init__") (some (some (.ref (He.ma K (He.ga K "NotJoinable") "__init__")))) &&
  (decide (PySem.W.typeIn K (.ref (He.ma K (He.ga K "NotJoinable") "__init__")) = some (.type "function")) && (bq (PySem.W.subIn K (.ref (He.ga K "NotJoinable")) (.type "ValueError")) (some true) && (bq (PySem.W.mroIn K (He.ga K "NotJoinable") (.ref (He.ga K "NotJoinable"))) (some true) && bq (PySem.W.kitOne K (.ref (He.ga K "NotJoinable")) (.type "ValueError")) (some true)))))))))
theorem nd_ok {P : Program} {K : PySem.W.Frag} (h : ndB K P.main.file = true) (e : iniObs K = iniVal) (kC : PySem.W.keepIn K (.ref (He.ga K "NotJoinable")) = true) (te : PySem.W.exmOne K (.ref (He.ga K "NotJoinable")) (.ref (He.ga K "NotJoinable")) = some true) (ht : (P.main.scope.names.lookup ("super" : Str)).isSome = false) :
    NJ K (He.ga K "NotJoinable") ∧ NJI P K (He.ga K "NotJoinable") (He.ma K (He.ga K "NotJoinable") "__init__") := by
  obtain ⟨h1, h2⟩ := He.ba h
  obtain ⟨a1, h1⟩ := He.ba h1
  obtain ⟨a2, h1⟩ := He.ba h1
  obtain ⟨a3, h1⟩ := He.ba h1
  obtain ⟨a4, h1⟩ := He.ba h1
  obtain ⟨a5, h1⟩ := He.ba h1
  obtain ⟨a6, h1⟩ := He.ba h1
  obtain ⟨a7, h1⟩ := He.ba h1
  obtain ⟨a8, h1⟩ := He.ba h1
  obtain ⟨a9, h1⟩ := He.ba h1
  obtain ⟨a10, h1⟩ := He.ba h1
  obtain ⟨a11, a12⟩ := He.ba h1
  obtain ⟨b1, h2⟩ := He.ba h2
  obtain ⟨b2, h2⟩ := He.ba h2
  obtain ⟨b3, h2⟩ := He.ba h2
  obtain ⟨b4, h2⟩ := He.ba h2
  obtain ⟨b5, h2⟩ := He.ba h2
  obtain ⟨b6, h2⟩ := He.ba h2
  obtain ⟨b7, h2⟩ := He.ba h2
  obtain ⟨b8, b9⟩ := He.ba h2
  obtain ⟨c1, c2⟩ := claB_ok a1
  have oe : OexC K (He.ga K "NotJoinable") := ⟨c1, He.eqO_ok a2, of_decide_eq_true a3, of_decide_eq_true a4, kC⟩
  refine ⟨⟨⟨He.eqO_ok a5, He.eqO_ok a6, of_decide_eq_true a3, a7, He.eqO_ok a8, He.eqO_ok a9, of_decide_eq_true a10, of_decide_eq_true a11⟩, oe, of_decide_eq_true a12, of_decide_eq_true b1⟩,
    ⟨oe, ?_, ht, c2, He.eqO_ok b3, He.eqO_ok b4, He.eqO_ok b5, of_decide_eq_true b6, of_decide_eq_true b7, of_decide_eq_true b8, He.eqO_ok a5, He.eqO_ok a6, a7, te, of_decide_eq_true b9⟩⟩
  unfold iniB at b2
  unfold iniObs iniVal at e
  cases q : K.lookup (He.ma K (He.ga K "NotJoinable") "__init__") with
  | none =>
    rw [q] at e
    cases e
  | some o =>
    obtain ⟨oc, od, dt, osl⟩ := o
    rw [q] at e b2
    cases dt with
    | func fd =>
      obtain ⟨n1, n2, n3, n4, n5, n6, n7, n8, n9, n10, n11, n12, n13, n14, n15⟩ := fd
      have e2 : (some (n1, n2, n3, n4, n5, n6, n8, n15) : FnI) = some (("__init__" : Str), ("NotJoinable.__init__" : Str), njA, FuncBody.stmts njB, njSc, mainGlobals, Value.none, builtinsNs) := e
      simp only [Option.some.injEq, Prod.mk.injEq] at e2
      obtain ⟨k1, k2, k3, k4, k5, k6, k7, k8⟩ := e2
      subst k1 k2 k3 k4 k5 k6 k7 k8
      obtain ⟨cc, rfl, d2, d3⟩ := cloB_ok (show cloB K n7 n13 P.main.file = true from b2)
      obtain ⟨cl, cld, csl, d2⟩ := cellB_ok d2
      obtain ⟨cda, ccl, cdd, vs, ccs, f, tf, rfl, d4, d5, d6, d7⟩ := codeB_ok d3
      exact ⟨cc, cda, oc, od, n9, n10, n11, n12, n14, osl, ccl, cdd, vs, ccs, f, tf, cl, cld, csl, rfl, d4, d5, d6, d7, d2⟩
    | _ => cases e
/-! ### the hook, the run -/
abbrev AlN : Type := (Bool × FnI) × He.AlD
def fileN : Str := PySem.Challenge.pw_fitssomewhere_k30_whole_surroundings_of.main.file
def obsN (K : PySem.W.Frag) : AlN := ((ndB K fileN, iniObs K), He.obsD fa fn K)
def valN : AlN := ((true, iniVal), He.valD fn)
def asN (g : Addr → Option Obj) (n : Nat) : List Addr := PySem.cStatics :: He.asD g n
def obsNG (n : Nat) (g : Addr → Option Obj) : AlN := obsN (He.frG g (asN g n))
def hookN (n : Nat) : PySem.W.Hook where
  α := AlN
  obs := fun s => obsNG n s.heap.get?
  val := fun _ => valN
  says := fun _ h => ∃ K : PySem.W.Frag, K.In h ∧ obsN K = valN
  of := fun _ _ e => ⟨_, He.frG_in, e⟩
  keeps := fun _ _ _ ⟨K, hK, c⟩ k => ⟨K, PySem.W.Frag.In.keeps hK k, c⟩
theorem obsNG_eq {n : Nat} {g : Addr → Option Obj} {s : Shared} (h : ∀ a, g a = s.heap.get? a) : obsNG n g = (hookN n).obs s := by
  have e : g = s.heap.get? := funext h
  rw [e] <;> rfl
abbrev R : PySem.W.OpenRow := PySem.W.OpenLaw.row PySem.Challenge.rw_fitssomewhere_k30_whole_surroundings_of
abbrev hk : PySem.W.Hook := hookN 5
def ob (s : PySem.W.SharedT) : AlN := obsNG 5 (HandSHeadRun.getT s)
theorem ob_eq (s : PySem.W.SharedT) : ob s = hk.obs s.abs := obsNG_eq (HandSHeadRun.getT_eq s)
theorem run (w : World) : HandSHeadRun.RunEq R (PySem.W.view R.prog [52]) hk ob 2000 loose w := by
  intro os
  kernel_rfl
theorem tp_of {K : PySem.W.Frag} {h : Heap} {mg : Str → Option Value} (X : K.In h) (G : h.Ns mainGlobals mg) (c : obsN K = valN) : Tp K mg ∧ NJI PySem.Challenge.pw_fitssomewhere_k30_whole_surroundings_of K (He.ga K "NotJoinable") (He.ma K (He.ga K "NotJoinable") "__init__") := by
  have c1 : ndB K fileN = true := congrArg (fun z : AlN => z.1.1) c
  have c2 : iniObs K = iniVal := congrArg (fun z : AlN => z.1.2) c
  have c3 : He.SaysD fa fn K := congrArg (fun z : AlN => z.2) c
  obtain ⟨z1, z2⟩ := nd_ok (P := PySem.Challenge.pw_fitssomewhere_k30_whole_surroundings_of) c1 c2 (He.keep_ok (c3.fact 64 (f := .keep "NotJoinable") rfl)) (He.exm_ok (c3.fact 65 (f := .exm "NotJoinable" "NotJoinable" true) rfl)) (by kernel_rfl)
  exact ⟨⟨c3, z1, h, X, G⟩, z2⟩
end Fs
set_option Elab.async false
set_option linter.all false
set_option maxRecDepth 100000
set_option maxHeartbeats 400000
/-! The walks: _law_kit, _law_more_right. -/
namespace Fs
open PySem PySem.Spec PyProof.Rows L2
section
variable {X : Cx} {e : Expr} {δ : De} {d : Da} {p pos : Pos} {fI : Addr}
/-- NotJoinable(e) as a value -/
theorem e_nj {k : Nat} {z : Str} (J : NJI X.prog X.K (cNJ X.K) fI) (gC : X.mg "NotJoinable" = some (.ref (cNJ X.K))) (hsu : X.mg "super" = none) (hr : Room k X.A) (h : E X e δ (.str z)) (hg : Gl X "NotJoinable" := by rfl)
    (he : starEach (e :: []) X.env = (false, eval e X.env) :: starEach [] X.env := by rfl) (hpl : (backTo pos (starEach [] X.env)).any (·.1) = false := by rfl) : E X (.Call (.Name "NotJoinable" p) [e] [] pos) δ .exc := fun σ G S H1 e1 Q q =>
  we_of (pe_nj J gC hsu hr WA.pa hg he hpl) (wa_e S e1 (a_cons h a_nil he) fun vs G2 H2 g2 hvs => by
    cases hvs with
    | @cons v _ _ _ a1 a2 =>
      cases a2
      refine ⟨v, rfl, fun dd a hd ha hne => ?_⟩
      have g3 := Grow.new (o := exd dd [(("name" : Str), v)]) g2.gh hd
      have ha2 : upd H2 dd (exd dd [(("name" : Str), v)]) a = none := by rw [upd_ne (Ne.symm hne)]; exact ha
      have g4 := Grow.new (o := exo a (cNJ X.K) (some dd)) g3.gh ha2
      refine q _ _ _ ((g2.trans g3).trans g4) (.exc ⟨dd, [(("name" : Str), v)], upd_same, ?_⟩)
      rw [upd_ne hne]
      exact upd_same)
end
@[irreducible] def stK (i : Nat) : Stmt := d_law_kit.body.getD i (.Pass ⟨0, 0, 0, 0⟩)
theorem kit_body : d_law_kit.body = [stK 0, stK 1, stK 2, stK 3, stK 4] := by kernel_rfl
section
variable {P : Program} {w : World} {K : PySem.W.Frag} {mg : Str → Option Value} {base : Heap} {fI : Addr}
theorem f_kit (T : Tp K mg) {k : Nat} : Dfn P w K mg base CX0 (k + 1) "_law_kit" (SpF K fun ds r => ds = [] ∧ r = .tup [enc pC, enc pS, enc pW, enc pT]) := by
  obtain ⟨fd, F⟩ := T.c.def_ 31 (d := d_law_kit) rfl
  refine dfn_of F (T.glo 31) sc_law_kit ?_ (fun _ _ _ _ _ _ us hl => match us, hl with | [], _ => rfl) ?_
  · rintro ds r ⟨rfl, _⟩; rfl
  · rintro f cdv A outer s H EX hr ds r ⟨rfl, rfl⟩
    have nd := sc_law_kit.nd
    rw [kit_body]
    refine s_tupP [0, 1] (ds := [.tup (pC.s.map encS), .tup (pS.s.map encS)]) ?h1_37 ?hv_37 rfl ?hg_37 ?h4_37 ?h5_37 ?h6_37 ?hk_37
    case h1_37 => kernel_rfl
    case h4_37 => kernel_rfl
    case h5_37 => kernel_rfl
    case h6_37 => kernel_rfl
    case hv_37 => refine e_litV ?_; kernel_rfl
    ·
      refine pg_two (x := "_law_client_so") (y := "_law_server_so") ?_ (pg_name nd rfl (Or.inl rfl)) (pg_name nd rfl (Or.inl rfl))
      kernel_rfl
    show S _ _ [.kn (.tup (pC.s.map encS)), .kn (.tup (pS.s.map encS)), .no, .no, .no] _
    refine s_setP 2 "_law_waiting_so" (d := enc pW) ?h1_42 ?hv_42 nd ?h3_42 ?hk_42
    case h1_42 => kernel_rfl
    case h3_42 => kernel_rfl
    case hv_42 => refine e_litV ?_; kernel_rfl
    refine s_setP 3 "_law_both_so" (d := .tup (pT.s.map encS)) ?h1_43 ?hv_43 nd ?h3_43 ?hk_43
    case h1_43 => kernel_rfl
    case h3_43 => kernel_rfl
    case hv_43 => refine e_litV ?_; kernel_rfl
    refine s_setP 4 "_law_twoway_so" (d := enc pT) ?h1_44 ?hv_44 nd ?h3_44 ?hk_44
    case h1_44 => kernel_rfl
    case h3_44 => kernel_rfl
    case hv_44 => refine e_litV ?_; kernel_rfl
    refine s_retP (d := .tup [enc pC, enc pS, enc pW, enc pT]) ?h1_45 ?hv_45 rfl
    case h1_45 => kernel_rfl
    case hv_45 => refine e_litV ?_; kernel_rfl
def oddL : List Da := [.non, .int 0, .bl true, .str "abc", .tup [], .lst [], .lst [.tup [], .tup [.str "go", .str "mode"], .int 3, .tup [.tup [.int 0, .str "mode", .int 1], .tup [.int 1, .str "go", .int 2]]], .tup [.tup [], .tup [.str "go", .str "mode"], .int 3],
  .tup [.tup [], .tup [.str "mode", .str "go"], .int 1, .tup []], .tup [.tup [], .tup [.str "go"], .int 0, .tup []], .tup [.tup [], .tup [.str "go"], .int 1, .tup [.tup [.int 0, .str "go", .int 1]]], .tup [.tup [], .tup [.str "go"], .int 1, .lst []],
  .tup [.non, .tup [.str "go"], .int 1, .tup []], .tup [.tup [], .lst [.str "go"], .int 1, .tup []], .exc, .tup [.tup [], .tup [.exc], .int 1, .tup []]]
theorem odd_ok : oddL.all opB = true := by decide +kernel
theorem odd_no : oddL.all (fun d => !around pW pT d) = true := by decide +kernel
def askT : Da := .lst [.str "ask", .bl true]
def G0 : List Da := [.lst (List.replicate 16 (.bl false)), .lst [askT, askT, askT]]
def trio : List Da := [.bl true, enc p0, .bl true]
def repT (j : Nat) : List Da := (List.replicate j trio).flatten
def halfD (p : Pt) : Da := .tup [.lst (txs p.t), .lst (txs p.m), .int p.n, .lst (p.s.map fun q => .lst [.int q.1, .str q.2.1, .int q.2.2])]
theorem repT_succ (j : Nat) : repT (j + 1) = repT j ++ trio := by
  unfold repT
  rw [List.replicate_succ', List.flatten_append]
  simp
theorem half_W : Raw (halfD pW) pW := ⟨by decide +kernel, rfl, _, _, _, _, .inl rfl, .inr rfl, .inr rfl⟩
theorem half_T : Raw (halfD pT) pT := ⟨by decide +kernel, rfl, _, _, _, _, .inl rfl, .inr rfl, .inr rfl⟩
theorem half_C : Raw (halfD pCh) pCh := ⟨by decide +kernel, rfl, _, _, _, _, .inl rfl, .inr rfl, .inr rfl⟩
theorem ptW : PtOk pW := ptB_ok (by decide +kernel)
theorem ptT : PtOk pT := ptB_ok (by decide +kernel)
theorem ptC : PtOk pC := ptB_ok (by decide +kernel)
theorem ptH : PtOk pCh := ptB_ok (by decide +kernel)
theorem fokW : Fok pW := fokB_ok (by decide +kernel)
theorem fokT : Fok pT := fokB_ok (by decide +kernel)
theorem fokH : Fok pCh := fokB_ok (by decide +kernel)
theorem same_all {α : Type} (l : List α) (f : α → Da) (d : Da) (h : ∀ x ∈ l, f x = d) : l.map f = List.replicate l.length d := by
  induction l with
  | nil => rfl
  | cons x l ih => rw [List.map_cons, h x (List.mem_cons_self ..), ih fun y hy => h y (List.mem_cons_of_mem _ hy)]; rfl
end
end Fs
set_option Elab.async false
set_option linter.all false
set_option maxRecDepth 100000
set_option maxHeartbeats 1000000
/-! The walk: _law_more_right. -/
namespace Fs
open PySem PySem.Spec PyProof.Rows L2
@[irreducible] def stM (i : Nat) : Stmt := d_law_more_right.body.getD i (.Pass ⟨0, 0, 0, 0⟩)
theorem stM_def (i : Nat) : stM i = d_law_more_right.body.getD i (.Pass ⟨0, 0, 0, 0⟩) := by unfold stM; rfl
theorem more_body : d_law_more_right.body = [stM 0, stM 1, stM 2, stM 3, stM 4, stM 5, stM 6, stM 7, stM 8, stM 9, stM 10] := by kernel_rfl
def soD : Da := .lst [lsts (enc pW), lsts (enc pT), lsts (enc pCh)]
def haD : Da := .lst [halfD pW, halfD pT, halfD pCh]
section
variable {P : Program} {w : World} {K : PySem.W.Frag} {mg : Str → Option Value} {base : Heap} {fI : Addr}
theorem f_more (T : Tp K mg) (J : NJI P K (cNJ K) fI) {k : Nat} : Dfn P w K mg base CX0 (k + 10) "_law_more_right" (SpF K fun ds r => ds = [enc pW, enc pT, enc pCh, enc pC] ∧ r = .bl true) := by
  obtain ⟨fd, F⟩ := T.c.def_ 37 (d := d_law_more_right) rfl
  obtain ⟨fdF, FF⟩ := T.c.def_ 19 (d := d_fits_both) rfl
  obtain ⟨fdQ, FQ⟩ := T.c.def_ 15 (d := d_quiet_both) rfl
  obtain ⟨fdA, FA⟩ := T.c.def_ 14 (d := d_is_around_both) rfl
  refine dfn_of F (T.glo 37) sc_law_more_right ?_ (fun _ _ _ _ _ _ us hl => match us, hl with | [_, _, _, _], _ => rfl) ?_
  · rintro ds r ⟨rfl, _⟩; rfl
  · rintro f cdv A outer s H EX hr ds r ⟨rfl, rfl⟩
    have nd := sc_law_more_right.nd
    rw [more_body]
    show S _ _ [.kn (enc pW), .kn (enc pT), .kn (enc pCh), .kn (enc pC), .no, .no, .no, .no, .no, .no] _
    refine s_setP 4 "_law_odd" (d := .lst (oddL.take 8)) ?h1_27 ?hv_27 nd ?h3_27 ?hk_27
    case h1_27 => kernel_rfl
    case h3_27 => kernel_rfl
    · refine ei_to ?_
      rw [stM_def 0]
      refine EI.is (i_lst (ia_cons (d := .non) ?v31 (ia_cons (d := .int 0) ?v32 (ia_cons (d := .bl true) ?v33 (ia_cons (d := .str "abc") ?v34 (ia_cons (d := .tup []) ?v35 (ia_cons (d := .lst []) ?v36 (ia_cons (i_e (e_list T (e_var 2 rfl) (.inl rfl))) (ia_cons (d := oddL.getD 7 .non) ?v37 ia_nil)))))))) ?_) ?_
      case v31 => first | (refine i_lit ?_; kernel_rfl) | (refine e_litV ?_; kernel_rfl)
      case v32 => first | (refine i_lit ?_; kernel_rfl) | (refine e_litV ?_; kernel_rfl)
      case v33 => first | (refine i_lit ?_; kernel_rfl) | (refine e_litV ?_; kernel_rfl)
      case v34 => first | (refine i_lit ?_; kernel_rfl) | (refine e_litV ?_; kernel_rfl)
      case v35 => first | (refine i_lit ?_; kernel_rfl) | (refine e_litV ?_; kernel_rfl)
      case v36 => first | (refine i_lit ?_; kernel_rfl) | (refine e_litV ?_; kernel_rfl)
      case v37 => first | (refine i_lit ?_; kernel_rfl) | (refine e_litV ?_; kernel_rfl)
      · decide
      · kernel_rfl
    refine s_setP 4 "_law_odd" (d := .lst (oddL.take 10)) ?h1_40 ?hv_40 nd ?h3_40 ?hk_40
    case h1_40 => kernel_rfl
    case h3_40 => kernel_rfl
    case hv_40 => refine e_litV ?_; kernel_rfl
    refine s_setP 4 "_law_odd" (d := .lst (oddL.take 12)) ?h1_41 ?hv_41 nd ?h3_41 ?hk_41
    case h1_41 => kernel_rfl
    case h3_41 => kernel_rfl
    case hv_41 => refine e_litV ?_; kernel_rfl
    refine s_setP 4 "_law_odd" (d := .lst (oddL.take 15)) ?h1_42 ?hv_42 nd ?h3_42 ?hk_42
    case h1_42 => kernel_rfl
    case h3_42 => kernel_rfl
    · refine ei_to ?_
      rw [stM_def 3]
      refine EI.is (i_cat (i_e (e_var 4 rfl)) (i_lst (ia_cons (d := oddL.getD 12 .non) ?v46 (ia_cons (d := oddL.getD 13 .non) ?v47 (ia_cons (i_e (e_nj J (T.glo 63) T.super hr e_str)) ia_nil))) ?_) ?_) ?_
      case v46 => first | (refine i_lit ?_; kernel_rfl) | (refine e_litV ?_; kernel_rfl)
      case v47 => first | (refine i_lit ?_; kernel_rfl) | (refine e_litV ?_; kernel_rfl)
      · decide
      · decide
      · kernel_rfl
    refine s_setP 4 "_law_odd" (d := .lst oddL) ?h1_51 ?hv_51 nd ?h3_51 ?hk_51
    case h1_51 => kernel_rfl
    case h3_51 => kernel_rfl
    · refine ei_to ?_
      rw [stM_def 4]
      refine EI.is (i_cat (i_e (e_var 4 rfl)) (i_lst (ia_cons (i_tup (ia_cons (d := .tup []) ?v55 (ia_cons (i_tup (ia_cons (i_e (e_nj J (T.glo 63) T.super hr e_str)) ia_nil) ?_) (ia_cons (d := .int 1) ?v56 (ia_cons (d := .tup []) ?v57 ia_nil)))) ?_) ia_nil) ?_) ?_) ?_
      case v55 => first | (refine i_lit ?_; kernel_rfl) | (refine e_litV ?_; kernel_rfl)
      case v56 => first | (refine i_lit ?_; kernel_rfl) | (refine e_litV ?_; kernel_rfl)
      case v57 => first | (refine i_lit ?_; kernel_rfl) | (refine e_litV ?_; kernel_rfl)
      · decide
      · decide
      · decide
      · decide
      · kernel_rfl
    refine s_setP 5 "_law_got" (d := .lst G0) ?h1_63 ?hv_63 nd ?h3_63 ?hk_63
    case h1_63 => kernel_rfl
    case h3_63 => kernel_rfl
    · rw [stM_def 5]
      refine E.is (e_lst (a_cons (e_lc 8 (p := fun _ => true) (f := fun d => .bl (around pW pT d)) (r_lst (e_var 4 rfl)) (by decide) nd (blk_ok (own := [("_law_own", 8)]) (by kernel_rfl)) (fun x hx s0 H0 C cl fp => ⟨ts_nil, fun _ => ?_⟩) (fun _ _ _ _ _ => pg_name nd rfl (Or.inl rfl)))
        (a_cons (e_lc 9 (p := fun _ => true) (f := fun _ => askT) (r_range 3 (a_cons e_int a_nil) rfl T.range (by decide)) (by decide) nd (blk_ok (own := [("_law_door", 9)]) (by kernel_rfl)) (fun x hx s0 H0 C cl fp => ⟨ts_nil, fun _ => ?_⟩) (fun _ _ _ _ _ => pg_name nd rfl (Or.inl rfl))) a_nil)) (by decide)) ?_
      · exact e_call (f_around (k := 0) T) hr (by omega) pass0 (a_cons (e_var 0 rfl) (a_cons (e_var 1 rfl) (a_cons (e_var 8 rfl) a_nil))) ⟨_, _, x, pW, pT, rfl, raw_enc ptW, raw_enc ptT, ptW, ptT, unj_WT, opB_ok (List.all_eq_true.mp odd_ok x hx), rfl⟩
      · obtain ⟨i, hi, rfl⟩ := List.mem_map.mp hx
        exact e_call (f_heard (k := 0) T J) hr (by omega) pass0 (a_cons (e_var 9 rfl) (a_cons (e_var 3 rfl) (a_cons (e_var 0 rfl) a_nil))) ⟨i, _, _, pC, pW, "ask", [("err" : Str), ("ok" : Str)], rfl, List.mem_range.mp hi, raw_enc ptC, raw_enc ptW, ptC, ptW, unj_CW, rfl⟩
      · rw [filter_tt, filter_tt, same_all oddL (fun d => .bl (around pW pT d)) (.bl false) fun x hx => by
          have := List.all_eq_true.mp odd_no x hx
          show Da.bl (around pW pT x) = _
          rw [Bool.not_eq_true'] at this
          rw [this]]
        kernel_rfl
    refine s_setP 6 "_law_due" (d := .lst G0) ?h1_76 ?hv_76 nd ?h3_76 ?hk_76
    case h1_76 => kernel_rfl
    case h3_76 => kernel_rfl
    · rw [stM_def 6]
      refine E.is (e_lst (a_cons (e_op op_rep (e_lst (a_cons e_bl a_nil) (by decide)) (e_len T (e_var 4 rfl) (.inr rfl)) (od_rep (n := 16) (by decide) (by decide))) (a_cons (d := .lst [askT, askT, askT]) ?v79 a_nil)) (by decide)) ?_
      case v79 => first | (refine i_lit ?_; kernel_rfl) | (refine e_litV ?_; kernel_rfl)
      kernel_rfl
    refine s_setP 7 "_law_soft" (d := soD) ?h1_81 ?hv_81 nd ?h3_81 ?hk_81
    case h1_81 => kernel_rfl
    case h3_81 => kernel_rfl
    · rw [stM_def 7]
      exact e_lst (a_cons (e_call (f_lists (k := 0) T 3) hr (by omega) pass0 (a_cons (e_var 0 rfl) a_nil) ⟨_, rfl, ptW.ok 0, rfl⟩) (a_cons (e_call (f_lists (k := 0) T 3) hr (by omega) pass0 (a_cons (e_var 1 rfl) a_nil) ⟨_, rfl, ptT.ok 0, rfl⟩) (a_cons (e_call (f_lists (k := 0) T 3) hr (by omega) pass0 (a_cons (e_var 2 rfl) a_nil) ⟨_, rfl, ptH.ok 0, rfl⟩) a_nil))) (by decide)
    show S _ _ [.kn (enc pW), .kn (enc pT), .kn (enc pCh), .kn (enc pC), .kn (.lst oddL), .kn (.lst G0), .kn (.lst G0), .kn soD, .no, .no] _
    rw [stM_def 8]
    refine s_for 8 (items := [soD, haD]) (r_tup (E.is (e_tup (a_cons (e_var 7 rfl) (a_cons (e_lst (a_cons (e_call (f_half (k := 0) T) hr (by omega) pass0 (a_cons (e_var 0 rfl) a_nil) ⟨_, _, rfl, .inl rfl, ptW.ok 0, rfl⟩) (a_cons (e_call (f_half (k := 0) T) hr (by omega) pass0 (a_cons (e_var 1 rfl) a_nil) ⟨_, _, rfl, .inl rfl, ptT.ok 0, rfl⟩) (a_cons (e_call (f_half (k := 0) T) hr (by omega) pass0 (a_cons (e_var 2 rfl) a_nil) ⟨_, _, rfl, .inl rfl, ptH.ok 0, rfl⟩) a_nil))) (by decide)) a_nil)) (by decide)) ?_)) nd PassesOwn.never
      (fun j δ' => ∃ c8, δ' = [.kn (enc pW), .kn (enc pT), .kn (enc pCh), .kn (enc pC), .kn (.lst oddL), .kn (.lst (G0 ++ repT j)), .kn (.lst G0), .kn soD, c8, .no]) ⟨_, rfl⟩ (fun j y δ' hy hI => ?_) (fun δ' hI => ?_)
    · kernel_rfl
    · obtain ⟨c8, rfl⟩ := hI
      have hj : j < 2 := (List.getElem?_eq_some_iff.mp hy).1
      have hrl : (repT j).length ≤ 6 := by
        match j, hj with
        | 0, _ => decide
        | 1, _ => decide
      have hyd : ∃ a b c, y = .lst [a, b, c] ∧ Raw a pW ∧ Raw b pT ∧ Raw c pCh := by
        match j, hj, hy with
        | 0, _, hy => exact ⟨_, _, _, (Option.some.inj hy).symm, raw_lsts ptW, raw_lsts ptT, raw_lsts ptH⟩
        | 1, _, hy => exact ⟨_, _, _, (Option.some.inj hy).symm, half_W, half_T, half_C⟩
      obtain ⟨a, b, c, rfl, ha, hb, hc⟩ := hyd
      refine s_set 5 (e_op op_cat (e_var 5 rfl) (e_lst (a_cons (e_callKw (fk_fits (k := 0) T FF) (T.glo 19) FF.kp hr (by omega) (kb_three FF fun _ _ _ _ _ _ _ _ _ => rfl) (k_cons (e_ix 2 (e_var 8 rfl) e_int (.inr rfl) rfl rfl) (k_cons (e_ix 1 (e_var 8 rfl) e_int (.inr rfl) rfl rfl) (k_cons (e_ix 0 (e_var 8 rfl) e_int (.inr rfl) rfl rfl) k_nil))) ⟨a, b, c, pW, pT, pCh, rfl, ha, hb, hc, fokW, fokT, fokH, unj_WT, rfl⟩) a_nil) (by simp)) (od_cat (by simp only [List.length_append, List.length_singleton]; have : G0.length = 2 := rfl; omega))) nd ?_
      refine s_setO 5 (o_cat (e_var 5 rfl) (e_lst (a_cons (e_callKw (fk_quiet (k := 0) T FQ) (T.glo 15) FQ.kp hr (by omega) (kb_two FQ fun _ _ _ _ _ _ _ _ => rfl) (k_cons (e_ix 1 (e_var 8 rfl) e_int (.inr rfl) rfl rfl) (k_cons (e_ix 0 (e_var 8 rfl) e_int (.inr rfl) rfl rfl) k_nil)) ⟨a, b, pW, pT, rfl, ha, hb, ptW, ptT, unj_WT, rfl⟩) a_nil) (by simp)) (by simp only [List.length_append, List.length_singleton]; have : G0.length = 2 := rfl; omega)) nd fun p => ?_
      refine s_appE 5 ⟨_, rfl⟩ (ee_pure (e_callKw (fk_around (k := 0) T FA) (T.glo 14) FA.kp hr (by omega) (kb_three FA fun _ _ _ _ _ _ _ _ _ => rfl) (k_cons (e_var 2 rfl) (k_cons (e_ix 1 (e_var 8 rfl) e_int (.inr rfl) rfl rfl) (k_cons (e_ix 0 (e_var 8 rfl) e_int (.inr rfl) rfl rfl) k_nil))) ⟨a, b, enc pCh, pW, pT, rfl, ha, hb, ptW, ptT, unj_WT, ptH.okp, rfl⟩) ⟨_, rfl, by simp only [List.length_append, List.length_singleton]; have : G0.length = 2 := rfl; omega, ?_⟩)
      refine s_fz 5 rfl (s_nil ⟨.kn (.lst [a, b, c]), ?_⟩)
      have e1 : fitsB [pW, pT, pCh] = true := fi_WT.2.1
      have e2 : around pW pT (enc pCh) = true := by decide +kernel
      rw [e1, e2, qu_WT]
      show [Cl.kn (enc pW), .kn (enc pT), .kn (enc pCh), .kn (enc pC), .kn (.lst oddL), .kn (.lst (((G0 ++ repT j) ++ [.bl true]) ++ [enc p0] ++ [.bl true])), .kn (.lst G0), .kn soD, .kn (.lst [a, b, c]), .no] = _
      rw [repT_succ]
      simp only [List.append_assoc]
      rfl
    · obtain ⟨c8, rfl⟩ := hI
      refine s_setP 6 "_law_due" (d := .lst (G0 ++ repT 2)) ?h1_112 ?hv_112 nd ?h3_112 ?hk_112
      case h1_112 => kernel_rfl
      case h3_112 => kernel_rfl
      case hv_112 => refine e_litV ?_; kernel_rfl
      rw [stM_def 10]
      refine s_ret (e_call (f_same (k := 0) T 4 (by decide)) hr (by omega) pass0 (a_cons (E.is (e_op op_cat (e_var 5 rfl) (e_var 7 rfl) (od_cat (by decide))) ?_) (a_cons (E.is (e_op op_cat (e_var 6 rfl) (e_lst (a_cons (e_call (f_lists (k := 0) T 3) hr (by omega) pass0 (a_cons (e_var 0 rfl) a_nil) ⟨_, rfl, ptW.ok 0, rfl⟩) (a_cons (e_call (f_lists (k := 0) T 3) hr (by omega) pass0 (a_cons (e_var 1 rfl) a_nil) ⟨_, rfl, ptT.ok 0, rfl⟩) (a_cons (e_call (f_lists (k := 0) T 3) hr (by omega) pass0 (a_cons (e_var 2 rfl) a_nil) ⟨_, rfl, ptH.ok 0, rfl⟩) a_nil))) (by decide)) (od_cat (by decide))) ?_) a_nil)) ⟨.lst ((G0 ++ repT 2) ++ [lsts (enc pW), lsts (enc pT), lsts (enc pCh)]), rfl, by kernel_rfl, rfl⟩) rfl
      · rfl
      · rfl
end
end Fs
set_option Elab.async false
set_option linter.all false
set_option maxRecDepth 100000
set_option maxHeartbeats 1000000
/-! The walk: _law_by_hand_right. -/
namespace Fs
open PySem PySem.Spec PyProof.Rows L2
@[irreducible] def stH (i : Nat) : Stmt := d_law_by_hand_right.body.getD i (.Pass ⟨0, 0, 0, 0⟩)
theorem stH_def (i : Nat) : stH i = d_law_by_hand_right.body.getD i (.Pass ⟨0, 0, 0, 0⟩) := by unfold stH; rfl
theorem hand_body : d_law_by_hand_right.body = [stH 0, stH 1, stH 2, stH 3, stH 4, stH 5, stH 6, stH 7, stH 8, stH 9, stH 10, stH 11, stH 12, stH 13, stH 14, stH 15, stH 16, stH 17, stH 18, stH 19, stH 20, stH 21, stH 22, stH 23, stH 24] := by kernel_rfl
def bls (l : List Bool) : Da := .lst (l.map .bl)
def b9 : Da := bls [true, true, true, false, false, false, false, true, false]
def gA : List Da := [b9, b9]
def gB : List Da := gA ++ [enc p0, enc p0] ++ [.bl false]
def gC : List Da := gB ++ [bls [false, true, true, false, true]]
def gD : List Da := gC ++ [bls [true, true, true, false, false, false, true, true], .bl true, bls [true, true, false, false, true]]
/-- a part from its data -/
def strOf : Da → Str
  | .str z => z
  | _ => ""
def stpOf : Da → Stp
  | .tup [.int a, .str z, .int b] => (a, z, b)
  | _ => (0, "", 0)
def decP : Da → Pt
  | .tup [.tup ts, .tup ms, .int n, .tup ss] => ⟨ts.map strOf, ms.map strOf, n, ss.map stpOf⟩
  | _ => p0
theorem str_txs (l : List Str) : (txs l).map strOf = l := by
  unfold txs
  rw [List.map_map]
  exact List.map_id'' (fun _ => rfl) l
theorem decP_enc (p : Pt) : decP (enc p) = p := by
  obtain ⟨t, m, n, s⟩ := p
  show (⟨(txs t).map strOf, (txs m).map strOf, n, (s.map encS).map stpOf⟩ : Pt) = _
  rw [str_txs, str_txs, List.map_map]
  congr 1
  exact List.map_id'' (fun _ => rfl) s
def intOf : Da → Nat
  | .int i => i.toNat
  | _ => 0
def five : List Pt := [pGo, pCh, p0, pLa, pSl]
theorem five_f : five.all fokB = true := by decide +kernel
section
variable {P : Program} {w : World} {K : PySem.W.Frag} {mg : Str → Option Value} {base : Heap} {fI : Addr}
theorem f_hand (T : Tp K mg) (J : NJI P K (cNJ K) fI) {k : Nat} : Dfn P w K mg base CX0 (k + 11) "_law_by_hand_right" (SpF K fun ds r => ds = [] ∧ r = .bl true) := by
  obtain ⟨fd, F⟩ := T.c.def_ 36 (d := d_law_by_hand_right) rfl
  refine dfn_of F (T.glo 36) sc_law_by_hand_right ?_ (fun _ _ _ _ _ _ us hl => match us, hl with | [], _ => rfl) ?_
  · rintro ds r ⟨rfl, _⟩; rfl
  · rintro f cdv A outer s H EX hr ds r ⟨rfl, rfl⟩
    have nd := sc_law_by_hand_right.nd
    have hun : (Wx P w K mg base n_law_by_hand_right "_law_by_hand_right" d_law_by_hand_right.scope f cdv A outer s H EX).A.units + 64 < cLine := hr.units
    have ptS : PtOk pS := ptB_ok (by decide +kernel)
    have pt0 : PtOk p0 := ptB_ok (by decide +kernel)
    have ptN : PtOk pN := ptB_ok (by decide +kernel)
    have ptF : PtOk pF := ptB_ok (by decide +kernel)
    have fokC : Fok pC := fokB_ok (by decide +kernel)
    have fokS : Fok pS := fokB_ok (by decide +kernel)
    have fok0 : Fok p0 := fokB_ok (by decide +kernel)
    have fokN : Fok pN := fokB_ok (by decide +kernel)
    have fokF : Fok pF := fokB_ok (by decide +kernel)
    rw [hand_body]
    show S _ _ [.no, .no, .no, .no, .no, .no, .no, .no, .no, .no, .no, .no, .no, .no, .no, .no] _
    refine s_tupP [0, 1, 2, 3] (ds := [enc pC, enc pS, enc pW, enc pT]) ?a1 ?a2 rfl ?a3 ?a4 ?a5 ?a6 ?a7
    case a1 => kernel_rfl
    case a4 => kernel_rfl
    case a5 => kernel_rfl
    case a6 => kernel_rfl
    case a2 =>
      rw [stH_def 0]
      exact e_call0 (f_kit (k := 0) T) hr (by omega) pass0 ⟨rfl, rfl⟩
    case a3 =>
      refine pg_four (x := "_law_client_so") (y := "_law_server_so") (z := "_law_waiting_so") (u := "_law_twoway_so") ?_ (pg_name nd rfl (Or.inl rfl)) (pg_name nd rfl (Or.inl rfl)) (pg_name nd rfl (Or.inr rfl)) (pg_name nd rfl (Or.inr rfl))
      kernel_rfl
    show S _ _ [.kn (enc pC), .kn (enc pS), .kn (enc pW), .kn (enc pT), .no, .no, .no, .no, .no, .no, .no, .no, .no, .no, .no, .no] _
    refine s_tupP [4, 5] (ds := [enc pGo, enc pCh]) ?h1_75 ?hv_75 rfl ?hg_75 ?h4_75 ?h5_75 ?h6_75 ?hk_75
    case h1_75 => kernel_rfl
    case h4_75 => kernel_rfl
    case h5_75 => kernel_rfl
    case h6_75 => kernel_rfl
    case hv_75 => refine e_litV ?_; kernel_rfl
    · refine pg_two (x := "_law_goes_so") (y := "_law_changes_so") ?_ (pg_name nd rfl (Or.inl rfl)) (pg_name nd rfl (Or.inl rfl))
      kernel_rfl
    show S _ _ [.kn (enc pC), .kn (enc pS), .kn (enc pW), .kn (enc pT), .kn (enc pGo), .kn (enc pCh), .no, .no, .no, .no, .no, .no, .no, .no, .no, .no] _
    refine s_setP 6 "_law_some_so" (d := .lst ((some9.take 5).map enc)) ?h1_79 ?hv_79 nd ?h3_79 ?hk_79
    case h1_79 => kernel_rfl
    case h3_79 => kernel_rfl
    case hv_79 => refine e_litV ?_; kernel_rfl
    refine s_setP 6 "_law_some_so" (d := .lst ((some9.take 8).map enc)) ?h1_80 ?hv_80 nd ?h3_80 ?hk_80
    case h1_80 => kernel_rfl
    case h3_80 => kernel_rfl
    case hv_80 => refine e_litV ?_; kernel_rfl
    refine s_setP 6 "_law_some_so" (d := .lst (some9.map enc)) ?h1_81 ?hv_81 nd ?h3_81 ?hk_81
    case h1_81 => kernel_rfl
    case h3_81 => kernel_rfl
    case hv_81 => refine e_litV ?_; kernel_rfl
    show S _ _ [.kn (enc pC), .kn (enc pS), .kn (enc pW), .kn (enc pT), .kn (enc pGo), .kn (enc pCh), .kn (.lst (some9.map enc)), .no, .no, .no, .no, .no, .no, .no, .no, .no] _
    refine s_setP 7 "_law_got" (d := .lst gA) ?h1_83 ?hv_83 nd ?h3_83 ?hk_83
    case h1_83 => kernel_rfl
    case h3_83 => kernel_rfl
    · rw [stH_def 5]
      refine E.is (e_lst (a_cons (e_lc 14 (p := fun _ => true) (f := fun d => .bl (around pW pT d)) (r_lst (e_var 6 rfl)) (by decide) nd (blk_ok (own := [("_law_own", 14)]) (by kernel_rfl)) (fun x hx s0 H0 C cl fp => ⟨ts_nil, fun _ => ?_⟩) (fun _ _ _ _ _ => pg_name nd rfl (Or.inl rfl)))
        (a_cons (e_lc 14 (p := fun _ => true) (f := fun d => .bl (around pT pW d)) (r_lst (e_var 6 rfl)) (by decide) nd (blk_ok (own := [("_law_own", 14)]) (by kernel_rfl)) (fun x hx s0 H0 C cl fp => ⟨ts_nil, fun _ => ?_⟩) (fun _ _ _ _ _ => pg_name nd rfl (Or.inl rfl))) a_nil)) (by show 2 ≤ 100000; decide)) ?_
      · obtain ⟨o, ho, rfl⟩ := List.mem_map.mp hx
        exact e_call (f_around (k := 0) T) hr (by omega) pass0 (a_cons (e_var 2 rfl) (a_cons (e_var 3 rfl) (a_cons (e_var 14 rfl) a_nil))) ⟨_, _, enc o, pW, pT, rfl, raw_enc ptW, raw_enc ptT, ptW, ptT, unj_WT, (ptB_ok (List.all_eq_true.mp some_p o ho)).okp, rfl⟩
      · obtain ⟨o, ho, rfl⟩ := List.mem_map.mp hx
        exact e_call (f_around (k := 0) T) hr (by omega) pass0 (a_cons (e_var 3 rfl) (a_cons (e_var 2 rfl) (a_cons (e_var 14 rfl) a_nil))) ⟨_, _, enc o, pT, pW, rfl, raw_enc ptT, raw_enc ptW, ptT, ptW, unj_TW, (ptB_ok (List.all_eq_true.mp some_p o ho)).okp, rfl⟩
      · rw [filter_tt, List.map_map, List.map_map]
        have e1 := congrArg bls ar_WT
        have e2 := congrArg bls ar_TW
        unfold bls at e1 e2
        rw [List.map_map] at e1 e2
        show Da.lst [Da.lst (some9.map (Da.bl ∘ fun o => around pW pT (enc o))), Da.lst (some9.map (Da.bl ∘ fun o => around pT pW (enc o)))] = _
        rw [e1, e2]
        rfl
    refine s_setP 8 "_law_due" (d := .lst gA) ?h1_99 ?hv_99 nd ?h3_99 ?hk_99
    case h1_99 => kernel_rfl
    case h3_99 => kernel_rfl
    case hv_99 => refine e_litV ?_; kernel_rfl
    refine s_setP 7 "_law_got" (d := .lst (gA ++ [enc p0, enc p0])) ?h1_100 ?hv_100 nd ?h3_100 ?hk_100
    case h1_100 => kernel_rfl
    case h3_100 => kernel_rfl
    · rw [stH_def 7]
      refine E.is (e_op op_cat (e_var 7 rfl) (e_lst (a_cons (e_call (f_quiet (k := 0) T) hr (by omega) pass0 (a_cons (e_var 2 rfl) (a_cons (e_var 3 rfl) a_nil)) ⟨_, _, pW, pT, rfl, raw_enc ptW, raw_enc ptT, ptW, ptT, unj_WT, rfl⟩) (a_cons (e_call (f_quiet (k := 0) T) hr (by omega) pass0 (a_cons (e_var 0 rfl) (a_cons (e_var 1 rfl) a_nil)) ⟨_, _, pC, pS, rfl, raw_enc ptC, raw_enc ptS, ptC, ptS, unj_CS, rfl⟩) a_nil)) (by show 2 ≤ 100000; decide)) (od_cat (by decide))) ?_
      rw [qu_WT, qu_CS]
    refine s_setOP 7 "_law_got" (ds := gB) ?h1_104 ?hv_104 nd ?h3_104 ?hk_104
    case h1_104 => kernel_rfl
    case h3_104 => kernel_rfl
    case' hk_104 => intro p
    rotate_left
    · rw [stH_def 8]
      refine EO.is (o_cat (e_var 7 rfl) (e_lst (a_cons (e_call (f_fits (k := 0) T) hr (by omega) pass0 (a_cons (e_var 0 rfl) (a_cons (e_var 1 rfl) (a_cons (d := enc p0) ?v107 a_nil))) ⟨_, _, _, pC, pS, p0, rfl, raw_enc ptC, raw_enc ptS, raw_enc pt0, fokC, fokS, fok0, unj_CS, rfl⟩) a_nil) (by show 1 ≤ 100000; decide)) (by decide)) ?_
      case v107 => first | (refine i_lit ?_; kernel_rfl) | (refine e_litV ?_; kernel_rfl)
      rw [fi_CS]
      rfl
    refine s_setOP 8 "_law_due" (ds := gB) ?h1_110 ?hv_110 nd ?h3_110 ?hk_110
    case h1_110 => kernel_rfl
    case h3_110 => kernel_rfl
    case' hk_110 => intro q
    rotate_left
    · rw [stH_def 9]
      refine EO.is (o_cat (ds2 := [enc p0, enc p0, .bl false]) (e_var 8 rfl) ?z9 (by decide)) rfl
      case z9 => refine e_litV ?_; kernel_rfl
    refine s_setP 9 "_law_later_so" (d := enc pLa) ?h1_114 ?hv_114 nd ?h3_114 ?hk_114
    case h1_114 => kernel_rfl
    case h3_114 => kernel_rfl
    case hv_114 => refine e_litV ?_; kernel_rfl
    refine s_setP 10 "_law_slow_so" (d := enc pSl) ?h1_115 ?hv_115 nd ?h3_115 ?hk_115
    case h1_115 => kernel_rfl
    case h3_115 => kernel_rfl
    case hv_115 => refine e_litV ?_; kernel_rfl
    show S _ _ [.kn (enc pC), .kn (enc pS), .kn (enc pW), .kn (enc pT), .kn (enc pGo), .kn (enc pCh), .kn (.lst (some9.map enc)), .ow p gB, .ow q gB, .kn (enc pLa), .kn (enc pSl), .no, .no, .no, .no, .no] _
    rw [stH_def 12]
    refine s_appE 7 ⟨_, rfl⟩ (ee_pure (d := bls [false, true, true, false, true]) ?_ ⟨gB, rfl, by decide, ?_⟩)
    · refine E.is (e_lc 14 (items := five.map enc) (p := fun _ => true) (f := fun d => .bl (fitsB [pW, pT, decP d])) (r_tup ?z12) (by decide) nd (blk_ok (own := [("_law_own", 14)]) (by kernel_rfl)) (fun x hx s0 H0 C cl fp => ⟨ts_nil, fun _ => ?_⟩) (fun _ _ _ _ _ => pg_name nd rfl (Or.inl rfl))) ?_
      case z12 => refine e_litV ?_; kernel_rfl
      · obtain ⟨o, ho, rfl⟩ := List.mem_map.mp hx
        have fo : Fok o := fokB_ok (List.all_eq_true.mp five_f o ho)
        rw [decP_enc]
        exact e_call (f_fits (k := 0) T) hr (by omega) pass0 (a_cons (e_var 2 rfl) (a_cons (e_var 3 rfl) (a_cons (e_var 14 rfl) a_nil))) ⟨_, _, _, pW, pT, o, rfl, raw_enc ptW, raw_enc ptT, raw_enc fo.ok, fokW, fokT, fo, unj_WT, rfl⟩
      · rw [filter_tt, List.map_map]
        have e0 : five.map ((fun d => Da.bl (fitsB [pW, pT, decP d])) ∘ enc) = five.map fun o => Da.bl (fitsB [pW, pT, o]) := List.map_congr_left fun o _ => by
          show Da.bl (fitsB [pW, pT, decP (enc o)]) = _
          rw [decP_enc]
        rw [e0]
        show Da.lst [Da.bl (fitsB [pW, pT, pGo]), Da.bl (fitsB [pW, pT, pCh]), Da.bl (fitsB [pW, pT, p0]), Da.bl (fitsB [pW, pT, pLa]), Da.bl (fitsB [pW, pT, pSl])] = _
        rw [fi_WT.1, fi_WT.2.1, fi_WT.2.2.1, fi_WT.2.2.2.1, fi_WT.2.2.2.2]
        rfl
    rw [stH_def 13]
    refine s_appE 8 ⟨_, rfl⟩ (ee_pure (d := bls [false, true, true, false, true]) ?z13 ⟨gB, rfl, by decide, ?_⟩)
    case z13 => refine e_litV ?_; kernel_rfl
    refine s_fz 7 rfl (s_fz 8 rfl ?_)
    show S _ _ [.kn (enc pC), .kn (enc pS), .kn (enc pW), .kn (enc pT), .kn (enc pGo), .kn (enc pCh), .kn (.lst (some9.map enc)), .kn (.lst gC), .kn (.lst gC), .kn (enc pLa), .kn (enc pSl), .no, .no, .no, .no, .no] _
    refine s_tupP [11, 12] (ds := [enc pN, enc pF]) ?h1_138 ?hv_138 rfl ?hg_138 ?h4_138 ?h5_138 ?h6_138 ?hk_138
    case h1_138 => kernel_rfl
    case h4_138 => kernel_rfl
    case h5_138 => kernel_rfl
    case h6_138 => kernel_rfl
    case hv_138 => refine e_litV ?_; kernel_rfl
    · refine pg_two (x := "_law_near") (y := "_law_far") ?_ (pg_name nd rfl (Or.inr rfl)) (pg_name nd rfl (Or.inr rfl))
      kernel_rfl
    show S _ _ [.kn (enc pC), .kn (enc pS), .kn (enc pW), .kn (enc pT), .kn (enc pGo), .kn (enc pCh), .kn (.lst (some9.map enc)), .kn (.lst gC), .kn (.lst gC), .kn (enc pLa), .kn (enc pSl), .kn (enc pN), .kn (enc pF), .no, .no, .no] _
    refine s_setP 13 "_law_rows_so" (d := .lst ((rows8.take 1).map enc)) ?h1_142 ?hv_142 nd ?h3_142 ?hk_142
    case h1_142 => kernel_rfl
    case h3_142 => kernel_rfl
    case hv_142 => refine e_litV ?_; kernel_rfl
    refine s_setP 13 "_law_rows_so" (d := .lst ((rows8.take 2).map enc)) ?h1_143 ?hv_143 nd ?h3_143 ?hk_143
    case h1_143 => kernel_rfl
    case h3_143 => kernel_rfl
    case hv_143 => refine e_litV ?_; kernel_rfl
    refine s_setP 13 "_law_rows_so" (d := .lst ((rows8.take 3).map enc)) ?h1_144 ?hv_144 nd ?h3_144 ?hk_144
    case h1_144 => kernel_rfl
    case h3_144 => kernel_rfl
    case hv_144 => refine e_litV ?_; kernel_rfl
    refine s_setP 13 "_law_rows_so" (d := .lst ((rows8.take 5).map enc)) ?h1_145 ?hv_145 nd ?h3_145 ?hk_145
    case h1_145 => kernel_rfl
    case h3_145 => kernel_rfl
    case hv_145 => refine e_litV ?_; kernel_rfl
    refine s_setP 13 "_law_rows_so" (d := .lst ((rows8.take 7).map enc)) ?h1_146 ?hv_146 nd ?h3_146 ?hk_146
    case h1_146 => kernel_rfl
    case h3_146 => kernel_rfl
    case hv_146 => refine e_litV ?_; kernel_rfl
    refine s_setP 13 "_law_rows_so" (d := .lst (rows8.map enc)) ?h1_147 ?hv_147 nd ?h3_147 ?hk_147
    case h1_147 => kernel_rfl
    case h3_147 => kernel_rfl
    case hv_147 => refine e_litV ?_; kernel_rfl
    show S _ _ [.kn (enc pC), .kn (enc pS), .kn (enc pW), .kn (enc pT), .kn (enc pGo), .kn (enc pCh), .kn (.lst (some9.map enc)), .kn (.lst gC), .kn (.lst gC), .kn (enc pLa), .kn (enc pSl), .kn (enc pN), .kn (enc pF), .kn (.lst (rows8.map enc)), .no, .no] _
    refine s_setP 7 "_law_got" (d := .lst gD) ?h1_149 ?hv_149 nd ?h3_149 ?hk_149
    case h1_149 => kernel_rfl
    case h3_149 => kernel_rfl
    · rw [stH_def 21]
      refine E.is (e_op op_cat (e_var 7 rfl) (e_lst (a_cons (e_lc 14 (p := fun _ => true) (f := fun d => .bl (around pN pF d)) (r_lst (e_var 13 rfl)) (by decide) nd (blk_ok (own := [("_law_own", 14)]) (by kernel_rfl)) (fun x hx s0 H0 C cl fp => ⟨ts_nil, fun _ => ?_⟩) (fun _ _ _ _ _ => pg_name nd rfl (Or.inl rfl)))
        (a_cons (e_cmp (op_eqD hun) (e_call (f_quiet (k := 0) T) hr (by omega) pass0 (a_cons (e_var 11 rfl) (a_cons (e_var 12 rfl) a_nil)) ⟨_, _, pN, pF, rfl, raw_enc ptN, raw_enc ptF, ptN, ptF, unj_NF, rfl⟩) (e_ix 0 (e_var 13 rfl) e_int (.inr rfl) rfl rfl) (od_eqD (n := 3) (m := 3) (by decide +kernel) (by decide +kernel) (by decide) (by decide)))
        (a_cons (e_lc 15 (items := ([0, 1, 2, 6, 7] : List Nat).map fun (i : Nat) => Da.int (i : Int)) (p := fun _ => true) (f := fun d => .bl (fitsB [pN, pF, rows8.getD (intOf d) p0])) (r_tup ?z21) (by decide) nd (blk_ok (own := [("_law_k", 15)]) (by kernel_rfl)) (fun x hx s0 H0 C cl fp => ⟨ts_nil, fun _ => ?_⟩) (fun _ _ _ _ _ => pg_name nd rfl (Or.inl rfl))) a_nil))) (by show 3 ≤ 100000; decide)) (od_cat (by decide))) ?_
      · obtain ⟨o, ho, rfl⟩ := List.mem_map.mp hx
        exact e_call (f_around (k := 0) T) hr (by omega) pass0 (a_cons (e_var 11 rfl) (a_cons (e_var 12 rfl) (a_cons (e_var 14 rfl) a_nil))) ⟨_, _, enc o, pN, pF, rfl, raw_enc ptN, raw_enc ptF, ptN, ptF, unj_NF, (ptB_ok (List.all_eq_true.mp rows_p o ho)).okp, rfl⟩
      case z21 => refine e_litV ?_; kernel_rfl
      · obtain ⟨i, hi, rfl⟩ := List.mem_map.mp hx
        have fo : Fok (rows8.getD i p0) := fokB_ok (List.all_eq_true.mp rows_f i hi)
        have hi8 : i < 8 := by
          simp only [List.mem_cons, List.not_mem_nil, or_false] at hi
          omega
        have hget : (rows8.map enc)[i]? = some (enc (rows8.getD i p0)) := by
          rw [List.getElem?_map, List.getD_eq_getElem?_getD, List.getElem?_eq_getElem (l := rows8) (show i < rows8.length from hi8)]
          rfl
        exact e_call (f_fits (k := 0) T) hr (by omega) pass0 (a_cons (e_var 11 rfl) (a_cons (e_var 12 rfl) (a_cons (e_ix i (e_var 13 rfl) (e_var 15 rfl) (.inr rfl) rfl hget) a_nil))) ⟨_, _, _, pN, pF, rows8.getD i p0, rfl, raw_enc ptN, raw_enc ptF, raw_enc fo.ok, fokN, fokF, fo, unj_NF, rfl⟩
      · have e1 := congrArg bls ar_NF
        have e2 := congrArg bls fi_NF
        unfold bls at e1 e2
        rw [List.map_map] at e1 e2
        have e3 : eqd (enc (quiet pN pF)) (enc (rows8.getD 0 p0)) = true := by
          rw [qu_NF]
          decide +kernel
        rw [filter_tt, filter_tt, List.map_map, List.map_map]
        show Da.lst (gC ++ [Da.lst (rows8.map (Da.bl ∘ fun o => around pN pF (enc o))), Da.bl (eqd (enc (quiet pN pF)) (enc (rows8.getD 0 p0))), Da.lst (([0, 1, 2, 6, 7] : List Nat).map (Da.bl ∘ fun i => fitsB [pN, pF, rows8.getD i p0]))]) = _
        rw [e1, e2, e3]
        rfl
    refine s_setP 8 "_law_due" (d := .lst (gC ++ [bls [true, true, true, false, false, false, true, true], .bl true])) ?h1_177 ?hv_177 nd ?h3_177 ?hk_177
    case h1_177 => kernel_rfl
    case h3_177 => kernel_rfl
    case hv_177 => refine e_litV ?_; kernel_rfl
    refine s_setP 8 "_law_due" (d := .lst gD) ?h1_178 ?hv_178 nd ?h3_178 ?hk_178
    case h1_178 => kernel_rfl
    case h3_178 => kernel_rfl
    case hv_178 => refine e_litV ?_; kernel_rfl
    show S _ _ [.kn (enc pC), .kn (enc pS), .kn (enc pW), .kn (enc pT), .kn (enc pGo), .kn (enc pCh), .kn (.lst (some9.map enc)), .kn (.lst gD), .kn (.lst gD), .kn (enc pLa), .kn (enc pSl), .kn (enc pN), .kn (enc pF), .kn (.lst (rows8.map enc)), .no, .no] _
    rw [stH_def 24]
    refine s_ret (e_andB (e_call (f_same (k := 0) T 4 (by decide)) hr (by omega) pass0 (a_cons (e_var 7 rfl) (a_cons (e_var 8 rfl) a_nil)) ⟨.lst gD, rfl, by decide +kernel, rfl⟩) fun _ => e_one (e_call (f_more (k := 0) T J) hr (by omega) pass0 (a_cons (e_var 2 rfl) (a_cons (e_var 3 rfl) (a_cons (e_var 5 rfl) (a_cons (e_var 0 rfl) a_nil)))) ⟨rfl, rfl⟩)) rfl
end
end Fs
set_option Elab.async false
set_option linter.all false
set_option maxRecDepth 100000
set_option maxHeartbeats 4000000
/-! The walk: law, its script a list that the world holds. -/
namespace Fs
open PySem PySem.Spec PyProof.Rows L2
/-- the script stands at a for good -/
def Scr (K : PySem.W.Frag) (G : Hp) (a : Addr) (ns : List Int) : Prop := ∀ H1, Same G H1 → SqL K H1 a (ns.map V.int)
theorem Scr.up {K : PySem.W.Frag} {G G' : Hp} {a : Addr} {ns : List Int} (h : Scr K G a ns) (e : Same G G') : Scr K G' a ns := fun H1 e1 => h H1 (e.trans e1)
def SpC (K : PySem.W.Frag) : Sp := fun vs H Q _ => ∃ G a ns, Same G H ∧ vs = [.ref a, .int 2] ∧ Scr K G a ns ∧ ∀ v G' H', Grow G H G' H' → At K G' v (.lst (ils (cellN ns (farI ns).length))) → Q v H'
def SpL (K : PySem.W.Frag) : Sp := fun vs H Q _ => ∃ G a ns, Same G H ∧ vs = [.ref a] ∧ Scr K G a ns ∧ ∀ H', Q (.bl true) H'
section
variable {X : Cx} {e a b : Expr} {es : List Expr} {σ : L2.St} {G : Hp} {δ : De} {d : Da} {ds l : List Da} {pos p2 p3 : Pos} {x : Str}
theorem ev_slF {aa : Addr} {ns : List Int} {lo hi : Option Expr} {i j : Option Int} (i0 : Nat) (hσ : σ[i0]? = some (some (.ref aa))) (hS : Scr X.K G aa ns) (hlo : EvP X σ G lo i) (hhi : EvP X σ G hi j) (hN : X.N[i0]? = some x := by rfl)
    (hv : Vis X.env.scope x := by first | exact Or.inl rfl | exact Or.inr (Or.inl rfl) | exact Or.inr (Or.inr rfl)) (hd1 : (x == ("__debug__" : Str)) = false := by decide) (hcd : (x == ("__classdict__" : Str)) = false := by decide) :
    Ev X (.Subscript (.Name x p3) (.Slice lo hi none p2) pos) σ G (.lst (cutD (ils ns) i j)) := fun H1 e1 Q q => by
  refine we_of (pe_slice sl_list (pe_var hN hv hd1 hcd) WP.po WP.po) ⟨_, hσ, ?_⟩
  refine hlo.use H1 e1 _ fun H3 s3 => hhi.use H3 (e1.trans s3) _ fun H4 s4 => ?_
  have g4 : Grow G H1 G H4 := ⟨s3.trans s4, Same.refl _, (e1.trans s3).trans s4, fun _ h => .inl h⟩
  refine ⟨aa, ns.map V.int, rfl, hS H4 g4.gh, fun p hp => ?_⟩
  have gn := Grow.new (o := .lst (cutV (ns.map V.int) i j)) g4.gh hp
  exact q _ _ _ (g4.trans gn) (.lst upd_same ((cutD_at (AtL.ints ns) i j).up gn.gg))
theorem E.pt (h : E X e δ d) (sk : StK X.K G σ δ) : Ev X e σ G d := h σ G sk
/-- an expression that makes a list of its own, here -/
def EvO (X : Cx) (e : Expr) (σ : L2.St) (G : Hp) (ds : List Da) : Prop := ∀ H1, Same G H1 → ∀ Q : VK, (∀ p xs G2 H2, Grow G H1 G2 H2 → G2 p = none → H1 p = none → H2 p = some (.lst xs) → AtL X.K G2 xs ds → Q (.ref p) H2) → WE X e σ H1 Q
theorem EvO.is {l2 : List Da} (h : EvO X e σ G l) (k : l = l2) : EvO X e σ G l2 := k ▸ h
theorem evo_list {p : Pos} (h : Ev X e σ G (.lst ds)) (hm : X.mg "list" = none) (hg : Gl X "list" := by rfl) (he : starEach [e] X.env = (false, eval e X.env) :: starEach [] X.env := by rfl) (hpl : (backTo pos (starEach [] X.env)).any (·.1) = false := by rfl) : EvO X (.Call (.Name "list" p) [e] [] pos) σ G ds := fun H1 e1 Q q =>
  we_of (pe_callTy call_list_of hg hm (by decide +kernel) WA.pa (by decide) (by decide) he hpl) (ea_cons h ea_nil he H1 e1 _ fun vs G2 H2 g hvs => by
    cases hvs with
    | cons h1 h2 =>
      cases h2
      cases h1 with
      | @lst a ws _ a1 a2 => exact ⟨a, ws, rfl, .inl (Same.sqL g.gh a1), fun l hl => q l ws G2 _ (g.trans (Grow.own g.gh hl)) (Same.free g.gh hl) (g.free hl) upd_same a2⟩)
theorem evo_orL {p posL : Pos} (h : Ev X e σ G (.lst ds)) (St : StK X.K G σ δ) (hm : X.mg "list" = none) (h2 : EA X es δ l) (hl : l.length ≤ 100000) (hg : Gl X "list" := by rfl) (he : starEach [e] X.env = (false, eval e X.env) :: starEach [] X.env := by rfl) (hpl : (backTo pos (starEach [] X.env)).any (·.1) = false := by rfl) :
    EvO X (.BoolOp .Or [.Call (.Name "list" p) [e] [] pos, .List es posL] p2) σ G (if ds.isEmpty = true then l else ds) := fun H1 e1 Q q => by
  refine we_of (pe_orT WE.pe (pe_one WE.pe)) (evo_list h hm hg he hpl H1 e1 _ fun p xs G2 H2 g2 z1 z2 z3 z4 => ?_)
  have hln := z4.len
  cases hds : ds with
  | nil =>
    subst hds
    cases z4
    refine ⟨false, .inl ⟨[], SqL.of z3, rfl⟩, ?_⟩
    rw [if_neg (fun e => nomatch e)]
    refine o_lst h2 hl σ G2 (St.up g2.gg) H2 g2.gh _ fun p' xs' G3 H3 g3 w1 w2 w3 w4 => ?_
    exact q p' xs' G3 H3 (g2.trans g3) w1 (g2.free w2) w3 w4
  | cons d0 ds0 =>
    subst hds
    cases z4 with
    | cons a1 a2 =>
      refine ⟨true, .inl ⟨_, SqL.of z3, rfl⟩, ?_⟩
      rw [if_pos rfl]
      exact q p _ G2 H2 g2 z1 z2 z3 (.cons a1 a2)
/-- for x, y, .. in iter: body; what is walked, here -/
theorem sts_forT {items : List Da} {body rest : List Stmt} {O : Post} {Gb Hb H : Hp} {D : Ends} (js : List Nat) {tg iter : Expr} (g : Grow Gb Hb G H) (St : Sto X.K Hb G H σ δ) (hsrc : ∃ item, Src X tg iter σ G items.length item ∧ ∀ i, i < items.length → item i = items.getD i .non) (hp : PassesOwn (model X.prog X.w) X.A X.env X.xe) (hg : PG X tg (gTup X.K js.length (gNames js))) (I : Nat → De → Prop) (h0 : I 0 δ)
    (turn : ∀ j y δ', items[j]? = some y → I j δ' → ∃ ds, y = .tup ds ∧ ds.length = js.length ∧ S X body (setAllD δ' (js.zip ds)) ⟨I (j + 1), O.rt⟩) (k : ∀ δ', I items.length δ' → S X rest δ' O)
    (n : ∀ δ' σ' G' H', O.nx δ' → Grow Gb Hb G' H' → Sto X.K Hb G' H' σ' δ' → D.nx σ' H')
    (r : ∀ δ' d σ' v G' H', O.rt δ' d → Grow Gb Hb G' H' → Sto X.K Hb G' H' σ' δ' → At X.K G' v d → D.rt v H')
    (hc : X.calm = true := by rfl) (hs : ∀ x, foldedSetIterable iter X.env x = pure x := by intro _; rfl) : WSs X (.For tg iter body [] pos :: rest) D σ H := by
  obtain ⟨item, hsr, hit⟩ := hsrc
  refine sts_cons (ws_for hsr g.gh hp hc hg (fun j σ' Gc H' => ∃ δ', I j δ' ∧ Grow Gb Hb Gc H' ∧ Sto X.K Hb Gc H' σ' δ') (fun G2 H2 g2 => ⟨δ, h0, g.trans g2, St.up g2⟩) (fun j σ' Gc H' x' Gx Hx N hj hP _ gx hx' kN => ?_) (fun σ' Gc H' hP _ => ?_) hs)
  · obtain ⟨δ', hI, g1, S1⟩ := hP
    rw [hit j hj] at hx'
    have gx' := g1.trans gx
    obtain ⟨ds, ed, hl, ht⟩ := turn j (items.getD j .non) δ' (getD_some hj) hI
    rw [ed] at hx'
    refine gTup_at hx' gx'.gh hl fun vs hvs => gNames_ok (by rw [hvs.len, hl]) ?_
    have key : ∀ (js : List Nat) (vs : List V) (ds : List Da) (σ : L2.St) (δ : De), Sto X.K Hb Gx Hx σ δ → AtL X.K Gx vs ds → Sto X.K Hb Gx Hx (setAll σ (js.zip vs)) (setAllD δ (js.zip ds)) := by
      intro js
      induction js with
      | nil => intro _ _ _ _ h _; exact h
      | cons j js ih =>
        intro vs ds σ δ h ha
        cases ha with
        | nil => exact h
        | cons a1 a2 => exact ih _ _ _ _ (h.set a1 j) a2
    refine ht Gx Hb _ Gx Hx _ gx'.start (key js vs ds σ' δ' (S1.up gx) hvs) (fun δ3 σ3 G3 H3 q g3 S3 => ?_) fun δ3 d3 σ3 v3 G3 H3 q g3 S3 hv => r δ3 d3 σ3 v3 G3 H3 q (gx'.rebase g3) S3 hv
    exact kN σ3 G3 H3 (gx.gg.trans g3.gg) g3.gh ⟨δ3, q, gx'.rebase g3, S3⟩
  · obtain ⟨δ', hI, g1, S1⟩ := hP
    exact k δ' hI Gb Hb σ' Gc H' D g1 S1 n r
/-- right(box(..)): a list made and handed on at once -/
theorem e_boxR {k k2 j : Nat} {f bx : Str} {p5 p6 pos2 : Pos} {Rb : List Da → List Da → Prop} {D : Tb → List Da → Prop} {R : Tb → List Da → Tb → Da → Prop} {r : Da} {bb : Tb} (c : Dfn X.prog X.w X.K X.mg X.base CX0 k f (SpT X.K D R)) (c2 : Dfn X.prog X.w X.K X.mg X.base CX0 k2 bx (SpO X.K Rb)) (hr : Room j X.A) (hk : k ≤ j) (hk2 : k2 ≤ j)
    (ha : EA X (a :: es) δ ds) (hRb : Rb ds (tubD bb)) (hD : D bb []) (hR : ∀ b' d, R bb [] b' d → d = r) (hg : Gl X f := by rfl) (hg2 : Gl X bx := by rfl) (hdb : (f == ("__debug__" : Str)) = false := by decide) (hdb2 : (bx == ("__debug__" : Str)) = false := by decide)
    (he : starEach [.Call (.Name bx p6) (a :: es) [] pos2] X.env = (false, eval (.Call (.Name bx p6) (a :: es) [] pos2) X.env) :: starEach [] X.env := by rfl) (he2 : starEach (a :: es) X.env = (false, eval a X.env) :: starEach es X.env := by rfl)
    (hpl : (backTo pos (starEach [] X.env)).any (·.1) = false := by rfl) (hpl2 : (backTo pos2 (starEach es X.env)).any (·.1) = false := by rfl) :
    E X (.Call (.Name f p5) [.Call (.Name bx p6) (a :: es) [] pos2] [] pos) δ r := fun σ G S H1 z Q q =>
  we_call (E := fun _ _ _ => False) c hr hk pass0 (wa_of (pa_cons WE.pe pa_nil he) (we_call (E := fun _ _ _ => False) c2 hr hk2 pass0 (wa_e S z ha fun vs G2 H2 g2 hvs => ⟨G2, ds, tubD bb, g2.gh, hvs, hRb, fun p xs G3 H3 g3 z1 z2 z3 z4 => by
    have ex := tub_eq z4
    subst ex
    have g := g2.trans g3
    refine ⟨G3, p, bb, [], [], rfl, fun b o hb => del_of (g3.gh b o hb) (fun e => by rw [e, z1] at hb; cases hb), z3, .nil, hD, fun b' d v G' H' hd gk ht hv => ?_⟩
    have ed := hR b' d hd
    subst ed
    exact q v G' H' (tub_callee g (g2.free z2) gk) hv⟩) hg2 hdb2 he2 hpl2)) hg hdb he hpl
end
section
variable {P : Program} {w : World} {K : PySem.W.Frag} {mg : Str → Option Value} {base : Heap} {fI : Addr}
theorem f_cellsF (T : Tp K mg) {k : Nat} : Dfn P w K mg base CX0 (k + 1) "_law_cells" (SpC K) := by
  obtain ⟨fd, F⟩ := T.c.def_ 22 (d := d_law_cells) rfl
  refine ⟨_, fd, ["_law_script", "_law_most_so"], ?_, T.glo 22, F.kp, FunD.bindsN F (fun _ _ _ _ _ _ us hl => match us, hl with | [_, _], _ => rfl)⟩
  refine F.ok sc_law_cells (fun vs H Q EX h => ?_) fun cdv A outer s H vs Q EX hr h => ⟨_, PSs.nox WSs.pss, ?_⟩
  · obtain ⟨G, a, ns, _, rfl, _⟩ := h
    rfl
  · obtain ⟨G, a, ns, e, rfl, hS, hQ⟩ := h
    have nd := sc_law_cells.nd
    have sk : StK K G (L2.start n_law_cells [.ref a, .int 2]) [.no, .kn (.int 2), .no, .no, .no, .no] := by
      refine ⟨rfl, fun i d z => ?_⟩
      match i, z with
      | 0, z => cases z
      | 1, z => cases z; exact ⟨_, rfl, .int 2⟩
      | 2, z => cases z
      | 3, z => cases z
      | 4, z => cases z
      | 5, z => cases z
      | i + 6, z => cases z
    have e0 : (if ((ils ns).take 2).isEmpty = true then [Da.int 0] else (ils ns).take 2) = ils (cell0 ns) := by
      unfold cell0 ils
      match ns with
      | [] => rfl
      | [_] => rfl
      | _ :: _ :: _ => rfl
    have ec : cutD (ils ns) none (some 2) = (ils ns).take 2 := by rw [show (2 : Int) = ((2 : Nat) : Int) from rfl, cut_to]
    refine sts_cons (ws_setW (i := 2) nd rfl (Or.inl rfl) ((evo_orL (δ := [.no, .kn (.int 2), .no, .no, .no, .no]) (l := [.int 0]) (ev_slF (aa := a) (ns := ns) (i := none) (j := some 2) 0 rfl hS .none (.some (E.pt (e_var 1 rfl) sk))) sk T.tlist (a_cons e_int a_nil) (by show 1 ≤ 100000; decide)) H e _ fun p xs G2 H2 g2 z1 z2 z3 z4 => ?_))
    rw [ec, e0] at z4
    have St : Sto K H G2 H2 ((L2.start n_law_cells [.ref a, .int 2]).set 2 (some (.ref p))) [.no, .kn (.int 2), .ow p (ils (cell0 ns)), .no, .no, .no] :=
      (sto_plain (Hb := H) (H := H2) (sk.up g2.gg) (fun i p ds z => by
        match i, z with
        | 0, z => cases z
        | 1, z => cases z
        | 2, z => cases z
        | 3, z => cases z
        | 4, z => cases z
        | 5, z => cases z
        | i + 6, z => cases z)).setO z2 z1 z3 z4 (fun ⟨i, es, z⟩ => by
        match i, z with
        | 0, z => cases z
        | 1, z => cases z
        | 2, z => cases z
        | 3, z => cases z
        | 4, z => cases z
        | 5, z => cases z
        | i + 6, z => cases z) 2
    have ec2 : cutD (ils ns) (some 2) (some 63) = ils (farI ns) := by
      rw [show (2 : Int) = ((2 : Nat) : Int) from rfl, show (63 : Int) = ((63 : Nat) : Int) from rfl, cut_mid (by decide), ils, ils, farI, List.map_drop, List.map_take]
    refine sts_forT [3, 4] (O := ⟨fun _ => False, fun _ d => d = .lst (ils (cellN ns (farI ns).length))⟩) (items := (ils (farI ns)).mapIdx fun i d => Da.tup [.int (i : Int), d]) g2 St ⟨_, by
        rw [List.length_mapIdx]
        exact src_enumL (ea_cons (ec2 ▸ ev_slF (aa := a) (ns := ns) (i := some 2) (j := some 63) 0 rfl (hS.up g2.gg) (.some (E.pt (e_var 1 rfl) St.sk)) (.some (E.pt e_int St.sk))) ea_nil) T.enumerate, fun i hi => ?_⟩ PassesOwn.never (pg_tup rfl (pgs_cons (pg_name nd rfl (Or.inl rfl)) (pgs_cons (pg_name nd rfl (Or.inl rfl)) pgs_nil)))
      (fun j δ' => ∃ c3 c4 c5, δ' = [.no, .kn (.int 2), .ow p (ils (cellN ns j)), c3, c4, c5]) ⟨_, _, _, rfl⟩ (fun j y δ' hy hI => ?_) (fun δ' hI => ?_) (fun _ _ _ _ q => q.elim) (fun δ' d σ' v G' H' q g' _ hv => by
        have q' : d = _ := q
        subst q'
        exact hQ v G' H' g' hv)
    · rw [List.length_mapIdx] at hi
      simp [List.getD_eq_getElem?_getD, hi]
    · obtain ⟨c3, c4, c5, rfl⟩ := hI
      rw [List.getElem?_mapIdx, ils, List.getElem?_map] at hy
      cases hq : (farI ns)[j]? with
      | none => rw [hq] at hy; cases hy
      | some b =>
        rw [hq] at hy
        cases hy
        have hj := (List.getElem?_eq_some_iff.mp hq).1
        obtain ⟨h2, h61⟩ := cell0_two hj
        have hlen : (cellN ns j).length = 2 := by rw [cellN_len, h2]
        have hm : ((j : Int) % 2) = ((j % 2 : Nat) : Int) := by omega
        have hlt : j % 2 < (cellN ns j).length := by omega
        have hat : (cellN ns j)[j % 2]? = some ((cellN ns j).getD (j % 2) 0) := by
          rw [List.getD_eq_getElem?_getD, List.getElem?_eq_getElem hlt] <;> rfl
        refine ⟨_, rfl, rfl, ?_⟩
        refine s_set 5 (e_op op_mod (e_intI T (e_var 3 rfl)) (e_var 1 rfl) (od_mod (by decide))) nd ?_
        refine s_setIx 2 (j % 2) rfl (e_op op_add (e_ix (j % 2) (e_var 2 rfl) (e_var 5 rfl) (.inr rfl) hm (by rw [ils, List.getElem?_map, hat] <;> rfl)) (e_op op_mul (e_var 4 rfl) (e_op op_add (e_var 3 rfl) e_int od_add) (od_mul (.inr ⟨by omega, by omega⟩))) od_add) (lf_int _) (e_var 5 rfl) hm (by rw [ils, List.length_map]; exact hlt) ?_
        have key : ((ils (cellN ns j)).set (j % 2) (Da.int ((cellN ns j).getD (j % 2) 0 + b * ((j : Int) + 2)))) = ils (cellN ns (j + 1)) := by
          rw [cellN, ils, ils, List.map_set]
          congr 2
          rw [List.getD_eq_getElem?_getD (l := farI ns), hq]
          rfl
        rw [key]
        exact s_nil ⟨_, _, _, rfl⟩
    · obtain ⟨c3, c4, c5, rfl⟩ := hI
      refine s_fz 2 rfl (s_ret (e_var 2 rfl) ?_)
      show _ = Da.lst _
      rw [List.length_mapIdx, ils, ils, List.length_map]
      rfl
theorem fk_law (T : Tp K mg) (J : NJI P K (cNJ K) fI) {k : Nat} {fd : FuncData} (F : FunD K d_law.name d_law.qual d_law.params d_law.body d_law.scope (He.DefD.dvs K d_law) (He.DefD.kws K d_law) (He.fAd K d_law.at_) fd) : FnOk P w K mg base CX0 (k + 12) (He.fAd K d_law.at_) fd ["_law_script"] (SpL K) := by
  refine F.ok sc_law (fun vs H Q EX h => ?_) fun cdv A outer s H vs Q EX hr h => ⟨_, PSs.nox WSs.pss, ?_⟩
  · obtain ⟨G, a, ns, _, rfl, _⟩ := h
    rfl
  · obtain ⟨G, a, ns, e, rfl, hS, hQ⟩ := h
    have nd := sc_law.nd
    have sk : StK K G (L2.start n_law [.ref a]) [.no, .no, .no] := by
      refine ⟨rfl, fun i d z => ?_⟩
      match i, z with
      | 0, z => cases z
      | 1, z => cases z
      | 2, z => cases z
      | i + 3, z => cases z
    refine sts_cons (ws_ifE (k := false) sk e (b_not (k := true) (b_val (e_call0 (f_hand (k := 0) T J) hr (by omega) pass0 ⟨rfl, rfl⟩))) (fun h => nomatch h) fun _ G1 H1 g1 => sts_nil ?_)
    refine sts_cons (ws_setW (i := 1) nd rfl (Or.inr rfl) (we_call (f_cellsF (k := 0) T) hr (by omega) pass0 (wa_of (pa_cons (pe_var (i := 0) rfl (Or.inl rfl)) WA.pa) ⟨_, rfl, wa_e (sk.up g1.gg) g1.gh (a_cons e_int a_nil) fun vs G2 H2 g2 hvs => ?_⟩)))
    cases hvs with
    | cons a1 a2 =>
      cases a2
      cases a1
      refine ⟨G2, a, ns, g2.gh, rfl, hS.up (g1.trans g2).gg, fun v G3 H3 g3 hv => ?_⟩
      have g := (g1.trans g2).trans g3
      have sk3 := (sk.up g.gg).set hv 1
      have hcl : (cellN ns (farI ns).length).length ≤ 2 := by rw [cellN_len]; exact (cell0_len ns).2
      generalize cellN ns (farI ns).length = cs at hcl hv sk3
      have S3 : S (Wx P w K mg base n_law "law" d_law.scope (He.fAd K d_law.at_) cdv A outer s H EX) (d_law.body.drop 2) [.no, .kn (.lst (ils cs)), .no] (retP (.bl true)) := by
        refine s_ret (E.is (e_all T (((List.range (ils cs).length).map fun (i : Nat) => Da.int (i : Int)).map fun _ => true) (e_lc 2 (p := fun _ => true) (f := fun _ => .bl true) (r_range (ils cs).length (a_cons (e_len T (e_var 1 rfl) (.inr rfl)) a_nil) rfl T.range (by rw [ils, List.length_map]; omega)) (by rw [List.length_map, List.length_range, ils, List.length_map]; omega) nd (blk_ok (own := [("_law_k", 2)]) (by kernel_rfl)) (fun x hx s0 H0 C cl fp => ⟨ts_nil, fun _ => ?_⟩) (fun _ _ _ _ _ => pg_name nd rfl (Or.inl rfl))) ?_) ?_) rfl
        · obtain ⟨i, hi, rfl⟩ := List.mem_map.mp hx
          have hi2 : i < cs.length := by
            have := List.mem_range.mp hi
            rwa [ils, List.length_map] at this
          exact e_boxR (bb := boxF (cs.getD i 0) i) (f_right (k := 0) T) (f_box (k := 0) T) hr (by omega) (by omega) (a_cons (e_var 1 rfl) (a_cons (e_var 2 rfl) a_nil)) ⟨cs, i, cs.getD i 0, rfl, by rw [List.getD_eq_getElem?_getD, List.getElem?_eq_getElem hi2] <;> rfl, by omega, rfl⟩ ⟨rfl, (by decide : (0 : Int) ≤ 0), (by decide : (0 : Int) ≤ 600000)⟩ (fun b' d h => h)
        · rw [filter_tt, List.map_map, List.map_map, List.map_map]
          rfl
        · congr 1
          simp
      exact S3 G H _ G3 H3 _ ((Grow.refl e).trans g) (sto_plain sk3 fun i p ds z => by
        match i, z with
        | 0, z => cases z
        | 1, z => cases z
        | 2, z => cases z
        | i + 3, z => cases z) (fun _ _ _ _ q _ _ => by cases q) (fun δ' d σ' v G' H' q g' _ hv => by
        have q' : d = _ := q
        subst q'
        cases hv
        exact hQ H')
end
end Fs
set_option Elab.async false
set_option linter.all false
set_option maxRecDepth 100000
set_option maxHeartbeats 0
/-! The end. -/
namespace Fs
open PySem PySem.Spec PyProof.Rows L2
theorem facts {P : Program} {w : World} {K : PySem.W.Frag} {h : Heap} {mg : Str → Option Value} {f fI : Addr} (T : Tp K mg) (J : NJI P K (cNJ K) fI) (hfa : mg ("law" : Str) = some (.ref f)) :
    ∃ fd : FuncData, (∀ (s : Shared) (v : Value), BindsTo s fd ⟨[v], []⟩ [("_law_script", v)]) ∧ ∀ base : Heap, K.In base → base.Ns mainGlobals mg → FnOk P w K mg base CX0 12 f fd ["_law_script"] (SpL K) := by
  obtain ⟨fd, F⟩ := T.c.def_ 39 (d := d_law) rfl
  have e := hfa.symm.trans (T.glo 39)
  cases e
  have b := FunD.bindsA (ps := ["_law_script"]) F fun _ _ _ _ _ _ us hl => match us, hl with | [_], _ => rfl
  exact ⟨fd, fun s v => b s [v] rfl, fun base _ _ => fk_law (k := 0) T J F⟩
theorem spl_of {K : PySem.W.Frag} {H : Hp} {a : Addr} {ns : List Int} (hS : SqL K H a (ns.map V.int)) : SpL K [.ref a] H (fun v _ => v = .bl true) fun _ _ _ => False := by
  refine ⟨H, a, ns, Same.refl H, rfl, fun H1 e => ?_, fun _ => rfl⟩
  rcases hS with (h | ⟨o, h⟩) | h
  · exact .inl (.inl (e _ _ h))
  · exact .inl (.inr ⟨o, e _ _ h⟩)
  · exact .inr h
end Fs
open PySem PySem.W PySem.Calls PyProof.Rows
set_option maxHeartbeats 0 in
theorem PySem.Challenge.cw_fitssomewhere_k30_whole_surroundings_of_holds : PySem.Challenge.rw_fitssomewhere_k30_whole_surroundings_of.Holds := by
  w_on; o_law
  refine HandSHeadRun.head_any (r := OpenLaw.row PySem.Challenge.rw_fitssomewhere_k30_whole_surroundings_of) (q := view (OpenLaw.row PySem.Challenge.rw_fitssomewhere_k30_whole_surroundings_of).prog [52]) (H := Fs.hk) (ob := Fs.ob) (M := 2000) (loose := Fs.loose) (d := HandSHeadRun.topDef (OpenLaw.row PySem.Challenge.rw_fitssomewhere_k30_whole_surroundings_of).prog 52) (kwd := []) Fs.ob_eq
    (by kernel_rfl) (fun s => by kernel_rfl) Fs.run (by kernel_rfl) (by kernel_rfl) (by kernel_rfl) (by rfl) (by first | assumption | decide +kernel) (by decide +kernel) ⟨rfl, rfl, rfl, rfl, rfl, by decide +kernel⟩ ?hw ?hc
  case hw => w_witness2
  case hc =>
    refine L2.walk_ofE (l := PySem.Challenge.rw_fitssomewhere_k30_whole_surroundings_of) (n := 63) (k := 12) (x := "_law_script") (CX := L2.CX0) rfl (by decide) (by kernel_rfl) ⟨rfl, by decide, by decide⟩ ?F (fun _ _ _ _ z => z)
    intro w mg fa h Y G hmg0
    obtain ⟨K, KX, c⟩ := Y
    obtain ⟨T, J⟩ := Fs.tp_of KX G c
    have hmg : mg ("law" : PySem.Str) = some (.ref fa) := by
      have e : (HandSHeadRun.topDef (OpenLaw.row PySem.Challenge.rw_fitssomewhere_k30_whole_surroundings_of).prog 52).name = ("law" : PySem.Str) := by kernel_rfl
      rw [← e]
      exact hmg0
    obtain ⟨fd, hb, hF⟩ := Fs.facts (P := (PySem.Challenge.rw_fitssomewhere_k30_whole_surroundings_of).prog) (w := w) (h := h) T J hmg
    exact ⟨K, fd, Fs.SpL K, KX, hb, fun H a ns hl _ hS => Fs.spl_of hS, hF⟩
