import PyProof.Rows.All
import Wide.All
import OpenK.AllK
import Wide.FinOn
import KE.KStateDown
import Lean
import HandS.ForMost
import HandS.More
import HandS.Defaults
import HandS.Head0
import HandS.Head1
import HandS.Head2
import HandS.HeadEnd
import HandS.HeadHook1
import HandS.HeadHook2
import PySem.Challenge.RW_mainfires_k58_whole_fewest_and_alone
import HandS.IsInst
import HandS.Codes
import HandS.Conv
import HandS.Zip
import HandS.Rev
import HandS.Walk
import HandS.Style
import HandS.TupLe
import HandS.TupAny
import HandS.TupMul
import HandS.SortRule
import HandS.WideBits
import KE.GoesEnum
import KE.GoesZip
import KE.GoesMore
import PyProof.SumWalkG
import HandS.SortInts
set_option Elab.async false
set_option linter.all false
set_option maxRecDepth 100000
set_option maxHeartbeats 0
namespace Mf
open PySem PySem.Spec PyProof.Rows L2
/-! the text -/
def top (i : Nat) : Stmt := PySem.Challenge.pw_mainfires_k58_whole_fewest_and_alone.main.body.getD i (.Pass ⟨0, 0, 0, 0⟩)
abbrev s_is_within : Stmt := top 14
abbrev s_is_upto : Stmt := top 15
abbrev s_are_within : Stmt := top 16
abbrev s_is_main : Stmt := top 17
abbrev s_is_plant : Stmt := top 18
abbrev s_is_fault : Stmt := top 19
abbrev s_is_story_of : Stmt := top 20
abbrev s_need_plant : Stmt := top 21
abbrev s_need_story : Stmt := top 22
abbrev s_cap_at : Stmt := top 23
abbrev s_caps_by : Stmt := top 24
abbrev s_draws_by : Stmt := top 25
abbrev s_is_row_of : Stmt := top 26
abbrev s_is_firing_of : Stmt := top 27
abbrev s_need_firing : Stmt := top 28
abbrev s_day_run : Stmt := top 30
abbrev s_run_of : Stmt := top 31
abbrev s_does_keep_up : Stmt := top 32
abbrev s_coal_in : Stmt := top 33
abbrev s_coal_of : Stmt := top 34
abbrev s_steam_by : Stmt := top 35
abbrev s_is_short : Stmt := top 37
abbrev s_short_by : Stmt := top 38
abbrev s_is_stretch : Stmt := top 39
abbrev s_coals_of : Stmt := top 42
abbrev s_row_made : Stmt := top 43
abbrev s_row_coal : Stmt := top 44
abbrev s_best_step : Stmt := top 45
abbrev s_steps_by : Stmt := top 46
abbrev s_plan_by : Stmt := top 47
abbrev s_own_bounds : Stmt := top 48
abbrev s_price_bounds : Stmt := top 49
abbrev s_prices_by : Stmt := top 50
abbrev s_best_plan : Stmt := top 51
abbrev s_cheapest : Stmt := top 52
abbrev s_least_coal : Stmt := top 53
abbrev s_caps_alone : Stmt := top 55
abbrev s_plan_alone : Stmt := top 56
abbrev s_sets_of : Stmt := top 57
abbrev s_short_alone : Stmt := top 58
abbrev s_shows_below : Stmt := top 59
abbrev s_fewest : Stmt := top 60
abbrev s_is_set : Stmt := top 61
abbrev s_does_with : Stmt := top 62
abbrev s_are_shows : Stmt := top 63
abbrev s_fewest_holds : Stmt := top 64
abbrev s_alone : Stmt := top 65
abbrev s_needed : Stmt := top 66
abbrev s__law_cell : Stmt := top 68
abbrev s__law_pen : Stmt := top 69
abbrev s__law_draw : Stmt := top 70
abbrev s__law_plant : Stmt := top 71
abbrev s__law_story : Stmt := top 72
abbrev s__law_caps : Stmt := top 73
abbrev s__law_draws : Stmt := top 74
abbrev s__law_mains : Stmt := top 75
abbrev s__law_keeps : Stmt := top 76
abbrev s__law_pair : Stmt := top 77
abbrev s__law_any_pair : Stmt := top 78
abbrev s__law_right : Stmt := top 79
abbrev s_law : Stmt := top 80
/-! the data of the defs -/
def d_is_within : He.DefD := ⟨("is_within", none), "is_within", "is_within", defArgs s_is_within, defBody s_is_within, defScope s_is_within, [], []⟩
def d_is_upto : He.DefD := ⟨("is_upto", none), "is_upto", "is_upto", defArgs s_is_upto, defBody s_is_upto, defScope s_is_upto, [], []⟩
def d_are_within : He.DefD := ⟨("are_within", none), "are_within", "are_within", defArgs s_are_within, defBody s_are_within, defScope s_are_within, [], []⟩
def d_is_main : He.DefD := ⟨("is_main", none), "is_main", "is_main", defArgs s_is_main, defBody s_is_main, defScope s_is_main, [], []⟩
def d_is_plant : He.DefD := ⟨("is_plant", none), "is_plant", "is_plant", defArgs s_is_plant, defBody s_is_plant, defScope s_is_plant, [], []⟩
def d_is_fault : He.DefD := ⟨("is_fault", none), "is_fault", "is_fault", defArgs s_is_fault, defBody s_is_fault, defScope s_is_fault, [], []⟩
def d_is_story_of : He.DefD := ⟨("is_story_of", none), "is_story_of", "is_story_of", defArgs s_is_story_of, defBody s_is_story_of, defScope s_is_story_of, [], []⟩
def d_need_plant : He.DefD := ⟨("need_plant", none), "need_plant", "need_plant", defArgs s_need_plant, defBody s_need_plant, defScope s_need_plant, [], []⟩
def d_need_story : He.DefD := ⟨("need_story", none), "need_story", "need_story", defArgs s_need_story, defBody s_need_story, defScope s_need_story, [], []⟩
def d_cap_at : He.DefD := ⟨("cap_at", none), "cap_at", "cap_at", defArgs s_cap_at, defBody s_cap_at, defScope s_cap_at, [], []⟩
def d_caps_by : He.DefD := ⟨("caps_by", none), "caps_by", "caps_by", defArgs s_caps_by, defBody s_caps_by, defScope s_caps_by, [], []⟩
def d_draws_by : He.DefD := ⟨("draws_by", none), "draws_by", "draws_by", defArgs s_draws_by, defBody s_draws_by, defScope s_draws_by, [], []⟩
def d_is_row_of : He.DefD := ⟨("is_row_of", none), "is_row_of", "is_row_of", defArgs s_is_row_of, defBody s_is_row_of, defScope s_is_row_of, [], []⟩
def d_is_firing_of : He.DefD := ⟨("is_firing_of", none), "is_firing_of", "is_firing_of", defArgs s_is_firing_of, defBody s_is_firing_of, defScope s_is_firing_of, [], []⟩
def d_need_firing : He.DefD := ⟨("need_firing", none), "need_firing", "need_firing", defArgs s_need_firing, defBody s_need_firing, defScope s_need_firing, [], []⟩
def d_day_run : He.DefD := ⟨("day_run", none), "day_run", "day_run", defArgs s_day_run, defBody s_day_run, defScope s_day_run, [], []⟩
def d_run_of : He.DefD := ⟨("run_of", none), "run_of", "run_of", defArgs s_run_of, defBody s_run_of, defScope s_run_of, [], []⟩
def d_does_keep_up : He.DefD := ⟨("does_keep_up", none), "does_keep_up", "does_keep_up", defArgs s_does_keep_up, defBody s_does_keep_up, defScope s_does_keep_up, [], []⟩
def d_coal_in : He.DefD := ⟨("coal_in", none), "coal_in", "coal_in", defArgs s_coal_in, defBody s_coal_in, defScope s_coal_in, [], []⟩
def d_coal_of : He.DefD := ⟨("coal_of", none), "coal_of", "coal_of", defArgs s_coal_of, defBody s_coal_of, defScope s_coal_of, [], []⟩
def d_steam_by : He.DefD := ⟨("steam_by", none), "steam_by", "steam_by", defArgs s_steam_by, defBody s_steam_by, defScope s_steam_by, [], []⟩
def d_is_short : He.DefD := ⟨("is_short", none), "is_short", "is_short", defArgs s_is_short, defBody s_is_short, defScope s_is_short, [], []⟩
def d_short_by : He.DefD := ⟨("short_by", none), "short_by", "short_by", defArgs s_short_by, defBody s_short_by, defScope s_short_by, [], []⟩
def d_is_stretch : He.DefD := ⟨("is_stretch", none), "is_stretch", "is_stretch", defArgs s_is_stretch, defBody s_is_stretch, defScope s_is_stretch, [], []⟩
def d_coals_of : He.DefD := ⟨("coals_of", none), "coals_of", "coals_of", defArgs s_coals_of, defBody s_coals_of, defScope s_coals_of, [], []⟩
def d_row_made : He.DefD := ⟨("row_made", none), "row_made", "row_made", defArgs s_row_made, defBody s_row_made, defScope s_row_made, [], []⟩
def d_row_coal : He.DefD := ⟨("row_coal", none), "row_coal", "row_coal", defArgs s_row_coal, defBody s_row_coal, defScope s_row_coal, [], []⟩
def d_best_step : He.DefD := ⟨("best_step", none), "best_step", "best_step", defArgs s_best_step, defBody s_best_step, defScope s_best_step, [], []⟩
def d_steps_by : He.DefD := ⟨("steps_by", none), "steps_by", "steps_by", defArgs s_steps_by, defBody s_steps_by, defScope s_steps_by, [], []⟩
def d_plan_by : He.DefD := ⟨("plan_by", none), "plan_by", "plan_by", defArgs s_plan_by, defBody s_plan_by, defScope s_plan_by, [], []⟩
def d_own_bounds : He.DefD := ⟨("own_bounds", none), "own_bounds", "own_bounds", defArgs s_own_bounds, defBody s_own_bounds, defScope s_own_bounds, [], []⟩
def d_price_bounds : He.DefD := ⟨("price_bounds", none), "price_bounds", "price_bounds", defArgs s_price_bounds, defBody s_price_bounds, defScope s_price_bounds, [], []⟩
def d_prices_by : He.DefD := ⟨("prices_by", none), "prices_by", "prices_by", defArgs s_prices_by, defBody s_prices_by, defScope s_prices_by, [], []⟩
def d_best_plan : He.DefD := ⟨("best_plan", none), "best_plan", "best_plan", defArgs s_best_plan, defBody s_best_plan, defScope s_best_plan, [], []⟩
def d_cheapest : He.DefD := ⟨("cheapest", none), "cheapest", "cheapest", defArgs s_cheapest, defBody s_cheapest, defScope s_cheapest, [], []⟩
def d_least_coal : He.DefD := ⟨("least_coal", none), "least_coal", "least_coal", defArgs s_least_coal, defBody s_least_coal, defScope s_least_coal, [], []⟩
def d_caps_alone : He.DefD := ⟨("caps_alone", none), "caps_alone", "caps_alone", defArgs s_caps_alone, defBody s_caps_alone, defScope s_caps_alone, [], []⟩
def d_plan_alone : He.DefD := ⟨("plan_alone", none), "plan_alone", "plan_alone", defArgs s_plan_alone, defBody s_plan_alone, defScope s_plan_alone, [], []⟩
def d_sets_of : He.DefD := ⟨("sets_of", none), "sets_of", "sets_of", defArgs s_sets_of, defBody s_sets_of, defScope s_sets_of, [], []⟩
def d_short_alone : He.DefD := ⟨("short_alone", none), "short_alone", "short_alone", defArgs s_short_alone, defBody s_short_alone, defScope s_short_alone, [], []⟩
def d_shows_below : He.DefD := ⟨("shows_below", none), "shows_below", "shows_below", defArgs s_shows_below, defBody s_shows_below, defScope s_shows_below, [], []⟩
def d_fewest : He.DefD := ⟨("fewest", none), "fewest", "fewest", defArgs s_fewest, defBody s_fewest, defScope s_fewest, [], []⟩
def d_is_set : He.DefD := ⟨("is_set", none), "is_set", "is_set", defArgs s_is_set, defBody s_is_set, defScope s_is_set, [], []⟩
def d_does_with : He.DefD := ⟨("does_with", none), "does_with", "does_with", defArgs s_does_with, defBody s_does_with, defScope s_does_with, [], []⟩
def d_are_shows : He.DefD := ⟨("are_shows", none), "are_shows", "are_shows", defArgs s_are_shows, defBody s_are_shows, defScope s_are_shows, [], []⟩
def d_fewest_holds : He.DefD := ⟨("fewest_holds", none), "fewest_holds", "fewest_holds", defArgs s_fewest_holds, defBody s_fewest_holds, defScope s_fewest_holds, [], []⟩
def d_alone : He.DefD := ⟨("alone", none), "alone", "alone", defArgs s_alone, defBody s_alone, defScope s_alone, [], []⟩
def d_needed : He.DefD := ⟨("needed", none), "needed", "needed", defArgs s_needed, defBody s_needed, defScope s_needed, [], []⟩
def d__law_cell : He.DefD := ⟨("_law_cell", none), "_law_cell", "_law_cell", defArgs s__law_cell, defBody s__law_cell, defScope s__law_cell, [], []⟩
def d__law_pen : He.DefD := ⟨("_law_pen", none), "_law_pen", "_law_pen", defArgs s__law_pen, defBody s__law_pen, defScope s__law_pen, [], []⟩
def d__law_draw : He.DefD := ⟨("_law_draw", none), "_law_draw", "_law_draw", defArgs s__law_draw, defBody s__law_draw, defScope s__law_draw, [], []⟩
def d__law_plant : He.DefD := ⟨("_law_plant", none), "_law_plant", "_law_plant", defArgs s__law_plant, defBody s__law_plant, defScope s__law_plant, [], []⟩
def d__law_story : He.DefD := ⟨("_law_story", none), "_law_story", "_law_story", defArgs s__law_story, defBody s__law_story, defScope s__law_story, [], []⟩
def d__law_caps : He.DefD := ⟨("_law_caps", none), "_law_caps", "_law_caps", defArgs s__law_caps, defBody s__law_caps, defScope s__law_caps, [], []⟩
def d__law_draws : He.DefD := ⟨("_law_draws", none), "_law_draws", "_law_draws", defArgs s__law_draws, defBody s__law_draws, defScope s__law_draws, [], []⟩
def d__law_mains : He.DefD := ⟨("_law_mains", none), "_law_mains", "_law_mains", defArgs s__law_mains, defBody s__law_mains, defScope s__law_mains, [], []⟩
def d__law_keeps : He.DefD := ⟨("_law_keeps", none), "_law_keeps", "_law_keeps", defArgs s__law_keeps, defBody s__law_keeps, defScope s__law_keeps, [], []⟩
def d__law_pair : He.DefD := ⟨("_law_pair", none), "_law_pair", "_law_pair", defArgs s__law_pair, defBody s__law_pair, defScope s__law_pair, [], []⟩
def d__law_any_pair : He.DefD := ⟨("_law_any_pair", none), "_law_any_pair", "_law_any_pair", defArgs s__law_any_pair, defBody s__law_any_pair, defScope s__law_any_pair, [], []⟩
def d__law_right : He.DefD := ⟨("_law_right", none), "_law_right", "_law_right", defArgs s__law_right, defBody s__law_right, defScope s__law_right, [], []⟩
def d_law : He.DefD := ⟨("law", none), "law", "law", defArgs s_law, defBody s_law, defScope s_law, [], []⟩
def fn0 : List He.DefD := [d_is_within, d_is_upto, d_are_within, d_is_main, d_is_plant, d_is_fault, d_is_story_of, d_need_plant, d_need_story, d_cap_at, d_caps_by, d_draws_by, d_is_row_of, d_is_firing_of, d_need_firing, d_day_run, d_run_of, d_does_keep_up, d_coal_in, d_coal_of, d_steam_by, d_is_short, d_short_by, d_is_stretch, d_coals_of, d_row_made, d_row_coal, d_best_step, d_steps_by, d_plan_by]
def fn1 : List He.DefD := [d_own_bounds, d_price_bounds, d_prices_by, d_best_plan, d_cheapest, d_least_coal, d_caps_alone, d_plan_alone, d_sets_of, d_short_alone, d_shows_below, d_fewest, d_is_set, d_does_with, d_are_shows, d_fewest_holds, d_alone, d_needed, d__law_cell, d__law_pen, d__law_draw, d__law_plant, d__law_story, d__law_caps, d__law_draws, d__law_mains, d__law_keeps, d__law_pair, d__law_any_pair, d__law_right]
def fn2 : List He.DefD := [d_law]
def fn : List He.DefD := fn0 ++ fn1 ++ fn2
def fa0 : List He.Fa := [.glo "is_within", .glo "is_upto", .glo "are_within", .glo "is_main", .glo "is_plant", .glo "is_fault", .glo "is_story_of", .glo "need_plant", .glo "need_story", .glo "cap_at", .glo "caps_by", .glo "draws_by", .glo "is_row_of", .glo "is_firing_of", .glo "need_firing", .glo "day_run", .glo "run_of", .glo "does_keep_up", .glo "coal_in", .glo "coal_of", .glo "steam_by", .glo "is_short", .glo "short_by", .glo "is_stretch", .glo "coals_of", .glo "row_made", .glo "row_coal", .glo "best_step", .glo "steps_by", .glo "plan_by"]
def fa1 : List He.Fa := [.glo "own_bounds", .glo "price_bounds", .glo "prices_by", .glo "best_plan", .glo "cheapest", .glo "least_coal", .glo "caps_alone", .glo "plan_alone", .glo "sets_of", .glo "short_alone", .glo "shows_below", .glo "fewest", .glo "is_set", .glo "does_with", .glo "are_shows", .glo "fewest_holds", .glo "alone", .glo "needed", .glo "_law_cell", .glo "_law_pen", .glo "_law_draw", .glo "_law_plant", .glo "_law_story", .glo "_law_caps", .glo "_law_draws", .glo "_law_mains", .glo "_law_keeps", .glo "_law_pair", .glo "_law_any_pair", .glo "_law_right"]
def fa2 : List He.Fa := [.glo "law", .free "all", .free "bool", .free "dict", .free "divmod", .free "enumerate", .free "int", .free "isinstance", .free "len", .free "list", .free "max", .free "min", .free "range", .free "reversed", .free "sorted", .free "str", .free "sum", .free "tuple", .free "zip", .int "MOST_BOILERS" 4, .int "MOST_ENGINES" 4, .int "MOST_MAIN" 40, .int "MOST_HOURS" 8, .int "MOST_EXTRA" 20, .int "MOST_FAULTS" 4, .glo "FAULTS"]
def fa : List He.Fa := fa0 ++ fa1 ++ fa2
def loose0 : List PySem.Str := ["__name__", "MainError", "NoPlant", "NoStory", "NoFiring", "NoSet", "MOST_BOILERS", "MOST_ENGINES", "MOST_MAIN", "MOST_HOURS", "MOST_EXTRA", "MOST_FAULTS", "FAULTS", "is_within", "is_upto", "are_within", "is_main", "is_plant", "is_fault", "is_story_of", "need_plant", "need_story", "cap_at", "caps_by", "draws_by", "is_row_of", "is_firing_of", "need_firing", "day_run", "run_of"]
def loose1 : List PySem.Str := ["does_keep_up", "coal_in", "coal_of", "steam_by", "is_short", "short_by", "is_stretch", "NO_END", "coals_of", "row_made", "row_coal", "best_step", "steps_by", "plan_by", "own_bounds", "price_bounds", "prices_by", "best_plan", "cheapest", "least_coal", "caps_alone", "plan_alone", "sets_of", "short_alone", "shows_below", "fewest", "is_set", "does_with", "are_shows", "fewest_holds"]
def loose2 : List PySem.Str := ["alone", "needed", "_law_cell", "_law_pen", "_law_draw", "_law_plant", "_law_story", "_law_caps", "_law_draws", "_law_mains", "_law_keeps", "_law_pair", "_law_any_pair", "_law_right"]
def loose : List PySem.Str := loose0 ++ loose1 ++ loose2
abbrev R : PySem.W.OpenRow := PySem.W.OpenLaw.row PySem.Challenge.rw_mainfires_k58_whole_fewest_and_alone
def exq (K : PySem.W.Frag) : Bool := He.tupB K "FAULTS" [.str "out", .str "scaled"]
abbrev Al : Type := He.AlD × Bool
def obsK (K : PySem.W.Frag) : Al := (He.obsD fa fn K, exq K)
def hk : PySem.W.Hook where
  α := Al
  obs := fun s => obsK (He.frG s.heap.get? (He.asD s.heap.get? 4))
  val := fun _ => (He.valD fn, true)
  says := fun _ h => ∃ K : PySem.W.Frag, K.In h ∧ obsK K = (He.valD fn, true)
  of := fun _ _ e => ⟨_, He.frG_in, e⟩
  keeps := fun _ _ _ ⟨K, hK, c⟩ k => ⟨K, PySem.W.Frag.In.keeps hK k, c⟩
def ob (s : PySem.W.SharedT) : Al := obsK (He.frG (HandSHeadRun.getT s) (He.asD (HandSHeadRun.getT s) 4))
theorem ob_eq (s : PySem.W.SharedT) : ob s = hk.obs s.abs := by
  have e : HandSHeadRun.getT s = s.abs.heap.get? := funext (HandSHeadRun.getT_eq s)
  unfold ob
  rw [e]
  rfl
theorem run (w : World) : HandSHeadRun.RunEq R (PySem.W.view R.prog [80]) hk ob 6000 loose w := by
  intro os
  kernel_rfl
end Mf
/-! data, what stands for it in a heap, environments over it -/
namespace Mf
open PySem PySem.Spec PyProof.Rows L2
inductive D where
  | non | bl (b : Bool) | int (i : Int) | str (x : Str) | ty (n : String) | tup (xs : List D) | lst (xs : List D) | scr (ns : List Int) | dic (ks : List Int) (xs : List D)
def zipK (ks : List Int) (vs : List V) : List (Key × V) := (ks.map Sum.inl).zip vs
mutual
def Den (K : PySem.W.Frag) (F : Hp) : D → V → Prop
  | .non, v => v = .non
  | .bl b, v => v = .bl b
  | .int i, v => v = .int i
  | .str x, v => v = .str x
  | .ty n, v => v = .ty n
  | .tup ds, v => ∃ p vs, v = .ref p ∧ F p = some (.tup vs) ∧ Dens K F ds vs
  | .lst ds, v => ∃ p vs, v = .ref p ∧ F p = some (.lst vs) ∧ Dens K F ds vs
  | .scr ns, v => ∃ p, v = .ref p ∧ SqL K F p (ns.map V.int)
  | .dic ks ds, v => ∃ p vs, v = .ref p ∧ F p = some (.dK (zipK ks vs)) ∧ ks.length = vs.length ∧ Dens K F ds vs
def Dens (K : PySem.W.Frag) (F : Hp) : List D → List V → Prop
  | [], vs => vs = []
  | d :: ds, vs => ∃ v r, vs = v :: r ∧ Den K F d v ∧ Dens K F ds r
end
theorem sqT_mono {K : PySem.W.Frag} {F F' : Hp} {p : Addr} {vs : List V} (e : Same F F') (h : F p = some (.tup vs)) : SqT K F' p vs := .inl (.inl (e _ _ h))
theorem sqL_mono {K : PySem.W.Frag} {F F' : Hp} {p : Addr} {vs : List V} (e : Same F F') (h : SqL K F p vs) : SqL K F' p vs := e.seq h
mutual
theorem Den.mono {K : PySem.W.Frag} {F F' : Hp} (e : Same F F') : ∀ (d : D) {v : V}, Den K F d v → Den K F' d v
  | .non, _, h => by unfold Den at h ⊢; exact h
  | .bl _, _, h => by unfold Den at h ⊢; exact h
  | .int _, _, h => by unfold Den at h ⊢; exact h
  | .str _, _, h => by unfold Den at h ⊢; exact h
  | .ty _, _, h => by unfold Den at h ⊢; exact h
  | .tup ds, _, h => by
    unfold Den at h ⊢
    obtain ⟨p, vs, e1, h1, h2⟩ := h
    exact ⟨p, vs, e1, e _ _ h1, Dens.mono e ds h2⟩
  | .lst ds, _, h => by
    unfold Den at h ⊢
    obtain ⟨p, vs, e1, h1, h2⟩ := h
    exact ⟨p, vs, e1, e _ _ h1, Dens.mono e ds h2⟩
  | .scr ns, _, h => by
    unfold Den at h ⊢
    obtain ⟨p, e1, h1⟩ := h
    exact ⟨p, e1, e.seq h1⟩
  | .dic ks ds, _, h => by
    unfold Den at h ⊢
    obtain ⟨p, vs, e1, h1, h3, h2⟩ := h
    exact ⟨p, vs, e1, e _ _ h1, h3, Dens.mono e ds h2⟩
theorem Dens.mono {K : PySem.W.Frag} {F F' : Hp} (e : Same F F') : ∀ (ds : List D) {vs : List V}, Dens K F ds vs → Dens K F' ds vs
  | [], _, h => by unfold Dens at h ⊢; exact h
  | d :: ds, _, h => by
    unfold Dens at h ⊢
    obtain ⟨v, r, e1, h1, h2⟩ := h
    exact ⟨v, r, e1, Den.mono e d h1, Dens.mono e ds h2⟩
end
theorem den_int {K : PySem.W.Frag} {F : Hp} {i : Int} {v : V} (h : Den K F (.int i) v) : v = .int i := by unfold Den at h; exact h
theorem den_bl {K : PySem.W.Frag} {F : Hp} {i : Bool} {v : V} (h : Den K F (.bl i) v) : v = .bl i := by unfold Den at h; exact h
theorem den_str {K : PySem.W.Frag} {F : Hp} {i : Str} {v : V} (h : Den K F (.str i) v) : v = .str i := by unfold Den at h; exact h
theorem den_non {K : PySem.W.Frag} {F : Hp} {v : V} (h : Den K F .non v) : v = .non := by unfold Den at h; exact h
theorem den_ty {K : PySem.W.Frag} {F : Hp} {n : String} {v : V} (h : Den K F (.ty n) v) : v = .ty n := by unfold Den at h; exact h
theorem den_tup {K : PySem.W.Frag} {F : Hp} {ds : List D} {v : V} (h : Den K F (.tup ds) v) : ∃ p vs, v = .ref p ∧ F p = some (.tup vs) ∧ Dens K F ds vs := by unfold Den at h; exact h
theorem den_scr {K : PySem.W.Frag} {F : Hp} {ns : List Int} {v : V} (h : Den K F (.scr ns) v) : ∃ p, v = .ref p ∧ SqL K F p (ns.map V.int) := by unfold Den at h; exact h
theorem mk_scr {K : PySem.W.Frag} {F : Hp} {ns : List Int} {p : Addr} (h : SqL K F p (ns.map V.int)) : Den K F (.scr ns) (.ref p) := by unfold Den; exact ⟨p, rfl, h⟩
theorem den_lst {K : PySem.W.Frag} {F : Hp} {ds : List D} {v : V} (h : Den K F (.lst ds) v) : ∃ p vs, v = .ref p ∧ F p = some (.lst vs) ∧ Dens K F ds vs := by unfold Den at h; exact h
theorem den_dic {K : PySem.W.Frag} {F : Hp} {ks : List Int} {ds : List D} {v : V} (h : Den K F (.dic ks ds) v) : ∃ p vs, v = .ref p ∧ F p = some (.dK (zipK ks vs)) ∧ ks.length = vs.length ∧ Dens K F ds vs := by unfold Den at h; exact h
theorem mk_int {K : PySem.W.Frag} {F : Hp} {i : Int} : Den K F (.int i) (.int i) := by unfold Den; rfl
theorem mk_bl {K : PySem.W.Frag} {F : Hp} {i : Bool} : Den K F (.bl i) (.bl i) := by unfold Den; rfl
theorem mk_str {K : PySem.W.Frag} {F : Hp} {i : Str} : Den K F (.str i) (.str i) := by unfold Den; rfl
theorem mk_non {K : PySem.W.Frag} {F : Hp} : Den K F .non .non := by unfold Den; rfl
theorem mk_ty {K : PySem.W.Frag} {F : Hp} {n : String} : Den K F (.ty n) (.ty n) := by unfold Den; rfl
theorem mk_tup {K : PySem.W.Frag} {F : Hp} {ds : List D} {p : Addr} {vs : List V} (h : F p = some (.tup vs)) (h2 : Dens K F ds vs) : Den K F (.tup ds) (.ref p) := by unfold Den; exact ⟨p, vs, rfl, h, h2⟩
theorem mk_lst {K : PySem.W.Frag} {F : Hp} {ds : List D} {p : Addr} {vs : List V} (h : F p = some (.lst vs)) (h2 : Dens K F ds vs) : Den K F (.lst ds) (.ref p) := by unfold Den; exact ⟨p, vs, rfl, h, h2⟩
theorem mk_dic {K : PySem.W.Frag} {F : Hp} {ks : List Int} {ds : List D} {p : Addr} {vs : List V} (h : F p = some (.dK (zipK ks vs))) (hl : ks.length = vs.length) (h2 : Dens K F ds vs) : Den K F (.dic ks ds) (.ref p) := by unfold Den; exact ⟨p, vs, rfl, h, hl, h2⟩
theorem dens_nil {K : PySem.W.Frag} {F : Hp} : Dens K F [] [] := by unfold Dens; rfl
theorem dens_cons {K : PySem.W.Frag} {F : Hp} {d : D} {ds : List D} {v : V} {vs : List V} (h : Den K F d v) (h2 : Dens K F ds vs) : Dens K F (d :: ds) (v :: vs) := by unfold Dens; exact ⟨v, vs, rfl, h, h2⟩
theorem dens_nil' {K : PySem.W.Frag} {F : Hp} {vs : List V} (h : Dens K F [] vs) : vs = [] := by unfold Dens at h; exact h
theorem dens_cons' {K : PySem.W.Frag} {F : Hp} {d : D} {ds : List D} {vs : List V} (h : Dens K F (d :: ds) vs) : ∃ v r, vs = v :: r ∧ Den K F d v ∧ Dens K F ds r := by unfold Dens at h; exact h
section
variable {K : PySem.W.Frag} {F : Hp}
theorem Dens.len : ∀ {ds : List D} {vs : List V}, Dens K F ds vs → vs.length = ds.length
  | [], vs, h => by rw [dens_nil' h]; rfl
  | d :: ds, vs, h => by
    obtain ⟨v, r, rfl, _, h2⟩ := dens_cons' h
    rw [List.length_cons, List.length_cons, Dens.len h2]
theorem Dens.get : ∀ {ds : List D} {vs : List V} {i : Nat} {d : D}, Dens K F ds vs → ds[i]? = some d → ∃ v, vs[i]? = some v ∧ Den K F d v
  | [], _, i, d, _, e => by simp at e
  | x :: ds, vs, 0, d, h, e => by
    obtain ⟨v, r, rfl, h1, h2⟩ := dens_cons' h
    have e' : x = d := Option.some.inj e
    subst e'
    exact ⟨v, rfl, h1⟩
  | x :: ds, vs, i + 1, d, h, e => by
    obtain ⟨v, r, rfl, h1, h2⟩ := dens_cons' h
    obtain ⟨u, h3, h4⟩ := Dens.get (i := i) (d := d) h2 (by simpa using e)
    exact ⟨u, by simpa using h3, h4⟩
theorem Dens.at : ∀ {ds : List D} {vs : List V} {i : Nat} {v : V}, Dens K F ds vs → vs[i]? = some v → ∃ d, ds[i]? = some d ∧ Den K F d v
  | [], vs, i, v, h, e => by rw [dens_nil' h] at e; simp at e
  | x :: ds, vs, 0, v, h, e => by
    obtain ⟨u, r, rfl, h1, h2⟩ := dens_cons' h
    have e' : u = v := Option.some.inj e
    subst e'
    exact ⟨x, rfl, h1⟩
  | x :: ds, vs, i + 1, v, h, e => by
    obtain ⟨u, r, rfl, h1, h2⟩ := dens_cons' h
    obtain ⟨d, h3, h4⟩ := Dens.at (i := i) (v := v) h2 (by simpa using e)
    exact ⟨d, by simpa using h3, h4⟩
theorem Dens.app : ∀ {ds es : List D} {vs us : List V}, Dens K F ds vs → Dens K F es us → Dens K F (ds ++ es) (vs ++ us)
  | [], _, vs, _, h, g => by rw [dens_nil' h]; exact g
  | x :: ds, _, vs, _, h, g => by
    obtain ⟨u, r, rfl, h1, h2⟩ := dens_cons' h
    exact dens_cons h1 (Dens.app h2 g)
theorem Dens.set : ∀ {ds : List D} {vs : List V} (i : Nat) {d : D} {v : V}, Dens K F ds vs → Den K F d v → Dens K F (ds.set i d) (vs.set i v)
  | [], vs, i, _, _, h, _ => by rw [dens_nil' h]; exact dens_nil
  | x :: ds, vs, 0, _, _, h, g => by
    obtain ⟨u, r, rfl, h1, h2⟩ := dens_cons' h
    exact dens_cons g h2
  | x :: ds, vs, i + 1, _, _, h, g => by
    obtain ⟨u, r, rfl, h1, h2⟩ := dens_cons' h
    exact dens_cons h1 (Dens.set i h2 g)
theorem Dens.take : ∀ {ds : List D} {vs : List V} (n : Nat), Dens K F ds vs → Dens K F (ds.take n) (vs.take n)
  | _, _, 0, _ => dens_nil
  | [], vs, n + 1, h => by rw [dens_nil' h]; exact dens_nil
  | x :: ds, vs, n + 1, h => by
    obtain ⟨u, r, rfl, h1, h2⟩ := dens_cons' h
    exact dens_cons h1 (Dens.take n h2)
theorem Dens.drop : ∀ {ds : List D} {vs : List V} (n : Nat), Dens K F ds vs → Dens K F (ds.drop n) (vs.drop n)
  | _, _, 0, h => h
  | [], vs, n + 1, h => by rw [dens_nil' h]; exact dens_nil
  | x :: ds, vs, n + 1, h => by
    obtain ⟨u, r, rfl, h1, h2⟩ := dens_cons' h
    exact Dens.drop n h2
theorem Dens.ints : ∀ {ns : List Int} {vs : List V}, Dens K F (ns.map D.int) vs → vs = ns.map V.int
  | [], vs, h => dens_nil' h
  | n :: ns, vs, h => by
    obtain ⟨u, r, rfl, h1, h2⟩ := dens_cons' (d := D.int n) (ds := ns.map D.int) h
    rw [den_int h1, Dens.ints h2]
    rfl
theorem Dens.bls : ∀ {ns : List Bool} {vs : List V}, Dens K F (ns.map D.bl) vs → vs = ns.map V.bl
  | [], vs, h => dens_nil' h
  | n :: ns, vs, h => by
    obtain ⟨u, r, rfl, h1, h2⟩ := dens_cons' (d := D.bl n) (ds := ns.map D.bl) h
    rw [den_bl h1, Dens.bls h2]
    rfl
theorem dens_ints : ∀ {ns : List Int}, Dens K F (ns.map D.int) (ns.map V.int)
  | [] => dens_nil
  | n :: ns => dens_cons mk_int (dens_ints (ns := ns))
end
/-! ### environments -/
inductive Sl where
  | d (x : D)
  | own (x : D)
abbrev En := List (Option Sl)
def Cell (K : PySem.W.Frag) (F : Hp) (x : D) (o : HO) : Prop := match x with
  | .lst ds => ∃ vs, o = .lst vs ∧ Dens K F ds vs
  | .dic ks ds => ∃ vs, o = .dK (zipK ks vs) ∧ ks.length = vs.length ∧ Dens K F ds vs
  | _ => False
theorem Cell.mono {K : PySem.W.Frag} {F F' : Hp} (e : Same F F') {x : D} {o : HO} (h : Cell K F x o) : Cell K F' x o := by
  cases x with
  | lst ds =>
    obtain ⟨vs, h1, h2⟩ := h
    exact ⟨vs, h1, Dens.mono e _ h2⟩
  | dic ks ds =>
    obtain ⟨vs, h1, h3, h2⟩ := h
    exact ⟨vs, h1, h3, Dens.mono e _ h2⟩
  | _ => exact h
theorem Cell.den {K : PySem.W.Frag} {F : Hp} {x : D} {o : HO} {p : Addr} (h : Cell K F x o) (hp : F p = some o) : Den K F x (.ref p) := by
  cases x with
  | lst ds =>
    obtain ⟨vs, rfl, h2⟩ := h
    exact mk_lst hp h2
  | dic ks ds =>
    obtain ⟨vs, rfl, h3, h2⟩ := h
    exact mk_dic hp h3 h2
  | _ => exact h.elim
structure S0 (K : PySem.W.Frag) (F0 H0 F H : Hp) (ρ : En) (σ : L2.St) : Prop where
  f : Same F0 F
  fh : Same F H
  h : Same H0 H
  g : ∀ p, F0 p = none → H0 p ≠ none → F p = none
  len : σ.length = ρ.length
  d : ∀ (i : Nat) x, ρ[i]? = some (some (.d x)) → ∃ v, σ[i]? = some (some v) ∧ Den K F x v
  o : ∀ (i : Nat) x, ρ[i]? = some (some (.own x)) → ∃ p o, σ[i]? = some (some (.ref p)) ∧ F p = none ∧ H0 p = none ∧ H p = some o ∧ Cell K F x o
  a : ∀ (i j : Nat) x y p, ρ[i]? = some (some (.own x)) → ρ[j]? = some (some (.own y)) → σ[i]? = some (some (.ref p)) → σ[j]? = some (some (.ref p)) → i = j
theorem same_new {H : Hp} {p : Addr} {o : HO} (h : H p = none) : Same H (upd H p o) := fun b x e => by
  rw [upd_ne (ne_of_none e h)]
  exact e
theorem same_upd2 {F H : Hp} {p : Addr} {o : HO} (e : Same F H) : Same (upd F p o) (upd H p o) := fun b x h => by
  by_cases hb : b = p
  · subst hb
    rw [upd_same] at h ⊢
    exact h
  · rw [upd_ne hb] at h ⊢
    exact e b x h
section
variable {K : PySem.W.Frag} {F0 H0 F H : Hp} {ρ : En} {σ : L2.St}
theorem S0.free (s : S0 K F0 H0 F H ρ σ) {p : Addr} (h : H p = none) : F p = none := s.fh.free h
/-- a new thing, frozen at once -/
theorem S0.new (s : S0 K F0 H0 F H ρ σ) {p : Addr} {u : HO} (h : H p = none) : S0 K F0 H0 (upd F p u) (upd H p u) ρ σ where
  f := s.f.trans (same_new (s.free h))
  fh := same_upd2 s.fh
  h := s.h.trans (same_new h)
  g := fun q h1 h2 => by
    have hq : q ≠ p := fun e => by
      subst e
      exact h2 (s.h.free h)
    rw [upd_ne hq]
    exact s.g q h1 h2
  len := s.len
  d := fun i x e => by
    obtain ⟨v, h1, h2⟩ := s.d i x e
    exact ⟨v, h1, Den.mono (same_new (s.free h)) x h2⟩
  o := fun i x e => by
    obtain ⟨q, o, h1, h2, h3, h4, h5⟩ := s.o i x e
    have hq : q ≠ p := ne_of_none h4 h
    exact ⟨q, o, h1, by rw [upd_ne hq]; exact h2, h3, by rw [upd_ne hq]; exact h4, h5.mono (same_new (s.free h))⟩
  a := s.a
/-- a new thing, not frozen -/
theorem S0.newO (s : S0 K F0 H0 F H ρ σ) {p : Addr} {u : HO} (h : H p = none) : S0 K F0 H0 F (upd H p u) ρ σ where
  f := s.f
  fh := s.fh.trans (same_new h)
  h := s.h.trans (same_new h)
  g := s.g
  len := s.len
  d := s.d
  o := fun i x e => by
    obtain ⟨q, o, h1, h2, h3, h4, h5⟩ := s.o i x e
    have hq : q ≠ p := ne_of_none h4 h
    exact ⟨q, o, h1, h2, h3, by rw [upd_ne hq]; exact h4, h5⟩
  a := s.a
theorem S0.setD (s : S0 K F0 H0 F H ρ σ) {i : Nat} {x : D} {v : V} (h : Den K F x v) : S0 K F0 H0 F H (ρ.set i (some (.d x))) (σ.set i (some v)) where
  f := s.f
  fh := s.fh
  h := s.h
  g := s.g
  len := by rw [List.length_set, List.length_set, s.len]
  d := fun j y e => by
    by_cases hj : i = j
    · subst hj
      by_cases hl : i < ρ.length
      · rw [List.getElem?_set_self hl] at e
        cases e
        exact ⟨v, List.getElem?_set_self (by rw [s.len]; exact hl), h⟩
      · rw [List.getElem?_eq_none (by rw [List.length_set]; omega)] at e
        cases e
    · rw [List.getElem?_set_ne hj] at e ⊢
      exact s.d j y e
  o := fun j y e => by
    by_cases hj : i = j
    · subst hj
      by_cases hl : i < ρ.length
      · rw [List.getElem?_set_self hl] at e
        cases e
      · rw [List.getElem?_eq_none (by rw [List.length_set]; omega)] at e
        cases e
    · rw [List.getElem?_set_ne hj] at e ⊢
      exact s.o j y e
  a := fun j k y z p ej ek e1 e2 => by
    have nj : i ≠ j := fun hj => by
      subst hj
      by_cases hl : i < ρ.length
      · rw [List.getElem?_set_self hl] at ej
        cases ej
      · rw [List.getElem?_eq_none (by rw [List.length_set]; omega)] at ej
        cases ej
    have nk : i ≠ k := fun hj => by
      subst hj
      by_cases hl : i < ρ.length
      · rw [List.getElem?_set_self hl] at ek
        cases ek
      · rw [List.getElem?_eq_none (by rw [List.length_set]; omega)] at ek
        cases ek
    rw [List.getElem?_set_ne nj] at ej e1
    rw [List.getElem?_set_ne nk] at ek e2
    exact s.a j k y z p ej ek e1 e2
theorem S0.setO (s : S0 K F0 H0 F H ρ σ) {i : Nat} {x : D} {p : Addr} {u : HO} (hf : F p = none) (h0 : H0 p = none) (hp : H p = some u) (hc : Cell K F x u)
    (hd : ∀ (j : Nat) y, ρ[j]? = some (some (.own y)) → σ[j]? ≠ some (some (.ref p))) : S0 K F0 H0 F H (ρ.set i (some (.own x))) (σ.set i (some (.ref p))) where
  f := s.f
  fh := s.fh
  h := s.h
  g := s.g
  len := by rw [List.length_set, List.length_set, s.len]
  d := fun j y e => by
    by_cases hj : i = j
    · subst hj
      by_cases hl : i < ρ.length
      · rw [List.getElem?_set_self hl] at e
        cases e
      · rw [List.getElem?_eq_none (by rw [List.length_set]; omega)] at e
        cases e
    · rw [List.getElem?_set_ne hj] at e ⊢
      exact s.d j y e
  o := fun j y e => by
    by_cases hj : i = j
    · subst hj
      by_cases hl : i < ρ.length
      · rw [List.getElem?_set_self hl] at e
        cases e
        exact ⟨p, u, List.getElem?_set_self (by rw [s.len]; exact hl), hf, h0, hp, hc⟩
      · rw [List.getElem?_eq_none (by rw [List.length_set]; omega)] at e
        cases e
    · rw [List.getElem?_set_ne hj] at e ⊢
      exact s.o j y e
  a := fun j k y z q ej ek e1 e2 => by
    by_cases hj : i = j
    · by_cases hk : i = k
      · rw [← hj, ← hk]
      · subst hj
        rw [List.getElem?_set_ne hk] at ek e2
        by_cases hl : i < σ.length
        · rw [List.getElem?_set_self hl] at e1
          cases e1
          exact absurd e2 (hd k z ek)
        · rw [List.getElem?_eq_none (by rw [List.length_set]; omega)] at e1
          cases e1
    · by_cases hk : i = k
      · subst hk
        rw [List.getElem?_set_ne hj] at ej e1
        by_cases hl : i < σ.length
        · rw [List.getElem?_set_self hl] at e2
          cases e2
          exact absurd e1 (hd j y ej)
        · rw [List.getElem?_eq_none (by rw [List.length_set]; omega)] at e2
          cases e2
      · rw [List.getElem?_set_ne hj] at ej e1
        rw [List.getElem?_set_ne hk] at ek e2
        exact s.a j k y z q ej ek e1 e2
/-- an owned thing changes -/
theorem S0.mut (s : S0 K F0 H0 F H ρ σ) {i : Nat} {x y : D} {p : Addr} {u : HO} (hx : ρ[i]? = some (some (.own x))) (hp : σ[i]? = some (some (.ref p))) (hc : Cell K F y u) : S0 K F0 H0 F (upd H p u) (ρ.set i (some (.own y))) σ := by
  obtain ⟨p', o, e1, e2, e3, e4, e5⟩ := s.o i x hx
  rw [hp] at e1
  cases e1
  have hl : i < ρ.length := (List.getElem?_eq_some_iff.mp hx).1
  refine ⟨s.f, fun b w e => ?_, fun b w e => ?_, s.g, by rw [List.length_set, s.len], fun j z e => ?_, fun j z e => ?_, fun j k y1 z q ej ek e1 e2 => ?_⟩
  · have nb : b ≠ p := ne_of_none e e2
    rw [upd_ne nb]
    exact s.fh b w e
  · have nb : b ≠ p := ne_of_none e e3
    rw [upd_ne nb]
    exact s.h b w e
  · by_cases hj : i = j
    · subst hj
      rw [List.getElem?_set_self hl] at e
      cases e
    · rw [List.getElem?_set_ne hj] at e
      exact s.d j z e
  · by_cases hj : i = j
    · subst hj
      rw [List.getElem?_set_self hl] at e
      cases e
      exact ⟨p, u, hp, e2, e3, upd_same, hc⟩
    · rw [List.getElem?_set_ne hj] at e
      obtain ⟨q, o', a1, a2, a3, a4, a5⟩ := s.o j z e
      have nq : q ≠ p := fun z' => by
        subst z'
        exact hj (s.a i j _ _ _ hx e hp a1)
      exact ⟨q, o', a1, a2, a3, by rw [upd_ne nq]; exact a4, a5⟩
  · have own_of : ∀ (k : Nat) z, (ρ.set i (some (Sl.own y)))[k]? = some (some (.own z)) → ∃ z', ρ[k]? = some (some (.own z')) := fun k z e => by
      by_cases hk : i = k
      · subst hk
        exact ⟨_, hx⟩
      · rw [List.getElem?_set_ne hk] at e
        exact ⟨_, e⟩
    obtain ⟨_, b1⟩ := own_of j _ ej
    obtain ⟨_, b2⟩ := own_of k _ ek
    exact s.a j k _ _ q b1 b2 e1 e2
/-- an owned thing is frozen -/
theorem S0.frz (s : S0 K F0 H0 F H ρ σ) {i : Nat} {x : D} (hx : ρ[i]? = some (some (.own x))) : ∃ F', Same F F' ∧ S0 K F0 H0 F' H (ρ.set i (some (.d x))) σ := by
  obtain ⟨p, o, e1, e2, e3, e4, e5⟩ := s.o i x hx
  have hl : i < ρ.length := (List.getElem?_eq_some_iff.mp hx).1
  have sm : Same F (upd F p o) := same_new e2
  refine ⟨upd F p o, sm, s.f.trans sm, fun b w e => ?_, s.h, fun q h1 h2 => ?_, by rw [List.length_set, s.len], fun j z e => ?_, fun j z e => ?_, fun j k y1 z q ej ek b1 b2 => ?_⟩
  · by_cases hb : b = p
    · subst hb
      rw [upd_same] at e
      rw [e4, e]
    · rw [upd_ne hb] at e
      exact s.fh b w e
  · have hq : q ≠ p := fun z => by
      subst z
      exact h2 e3
    rw [upd_ne hq]
    exact s.g q h1 h2
  · by_cases hj : i = j
    · subst hj
      rw [List.getElem?_set_self hl] at e
      cases e
      exact ⟨.ref p, e1, (e5.mono sm).den upd_same⟩
    · rw [List.getElem?_set_ne hj] at e
      obtain ⟨v, h1, h2⟩ := s.d j z e
      exact ⟨v, h1, Den.mono sm z h2⟩
  · by_cases hj : i = j
    · subst hj
      rw [List.getElem?_set_self hl] at e
      cases e
    · rw [List.getElem?_set_ne hj] at e
      obtain ⟨q, o', a1, a2, a3, a4, a5⟩ := s.o j z e
      have nq : q ≠ p := fun z' => by
        subst z'
        exact hj (s.a i j _ _ _ hx e e1 a1)
      exact ⟨q, o', a1, by rw [upd_ne nq]; exact a2, a3, a4, a5.mono sm⟩
  · have own_of : ∀ (k : Nat) z, (ρ.set i (some (Sl.d x)))[k]? = some (some (.own z)) → ρ[k]? = some (some (.own z)) := fun k z e => by
      by_cases hk : i = k
      · subst hk
        rw [List.getElem?_set_self hl] at e
        cases e
      · rw [List.getElem?_set_ne hk] at e
        exact e
    exact s.a j k _ _ q (own_of j _ ej) (own_of k _ ek) b1 b2
end
/-! ### what a call leaves -/
structure Stp (F H F' H' : Hp) : Prop where
  f : Same F F'
  fh : Same F' H'
  h : Same H H'
  g : ∀ p, F p = none → H p ≠ none → F' p = none
theorem S0.stp {K : PySem.W.Frag} {F0 H0 F H : Hp} {ρ : En} {σ : L2.St} (s : S0 K F0 H0 F H ρ σ) : Stp F0 H0 F H := ⟨s.f, s.fh, s.h, s.g⟩
theorem S0.step {K : PySem.W.Frag} {F0 H0 F H F' H' : Hp} {ρ : En} {σ : L2.St} (s : S0 K F0 H0 F H ρ σ) (t : Stp F H F' H') : S0 K F0 H0 F' H' ρ σ where
  f := s.f.trans t.f
  fh := t.fh
  h := s.h.trans t.h
  g := fun p h1 h2 => t.g p (s.g p h1 h2) fun e => by
    cases q : H0 p with
    | none => exact h2 q
    | some o =>
      rw [s.h p o q] at e
      cases e
  len := s.len
  d := fun i x e => by
    obtain ⟨v, h1, h2⟩ := s.d i x e
    exact ⟨v, h1, Den.mono t.f x h2⟩
  o := fun i x e => by
    obtain ⟨q, o, h1, h2, h3, h4, h5⟩ := s.o i x e
    exact ⟨q, o, h1, t.g q h2 (by rw [h4]; exact fun z => nomatch z), h3, t.h q o h4, h5.mono t.f⟩
  a := s.a
end Mf
/-! judgements: what an expression, a test, a block comes to over an environment of data -/
namespace Mf
open PySem PySem.Spec PyProof.Rows L2
theorem len_ok {n : Nat} (h : n ≤ 100000) : n ≤ sizeLine := Nat.le_trans h (by decide)
/-! ### the weakest readings -/
def wE (X : Cx) (e : Expr) : TE := fun σ H Q => ∀ (pins : List (Addr × Obj)) (s : Shared), Inv X pins σ H s → wpAny (model X.prog X.w) X.A (eval e X.env) (EP X pins σ Q) X.xe s
def wT (X : Cx) (e : Expr) : TT := fun σ H Q => ∀ (pins : List (Addr × Obj)) (s : Shared), Inv X pins σ H s → wpAny (model X.prog X.w) X.A (isTrue e X.env (eval e X.env)) (TP X pins σ Q) X.xe s
def wW (X : Cx) (e : Expr) : TT := fun σ H Q => ∀ (whole : Sem Value) (pins : List (Addr × Obj)) (s : Shared), Inv X pins σ H s → wpAny (model X.prog X.w) X.A (isTrue e X.env whole) (TP X pins σ Q) X.xe s
def wA (X : Cx) (es : List Expr) : TA := fun σ H Q => ∀ (pos : Pos) (pins : List (Addr × Obj)) (s : Shared), Inv X pins σ H s → wpAny (model X.prog X.w) X.A (spliced (backTo pos (starEach es X.env))) (AP X pins σ Q) X.xe s
def wS (X : Cx) (st : Stmt) : TS := fun D σ H => ∀ (pins : List (Addr × Obj)) (s : Shared), Inv X pins σ H s → wpAny (model X.prog X.w) X.A (exec st X.env) (SP X pins D) X.xe s
def wSs (X : Cx) (st : List Stmt) : TS := fun D σ H => ∀ (pins : List (Addr × Obj)) (s : Shared), Inv X pins σ H s → wpAny (model X.prog X.w) X.A (execs st X.env) (SP X pins D) X.xe s
def wG (X : Cx) (tg : Expr) : TG := fun v σ H Q => ∀ (pins : List (Addr × Obj)) (s : Shared) (u : Value), Inv X pins σ H s → RelV v u →
  wpAny (model X.prog X.w) X.A (assign tg X.env u) (fun _ s' => ∃ σ' H', Inv X pins σ' H' s' ∧ Q σ' H') X.xe s
def wI (X : Cx) (tg iter : Expr) : TI := fun σ H R => ∀ (pins : List (Addr × Obj)) (s : Shared), Inv X pins σ H s →
  wpAny (model X.prog X.w) X.A (eval iter X.env) (fun v s1 => wpAny (model X.prog X.w) X.A (pyIter v) (PIE X pins σ tg R) X.xe s1) X.xe s
def wTs (X : Cx) (ifs : List Expr) : TT := fun σ H Q => ∀ (pins : List (Addr × Obj)) (s : Shared), Inv X pins σ H s →
  wpAny (model X.prog X.w) X.A (forIn ifs true fun c r => if r = true then do let ok ← isTrue c X.env (eval c X.env); pure (ForInStep.yield ok) else pure (ForInStep.yield r)) (TP X pins σ Q) X.xe s
def wO (X : Cx) (e : Option Expr) : TO := fun σ H Q => ∀ (pins : List (Addr × Obj)) (s : Shared), Inv X pins σ H s →
  wpAny (model X.prog X.w) X.A (evalPart e X.env) (fun u s' => ∃ o H', Inv X pins σ H' s' ∧ IsPart u o ∧ Q o H') X.xe s
section
variable {X : Cx}
theorem pe_w {e : Expr} : PE X e (wE X e) := ⟨fun pins s _ _ _ I h => h pins s I⟩
theorem pt_w {e : Expr} : PT X e (wT X e) := ⟨fun pins s _ _ _ I h => h pins s I⟩
theorem pw_w {e : Expr} : PW X e (wW X e) := ⟨fun wh pins s _ _ _ I h => h wh pins s I⟩
theorem pa_w {es : List Expr} : PA X es (wA X es) := ⟨fun pos pins s _ _ _ I h => h pos pins s I⟩
theorem ps_w {st : Stmt} : PS X st (wS X st) := ⟨fun pins s _ _ _ I h => h pins s I⟩
theorem pss_w {st : List Stmt} : PSs X st (wSs X st) := ⟨fun pins s _ _ _ I h => h pins s I⟩
theorem pg_w {tg : Expr} : PG X tg (wG X tg) := ⟨fun pins s _ _ _ u _ I r h => h pins s u I r⟩
theorem pi_w {tg iter : Expr} : PI X tg iter (wI X tg iter) := ⟨fun pins s _ _ _ I h => h pins s I⟩
theorem pts_w {ifs : List Expr} : PTs X ifs (wTs X ifs) := ⟨fun pins s _ _ _ I h => h pins s I⟩
theorem po_w {e : Option Expr} : PO X e (wO X e) := ⟨fun pins s _ _ _ I h => h pins s I⟩
theorem wE_of {e : Expr} {t : TE} (h : PE X e t) {σ : L2.St} {H : Hp} {Q : VK} (q : t σ H Q) : wE X e σ H Q := fun pins s I => h.run pins s σ H Q I q
theorem wT_of {e : Expr} {t : TT} (h : PT X e t) {σ : L2.St} {H : Hp} {Q : Bool → Hp → Prop} (q : t σ H Q) : wT X e σ H Q := fun pins s I => h.run pins s σ H Q I q
theorem wW_of {e : Expr} {t : TT} (h : PW X e t) {σ : L2.St} {H : Hp} {Q : Bool → Hp → Prop} (q : t σ H Q) : wW X e σ H Q := fun wh pins s I => h.run wh pins s σ H Q I q
theorem wA_of {e : List Expr} {t : TA} (h : PA X e t) {σ : L2.St} {H : Hp} {Q : List V → Hp → Prop} (q : t σ H Q) : wA X e σ H Q := fun pos pins s I => h.run pos pins s σ H Q I q
theorem wS_of {e : Stmt} {t : TS} (h : PS X e t) {σ : L2.St} {H : Hp} {Q : Ends} (q : t Q σ H) : wS X e Q σ H := fun pins s I => h.run pins s σ H Q I q
theorem wSs_of {e : List Stmt} {t : TS} (h : PSs X e t) {σ : L2.St} {H : Hp} {Q : Ends} (q : t Q σ H) : wSs X e Q σ H := fun pins s I => h.run pins s σ H Q I q
theorem wG_of {e : Expr} {t : TG} (h : PG X e t) {v : V} {σ : L2.St} {H : Hp} {Q : L2.St → Hp → Prop} (q : t v σ H Q) : wG X e v σ H Q := fun pins s u I r => h.run pins s σ H v u Q I r q
theorem wI_of {tg e : Expr} {t : TI} (h : PI X tg e t) {σ : L2.St} {H : Hp} {R : It → Hp → Prop} (q : t σ H R) : wI X tg e σ H R := fun pins s I => h.run pins s σ H R I q
theorem wTs_of {e : List Expr} {t : TT} (h : PTs X e t) {σ : L2.St} {H : Hp} {Q : Bool → Hp → Prop} (q : t σ H Q) : wTs X e σ H Q := fun pins s I => h.run pins s σ H Q I q
theorem wO_of {e : Option Expr} {t : TO} (h : PO X e t) {σ : L2.St} {H : Hp} {Q : Option Int → Hp → Prop} (q : t σ H Q) : wO X e σ H Q := fun pins s I => h.run pins s σ H Q I q
end
/-! ### the judgements -/
/-- e comes to the data d (frozen), the environment to ρ' -/
def ED (X : Cx) (e : Expr) (ρ : En) (d : D) (ρ' : En) : Prop := ∀ F0 H0 F H σ, S0 X.K F0 H0 F H ρ σ → ∀ Q : VK, (∀ v F' H', S0 X.K F0 H0 F' H' ρ' σ → Same F F' → Den X.K F' d v → Q v H') → wE X e σ H Q
/-- e comes to a new thing that nobody else knows -/
def ND (X : Cx) (e : Expr) (ρ : En) (d : D) (ρ' : En) : Prop := ∀ F0 H0 F H σ, S0 X.K F0 H0 F H ρ σ → ∀ Q : VK,
  (∀ p o F' H', S0 X.K F0 H0 F' H' ρ' σ → Same F F' → F' p = none → H0 p = none → H' p = some o → Cell X.K F' d o → (∀ (j : Nat) y, ρ'[j]? = some (some (.own y)) → σ[j]? ≠ some (some (.ref p))) → Q (.ref p) H') → wE X e σ H Q
def TD (X : Cx) (e : Expr) (ρ : En) (b : Bool) : Prop := ∀ F0 H0 F H σ, S0 X.K F0 H0 F H ρ σ → ∀ Q : Bool → Hp → Prop, (∀ F' H', S0 X.K F0 H0 F' H' ρ σ → Same F F' → Q b H') → wT X e σ H Q
def WD (X : Cx) (e : Expr) (ρ : En) (b : Bool) : Prop := ∀ F0 H0 F H σ, S0 X.K F0 H0 F H ρ σ → ∀ Q : Bool → Hp → Prop, (∀ F' H', S0 X.K F0 H0 F' H' ρ σ → Same F F' → Q b H') → wW X e σ H Q
def TsD (X : Cx) (e : List Expr) (ρ : En) (b : Bool) : Prop := ∀ F0 H0 F H σ, S0 X.K F0 H0 F H ρ σ → ∀ Q : Bool → Hp → Prop, (∀ F' H', S0 X.K F0 H0 F' H' ρ σ → Same F F' → Q b H') → wTs X e σ H Q
def AD (X : Cx) (es : List Expr) (ρ : En) (ds : List D) (ρ' : En) : Prop := ∀ F0 H0 F H σ, S0 X.K F0 H0 F H ρ σ → ∀ Q : List V → Hp → Prop, (∀ vs F' H', S0 X.K F0 H0 F' H' ρ' σ → Same F F' → Dens X.K F' ds vs → Q vs H') → wA X es σ H Q
def OD (X : Cx) (e : Option Expr) (ρ : En) (o : Option Int) : Prop := ∀ F0 H0 F H σ, S0 X.K F0 H0 F H ρ σ → ∀ Q : Option Int → Hp → Prop, (∀ F' H', S0 X.K F0 H0 F' H' ρ σ → Same F F' → Q o H') → wO X e σ H Q
/-- the target takes d; js: the slots that it may write -/
def GD (X : Cx) (tg : Expr) (js : List Nat) (ρ : En) (d : D) (ρ' : En) : Prop := ∀ F0 H0 F H σ v, S0 X.K F0 H0 F H ρ σ → Den X.K F d v → ∀ Q : L2.St → Hp → Prop,
  (∀ σ', S0 X.K F0 H0 F H ρ' σ' → (∀ ks : List Nat, (∀ j ∈ js, j ∈ ks) → wipe σ' ks = wipe σ ks) → Q σ' H) → wG X tg v σ H Q
def GsD (X : Cx) (ts : List Expr) (js : List Nat) (ρ : En) (ds : List D) (ρ' : En) : Prop := ∀ F0 H0 F H σ vs, S0 X.K F0 H0 F H ρ σ → Dens X.K F ds vs → ∀ Q : L2.St → Hp → Prop,
  (∀ σ', S0 X.K F0 H0 F H ρ' σ' → (∀ ks : List Nat, (∀ j ∈ js, j ∈ ks) → wipe σ' ks = wipe σ ks) → Q σ' H) →
  ∀ (pins : List (Addr × Obj)) (s : Shared) (us : List Value), Inv X pins σ H s → Vals vs us → wpAny (model X.prog X.w) X.A (assignInOrder ((assignEach ts X.env).map (·.2)) us) (fun _ s' => ∃ σ' H', Inv X pins σ' H' s' ∧ Q σ' H') X.xe s
/-- J walks over ds while F stands -/
structure WalkD (K : PySem.W.Frag) (J : It) (F : Hp) (ds : List D) : Prop where
  go : ∀ i F1 H1, Same F F1 → Same F1 H1 → i < ds.length → J.go i H1
  stop : ∀ F1 H1, Same F F1 → Same F1 H1 → J.stop ds.length H1
  yld : ∀ i v H' F0 H0 F1 H1 ρ σ, i < ds.length → Same F F1 → S0 K F0 H0 F1 H1 ρ σ → J.yld i H1 v H' → ∃ F' d, ds[i]? = some d ∧ S0 K F0 H0 F' H' ρ σ ∧ Same F1 F' ∧ Den K F' d v ∧ (∀ a o, H1 a = some o → H' a = some o)
def ID (X : Cx) (tg iter : Expr) (ρ : En) (ds : List D) (ρ' : En) : Prop := ∀ F0 H0 F H σ, S0 X.K F0 H0 F H ρ σ → ∀ R : It → Hp → Prop, (∀ J F' H', S0 X.K F0 H0 F' H' ρ' σ → Same F F' → WalkD X.K J F' ds → R J H') → wI X tg iter σ H R
def SD (X : Cx) (st : Stmt) (ρ : En) (Pn : En → Prop) (Pr : D → En → Prop) : Prop := ∀ F0 H0 F H σ, S0 X.K F0 H0 F H ρ σ → ∀ D : Ends,
  (∀ ρ' F' H' σ', Pn ρ' → S0 X.K F0 H0 F' H' ρ' σ' → Same F F' → D.nx σ' H') → (∀ d ρ' v F' H' σ', Pr d ρ' → S0 X.K F0 H0 F' H' ρ' σ' → Same F F' → Den X.K F' d v → D.rt v H') → wS X st D σ H
def SDs (X : Cx) (st : List Stmt) (ρ : En) (Pn : En → Prop) (Pr : D → En → Prop) : Prop := ∀ F0 H0 F H σ, S0 X.K F0 H0 F H ρ σ → ∀ D : Ends,
  (∀ ρ' F' H' σ', Pn ρ' → S0 X.K F0 H0 F' H' ρ' σ' → Same F F' → D.nx σ' H') → (∀ d ρ' v F' H' σ', Pr d ρ' → S0 X.K F0 H0 F' H' ρ' σ' → Same F F' → Den X.K F' d v → D.rt v H') → wSs X st D σ H
/-! ### by values -/
def RD (K : PySem.W.Frag) (r : R2) (a b d : D) : Prop := ∀ F0 H0 F H ρ σ, S0 K F0 H0 F H ρ σ → ∀ x y Q, Den K F a x → Den K F b y → (∀ v F' H', S0 K F0 H0 F' H' ρ σ → Same F F' → Den K F' d v → Q v H') → r x y H Q
def BinD (X : Cx) (op : Operator) (a b d : D) : Prop := ∃ r, OpR X (binaryOp op) r ∧ RD X.K r a b d
def CmpD (X : Cx) (op : CmpOp) (a b : D) (k : Bool) : Prop := ∃ r, OpR X (compareOp op) r ∧ RD X.K r a b (.bl k)
def IxD (X : Cx) (a b d : D) : Prop := ∃ r, IxR X r ∧ RD X.K r a b d
def CallD (X : Cx) (f : Value) (ds : List D) (d : D) : Prop := ∃ r, CallR X f r ∧ ∀ F0 H0 F H ρ σ, S0 X.K F0 H0 F H ρ σ → ∀ vs Q, Dens X.K F ds vs → (∀ v F' H', S0 X.K F0 H0 F' H' ρ σ → Same F F' → Den X.K F' d v → Q v H') → r vs H Q
section
variable {X : Cx} {ρ ρ' ρ1 ρ2 : En} {a b c e : Expr} {da db dc d x y : D} {pos : Pos}
/-! ### expressions -/
theorem ed_var (i : Nat) {n : Str} (hN : X.N[i]? = some n := by rfl) (hv : Vis X.env.scope n := by first | exact Or.inl rfl | exact Or.inr (Or.inl rfl) | exact Or.inr (Or.inr rfl)) (h : ρ[i]? = some (some (.d d)) := by rfl)
    (hd : (n == ("__debug__" : Str)) = false := by decide) (hcd : (n == ("__classdict__" : Str)) = false := by decide) : ED X (.Name n pos) ρ d ρ := fun F0 H0 F H σ s Q q => by
  obtain ⟨v, h1, h2⟩ := s.d i d h
  exact wE_of (pe_var hN hv hd hcd) ⟨v, h1, q v F H s (Same.refl F) h2⟩
theorem ed_int {i : Int} {j} : ED X (.Constant (.int i) j pos) ρ (.int i) ρ := fun F0 H0 F H σ s Q q => wE_of pe_int (q _ F H s (Same.refl F) mk_int)
theorem ed_bl {i : Bool} {j} : ED X (.Constant (.bool i) j pos) ρ (.bl i) ρ := fun F0 H0 F H σ s Q q => wE_of pe_bl (q _ F H s (Same.refl F) mk_bl)
theorem ed_non {j} : ED X (.Constant .none j pos) ρ .non ρ := fun F0 H0 F H σ s Q q => wE_of pe_non (q _ F H s (Same.refl F) mk_non)
theorem ed_str {i : Str} {j} : ED X (.Constant (.str i) j pos) ρ (.str i) ρ := fun F0 H0 F H σ s Q q => wE_of pe_str (q _ F H s (Same.refl F) mk_str)
/-- a module's int -/
theorem ed_gint {n : Str} {i : Int} (hm : ∃ t, X.mg n = some (.int i t)) (hg : Gl X n := by rfl) (hd : (n == ("__debug__" : Str)) = false := by decide) : ED X (.Name n pos) ρ (.int i) ρ := fun F0 H0 F H σ s Q q => by
  obtain ⟨t, hm⟩ := hm
  exact wE_of (pe_glob hg hm (v := .int i) ⟨t, rfl⟩ hd) (q _ F H s (Same.refl F) mk_int)
/-- a built-in type as a value -/
theorem ed_ty {n : Str} {t : String} (hm : X.mg n = none) (hv : bootBuiltins n = some (.type t)) (hg : Gl X n := by rfl) (hn : n ≠ "__name__" := by decide) (hd : (n == ("__debug__" : Str)) = false := by decide) : ED X (.Name n pos) ρ (.ty t) ρ := fun F0 H0 F H σ s Q q =>
  wE_of (pe_bltn hg hm hv (v := .ty t) rfl hn hd) (q _ F H s (Same.refl F) mk_ty)
theorem ed_bin {op : Operator} (ha : ED X a ρ da ρ1) (hb : ED X b ρ1 db ρ2) (ho : BinD X op da db d) : ED X (.BinOp a op b pos) ρ d ρ2 := fun F0 H0 F H σ s Q q => by
  obtain ⟨r, h1, h2⟩ := ho
  exact wE_of (pe_op h1 pe_w pe_w) (ha _ _ _ _ _ s _ fun v F1 H1 s1 e1 d1 => hb _ _ _ _ _ s1 _ fun u F2 H2 s2 e2 d2 => h2 _ _ _ _ _ _ s2 _ _ _ (d1.mono e2) d2 fun z F3 H3 s3 e3 d3 => q z F3 H3 s3 ((e1.trans e2).trans e3) d3)
theorem ed_ix (ha : ED X a ρ da ρ1) (hb : ED X b ρ1 db ρ2) (ho : IxD X da db d) (hs : PlainIx b := by exact fun _ _ => rfl) : ED X (.Subscript a b pos) ρ d ρ2 := fun F0 H0 F H σ s Q q => by
  obtain ⟨r, h1, h2⟩ := ho
  exact wE_of (pe_ix h1 pe_w pe_w hs) (ha _ _ _ _ _ s _ fun v F1 H1 s1 e1 d1 => hb _ _ _ _ _ s1 _ fun u F2 H2 s2 e2 d2 => h2 _ _ _ _ _ _ s2 _ _ _ (d1.mono e2) d2 fun z F3 H3 s3 e3 d3 => q z F3 H3 s3 ((e1.trans e2).trans e3) d3)
theorem ed_cmp {op : CmpOp} {k : Bool} (ha : ED X a ρ da ρ1) (hb : ED X b ρ1 db ρ2) (ho : CmpD X op da db k) (hm : behindInMarks op b = false := by first | exact nobehind _ (by decide) (by decide) | rfl) : ED X (.Compare a [op] [b] pos) ρ (.bl k) ρ2 := fun F0 H0 F H σ s Q q => by
  obtain ⟨r, h1, h2⟩ := ho
  exact wE_of (pe_cmpR h1 pe_w pe_w hm) (ha _ _ _ _ _ s _ fun v F1 H1 s1 e1 d1 => hb _ _ _ _ _ s1 _ fun u F2 H2 s2 e2 d2 => h2 _ _ _ _ _ _ s2 _ _ _ (d1.mono e2) d2 fun z F3 H3 s3 e3 d3 => q z F3 H3 s3 ((e1.trans e2).trans e3) d3)
theorem td_cmp {op : CmpOp} {k : Bool} (ha : ED X a ρ da ρ) (hb : ED X b ρ db ρ) (ho : CmpD X op da db k) (hm : behindInMarks op b = false := by first | exact nobehind _ (by decide) (by decide) | rfl) : TD X (.Compare a [op] [b] pos) ρ k := fun F0 H0 F H σ s Q q => by
  obtain ⟨r, h1, h2⟩ := ho
  exact wT_of (pt_cmpR h1 pe_w pe_w hm) (ha _ _ _ _ _ s _ fun v F1 H1 s1 e1 d1 => hb _ _ _ _ _ s1 _ fun u F2 H2 s2 e2 d2 => h2 _ _ _ _ _ _ s2 _ _ _ (d1.mono e2) d2 fun z F3 H3 s3 e3 d3 => ⟨k, den_bl d3, q F3 H3 s3 ((e1.trans e2).trans e3)⟩)
theorem ed_chain2 {op op' : CmpOp} {k j : Bool} (ha : ED X a ρ da ρ) (hb : ED X b ρ db ρ) (ho : CmpD X op da db k) (ho' : ∃ r, OpR X (compareOp op') r ∧ (k = true → ∃ dc, ED X c ρ dc ρ ∧ RD X.K r db dc (.bl j)))
    (hm : lastMarks [op, op'] [b, c] = false := by with_unfolding_all rfl) : ED X (.Compare a [op, op'] [b, c] pos) ρ (.bl (k && j)) ρ := fun F0 H0 F H σ s Q q => by
  obtain ⟨r, h1, h2⟩ := ho
  obtain ⟨r', h1', h2'⟩ := ho'
  refine wE_of (pe_chain h1 h1' pe_w pe_w pe_w hm) (ha _ _ _ _ _ s _ fun v F1 H1 s1 e1 d1 => hb _ _ _ _ _ s1 _ fun u F2 H2 s2 e2 d2 => h2 _ _ _ _ _ _ s2 _ _ _ (d1.mono e2) d2 fun z F3 H3 s3 e3 d3 => ⟨k, den_bl d3, ?_⟩)
  cases k with
  | true =>
    obtain ⟨dc, g1, g2⟩ := h2' rfl
    exact iteT (g1 _ _ _ _ _ s3 _ fun w F4 H4 s4 e4 d4 => g2 _ _ _ _ _ _ s4 _ _ _ (d2.mono (e3.trans e4)) d4 fun z F5 H5 s5 e5 d5 => q z F5 H5 s5 ((((e1.trans e2).trans e3).trans e4).trans e5) d5)
  | false => exact iteF (q _ F3 H3 s3 ((e1.trans e2).trans e3) mk_bl)
theorem td_chain {op op' : CmpOp} {k j : Bool} (ha : ED X a ρ da ρ) (hb : ED X b ρ db ρ) (ho : CmpD X op da db k) (ho' : ∃ r, OpR X (compareOp op') r ∧ (k = true → ∃ dc, ED X c ρ dc ρ ∧ RD X.K r db dc (.bl j)))
    (hm : lastMarks [op, op'] [b, c] = false := by with_unfolding_all rfl) : TD X (.Compare a [op, op'] [b, c] pos) ρ (k && j) := fun F0 H0 F H σ s Q q => by
  obtain ⟨r, h1, h2⟩ := ho
  obtain ⟨r', h1', h2'⟩ := ho'
  refine wT_of (pt_chain h1 h1' pe_w pe_w pe_w hm) (ha _ _ _ _ _ s _ fun v F1 H1 s1 e1 d1 => hb _ _ _ _ _ s1 _ fun u F2 H2 s2 e2 d2 => h2 _ _ _ _ _ _ s2 _ _ _ (d1.mono e2) d2 fun z F3 H3 s3 e3 d3 => ⟨k, den_bl d3, ?_⟩)
  cases k with
  | true =>
    obtain ⟨dc, g1, g2⟩ := h2' rfl
    exact iteT (g1 _ _ _ _ _ s3 _ fun w F4 H4 s4 e4 d4 => g2 _ _ _ _ _ _ s4 _ _ _ (d2.mono (e3.trans e4)) d4 fun z F5 H5 s5 e5 d5 => ⟨j, den_bl d5, q F5 H5 s5 ((((e1.trans e2).trans e3).trans e4).trans e5)⟩)
  | false => exact iteF ⟨false, rfl, q F3 H3 s3 ((e1.trans e2).trans e3)⟩
/-- a value that is a truth, as a test -/
theorem td_val {k : Bool} (h : ED X e ρ (.bl k) ρ) (he : ∀ whole, isTrue e X.env whole = (do let v ← whole; standAt e.pos; holding [v] (truthy v)) := by intro _; rfl) : TD X e ρ k := fun F0 H0 F H σ s Q q =>
  wT_of (pt_val pe_w he) (h _ _ _ _ _ s _ fun v F1 H1 s1 e1 d1 => ⟨k, den_bl d1, q F1 H1 s1 e1⟩)
theorem td_not {k : Bool} (h : TD X a ρ k) : TD X (.UnaryOp .Not a pos) ρ (!k) := fun F0 H0 F H σ s Q q => wT_of (pt_not pt_w) (h _ _ _ _ _ s _ fun F1 H1 s1 e1 => q F1 H1 s1 e1)
theorem td_bool {k : Bool} (h : WD X e ρ k) : TD X e ρ k := fun F0 H0 F H σ s Q q => wT_of (PW.pt pw_w) (h _ _ _ _ _ s _ q)
theorem wd_and1 {k : Bool} (h : TD X a ρ k) : WD X (.BoolOp .And [a] pos) ρ k := fun F0 H0 F H σ s Q q => wW_of (pw_and1 pt_w) (h _ _ _ _ _ s _ q)
theorem wd_or1 {k : Bool} (h : TD X a ρ k) : WD X (.BoolOp .Or [a] pos) ρ k := fun F0 H0 F H σ s Q q => wW_of (pw_or1 pt_w) (h _ _ _ _ _ s _ q)
theorem wd_and {k j : Bool} {rest : List Expr} (h : TD X a ρ k) (h2 : k = true → WD X (.BoolOp .And (b :: rest) pos) ρ j) : WD X (.BoolOp .And (a :: b :: rest) pos) ρ (k && j) := fun F0 H0 F H σ s Q q => by
  refine wW_of (pw_and pt_w pw_w) (h _ _ _ _ _ s _ fun F1 H1 s1 e1 => ?_)
  cases k with
  | true => exact iteT (h2 rfl _ _ _ _ _ s1 _ fun F2 H2 s2 e2 => q F2 H2 s2 (e1.trans e2))
  | false => exact iteF (q F1 H1 s1 e1)
theorem wd_or {k j : Bool} {rest : List Expr} (h : TD X a ρ k) (h2 : k = false → WD X (.BoolOp .Or (b :: rest) pos) ρ j) : WD X (.BoolOp .Or (a :: b :: rest) pos) ρ (k || j) := fun F0 H0 F H σ s Q q => by
  refine wW_of (pw_or pt_w pw_w) (h _ _ _ _ _ s _ fun F1 H1 s1 e1 => ?_)
  cases k with
  | true => exact iteT (q F1 H1 s1 e1)
  | false => exact iteF (h2 rfl _ _ _ _ _ s1 _ fun F2 H2 s2 e2 => q F2 H2 s2 (e1.trans e2))
theorem ed_one {op} (h : ED X a ρ d ρ1) : ED X (.BoolOp op [a] pos) ρ d ρ1 := fun F0 H0 F H σ s Q q => wE_of (pe_one pe_w) (h _ _ _ _ _ s _ q)
theorem ed_and {k j : Bool} {rest : List Expr} (h : ED X a ρ (.bl k) ρ) (h2 : k = true → ED X (.BoolOp .And (b :: rest) pos) ρ (.bl j) ρ) : ED X (.BoolOp .And (a :: b :: rest) pos) ρ (.bl (k && j)) ρ := fun F0 H0 F H σ s Q q => by
  refine wE_of (pe_and pe_w pe_w) (h _ _ _ _ _ s _ fun v F1 H1 s1 e1 d1 => ⟨k, den_bl d1, ?_⟩)
  cases k with
  | true => exact iteT (h2 rfl _ _ _ _ _ s1 _ fun u F2 H2 s2 e2 d2 => q u F2 H2 s2 (e1.trans e2) d2)
  | false => exact iteF (q _ F1 H1 s1 e1 mk_bl)
theorem ed_or {k j : Bool} {rest : List Expr} (h : ED X a ρ (.bl k) ρ) (h2 : k = false → ED X (.BoolOp .Or (b :: rest) pos) ρ (.bl j) ρ) : ED X (.BoolOp .Or (a :: b :: rest) pos) ρ (.bl (k || j)) ρ := fun F0 H0 F H σ s Q q => by
  refine wE_of (pe_or pe_w pe_w) (h _ _ _ _ _ s _ fun v F1 H1 s1 e1 d1 => ⟨k, den_bl d1, ?_⟩)
  cases k with
  | true => exact iteT (q _ F1 H1 s1 e1 mk_bl)
  | false => exact iteF (h2 rfl _ _ _ _ _ s1 _ fun u F2 H2 s2 e2 d2 => q u F2 H2 s2 (e1.trans e2) d2)
theorem ed_not {k : Bool} (h : ED X a ρ (.bl k) ρ1) : ED X (.UnaryOp .Not a pos) ρ (.bl (!k)) ρ1 := fun F0 H0 F H σ s Q q =>
  wE_of (pe_not pe_w) (h _ _ _ _ _ s _ fun v F1 H1 s1 e1 d1 => ⟨k, den_bl d1, q _ F1 H1 s1 e1 mk_bl⟩)
theorem ed_if {k : Bool} (ht : TD X c ρ k) (h1 : k = true → ED X a ρ d ρ1) (h2 : k = false → ED X b ρ d ρ1) : ED X (.IfExp c a b pos) ρ d ρ1 := fun F0 H0 F H σ s Q q => by
  refine wE_of (pe_ifExp pt_w pe_w pe_w) (ht _ _ _ _ _ s _ fun F1 H1 s1 e1 => ?_)
  cases k with
  | true => exact iteT (h1 rfl _ _ _ _ _ s1 _ fun u F2 H2 s2 e2 d2 => q u F2 H2 s2 (e1.trans e2) d2)
  | false => exact iteF (h2 rfl _ _ _ _ _ s1 _ fun u F2 H2 s2 e2 d2 => q u F2 H2 s2 (e1.trans e2) d2)
theorem ad_nil : AD X [] ρ [] ρ := fun F0 H0 F H σ s Q q => wA_of pa_nil (q [] F H s (Same.refl F) dens_nil)
theorem ad_cons {es : List Expr} {ds : List D} (h : ED X e ρ d ρ1) (h2 : AD X es ρ1 ds ρ2) (hs : starEach (e :: es) X.env = (false, eval e X.env) :: starEach es X.env := by rfl) : AD X (e :: es) ρ (d :: ds) ρ2 := fun F0 H0 F H σ s Q q =>
  wA_of (pa_cons pe_w pa_w hs) (h _ _ _ _ _ s _ fun v F1 H1 s1 e1 d1 => h2 _ _ _ _ _ s1 _ fun vs F2 H2 s2 e2 d2 => q (v :: vs) F2 H2 s2 (e1.trans e2) (dens_cons (d1.mono e2) d2))
theorem ed_tup {es : List Expr} {k} {ds : List D} (h : AD X es ρ ds ρ1) (hl : ds.length ≤ 100000 := by decide) : ED X (.Tuple es k pos) ρ (.tup ds) ρ1 := fun F0 H0 F H σ s Q q =>
  wE_of (pe_tup pa_w) (h _ _ _ _ _ s _ fun vs F1 H1 s1 e1 d1 => ⟨by rw [d1.len]; exact len_ok hl, fun p hp => q (.ref p) _ _ (s1.new hp) (e1.trans (same_new (s1.free hp))) (mk_tup upd_same (Dens.mono (same_new (s1.free hp)) _ d1))⟩)
theorem ed_lst {es : List Expr} {ds : List D} (h : AD X es ρ ds ρ1) (hl : ds.length ≤ 100000 := by decide) : ED X (.List es pos) ρ (.lst ds) ρ1 := fun F0 H0 F H σ s Q q =>
  wE_of (pe_lst pa_w) (h _ _ _ _ _ s _ fun vs F1 H1 s1 e1 d1 => ⟨by rw [d1.len]; exact len_ok hl, fun p hp => q (.ref p) _ _ (s1.new hp) (e1.trans (same_new (s1.free hp))) (mk_lst upd_same (Dens.mono (same_new (s1.free hp)) _ d1))⟩)
theorem fresh_own {K : PySem.W.Frag} {F0 H0 F H : Hp} {σ : L2.St} (s : S0 K F0 H0 F H ρ σ) {p : Addr} (hp : H p = none) : ∀ (j : Nat) y, ρ[j]? = some (some (.own y)) → σ[j]? ≠ some (some (.ref p)) := fun j y e z => by
  obtain ⟨q, o, h1, _, _, h4, _⟩ := s.o j y e
  rw [z] at h1
  cases h1
  rw [hp] at h4
  cases h4
theorem nd_lst {es : List Expr} {ds : List D} (h : AD X es ρ ds ρ1) (hl : ds.length ≤ 100000 := by decide) : ND X (.List es pos) ρ (.lst ds) ρ1 := fun F0 H0 F H σ s Q q =>
  wE_of (pe_lst pa_w) (h _ _ _ _ _ s _ fun vs F1 H1 s1 e1 d1 => ⟨by rw [d1.len]; exact len_ok hl, fun p hp => q p _ _ _ (s1.newO hp) e1 (s1.free hp) (s1.h.free hp) upd_same ⟨vs, rfl, d1⟩ (fresh_own s1 hp)⟩)
theorem nd_dic : ND X (.Dict [] [] pos) ρ (.dic [] []) ρ := fun F0 H0 F H σ s Q q =>
  wE_of pe_dnewK fun p hp => q p _ _ _ (s.newO hp) (Same.refl F) (s.free hp) (s.h.free hp) upd_same ⟨[], rfl, rfl, dens_nil⟩ (fresh_own s hp)
/-! ### calls -/
theorem ed_callB {n : Str} {p : Pos} {id : String} {es : List Expr} {ds : List D} (hg : Gl X n) (hm : X.mg n = none) (hv : bootBuiltins n = some (.builtin id)) (ha : AD X (e :: es) ρ ds ρ1) (hc : CallD X (.builtin id) ds d)
    (hn : n ≠ "__name__" := by decide) (hdb : (n == ("__debug__" : Str)) = false := by decide) (he : starEach (e :: es) X.env = (false, eval e X.env) :: starEach es X.env := by rfl) (hpl : (backTo pos (starEach es X.env)).any (·.1) = false := by rfl) : ED X (.Call (.Name n p) (e :: es) [] pos) ρ d ρ1 := fun F0 H0 F H σ s Q q => by
  obtain ⟨r, h1, h2⟩ := hc
  exact wE_of (pe_callB h1 hg hm hv pa_w hn hdb he hpl) (ha _ _ _ _ _ s _ fun vs F1 H1 s1 e1 d1 => h2 _ _ _ _ _ _ s1 _ _ d1 fun v F2 H2 s2 e2 d2 => q v F2 H2 s2 (e1.trans e2) d2)
theorem ed_callTy {n : Str} {p : Pos} {T : String} {es : List Expr} {ds : List D} (hg : Gl X n) (hm : X.mg n = none) (hv : bootBuiltins n = some (.type T)) (ha : AD X (e :: es) ρ ds ρ1) (hc : CallD X (.type T) ds d)
    (hn : n ≠ "__name__" := by decide) (hdb : (n == ("__debug__" : Str)) = false := by decide) (he : starEach (e :: es) X.env = (false, eval e X.env) :: starEach es X.env := by rfl) (hpl : (backTo pos (starEach es X.env)).any (·.1) = false := by rfl) : ED X (.Call (.Name n p) (e :: es) [] pos) ρ d ρ1 := fun F0 H0 F H σ s Q q => by
  obtain ⟨r, h1, h2⟩ := hc
  exact wE_of (pe_callTy h1 hg hm hv pa_w hn hdb he hpl) (ha _ _ _ _ _ s _ fun vs F1 H1 s1 e1 d1 => h2 _ _ _ _ _ _ s1 _ _ d1 fun v F2 H2 s2 e2 d2 => q v F2 H2 s2 (e1.trans e2) d2)
end
/-- a pure def's promise: R tells what of what -/
def spD (K : PySem.W.Frag) (R : List D → D → Prop) : Sp := fun vs H Q _ => ∃ F ds d, Same F H ∧ Dens K F ds vs ∧ R ds d ∧ ∀ v F' H', Stp F H F' H' → Den K F' d v → Q v H'
section
variable {X : Cx} {ρ ρ' ρ1 ρ2 : En} {a b c e : Expr} {da db dc d x y : D} {pos : Pos}
theorem ed_call {n : Str} {p : Pos} {es : List Expr} {ds : List D} {R : List D → D → Prop} {j k : Nat} (c : C8.Cal X.prog X.w X.K X.mg X.base k n (spD X.K R) []) (hr : Room j X.A) (hk : k ≤ j) (hg : Gl X n) (ha : AD X (e :: es) ρ ds ρ1) (hR : R ds d)
    (hdb : (n == ("__debug__" : Str)) = false := by decide) (he : starEach (e :: es) X.env = (false, eval e X.env) :: starEach es X.env := by rfl) (hpl : (backTo pos (starEach es X.env)).any (·.1) = false := by rfl) : ED X (.Call (.Name n p) (e :: es) [] pos) ρ d ρ1 := fun F0 H0 F H σ s Q q =>
  wE_of (C8.pe_c c hr hk hg pa_w hdb he hpl) (ha _ _ _ _ _ s _ fun vs F1 H1 s1 e1 d1 => ⟨F1, ds, d, s1.fh, by rw [List.append_nil]; exact d1, hR, fun v F2 H2 t d2 => q v F2 H2 (s1.step t) (e1.trans t.f) d2⟩)
/-! ### slices -/
theorem od_none : OD X none ρ none := fun F0 H0 F H σ s Q q => wO_of po_none (q F H s (Same.refl F))
theorem od_some {i : Int} (h : ED X e ρ (.int i) ρ) : OD X (some e) ρ (some i) := fun F0 H0 F H σ s Q q => wO_of (po_some pe_w) (h _ _ _ _ _ s _ fun v F1 H1 s1 e1 d1 => ⟨i, den_int d1, q F1 H1 s1 e1⟩)
def cutD (xs : List D) (lo hi : Option Int) : List D := (xs.drop (HT.sIx xs.length 0 lo)).take (HT.sIx xs.length xs.length hi - HT.sIx xs.length 0 lo)
theorem dens_cut {K : PySem.W.Frag} {F : Hp} {ds : List D} {vs : List V} (h : Dens K F ds vs) (lo hi : Option Int) : Dens K F (cutD ds lo hi) (cutV vs lo hi) := by
  unfold cutD cutV
  rw [h.len]
  exact (h.drop _).take _
theorem ed_slT {lo hi : Option Expr} {l u : Option Int} {ds : List D} {p2 : Pos} (h : ED X e ρ (.tup ds) ρ) (hl : OD X lo ρ l) (hu : OD X hi ρ u) : ED X (.Subscript e (.Slice lo hi none p2) pos) ρ (.tup (cutD ds l u)) ρ := fun F0 H0 F H σ s Q q => by
  refine wE_of (pe_slice sl_tupA pe_w po_w po_w) (h _ _ _ _ _ s _ fun v F1 H1 s1 e1 d1 => hl _ _ _ _ _ s1 _ fun F2 H2 s2 e2 => hu _ _ _ _ _ s2 _ fun F3 H3 s3 e3 => ?_)
  obtain ⟨p, vs, rfl, h1, h2⟩ := den_tup (d1.mono (e2.trans e3))
  refine ⟨p, vs, rfl, sqT_mono s3.fh h1, fun hc => ?_, fun hc p' hp => ?_⟩
  · have e : cutD ds l u = ds := by
      unfold cutD
      rw [← h2.len, hc.1, hc.2]
      simp [h2.len]
    exact q _ F3 H3 s3 ((e1.trans e2).trans e3) (by rw [e]; exact mk_tup h1 h2)
  · exact q _ _ _ (s3.new hp) (((e1.trans e2).trans e3).trans (same_new (s3.free hp))) (mk_tup upd_same (Dens.mono (same_new (s3.free hp)) _ (dens_cut h2 l u)))
theorem ed_slL {lo hi : Option Expr} {l u : Option Int} {ds : List D} {p2 : Pos} (h : ED X e ρ (.lst ds) ρ) (hl : OD X lo ρ l) (hu : OD X hi ρ u) : ED X (.Subscript e (.Slice lo hi none p2) pos) ρ (.lst (cutD ds l u)) ρ := fun F0 H0 F H σ s Q q => by
  refine wE_of (pe_slice sl_list pe_w po_w po_w) (h _ _ _ _ _ s _ fun v F1 H1 s1 e1 d1 => hl _ _ _ _ _ s1 _ fun F2 H2 s2 e2 => hu _ _ _ _ _ s2 _ fun F3 H3 s3 e3 => ?_)
  obtain ⟨p, vs, rfl, h1, h2⟩ := den_lst (d1.mono (e2.trans e3))
  exact ⟨p, vs, rfl, .inl (.inl (s3.fh _ _ h1)), fun p' hp => q _ _ _ (s3.new hp) (((e1.trans e2).trans e3).trans (same_new (s3.free hp))) (mk_lst upd_same (Dens.mono (same_new (s3.free hp)) _ (dens_cut h2 l u)))⟩
theorem ed_revL {ds : List D} {k : Nat} {p1 p2 p3 : Pos} (h : ED X e ρ (.lst ds) ρ1) : ED X (.Subscript e (.Slice none none (some (.UnaryOp .USub (.Constant (.int 1) k p1) p2)) p3) pos) ρ (.lst ds.reverse) ρ1 := fun F0 H0 F H σ s Q q => by
  refine wE_of (pe_revL pe_w) (h _ _ _ _ _ s _ fun v F1 H1 s1 e1 d1 => ?_)
  obtain ⟨p, vs, rfl, h1, h2⟩ := den_lst d1
  refine ⟨p, vs, rfl, .inl (.inl (s1.fh _ _ h1)), fun p' hp => q _ _ _ (s1.new hp) (e1.trans (same_new (s1.free hp))) (mk_lst upd_same (Dens.mono (same_new (s1.free hp)) _ ?_))⟩
  have rev : ∀ {ds : List D} {vs : List V}, Dens X.K F1 ds vs → Dens X.K F1 ds.reverse vs.reverse := fun {ds} => by
    induction ds with
    | nil => intro vs h; rw [dens_nil' h]; exact dens_nil
    | cons x ds ih =>
      intro vs h
      obtain ⟨v, r, rfl, g1, g2⟩ := dens_cons' h
      rw [List.reverse_cons, List.reverse_cons]
      exact (ih g2).app (dens_cons g1 dens_nil)
  exact rev h2
/-! ### targets -/
theorem wipe_set {σ : L2.St} {i : Nat} {v : Option V} : ∀ {ks : List Nat}, i ∈ ks → wipe (σ.set i v) ks = wipe σ ks
  | [], h => by simp at h
  | k :: ks, h => by
    unfold wipe
    by_cases e : i ∈ ks
    · rw [wipe_set e]
    · have ek : i = k := by
        rcases List.mem_cons.mp h with h | h
        · exact h
        · exact absurd h e
      subst ek
      have out : ∀ {ks : List Nat}, i ∉ ks → wipe (σ.set i v) ks = (wipe σ ks).set i v := fun {ks} => by
        induction ks with
        | nil => intro _; rfl
        | cons j js ih =>
          intro hn
          have h1 : i ≠ j := fun z => hn (by rw [z]; exact List.mem_cons_self)
          have h2 : i ∉ js := fun z => hn (List.mem_cons_of_mem _ z)
          unfold wipe
          rw [ih h2, List.set_comm _ _ h1]
      rw [out e, List.set_set]
theorem gd_name (i : Nat) {n : Str} (hN : X.N.Nodup) (hi : X.N[i]? = some n := by rfl) (hx : Loc X.env.scope n := by first | exact Or.inl rfl | exact Or.inr rfl) (hf : X.fn n = true ∨ X.env.scope.names.lookup n = some .local := by first | exact .inl rfl | exact .inr rfl) : GD X (.Name n pos) [i] ρ d (ρ.set i (some (.d d))) := fun F0 H0 F H σ v s dv Q q =>
  wG_of (pg_name hN hi hx hf) (q _ (s.setD dv) fun ks hk => wipe_set (hk i (by simp)))
theorem gsd_nil : GsD X [] [] ρ [] ρ := fun F0 H0 F H σ vs s dv Q q pins sh us I r => pgs_nil.run pins sh σ H vs us Q I r ⟨dens_nil' dv, q σ s fun _ _ => rfl⟩
theorem gsd_cons {ts : List Expr} {ds : List D} {js ks : List Nat} (h : GD X e js ρ d ρ1) (h2 : GsD X ts ks ρ1 ds ρ2) (hs : (assignEach (e :: ts) X.env).map (·.2) = assign e X.env :: (assignEach ts X.env).map (·.2) := by rfl) : GsD X (e :: ts) (js ++ ks) ρ (d :: ds) ρ2 := fun F0 H0 F H σ vs s dv Q q pins sh us I r => by
  obtain ⟨v, vr, rfl, d1, d2⟩ := dens_cons' dv
  cases r with
  | cons r rr =>
    rw [hs]
    refine assignInOrder_cons (thn (h _ _ _ _ _ v s d1 (fun σ1 H1 => S0 X.K F0 H0 F H ρ1 σ1 ∧ H1 = H ∧ ∀ ls : List Nat, (∀ j ∈ js, j ∈ ls) → wipe σ1 ls = wipe σ ls) (fun σ1 s1 w1 => ⟨s1, rfl, w1⟩) pins sh _ I r) fun _ s1 ⟨σ1, H1, I1, q1, e1, w1⟩ => ?_)
    subst e1
    exact h2 _ _ _ _ _ _ q1 d2 Q (fun σ2 s2 w2 => q σ2 s2 fun ls hl => (w2 ls fun j hj => hl j (List.mem_append_right _ hj)).trans (w1 ls fun j hj => hl j (List.mem_append_left _ hj))) pins s1 _ I1 rr
theorem gd_tup {ts : List Expr} {k : Nat} {ds : List D} {js : List Nat} (h : GsD X ts js ρ ds ρ1) (hc : X.calm = true := by rfl) (hn : (assignEach ts X.env).length = ds.length := by rfl) (hst : (assignEach ts X.env).findIdx? (·.1) = none := by rfl) : GD X (.Tuple ts k pos) js ρ (.tup ds) ρ1 := fun F0 H0 F H σ v s dv Q q => by
  obtain ⟨p, vs, rfl, h1, h2⟩ := den_tup dv
  have hg : PGs X ts (fun vs σ' H' Q' => ∀ (pins : List (Addr × Obj)) (sh : Shared) (us : List Value), Inv X pins σ' H' sh → Vals vs us → wpAny (model X.prog X.w) X.A (assignInOrder ((assignEach ts X.env).map (·.2)) us) (fun _ s' => ∃ σ'' H'', Inv X pins σ'' H'' s' ∧ Q' σ'' H'') X.xe sh) :=
    ⟨fun pins sh σ' H' vs us Q' I r h => h pins sh us I r⟩
  exact wG_of (pg_tup hc hg rfl hst) ⟨p, vs, rfl, sqT_mono s.fh h1, by rw [h2.len, hn], fun pins sh us I r => h _ _ _ _ _ _ s h2 Q q pins sh us I r⟩
end
end Mf
/-! statements, comprehensions, what is walked -/
namespace Mf
open PySem PySem.Spec PyProof.Rows L2
theorem fresh_set {K : PySem.W.Frag} {F0 H0 F H : Hp} {ρ : En} {σ : L2.St} {i : Nat} {x : D} {v : V} {p : Addr} (s : S0 K F0 H0 F H ρ σ) (h : ∀ (j : Nat) y, ρ[j]? = some (some (.own y)) → σ[j]? ≠ some (some (.ref p))) :
    ∀ (j : Nat) y, (ρ.set i (some (.d x)))[j]? = some (some (.own y)) → (σ.set i (some v))[j]? ≠ some (some (.ref p)) := fun j y e => by
  by_cases hj : i = j
  · subst hj
    by_cases hl : i < ρ.length
    · rw [List.getElem?_set_self hl] at e
      cases e
    · rw [List.getElem?_eq_none (by rw [List.length_set]; omega)] at e
      cases e
  · rw [List.getElem?_set_ne hj] at e ⊢
    exact h j y e
section
variable {X : Cx} {ρ ρ' ρ1 ρ2 : En} {a b c e : Expr} {da db dc d x y : D} {pos : Pos} {Pn : En → Prop} {Pr : D → En → Prop} {rest st : List Stmt}
theorem sds_nil (h : Pn ρ) : SDs X [] ρ Pn Pr := fun F0 H0 F H σ s D qn qr => wSs_of pss_nil (qn ρ F H σ h s (Same.refl F))
theorem sds_cons {t : Stmt} {P1 : En → Prop} (h : SD X t ρ P1 Pr) (h2 : ∀ ρ1, P1 ρ1 → SDs X rest ρ1 Pn Pr) : SDs X (t :: rest) ρ Pn Pr := fun F0 H0 F H σ s D qn qr =>
  wSs_of (pss_cons ps_w pss_w) (h _ _ _ _ _ s { D with nx := fun σ' H' => wSs X rest D σ' H' } (fun ρ1 F1 H1 σ1 p1 s1 e1 => h2 ρ1 p1 _ _ _ _ _ s1 D (fun ρ2 F2 H2 σ2 p2 s2 e2 => qn ρ2 F2 H2 σ2 p2 s2 (e1.trans e2)) fun d ρ2 v F2 H2 σ2 p2 s2 e2 d2 => qr d ρ2 v F2 H2 σ2 p2 s2 (e1.trans e2) d2)
    fun d ρ2 v F2 H2 σ2 p2 s2 e2 d2 => qr d ρ2 v F2 H2 σ2 p2 s2 e2 d2)
theorem sds_frz (i : Nat) (h : ρ[i]? = some (some (.own x)) := by rfl) (k : SDs X st (ρ.set i (some (.d x))) Pn Pr) : SDs X st ρ Pn Pr := fun F0 H0 F H σ s D qn qr => by
  obtain ⟨F', e, s'⟩ := s.frz h
  exact k _ _ _ _ _ s' D (fun ρ1 F1 H1 σ1 p1 s1 e1 => qn ρ1 F1 H1 σ1 p1 s1 (e.trans e1)) fun d ρ2 v F2 H2 σ2 p2 s2 e2 d2 => qr d ρ2 v F2 H2 σ2 p2 s2 (e.trans e2) d2
theorem sds_mono {Pn' : En → Prop} {Pr' : D → En → Prop} (h : SDs X st ρ Pn Pr) (h1 : ∀ ρ, Pn ρ → Pn' ρ) (h2 : ∀ d ρ, Pr d ρ → Pr' d ρ) : SDs X st ρ Pn' Pr' := fun F0 H0 F H σ s D qn qr =>
  h _ _ _ _ _ s D (fun ρ1 F1 H1 σ1 p1 s1 e1 => qn ρ1 F1 H1 σ1 (h1 _ p1) s1 e1) fun d ρ2 v F2 H2 σ2 p2 s2 e2 d2 => qr d ρ2 v F2 H2 σ2 (h2 _ _ p2) s2 e2 d2
theorem sds_set (i : Nat) {n : Str} {pos' : Pos} (hN : X.N.Nodup) (he : ED X e ρ d ρ1) (k : SDs X rest (ρ1.set i (some (.d d))) Pn Pr) (hi : X.N[i]? = some n := by rfl) (hx : Loc X.env.scope n := by first | exact Or.inl rfl | exact Or.inr rfl)
    (hs : swapsWith e (some (.Name n pos')) pos.line X.env = pure false := by rfl) (hf : X.fn n = true ∨ X.env.scope.names.lookup n = some .local := by first | exact .inl rfl | exact .inr rfl) : SDs X (.Assign [.Name n pos'] e pos :: rest) ρ Pn Pr :=
  sds_cons (P1 := fun ρ' => ρ' = ρ1.set i (some (.d d))) (fun F0 H0 F H σ s D qn qr => wS_of (ps_set hN hi hx pe_w hs hf) (he _ _ _ _ _ s _ fun v F1 H1 s1 e1 d1 => qn _ F1 H1 _ rfl (s1.setD d1) e1)) fun ρ2 e2 => by
    rw [e2]
    exact k
theorem sds_setN (i : Nat) {n : Str} {pos' : Pos} (hN : X.N.Nodup) (he : ND X e ρ d ρ1) (k : SDs X rest (ρ1.set i (some (.own d))) Pn Pr) (hi : X.N[i]? = some n := by rfl) (hx : Loc X.env.scope n := by first | exact Or.inl rfl | exact Or.inr rfl)
    (hs : swapsWith e (some (.Name n pos')) pos.line X.env = pure false := by rfl) (hf : X.fn n = true ∨ X.env.scope.names.lookup n = some .local := by first | exact .inl rfl | exact .inr rfl) : SDs X (.Assign [.Name n pos'] e pos :: rest) ρ Pn Pr :=
  sds_cons (P1 := fun ρ' => ρ' = ρ1.set i (some (.own d))) (fun F0 H0 F H σ s D qn qr => wS_of (ps_set hN hi hx pe_w hs hf) (he _ _ _ _ _ s _ fun p o F1 H1 s1 e1 f1 h0 hp hc hd => qn _ F1 H1 _ rfl (s1.setO f1 h0 hp hc hd) e1)) fun ρ2 e2 => by
    rw [e2]
    exact k
theorem sds_asg {tg : Expr} {js : List Nat} (he : ED X e ρ d ρ1) (hg : GD X tg js ρ1 d ρ2) (k : SDs X rest ρ2 Pn Pr) (hs : swapsWithSole [tg] e pos.line X.env = pure false := by rfl) (hw : swappedStores [tg] e X.env = pure none := by rfl)
    (h1 : (assignEach [tg] X.env).map (·.2) = [assign tg X.env] := by rfl) : SDs X (.Assign [tg] e pos :: rest) ρ Pn Pr :=
  sds_cons (P1 := fun ρ' => ρ' = ρ2) (fun F0 H0 F H σ s D qn qr => wS_of (ps_asg pe_w pg_w hs hw h1) (he _ _ _ _ _ s _ fun v F1 H1 s1 e1 d1 => hg _ _ _ _ _ _ s1 d1 _ fun σ2 s2 _ => qn _ F1 H1 _ rfl s2 e1)) fun ρ2 e2 => by
    rw [e2]
    exact k
theorem sds_par (i j : Nat) {n m : Str} {px py pt : Pos} {kt k2 pt2} (hN : X.N.Nodup) (ha : AD X [a, b] ρ [da, db] ρ1) (k : SDs X rest ((ρ1.set i (some (.d da))).set j (some (.d db))) Pn Pr) (hi : X.N[i]? = some n := by rfl) (hj : X.N[j]? = some m := by rfl) (hij : i ≠ j := by decide)
    (hx : X.env.scope.names.lookup n = some .local := by rfl) (hy : X.env.scope.names.lookup m = some .local := by rfl) (hc : X.calm = true := by rfl)
    (hw : swappedStores [.Tuple [.Name n px, .Name m py] kt pt] (.Tuple [a, b] k2 pt2) X.env = pure (some [n, m]) := by rfl)
    (hs : swapsWithSole [.Tuple [.Name n px, .Name m py] kt pt] (.Tuple [a, b] k2 pt2) pos.line X.env = pure false := by rfl) : SDs X (.Assign [.Tuple [.Name n px, .Name m py] kt pt] (.Tuple [a, b] k2 pt2) pos :: rest) ρ Pn Pr :=
  sds_cons (P1 := fun ρ' => ρ' = (ρ1.set i (some (.d da))).set j (some (.d db))) (fun F0 H0 F H σ s D qn qr => wS_of (ps_par hc hN hi hj hij hx hy pa_w hw hs) (ha _ _ _ _ _ s _ fun vs F1 H1 s1 e1 d1 => by
    obtain ⟨v, r, rfl, g1, g2⟩ := dens_cons' d1
    obtain ⟨u, r, rfl, g3, g4⟩ := dens_cons' g2
    obtain rfl := dens_nil' g4
    exact ⟨v, u, rfl, qn _ F1 H1 _ rfl ((s1.setD g1).setD g3) e1⟩)) fun ρ2 e2 => by
    rw [e2]
    exact k
/-- a, b = e, [] -/
theorem sds_parN (i j : Nat) {n m : Str} {px py pt pl : Pos} {kt k2 pt2} (hN : X.N.Nodup) (ha : ED X a ρ da ρ1) (k : SDs X rest ((ρ1.set i (some (.d da))).set j (some (.own (.lst [])))) Pn Pr) (hi : X.N[i]? = some n := by rfl) (hj : X.N[j]? = some m := by rfl) (hij : i ≠ j := by decide)
    (hx : X.env.scope.names.lookup n = some .local := by rfl) (hy : X.env.scope.names.lookup m = some .local := by rfl) (hc : X.calm = true := by rfl)
    (hw : swappedStores [.Tuple [.Name n px, .Name m py] kt pt] (.Tuple [a, .List [] pl] k2 pt2) X.env = pure (some [n, m]) := by rfl)
    (hs : swapsWithSole [.Tuple [.Name n px, .Name m py] kt pt] (.Tuple [a, .List [] pl] k2 pt2) pos.line X.env = pure false := by rfl)
    (h1 : starEach [a, .List [] pl] X.env = (false, eval a X.env) :: starEach [.List [] pl] X.env := by rfl) (h2 : starEach [.List [] pl] X.env = (false, eval (.List [] pl) X.env) :: starEach [] X.env := by rfl) : SDs X (.Assign [.Tuple [.Name n px, .Name m py] kt pt] (.Tuple [a, .List [] pl] k2 pt2) pos :: rest) ρ Pn Pr :=
  sds_cons (P1 := fun ρ' => ρ' = (ρ1.set i (some (.d da))).set j (some (.own (.lst [])))) (fun F0 H0 F H σ s D qn qr => wS_of (ps_par hc hN hi hj hij hx hy (pa_cons pe_w (pa_cons (pe_lst pa_nil) pa_nil h2) h1) hw hs) (ha _ _ _ _ _ s _ fun v F1 H1 s1 e1 d1 => by
    refine ⟨Nat.zero_le _, fun p hp => ⟨v, .ref p, rfl, ?_⟩⟩
    have s2 := s1.newO (u := .lst []) hp
    have s3 := s2.setD (i := i) d1
    have nd := fresh_set (i := i) (x := da) (v := v) s2 (fun j' y' e' => fresh_own s1 hp j' y' e')
    exact qn _ F1 _ _ rfl (s3.setO (s1.free hp) (s1.h.free hp) upd_same ⟨[], rfl, dens_nil⟩ nd) e1)) fun ρ2 e2 => by
    rw [e2]
    exact k
theorem sds_expr (he : ED X e ρ d ρ1) (k : SDs X rest ρ1 Pn Pr) (hs : swapsWith e none pos.line X.env = pure false := by rfl) : SDs X (.Expr e pos :: rest) ρ Pn Pr :=
  sds_cons (P1 := fun ρ' => ρ' = ρ1) (fun F0 H0 F H σ s D qn qr => wS_of (ps_expr pe_w hs) (he _ _ _ _ _ s _ fun v F1 H1 s1 e1 d1 => qn _ F1 H1 _ rfl s1 e1)) fun ρ2 e2 => by
    rw [e2]
    exact k
theorem sds_ret (he : ED X e ρ d ρ1) (h : Pr d ρ1) : SDs X (.Return (some e) pos :: rest) ρ Pn Pr :=
  sds_cons (P1 := fun _ => False) (fun F0 H0 F H σ s D qn qr => wS_of (ps_ret pe_w) (he _ _ _ _ _ s _ fun v F1 H1 s1 e1 d1 => qr d ρ1 v F1 H1 σ h s1 e1 d1)) fun _ z => z.elim
theorem sds_if {A B : List Stmt} {k : Bool} (ht : TD X c ρ k) (h1 : k = true → SDs X A ρ (fun ρ' => SDs X rest ρ' Pn Pr) Pr) (h2 : k = false → SDs X B ρ (fun ρ' => SDs X rest ρ' Pn Pr) Pr) : SDs X (.If c A B pos :: rest) ρ Pn Pr :=
  sds_cons (P1 := fun ρ' => SDs X rest ρ' Pn Pr) (fun F0 H0 F H σ s D qn qr => by
    refine wS_of (ps_if pt_w pss_w pss_w) (ht _ _ _ _ _ s _ fun F1 H1 s1 e1 => ?_)
    cases k with
    | true => exact iteT (h1 rfl _ _ _ _ _ s1 D (fun ρ2 F2 H2 σ2 p2 s2 e2 => qn ρ2 F2 H2 σ2 p2 s2 (e1.trans e2)) fun d ρ2 v F2 H2 σ2 p2 s2 e2 d2 => qr d ρ2 v F2 H2 σ2 p2 s2 (e1.trans e2) d2)
    | false => exact iteF (h2 rfl _ _ _ _ _ s1 D (fun ρ2 F2 H2 σ2 p2 s2 e2 => qn ρ2 F2 H2 σ2 p2 s2 (e1.trans e2)) fun d ρ2 v F2 H2 σ2 p2 s2 e2 d2 => qr d ρ2 v F2 H2 σ2 p2 s2 (e1.trans e2) d2)) fun _ z => z
/-- a for over data: I what holds ahead of each turn -/
theorem sds_for {tg iter : Expr} {body : List Stmt} {js : List Nat} {ds : List D} (I : Nat → En → Prop) (hi : ID X tg iter ρ ds ρ1) (h0 : I 0 ρ1)
    (turn : ∀ i d ρ2, ds[i]? = some d → I i ρ2 → ∃ ρ3, GD X tg js ρ2 d ρ3 ∧ SDs X body ρ3 (I (i + 1)) Pr) (hd : ∀ ρ2, I ds.length ρ2 → SDs X rest ρ2 Pn Pr) (hp : PassesOwn (model X.prog X.w) X.A X.env X.xe := by exact PassesOwn.never) (hc : X.calm = true := by rfl)
    (hs : ∀ x, foldedSetIterable iter X.env x = pure x := by intro _; rfl) : SDs X (.For tg iter body [] pos :: rest) ρ Pn Pr :=
  sds_cons (P1 := fun ρ' => I ds.length ρ') (fun F0 H0 F H σ s D qn qr => by
    refine wS_of (ps_for hp hc pi_w pg_w pss_w hs) (hi _ _ _ _ _ s _ fun J F1 H1 s1 e1 w => ?_)
    refine ⟨fun i m σ' H' => m = ds.length - i ∧ i ≤ ds.length ∧ ∃ F' ρ', I i ρ' ∧ S0 X.K F0 H0 F' H' ρ' σ' ∧ Same F1 F', ⟨ds.length, by simp, Nat.zero_le _, F1, ρ1, h0, s1, Same.refl F1⟩, ?_⟩
    rintro i m σ' H' ⟨rfl, hi, F', ρ', hI, s', e'⟩
    by_cases hlt : i < ds.length
    · refine .inr ⟨w.go i F' H' e' s'.fh hlt, fun σ2 H2 => i + 1 ≤ ds.length ∧ ∃ F2 ρ2, I (i + 1) ρ2 ∧ S0 X.K F0 H0 F2 H2 ρ2 σ2 ∧ Same F1 F2, fun σ2 H2 h => ⟨ds.length - (i + 1), by omega, rfl, h.1, h.2⟩, fun v H2 hy => ?_⟩
      obtain ⟨F2, d, hd1, s2, e2, d2, _⟩ := w.yld i v H2 F0 H0 F' H' ρ' σ' hlt e' s' hy
      obtain ⟨ρ3, g, k⟩ := turn i d ρ' hd1 hI
      refine g _ _ _ _ _ _ s2 d2 _ fun σ3 s3 _ => k _ _ _ _ _ s3 _ (fun ρ4 F4 H4 σ4 p4 s4 e4 => ⟨hlt, F4, ρ4, p4, s4, (e'.trans e2).trans e4⟩) fun d ρ4 v F4 H4 σ4 p4 s4 e4 d4 => qr d ρ4 v F4 H4 σ4 p4 s4 (((e1.trans e').trans e2).trans e4) d4
    · have e : i = ds.length := by omega
      subst e
      exact .inl ⟨w.stop F' H' e' s'.fh, qn ρ' F' H' σ' hI s' (e1.trans e')⟩) hd
/-! ### owned things -/
theorem ed_append (i : Nat) {n : Str} {p ap cp : Pos} {ds0 ds : List D} (he : ED X e ρ d ρ1) (h0 : ρ[i]? = some (some (.own (.lst ds0))) := by rfl) (h1 : ρ1[i]? = some (some (.own (.lst ds))) := by rfl) (hl : ds.length < 100000) (hN : X.N[i]? = some n := by rfl)
    (hv : Vis X.env.scope n := by first | exact Or.inl rfl | exact Or.inr (Or.inl rfl) | exact Or.inr (Or.inr rfl)) (hd : (n == ("__debug__" : Str)) = false := by decide) (hcd : (n == ("__classdict__" : Str)) = false := by decide)
    (hbase : attributeBase (.Name n p) "append" X.env (eval (.Name n p) X.env) = eval (.Name n p) X.env := by rfl)
    (hfew : ((backTo cp (starEach [e] X.env)).all (fun x => !x.1) && (backToKw cp (keywordEach [] X.env)).all (fun x => x.1.isSome)
      && decide ([e].length + ([] : List Keyword).length + (if ([] : List Keyword).isEmpty then 0 else 1) < 30)) = true := by rfl)
    (hline : (ap.endLine == cp.line) = true := by rfl) (hs : starEach [e] X.env = (false, eval e X.env) :: starEach [] X.env := by rfl) (hplain : (backTo cp (starEach [] X.env)).any (·.1) = false := by rfl) :
    ED X (.Call (.Attribute (.Name n p) "append" ap) [e] [] cp) ρ .non (ρ1.set i (some (.own (.lst (ds ++ [d]))))) := fun F0 H0 F H σ s Q q => by
  obtain ⟨p', o, e1, e2, e3, e4, vs0, e5, e6⟩ := s.o i _ h0
  subst e5
  refine wE_of (pe_bm PySem.F.plainAttrs_list PySem.F.slot_list_append PySem.F.type_list_append mt_append (pe_var hN hv hd hcd) (pa_cons pe_w pa_nil hs) hbase hfew hline hs hplain) ⟨_, e1, .inl ⟨rfl, _, .inl (.inl e4)⟩, he _ _ _ _ _ s _ fun v F1 H1 s1 f1 d1 => ?_⟩
  obtain ⟨p2, o2, g1, g2, g3, g4, vs, g5, g6⟩ := s1.o i _ h1
  subst g5
  rw [e1] at g1
  cases g1
  refine ⟨p', vs, v, rfl, rfl, g4, ?_, q _ F1 _ (s1.mut (y := .lst (ds ++ [d])) (u := .lst (vs ++ [v])) h1 e1 ⟨_, rfl, g6.app (dens_cons d1 dens_nil)⟩) f1 mk_non⟩
  rw [g6.len]
  exact Nat.lt_of_lt_of_le hl (by decide)
theorem ed_extend (i : Nat) {n : Str} {p ap cp : Pos} {ds0 ds es : List D} (he : ED X e ρ (.lst es) ρ1) (h0 : ρ[i]? = some (some (.own (.lst ds0))) := by rfl) (h1 : ρ1[i]? = some (some (.own (.lst ds))) := by rfl) (hl : ds.length + es.length < 100000) (hN : X.N[i]? = some n := by rfl)
    (hv : Vis X.env.scope n := by first | exact Or.inl rfl | exact Or.inr (Or.inl rfl) | exact Or.inr (Or.inr rfl)) (hd : (n == ("__debug__" : Str)) = false := by decide) (hcd : (n == ("__classdict__" : Str)) = false := by decide)
    (hbase : attributeBase (.Name n p) "extend" X.env (eval (.Name n p) X.env) = eval (.Name n p) X.env := by rfl)
    (hfew : ((backTo cp (starEach [e] X.env)).all (fun x => !x.1) && (backToKw cp (keywordEach [] X.env)).all (fun x => x.1.isSome)
      && decide ([e].length + ([] : List Keyword).length + (if ([] : List Keyword).isEmpty then 0 else 1) < 30)) = true := by rfl)
    (hline : (ap.endLine == cp.line) = true := by rfl) (hs : starEach [e] X.env = (false, eval e X.env) :: starEach [] X.env := by rfl) (hplain : (backTo cp (starEach [] X.env)).any (·.1) = false := by rfl) :
    ED X (.Call (.Attribute (.Name n p) "extend" ap) [e] [] cp) ρ .non (ρ1.set i (some (.own (.lst (ds ++ es))))) := fun F0 H0 F H σ s Q q => by
  obtain ⟨p', o, e1, e2, e3, e4, vs0, e5, e6⟩ := s.o i _ h0
  subst e5
  refine wE_of (pe_bm PySem.F.plainAttrs_list PySem.F.slot_list_extend PySem.F.type_list_extend mt_extend (pe_var hN hv hd hcd) (pa_cons pe_w pa_nil hs) hbase hfew hline hs hplain) ⟨_, e1, .inl ⟨rfl, _, .inl (.inl e4)⟩, he _ _ _ _ _ s _ fun v F1 H1 s1 f1 d1 => ?_⟩
  obtain ⟨p2, o2, g1, g2, g3, g4, vs, g5, g6⟩ := s1.o i _ h1
  subst g5
  rw [e1] at g1
  cases g1
  obtain ⟨b, us, rfl, k1, k2⟩ := den_lst d1
  refine ⟨p', b, vs, us, rfl, rfl, g4, s1.fh _ _ k1, ?_, q _ F1 _ (s1.mut (y := .lst (ds ++ es)) (u := .lst (vs ++ us)) h1 e1 ⟨_, rfl, g6.app k2⟩) f1 mk_non⟩
  rw [g6.len, k2.len]
  exact Nat.le_trans (Nat.le_of_lt hl) (by decide)
/-- xs[k] of an owned list -/
theorem ed_ixO (i : Nat) {n : Str} {p : Pos} {ds : List D} {k : Int} (hb : ED X b ρ (.int k) ρ) (h0 : ρ[i]? = some (some (.own (.lst ds))) := by rfl) (hk : atI ds k = some d) (hN : X.N[i]? = some n := by rfl)
    (hv : Vis X.env.scope n := by first | exact Or.inl rfl | exact Or.inr (Or.inl rfl) | exact Or.inr (Or.inr rfl)) (hd : (n == ("__debug__" : Str)) = false := by decide) (hcd : (n == ("__classdict__" : Str)) = false := by decide) (hs : PlainIx b := by exact fun _ _ => rfl) :
    ED X (.Subscript (.Name n p) b pos) ρ d ρ := fun F0 H0 F H σ s Q q => by
  obtain ⟨p', o, e1, e2, e3, e4, vs0, e5, e6⟩ := s.o i _ h0
  subst e5
  refine wE_of (pe_ix ix_list (pe_var hN hv hd hcd) pe_w hs) ⟨_, e1, hb _ _ _ _ _ s _ fun v F1 H1 s1 f1 d1 => ?_⟩
  obtain ⟨p2, o2, g1, g2, g3, g4, vs, g5, g6⟩ := s1.o i _ h0
  subst g5
  rw [e1] at g1
  cases g1
  obtain rfl := den_int d1
  unfold atI at hk
  cases hj : ixN ds.length k with
  | none => rw [hj] at hk; cases hk
  | some j =>
    rw [hj] at hk
    obtain ⟨u, h1, h2⟩ := g6.get (i := j) (d := d) hk
    refine ⟨p', vs, k, u, rfl, rfl, .inl (.inl g4), ?_, q u F1 H1 s1 f1 h2⟩
    unfold atI
    rw [g6.len, hj]
    exact h1
/-- xs[k] = e of an owned list -/
theorem sds_setIx (i : Nat) {n : Str} {p sp : Pos} {ds : List D} {k : Int} {ie : Expr} {j : Nat} (he : ED X e ρ d ρ1) (hb : ED X ie ρ1 (.int k) ρ1) (hk : ixN ds.length k = some j) (k2 : SDs X rest (ρ1.set i (some (.own (.lst (ds.set j d))))) Pn Pr) (h1 : ρ1[i]? = some (some (.own (.lst ds))) := by rfl) (hN : X.N[i]? = some n := by rfl)
    (hv : Vis X.env.scope n := by first | exact Or.inl rfl | exact Or.inr (Or.inl rfl) | exact Or.inr (Or.inr rfl)) (hd : (n == ("__debug__" : Str)) = false := by decide) (hcd : (n == ("__classdict__" : Str)) = false := by decide)
    (ha : ∀ v, assign (.Subscript (.Name n p) ie sp) X.env v = (do
      let ov ← holding [v] (eval (.Name n p) X.env)
      let iv ← holding [v, ov] (eval ie X.env)
      standAt sp
      holding [v, ov, iv] (setItem ov iv v)
      release [v, ov, iv] []) := by intro _; rfl)
    (hs : swapsWithSole [.Subscript (.Name n p) ie sp] e pos.line X.env = pure false := by rfl) (hw : swappedStores [.Subscript (.Name n p) ie sp] e X.env = pure none := by rfl)
    (hq : (assignEach [.Subscript (.Name n p) ie sp] X.env).map (·.2) = [assign (.Subscript (.Name n p) ie sp) X.env] := by rfl) : SDs X (.Assign [.Subscript (.Name n p) ie sp] e pos :: rest) ρ Pn Pr :=
  sds_cons (P1 := fun ρ' => ρ' = ρ1.set i (some (.own (.lst (ds.set j d))))) (fun F0 H0 F H σ s D qn qr => by
    refine wS_of (ps_asg pe_w (pg_sub (pe_var hN hv hd hcd) pe_w set_list ha) hs hw hq) (he _ _ _ _ _ s _ fun v F1 H1 s1 e1 d1 => ?_)
    obtain ⟨p', o, a1, a2, a3, a4, vs0, a5, a6⟩ := s1.o i _ h1
    subst a5
    refine ⟨_, a1, hb _ _ _ _ _ s1 _ fun u F2 H2 s2 e2 d2 => ?_⟩
    obtain ⟨p2, o2, g1, g2, g3, g4, vs, g5, g6⟩ := s2.o i _ h1
    subst g5
    rw [a1] at g1
    cases g1
    obtain rfl := den_int d2
    exact ⟨p', vs, k, j, rfl, rfl, g4, by rw [g6.len]; exact hk, qn _ F2 _ _ rfl (s2.mut (y := .lst (ds.set j d)) (u := .lst (vs.set j v)) h1 a1 ⟨_, rfl, g6.set j (d1.mono e2)⟩) (e1.trans e2)⟩) fun ρ2 e2 => by
    rw [e2]
    exact k2
end
end Mf
/-! comprehensions, what is walked -/
namespace Mf
open PySem PySem.Spec PyProof.Rows L2
def wipeE (ρ : En) : List Nat → En
  | [] => ρ
  | v :: vs => (wipeE ρ vs).set v none
theorem wipeE_length (ρ : En) : ∀ vs : List Nat, (wipeE ρ vs).length = ρ.length
  | [] => rfl
  | v :: vs => by unfold wipeE; rw [List.length_set, wipeE_length ρ vs]
theorem wipeE_get {ρ : En} {i : Nat} {x : Sl} : ∀ {vs : List Nat}, (wipeE ρ vs)[i]? = some (some x) → ρ[i]? = some (some x) ∧ i ∉ vs
  | [], h => ⟨h, by simp⟩
  | v :: vs, h => by
    unfold wipeE at h
    by_cases hi : v = i
    · subst hi
      by_cases hv : v < (wipeE ρ vs).length
      · rw [List.getElem?_set_self hv] at h; cases h
      · rw [List.getElem?_eq_none (by rw [List.length_set]; omega)] at h; cases h
    · rw [List.getElem?_set_ne hi] at h
      obtain ⟨h1, h2⟩ := wipeE_get h
      exact ⟨h1, fun z => by
        rcases List.mem_cons.mp z with z | z
        · exact hi z.symm
        · exact h2 z⟩
theorem wipe_get {σ : L2.St} {i : Nat} {vs : List Nat} (h : i ∉ vs) : (wipe σ vs)[i]? = σ[i]? := by
  induction vs with
  | nil => rfl
  | cons v vs ih =>
    unfold wipe
    have h1 : v ≠ i := fun z => h (by rw [z]; exact List.mem_cons_self)
    rw [List.getElem?_set_ne h1]
    exact ih fun z => h (List.mem_cons_of_mem _ z)
theorem wipe_in {σ : L2.St} {j : Nat} : ∀ {ks : List Nat}, j ∈ ks → (wipe σ ks)[j]? = if j < σ.length then some none else none
  | [], h => by simp at h
  | v :: vs, h => by
    unfold wipe
    by_cases hv : v = j
    · subst hv
      by_cases hl : v < σ.length
      · rw [if_pos hl, List.getElem?_set_self (by rw [wipe_length]; exact hl)]
      · rw [if_neg hl, List.getElem?_eq_none (by rw [List.length_set, wipe_length]; omega)]
    · rw [List.getElem?_set_ne hv]
      rcases List.mem_cons.mp h with h | h
      · exact absurd h.symm hv
      · exact wipe_in h
theorem wipe_idem (σ : L2.St) (ks : List Nat) : wipe (wipe σ ks) ks = wipe σ ks := by
  apply List.ext_getElem?
  intro j
  by_cases hj : j ∈ ks
  · rw [wipe_in hj, wipe_in hj, wipe_length]
  · rw [wipe_get hj]
section
variable {K : PySem.W.Frag} {F0 H0 F H : Hp} {ρ : En} {σ σ2 : L2.St}
/-- what is known survives where slots agree -/
theorem S0.trans (s : S0 K F0 H0 F H ρ σ) {ρ' : En} (hl : σ2.length = ρ'.length) (h : ∀ (i : Nat) x, ρ'[i]? = some (some x) → ρ[i]? = some (some x) ∧ σ2[i]? = σ[i]?) : S0 K F0 H0 F H ρ' σ2 where
  f := s.f
  fh := s.fh
  h := s.h
  g := s.g
  len := hl
  d := fun i x e => by
    obtain ⟨e1, e2⟩ := h i _ e
    rw [e2]
    exact s.d i x e1
  o := fun i x e => by
    obtain ⟨e1, e2⟩ := h i _ e
    rw [e2]
    exact s.o i x e1
  a := fun i j x y p ei ej e1 e2 => by
    obtain ⟨a1, a2⟩ := h i _ ei
    obtain ⟨b1, b2⟩ := h j _ ej
    rw [a2] at e1
    rw [b2] at e2
    exact s.a i j x y p a1 b1 e1 e2
theorem S0.wiped (s : S0 K F0 H0 F H ρ σ) (vs : List Nat) : S0 K F0 H0 F H (wipeE ρ vs) (wipe σ vs) :=
  s.trans (by rw [wipe_length, wipeE_length, s.len]) fun i x e => by
    obtain ⟨h1, h2⟩ := wipeE_get e
    exact ⟨h1, wipe_get h2⟩
theorem S0.unwiped (s : S0 K F0 H0 F H ρ σ2) {vs : List Nat} (hw : wipe σ2 vs = wipe σ vs) : S0 K F0 H0 F H (wipeE ρ vs) σ :=
  s.trans (by
    have e : (wipe σ2 vs).length = (wipe σ vs).length := by rw [hw]
    rw [wipe_length, wipe_length] at e
    rw [wipeE_length, ← e, s.len]) fun i x e => by
    obtain ⟨h1, h2⟩ := wipeE_get e
    refine ⟨h1, ?_⟩
    rw [← wipe_get h2, ← hw, wipe_get h2]
/-- the base may be told more -/
theorem S0.guard (s : S0 K F0 H0 F H ρ σ) {p : Addr} {o : HO} (hp : H p = some o) (hf : F p = none) (hd : ∀ (j : Nat) y, ρ[j]? = some (some (.own y)) → σ[j]? ≠ some (some (.ref p))) : S0 K F0 (upd H0 p o) F H ρ σ where
  f := s.f
  fh := s.fh
  h := fun b u e => by
    by_cases hb : b = p
    · subst hb
      rw [upd_same] at e
      rw [hp, e]
    · rw [upd_ne hb] at e
      exact s.h b u e
  g := fun q h1 h2 => by
    by_cases hb : q = p
    · rw [hb]
      exact hf
    · rw [upd_ne hb] at h2
      exact s.g q h1 h2
  len := s.len
  d := s.d
  o := fun i x e => by
    obtain ⟨q, u, h1, h2, h3, h4, h5⟩ := s.o i x e
    have hq : q ≠ p := fun z => by
      subst z
      exact hd i x e h1
    exact ⟨q, u, h1, h2, by rw [upd_ne hq]; exact h3, h4, h5⟩
  a := s.a
/-- and less, and the guarded thing may change -/
theorem S0.unguard {p : Addr} {o o' : HO} (h0 : H0 p = none) (f0 : F p = none) (s : S0 K F0 (upd H0 p o) F H ρ σ) : S0 K F0 H0 F (upd H p o') ρ σ where
  f := s.f
  fh := fun b u e => by
    have hb : b ≠ p := ne_of_none e f0
    rw [upd_ne hb]
    exact s.fh b u e
  h := fun b u e => by
    have hb : b ≠ p := ne_of_none e h0
    rw [upd_ne hb]
    exact s.h b u (by rw [upd_ne hb]; exact e)
  g := fun q h1 h2 => by
    by_cases hb : q = p
    · rw [hb]
      exact f0
    · exact s.g q h1 (by rw [upd_ne hb]; exact h2)
  len := s.len
  d := s.d
  o := fun i x e => by
    obtain ⟨q, u, h1, h2, h3, h4, h5⟩ := s.o i x e
    have hq : q ≠ p := fun z => by
      rw [z, upd_same] at h3
      cases h3
    rw [upd_ne hq] at h3
    exact ⟨q, u, h1, h2, h3, by rw [upd_ne hq]; exact h4, h5⟩
  a := s.a
end
abbrev Blk (X : Cx) (scope : Scope) (X' : Cx) : Prop := ∃ (s : Shared) (H : Hp) (C : Addr) (cl : List (Str × Addr)) (fp : List Addr), X' = X.blk s H scope (compEnvC scope cl C X.env) fp
section
variable {X : Cx} {ρ ρ' ρ1 ρ2 : En} {a b c e : Expr} {da db dc d x y : D} {pos : Pos}
/-- the block's readings, whatever its frame -/
def gB (X : Cx) (scope : Scope) (tg : Expr) : TG := fun v σ' H' Q' => ∀ (s : Shared) (H : Hp) (C : Addr) (cl : List (Str × Addr)) (fp : List Addr), wG (X.blk s H scope (compEnvC scope cl C X.env) fp) tg v σ' H' Q'
def tsB (X : Cx) (scope : Scope) (ifs : List Expr) : TT := fun σ' H' Q' => ∀ (s : Shared) (H : Hp) (C : Addr) (cl : List (Str × Addr)) (fp : List Addr), wTs (X.blk s H scope (compEnvC scope cl C X.env) fp) ifs σ' H' Q'
def eB (X : Cx) (scope : Scope) (elt : Expr) : TE := fun σ' H' Q' => ∀ (s : Shared) (H : Hp) (C : Addr) (cl : List (Str × Addr)) (fp : List Addr), wE (X.blk s H scope (compEnvC scope cl C X.env) fp) elt σ' H' Q'
/-- what is known of the turns -/
structure LcI (X : Cx) (elt tg : Expr) (ifs : List Expr) (scope : Scope) (vs js : List Nat) (ds out : List D) (ρ1 ρ' : En) (I : Nat → List D → En → Prop) : Prop where
  sz : ds.length ≤ 100000
  sub : ∀ j ∈ js, j ∈ vs
  h0 : I 0 [] ρ1
  hw : ∀ i acc ρ2, I i acc ρ2 → wipeE ρ2 vs = ρ2
  turn : ∀ i d acc ρ2, ds[i]? = some d → I i acc ρ2 → acc.length ≤ i → ∃ ρ3, (∀ (s : Shared) (H : Hp) (C : Addr) (cl : List (Str × Addr)) (fp : List Addr), GD (X.blk s H scope (compEnvC scope cl C X.env) fp) tg js ρ2 d ρ3) ∧ ∃ k, (∀ (s : Shared) (H : Hp) (C : Addr) (cl : List (Str × Addr)) (fp : List Addr), TsD (X.blk s H scope (compEnvC scope cl C X.env) fp) ifs ρ3 k) ∧
      (k = true → ∃ y ρ4, (∀ (s : Shared) (H : Hp) (C : Addr) (cl : List (Str × Addr)) (fp : List Addr), ED (X.blk s H scope (compEnvC scope cl C X.env) fp) elt ρ3 y ρ4) ∧ I (i + 1) (acc ++ [y]) (wipeE ρ4 vs)) ∧ (k = false → I (i + 1) acc (wipeE ρ3 vs))
  hd : ∀ acc ρ2, I ds.length acc ρ2 → acc = out ∧ ρ2 = ρ'
theorem lc_run {elt tg iter : Expr} {ifs : List Expr} {scope : Scope} {vs js : List Nat} {ds out : List D} {I : Nat → List D → En → Prop} (L : LcI X elt tg ifs scope vs js ds out ρ1 ρ' I) (hi : ID X tg iter ρ ds ρ1) {F0 H0 F H : Hp} {σ : L2.St} (s : S0 X.K F0 H0 F H ρ σ) (Q : VK)
    (q : ∀ v F' H', S0 X.K F0 H0 F' H' ρ' σ → Same F F' → Den X.K F' (.lst out) v → Q v H') : tLc (wI X tg iter) (gB X scope tg) (tsB X scope ifs) (eB X scope elt) vs σ H Q := by
  obtain ⟨hsz, hjs, h0, hw, turn, hd⟩ := L
  refine hi _ _ _ _ _ s _ fun J F1 H1 s1 e1 w => fun D hD => ?_
  have fD1 : F1 D = none := s1.free hD
  have fD0 : F0 D = none := s1.f.free fD1
  have hD0 : H0 D = none := s1.h.free hD
  refine ⟨fun i m H' => m = ds.length - i ∧ i ≤ ds.length ∧ ∃ F' ρ' acc us, I i acc ρ' ∧ acc.length ≤ i ∧ S0 X.K F0 H0 F' H' ρ' σ ∧ Same F1 F' ∧ F' D = none ∧ H' D = some (.lst us) ∧ Dens X.K F' acc us ∧ (∀ (j : Nat) y, ρ'[j]? = some (some (.own y)) → σ[j]? ≠ some (some (.ref D))), ⟨ds.length, by simp, Nat.zero_le _, F1, ρ1, [], [], h0, Nat.le_refl _, s1.newO hD, Same.refl F1, fD1, upd_same, dens_nil, fresh_own s1 hD⟩, ?_⟩
  rintro i m H' ⟨rfl, hi', F', ρ', acc, us, hI, hal, s', e', f', hp', dv, nd⟩
  by_cases hlt : i < ds.length
  · refine .inr ⟨w.go i F' H' e' s'.fh hlt, fun H2 => i + 1 ≤ ds.length ∧ ∃ F' ρ' acc us, I (i + 1) acc ρ' ∧ acc.length ≤ i + 1 ∧ S0 X.K F0 H0 F' H2 ρ' σ ∧ Same F1 F' ∧ F' D = none ∧ H2 D = some (.lst us) ∧ Dens X.K F' acc us ∧ (∀ (j : Nat) y, ρ'[j]? = some (some (.own y)) → σ[j]? ≠ some (some (.ref D))), fun H2 h => ⟨ds.length - (i + 1), by omega, rfl, h.1, h.2⟩, fun v H2 hy => ?_⟩
    obtain ⟨F2, d, hd1, s2, e2, d2, keep⟩ := w.yld i v H2 F0 (upd H0 D (.lst us)) F' H' ρ' σ hlt e' (s'.guard hp' f' nd) hy
    have hp2 : H2 D = some (.lst us) := s2.h D _ upd_same
    have f2 : F2 D = none := s2.g D fD0 (by rw [upd_same]; exact fun z => nomatch z)
    have sw := s2.wiped vs
    rw [hw i acc ρ' hI] at sw
    obtain ⟨ρ3, g, k, tk, k1, k2⟩ := turn i d acc ρ' hd1 hI hal
    intro bs bH bC bcl bfp
    refine g bs bH bC bcl bfp _ _ _ _ _ _ sw d2 _ fun σ3 s3 w3 => ?_
    have w3' : wipe σ3 vs = wipe σ vs := by
      rw [w3 _ hjs]
      rw [wipe_idem]
    refine ⟨by
      rw [w3 _ hjs, wipe_idem], fun bs bH bC bcl bfp => tk bs bH bC bcl bfp _ _ _ _ _ s3 _ fun F4 H4 s4 e4 => ?_⟩
    cases k with
    | false =>
      refine iteF ⟨hlt, F4, _, acc, us, k2 rfl, by omega, ?_, (e'.trans e2).trans e4, s4.g D fD0 (by rw [upd_same]; exact fun z => nomatch z), s4.h D _ upd_same, Dens.mono (e2.trans e4) _ dv, fun j y ej => ?_⟩
      · have s5 := (s4.unwiped w3').unguard (o' := .lst us) hD0 (s4.g D fD0 (by rw [upd_same]; exact fun z => nomatch z))
        have e : upd H4 D (.lst us) = H4 := by
          funext b
          by_cases hb : b = D
          · subst hb
            rw [upd_same, s4.h b _ upd_same]
          · rw [upd_ne hb]
        rw [e] at s5
        exact s5
      · intro z
        obtain ⟨q, o, h1, _, h3, _⟩ := (s4.unwiped w3').o j y ej
        rw [z] at h1
        cases h1
        rw [upd_same] at h3
        cases h3
    | true =>
      obtain ⟨y, ρ4, k1, k1'⟩ := k1 rfl
      refine iteT fun bs bH bC bcl bfp => k1 bs bH bC bcl bfp _ _ _ _ _ s4 _ fun u F5 H5 s5 e5 d5 => ?_
      have hp5 : H5 D = some (.lst us) := s5.h D _ upd_same
      have f5 : F5 D = none := s5.g D fD0 (by rw [upd_same]; exact fun z => nomatch z)
      have dv5 : Dens X.K F5 acc us := Dens.mono ((e2.trans e4).trans e5) _ dv
      refine ⟨us, hp5, ?_, hlt, F5, _, acc ++ [y], us ++ [u], k1', by rw [List.length_append]; exact Nat.add_le_add_right hal 1, (s5.unwiped w3').unguard hD0 f5, ((e'.trans e2).trans e4).trans e5, f5, upd_same, dv5.app (dens_cons d5 dens_nil), fun j y ej => ?_⟩
      · rw [dv5.len]
        exact Nat.lt_of_lt_of_le (Nat.lt_of_le_of_lt hal (Nat.lt_of_lt_of_le hlt hsz)) (by decide)
      · intro z
        obtain ⟨q, o, h1, _, h3, _⟩ := (s5.unwiped w3').o j y ej
        rw [z] at h1
        cases h1
        rw [upd_same] at h3
        cases h3
  · have e : i = ds.length := by omega
    subst e
    obtain ⟨rfl, rfl⟩ := hd acc ρ' hI
    have sf : S0 X.K F0 H0 (upd F' D (.lst us)) H' ρ' σ := by
      have sm : Same F' (upd F' D (.lst us)) := same_new f'
      refine ⟨s'.f.trans sm, fun b u e => ?_, s'.h, fun q h1 h2 => ?_, s'.len, fun j z e => ?_, fun j z e => ?_, s'.a⟩
      · by_cases hb : b = D
        · subst hb
          rw [upd_same] at e
          rw [hp', e]
        · rw [upd_ne hb] at e
          exact s'.fh b u e
      · have hq : q ≠ D := fun z => by
          subst z
          exact h2 hD0
        rw [upd_ne hq]
        exact s'.g q h1 h2
      · obtain ⟨v, h1, h2⟩ := s'.d j z e
        exact ⟨v, h1, Den.mono sm z h2⟩
      · obtain ⟨q, o', a1, a2, a3, a4, a5⟩ := s'.o j z e
        have nq : q ≠ D := fun z' => by
          subst z'
          exact nd j z e a1
        exact ⟨q, o', a1, by rw [upd_ne nq]; exact a2, a3, a4, a5.mono sm⟩
    exact .inl ⟨w.stop F' H' e' s'.fh, q (.ref D) (upd F' D (.lst us)) H' sf ((e1.trans e').trans (same_new f')) (mk_lst upd_same (Dens.mono (same_new f') _ dv))⟩
theorem ed_lcI {elt tg iter : Expr} {ifs : List Expr} {scope : Scope} {own : List (Str × Nat)} {js : List Nat} {ds out : List D} {I : Nat → List D → En → Prop} (L : LcI X elt tg ifs scope (own.map (·.2)) js ds out ρ1 ρ' I) (hN : X.N.Nodup) (hi : ID X tg iter ρ ds ρ1)
    (ok : BlkOk X.N X.env.scope scope own := by exact blkOk_by (by decide +kernel)) (hc : X.calm = true := by rfl) (hs : ∀ x, foldedSetIterable iter X.env x = pure x := by intro _; rfl) : ED X (.ListComp elt [⟨tg, iter, ifs, 0⟩] scope pos) ρ (.lst out) ρ' := fun F0 H0 F H σ s Q q =>
  wE_of (pe_lc hc hN pi_w ok (fun s H C cl fp => ⟨fun pins sh σ' H' v u Q' I r h => h s H C cl fp pins sh u I r⟩) (fun s H C cl fp => ⟨fun pins sh σ' H' Q' I h => h s H C cl fp pins sh I⟩) (fun s H C cl fp => ⟨fun pins sh σ' H' Q' I h => h s H C cl fp pins sh I⟩) hs) (lc_run L hi s Q q)
/-- y = [..] on one line, y a local of the def -/
theorem sds_setLcI {Pn : En → Prop} {Pr : D → En → Prop} {rest : List Stmt} (i : Nat) {n : Str} {py spos : Pos} {elt tg iter : Expr} {ifs : List Expr} {scope : Scope} {own : List (Str × Nat)} {js : List Nat} {ds out : List D} {I : Nat → List D → En → Prop} (L : LcI X elt tg ifs scope (own.map (·.2)) js ds out ρ1 ρ' I) (hN : X.N.Nodup) (hi : ID X tg iter ρ ds ρ1)
    (k : SDs X rest (ρ'.set i (some (.d (.lst out)))) Pn Pr) (ok : BlkOk X.N X.env.scope scope own := by exact blkOk_by (by decide +kernel)) (hc : X.calm = true := by rfl) (hs : ∀ x, foldedSetIterable iter X.env x = pure x := by intro _; rfl)
    (hy : X.N[i]? = some n := by rfl) (hyl : X.env.scope.names.lookup n = some .local := by rfl) (hsw : swapsWith (.ListComp elt [⟨tg, iter, ifs, 0⟩] scope pos) (some (.Name n py)) spos.line X.env = pure true := by exact sw_true rfl rfl rfl (by decide +kernel)) :
    SDs X (.Assign [.Name n py] (.ListComp elt [⟨tg, iter, ifs, 0⟩] scope pos) spos :: rest) ρ Pn Pr :=
  sds_cons (P1 := fun ρ2 => ρ2 = ρ'.set i (some (.d (.lst out)))) (fun F0 H0 F H σ s D qn qr => wS_of (ps_setLc hc hN hy hyl hsw pi_w ok (fun s H C cl fp => ⟨fun pins sh σ' H' v u Q' I r h => h s H C cl fp pins sh u I r⟩) (fun s H C cl fp => ⟨fun pins sh σ' H' Q' I h => h s H C cl fp pins sh I⟩) (fun s H C cl fp => ⟨fun pins sh σ' H' Q' I h => h s H C cl fp pins sh I⟩) hs)
    (lc_run L hi s _ fun v F1 H1 s1 e1 d1 => qn _ F1 H1 _ rfl (s1.setD d1) e1)) fun ρ2 e2 => by
    rw [e2]
    exact k
theorem ts_nil : TsD X [] ρ true := fun F0 H0 F H σ s Q q => wTs_of pts_nil (q F H s (Same.refl F))
theorem ts_one {k : Bool} (h : TD X c ρ k) : TsD X [c] ρ k := fun F0 H0 F H σ s Q q => wTs_of (pts_one pt_w) (h _ _ _ _ _ s _ q)
/-- nothing is changed: each item by f -/
theorem lcI_pure {α : Type} {elt tg : Expr} {ifs : List Expr} {scope : Scope} {js vs : List Nat} {xs : List α} {enc : α → D} (p : α → Bool) (f : α → D)
    (hsz : xs.length ≤ 100000) (hjs : ∀ j ∈ js, j ∈ vs) (hw : wipeE ρ vs = ρ)
    (turn : ∀ x ∈ xs, ∃ ρ3, wipeE ρ3 vs = ρ ∧ ∀ (s : Shared) (H : Hp) (C : Addr) (cl : List (Str × Addr)) (fp : List Addr), GD (X.blk s H scope (compEnvC scope cl C X.env) fp) tg js ρ (enc x) ρ3 ∧ TsD (X.blk s H scope (compEnvC scope cl C X.env) fp) ifs ρ3 (p x) ∧
      (p x = true → ED (X.blk s H scope (compEnvC scope cl C X.env) fp) elt ρ3 (f x) ρ3)) :
    LcI X elt tg ifs scope vs js (xs.map enc) ((xs.filter p).map f) ρ ρ (fun i acc ρ2 => ρ2 = ρ ∧ acc = ((xs.take i).filter p).map f) := by
  refine ⟨by rw [List.length_map]; exact hsz, hjs, ⟨rfl, rfl⟩, fun i acc ρ2 h => by rw [h.1]; exact hw, ?_, ?_⟩
  · rintro i d acc ρ2 hd ⟨rfl, rfl⟩ _
    rw [List.getElem?_map] at hd
    cases hx : xs[i]? with
    | none => rw [hx] at hd; cases hd
    | some x =>
      rw [hx] at hd
      obtain rfl : enc x = d := Option.some.inj hd
      obtain ⟨ρ3, t1, t2⟩ := turn x (List.mem_of_getElem? hx)
      refine ⟨ρ3, fun s H C cl fp => (t2 s H C cl fp).1, p x, fun s H C cl fp => (t2 s H C cl fp).2.1, fun hp => ⟨f x, ρ3, fun s H C cl fp => (t2 s H C cl fp).2.2 hp, t1, ?_⟩, fun hp => ⟨t1, ?_⟩⟩
      · rw [List.take_add_one, hx, List.filter_append, List.map_append]
        simp [hp]
      · rw [List.take_add_one, hx, List.filter_append, List.map_append]
        simp [hp]
  · rintro acc ρ2 ⟨rfl, rfl⟩
    rw [List.length_map, List.take_length]
    exact ⟨rfl, rfl⟩
end
end Mf
/-! what is walked; built-ins over data -/
namespace Mf
open PySem PySem.Spec PyProof.Rows L2
section
variable {K : PySem.W.Frag} {F : Hp} {ds es : List D} {vs us : List V} {p a b : Addr}
theorem walkD_tup (h : F p = some (.tup vs)) (dv : Dens K F ds vs) : WalkD K (Itt K p) F ds where
  go := fun i F1 H1 e f hi => by
    obtain ⟨v, h1, _⟩ := dv.get (i := i) (List.getElem?_eq_getElem hi)
    exact ⟨vs, v, sqT_mono (e.trans f) h, h1⟩
  stop := fun F1 H1 e f => ⟨vs, sqT_mono (e.trans f) h, by rw [dv.len]; exact Nat.le_refl _⟩
  yld := fun i v H' F0 H0 F1 H1 ρ σ hi e s y => by
    obtain ⟨rfl, y⟩ := y
    have hv := y vs (sqT_mono (e.trans s.fh) h)
    obtain ⟨d, h1, h2⟩ := dv.at hv
    exact ⟨F1, d, h1, s, Same.refl F1, h2.mono e, fun _ _ z => z⟩
theorem walkD_lst (h : F p = some (.lst vs)) (dv : Dens K F ds vs) : WalkD K (Itl K p) F ds where
  go := fun i F1 H1 e f hi => by
    obtain ⟨v, h1, _⟩ := dv.get (i := i) (List.getElem?_eq_getElem hi)
    exact ⟨vs, v, .inl (.inl (f _ _ (e _ _ h))), h1⟩
  stop := fun F1 H1 e f => ⟨vs, .inl (.inl (f _ _ (e _ _ h))), by rw [dv.len]; exact Nat.le_refl _⟩
  yld := fun i v H' F0 H0 F1 H1 ρ σ hi e s y => by
    obtain ⟨rfl, y⟩ := y
    have hv := y vs (.inl (.inl (s.fh _ _ (e _ _ h))))
    obtain ⟨d, h1, h2⟩ := dv.at hv
    exact ⟨F1, d, h1, s, Same.refl F1, h2.mono e, fun _ _ z => z⟩
theorem walkD_rng {lo : Int} {n : Nat} : WalkD K (Itr lo n) F ((List.range n).map fun i => .int (lo + (i : Nat))) where
  go := fun i F1 H1 e f hi => by
    rw [List.length_map, List.length_range] at hi
    exact hi
  stop := fun F1 H1 e f => by
    rw [List.length_map, List.length_range]
    exact Nat.le_refl _
  yld := fun i v H' F0 H0 F1 H1 ρ σ hi e s y => by
    obtain ⟨rfl, rfl⟩ := y
    rw [List.length_map, List.length_range] at hi
    exact ⟨F1, _, by rw [List.getElem?_map, List.getElem?_range hi]; rfl, s, Same.refl F1, mk_int, fun _ _ z => z⟩
/-- pairs, each a new tuple -/
theorem walkD_pair {J : It} {n : Nat} {G : Hp → Prop} {xs ys : Nat → Option V} (w : Walk J n G (YPair xs ys)) (hG : ∀ F1 H1, Same F F1 → Same F1 H1 → G H1) (hl : ds.length = n)
    (hp : ∀ i x y, i < n → xs i = some x → ys i = some y → ∃ dx dy, ds[i]? = some (.tup [dx, dy]) ∧ Den K F dx x ∧ Den K F dy y) : WalkD K J F ds where
  go := fun i F1 H1 e f hi => w.goes i H1 (by omega) (hG F1 H1 e f)
  stop := fun F1 H1 e f => by
    rw [hl]
    exact w.stops H1 (hG F1 H1 e f)
  yld := fun i v H' F0 H0 F1 H1 ρ σ hi e s y => by
    obtain ⟨T, x, z, rfl, hT, rfl, hx, hz⟩ := w.yields i H1 v H' (by omega) (hG F1 H1 e s.fh) y
    obtain ⟨dx, dy, h1, h2, h3⟩ := hp i x z (by omega) hx hz
    have sm : Same F1 (upd F1 T (.tup [x, z])) := same_new (s.free hT)
    exact ⟨_, _, h1, s.new hT, sm, mk_tup upd_same (dens_cons (h2.mono (e.trans sm)) (dens_cons (h3.mono (e.trans sm)) dens_nil)), same_new hT⟩
theorem walk_zipTT {xs ys : List V} {n : Nat} (hn : n = min xs.length ys.length) : Walk (RZ.ItzT K a b) n (fun H => SqT K H a xs ∧ SqT K H b ys) (YPair (fun i => xs[i]?) (fun i => ys[i]?)) := by
  subst hn
  refine ⟨fun i _ hi q => ?_, fun _ q => ⟨xs, ys, q.1, q.2, by omega⟩, fun i H v H' _ q y => ?_⟩
  · have h1 : i < xs.length := by omega
    have h2 : i < ys.length := by omega
    exact ⟨xs, ys, xs[i], ys[i], q.1, q.2, by simp [h1], by simp [h2]⟩
  · obtain ⟨T, x, z, h1, h2, h3, h4, h5⟩ := y
    exact ⟨T, x, z, h1, h2, h3, h4 xs q.1, h5 ys q.2⟩
end
def zipD (xs ys : List D) : List D := (xs.zip ys).map fun p => .tup [p.1, p.2]
def enumD (xs : List D) : List D := xs.zipIdx.map fun p => .tup [.int ((p.2 : Nat) : Int), p.1]
theorem zipD_get {xs ys : List D} {i : Nat} {x y : D} (h1 : xs[i]? = some x) (h2 : ys[i]? = some y) : (zipD xs ys)[i]? = some (.tup [x, y]) := by
  unfold zipD
  have e : (xs.zip ys)[i]? = some (x, y) := List.getElem?_zip_eq_some.mpr ⟨h1, h2⟩
  rw [List.getElem?_map, e]
  rfl
theorem enumD_get {xs : List D} {i : Nat} {x : D} (h1 : xs[i]? = some x) : (enumD xs)[i]? = some (.tup [.int (i : Nat), x]) := by
  unfold enumD
  rw [List.getElem?_map, List.getElem?_zipIdx, h1]
  simp
theorem zipD_length {xs ys : List D} : (zipD xs ys).length = min xs.length ys.length := by unfold zipD; rw [List.length_map, List.length_zip]
theorem enumD_length {xs : List D} : (enumD xs).length = xs.length := by unfold enumD; rw [List.length_map, List.length_zipIdx]
section
variable {X : Cx} {ρ ρ' ρ1 ρ2 : En} {a b c e : Expr} {da db dc d x y : D} {pos p : Pos} {tg : Expr} {ds es : List D}
theorem id_tup (h : ED X e ρ (.tup ds) ρ1) : ID X tg e ρ ds ρ1 := fun F0 H0 F H σ s R r => wI_of (pi_tup pe_w) (h _ _ _ _ _ s _ fun v F1 H1 s1 e1 d1 => by
  obtain ⟨p, vs, rfl, h1, h2⟩ := den_tup d1
  exact ⟨p, rfl, ⟨vs, sqT_mono s1.fh h1⟩, r _ F1 H1 s1 e1 (walkD_tup h1 h2)⟩)
theorem id_lst (h : ED X e ρ (.lst ds) ρ1) : ID X tg e ρ ds ρ1 := fun F0 H0 F H σ s R r => wI_of (pi_list pe_w) (h _ _ _ _ _ s _ fun v F1 H1 s1 e1 d1 => by
  obtain ⟨p, vs, rfl, h1, h2⟩ := den_lst d1
  exact ⟨p, rfl, ⟨vs, .inl (.inl (s1.fh _ _ h1))⟩, r _ F1 H1 s1 e1 (walkD_lst h1 h2)⟩)
theorem id_rng1 {n : Nat} (hm : X.mg "range" = none) (h : AD X [e] ρ [.int (n : Int)] ρ1) (hn : n < 2 ^ 62) (hg : Gl X "range" := by rfl) (hs : starEach [e] X.env = [(false, eval e X.env)] := by rfl) : ID X tg (.Call (.Name "range" p) [e] [] pos) ρ ((List.range n).map fun i => .int (i : Nat)) ρ1 := fun F0 H0 F H σ s R r => wI_of (pi_range1 hg hm pa_w hs) (h _ _ _ _ _ s _ fun vs F1 H1 s1 e1 d1 => by
  obtain ⟨v, r', rfl, g1, g2⟩ := dens_cons' d1
  obtain rfl := dens_nil' g2
  obtain rfl := den_int g1
  refine ⟨n, rfl, by omega, by omega, ?_⟩
  have w := r (Itr 0 n) F1 H1 s1 e1 (by
    have q := walkD_rng (K := X.K) (F := F1) (lo := 0) (n := n)
    have e : ((List.range n).map fun i => D.int (0 + ((i : Nat) : Int))) = (List.range n).map fun i => D.int ((i : Nat) : Int) := by simp
    rw [e] at q
    exact q)
  rw [show ((n : Int)).toNat = n from Int.toNat_natCast n]
  exact w)
theorem id_rng2 {i j : Int} (hm : X.mg "range" = none) (h : AD X [a, b] ρ [.int i, .int j] ρ1) (hb : -(2 ^ 62) ≤ i ∧ i < 2 ^ 62 ∧ -(2 ^ 62) ≤ j ∧ j < 2 ^ 62) (hg : Gl X "range" := by rfl) (hs : starEach [a, b] X.env = [(false, eval a X.env), (false, eval b X.env)] := by rfl) (hs2 : starEach [b] X.env = [(false, eval b X.env)] := by rfl) :
    ID X tg (.Call (.Name "range" p) [a, b] [] pos) ρ ((List.range (j - i).toNat).map fun k => .int (i + (k : Nat))) ρ1 := fun F0 H0 F H σ s R r => wI_of (pi_range2 hg hm pa_w hs hs2) (h _ _ _ _ _ s _ fun vs F1 H1 s1 e1 d1 => by
  obtain ⟨v, r', rfl, g1, g2⟩ := dens_cons' d1
  obtain ⟨v, r', rfl, g3, g4⟩ := dens_cons' g2
  obtain rfl := dens_nil' g4
  obtain rfl := den_int g1
  obtain rfl := den_int g3
  exact ⟨i, j, rfl, hb, r _ F1 H1 s1 e1 walkD_rng⟩)
theorem two_args {K : PySem.W.Frag} {F : Hp} {vs : List V} (d1 : Dens K F [da, db] vs) : ∃ u w, vs = [u, w] ∧ Den K F da u ∧ Den K F db w := by
  obtain ⟨v, r', rfl, g1, g2⟩ := dens_cons' d1
  obtain ⟨w, r', rfl, g3, g4⟩ := dens_cons' g2
  obtain rfl := dens_nil' g4
  exact ⟨v, w, rfl, g1, g3⟩
theorem one_arg {K : PySem.W.Frag} {F : Hp} {vs : List V} (d1 : Dens K F [da] vs) : ∃ u, vs = [u] ∧ Den K F da u := by
  obtain ⟨v, r', rfl, g1, g2⟩ := dens_cons' d1
  obtain rfl := dens_nil' g2
  exact ⟨v, rfl, g1⟩
theorem id_zipTT {elts : List Expr} {kk : Nat} {tpos : Pos} (hm : X.mg "zip" = none) (h : AD X [a, b] ρ [.tup ds, .tup es] ρ1) (hg : Gl X "zip" := by rfl) (hs : starEach [a, b] X.env = (false, eval a X.env) :: starEach [b] X.env := by rfl) (hpl : (backTo pos (starEach [b] X.env)).any (·.1) = false := by rfl) :
    ID X (.Tuple elts kk tpos) (.Call (.Name "zip" p) [a, b] [] pos) ρ (zipD ds es) ρ1 := fun F0 H0 F H σ s R r => wI_of (RZ.pi_zipA hg hm pa_w hs hpl) (h _ _ _ _ _ s _ fun vs F1 H1 s1 e1 d1 => by
  obtain ⟨u, w, rfl, g1, g2⟩ := two_args d1
  obtain ⟨p1, vs1, rfl, h1, h2⟩ := den_tup g1
  obtain ⟨p2, vs2, rfl, h3, h4⟩ := den_tup g2
  refine ⟨p1, p2, vs1, vs2, rfl, .inr ⟨sqT_mono s1.fh h1, sqT_mono s1.fh h3, r _ F1 H1 s1 e1 (walkD_pair (walk_zipTT (xs := vs1) (ys := vs2) rfl) (fun F2 H2 e f => ⟨sqT_mono (e.trans f) h1, sqT_mono (e.trans f) h3⟩) (by rw [zipD_length, h2.len, h4.len]) fun i x y hi hx hy => ?_)⟩⟩
  obtain ⟨dx, k1, k2⟩ := h2.at hx
  obtain ⟨dy, k3, k4⟩ := h4.at hy
  exact ⟨dx, dy, zipD_get k1 k3, k2, k4⟩)
theorem id_enumL {elts : List Expr} {kk : Nat} {tpos : Pos} (hm : X.mg "enumerate" = none) (h : AD X [a] ρ [.lst ds] ρ1) (hg : Gl X "enumerate" := by rfl) (hs : starEach [a] X.env = (false, eval a X.env) :: starEach [] X.env := by rfl) (hpl : (backTo pos (starEach [] X.env)).any (·.1) = false := by rfl) :
    ID X (.Tuple elts kk tpos) (.Call (.Name "enumerate" p) [a] [] pos) ρ (enumD ds) ρ1 := fun F0 H0 F H σ s R r => wI_of (pi_enum hg hm pa_w hs) (h _ _ _ _ _ s _ fun vs F1 H1 s1 e1 d1 => by
  obtain ⟨u, rfl, g1⟩ := one_arg d1
  obtain ⟨p1, vs1, rfl, h1, h2⟩ := den_lst g1
  refine ⟨p1, vs1, rfl, .inl (.inl (s1.fh _ _ h1)), r _ F1 H1 s1 e1 (walkD_pair (walk_enum (xs := vs1)) (fun F2 H2 e f => .inl (.inl (f _ _ (e _ _ h1)))) (by rw [enumD_length, h2.len]) fun i x y hi hx hy => ?_)⟩
  cases hx
  obtain ⟨dy, k3, k4⟩ := h2.at hy
  exact ⟨_, dy, enumD_get k3, mk_int, k4⟩)
/-! ### operators over data -/
theorem bin_add {i j : Int} : BinD X .Add (.int i) (.int j) (.int (i + j)) := ⟨_, op_add, fun F0 H0 F H ρ σ s x y Q hx hy q => ⟨i, j, den_int hx, den_int hy, q _ F H s (Same.refl F) mk_int⟩⟩
theorem bin_sub {i j : Int} : BinD X .Sub (.int i) (.int j) (.int (i - j)) := ⟨_, op_sub, fun F0 H0 F H ρ σ s x y Q hx hy q => ⟨i, j, den_int hx, den_int hy, q _ F H s (Same.refl F) mk_int⟩⟩
theorem bin_mul {i j : Int} (h : CMul i j) : BinD X .Mult (.int i) (.int j) (.int (i * j)) := ⟨_, op_mul, fun F0 H0 F H ρ σ s x y Q hx hy q => ⟨i, j, den_int hx, den_int hy, h, q _ F H s (Same.refl F) mk_int⟩⟩
theorem bin_fdiv {i j : Int} (h : CDiv i j) : BinD X .FloorDiv (.int i) (.int j) (.int (i / j)) := ⟨_, op_fdiv, fun F0 H0 F H ρ σ s x y Q hx hy q => ⟨i, j, den_int hx, den_int hy, h, q _ F H s (Same.refl F) mk_int⟩⟩
theorem bin_mod {i j : Int} (h : 0 < j) : BinD X .Mod (.int i) (.int j) (.int (i % j)) := ⟨_, op_mod, fun F0 H0 F H ρ σ s x y Q hx hy q => ⟨i, j, den_int hx, den_int hy, h, q _ F H s (Same.refl F) mk_int⟩⟩
theorem bin_pow {i j : Int} (h : CPow i j) : BinD X .Pow (.int i) (.int j) (.int (i ^ j.toNat)) := ⟨_, op_pow, fun F0 H0 F H ρ σ s x y Q hx hy q => ⟨i, j, den_int hx, den_int hy, h, q _ F H s (Same.refl F) mk_int⟩⟩
theorem bin_catT (hl : ds.length + es.length ≤ 100000 := by decide) : BinD X .Add (.tup ds) (.tup es) (.tup (ds ++ es)) := ⟨_, op_catA, fun F0 H0 F H ρ σ s x y Q hx hy q => by
  obtain ⟨p1, vs1, rfl, h1, h2⟩ := den_tup hx
  obtain ⟨p2, vs2, rfl, h3, h4⟩ := den_tup hy
  refine ⟨p1, p2, vs1, vs2, rfl, rfl, sqT_mono s.fh h1, sqT_mono s.fh h3, by rw [h2.len, h4.len]; exact len_ok hl, fun e => ?_, fun _ e => ?_, fun _ _ p hp => q _ _ _ (s.new hp) (same_new (s.free hp)) (mk_tup upd_same (Dens.mono (same_new (s.free hp)) _ (h2.app h4)))⟩
  · subst e
    have e2 : ds = [] := List.eq_nil_of_length_eq_zero (by rw [← h2.len]; rfl)
    subst e2
    exact q _ F H s (Same.refl F) (mk_tup h3 h4)
  · subst e
    have e2 : es = [] := List.eq_nil_of_length_eq_zero (by rw [← h4.len]; rfl)
    subst e2
    exact q _ F H s (Same.refl F) (mk_tup h1 (by rw [List.append_nil]; exact h2))⟩
theorem bin_catL (hl : ds.length + es.length ≤ 100000 := by decide) : BinD X .Add (.lst ds) (.lst es) (.lst (ds ++ es)) := ⟨_, op_cat, fun F0 H0 F H ρ σ s x y Q hx hy q => by
  obtain ⟨p1, vs1, rfl, h1, h2⟩ := den_lst hx
  obtain ⟨p2, vs2, rfl, h3, h4⟩ := den_lst hy
  exact ⟨p1, p2, vs1, vs2, rfl, rfl, s.fh _ _ h1, s.fh _ _ h3, by rw [h2.len, h4.len]; exact len_ok hl, fun p hp => q _ _ _ (s.new hp) (same_new (s.free hp)) (mk_lst upd_same (Dens.mono (same_new (s.free hp)) _ (h2.app h4)))⟩⟩
theorem dens_rep {K : PySem.W.Frag} {F : Hp} {vs : List V} (h : Dens K F ds vs) : ∀ n : Nat, Dens K F (List.replicate n ds).flatten (List.replicate n vs).flatten
  | 0 => dens_nil
  | n + 1 => by
    rw [List.replicate_succ, List.replicate_succ, List.flatten_cons, List.flatten_cons]
    exact h.app (dens_rep h n)
/-- [..] * k, for oneself -/
theorem nd_rep {n : Nat} (ha : ED X a ρ (.lst ds) ρ) (hb : ED X b ρ (.int (n : Int)) ρ) (hl : ds.length * n ≤ 100000) (hn : n ≤ 100000) : ND X (.BinOp a .Mult b pos) ρ (.lst (List.replicate n ds).flatten) ρ := fun F0 H0 F H σ s Q q =>
  wE_of (pe_op op_rep pe_w pe_w) (ha _ _ _ _ _ s _ fun v F1 H1 s1 e1 d1 => hb _ _ _ _ _ s1 _ fun u F2 H2 s2 e2 d2 => by
    obtain ⟨p1, vs1, rfl, h1, h2⟩ := den_lst (d1.mono e2)
    obtain rfl := den_int d2
    refine ⟨p1, n, vs1, rfl, rfl, s2.fh _ _ h1, by omega, by omega, by rw [h2.len, Int.toNat_natCast]; exact len_ok hl, fun p hp => q p _ _ _ (s2.newO hp) (e1.trans e2) (s2.free hp) (s2.h.free hp) upd_same ⟨_, rfl, by rw [Int.toNat_natCast]; exact dens_rep h2 n⟩ (fresh_own s2 hp)⟩)
theorem bin_repT {n : Nat} (h0 : ds ≠ []) (h1 : 2 ≤ n) (h2 : n ≤ 1000) (h3 : ds.length ≤ 1000) : BinD X .Mult (.tup ds) (.int (n : Int)) (.tup (List.replicate n ds).flatten) := ⟨_, op_repT, fun F0 H0 F H ρ σ s x y Q hx hy q => by
  obtain ⟨p1, vs1, rfl, g1, g2⟩ := den_tup hx
  obtain rfl := den_int hy
  refine ⟨p1, n, vs1, rfl, rfl, sqT_mono s.fh g1, fun e => ?_, by omega, by omega, by rw [g2.len]; exact h3, fun p hp => q _ _ _ (s.new hp) (same_new (s.free hp)) (mk_tup upd_same (Dens.mono (same_new (s.free hp)) _ (by rw [Int.toNat_natCast]; exact dens_rep g2 n)))⟩
  subst e
  exact h0 (List.eq_nil_of_length_eq_zero (by rw [← g2.len]; rfl))⟩
/-! ### comparisons over data -/
theorem cmp_lt {i j : Int} : CmpD X .Lt (.int i) (.int j) (decide (i < j)) := ⟨_, op_lt, fun F0 H0 F H ρ σ s x y Q hx hy q => ⟨i, j, den_int hx, den_int hy, q _ F H s (Same.refl F) mk_bl⟩⟩
theorem cmp_le {i j : Int} : CmpD X .LtE (.int i) (.int j) (decide (i ≤ j)) := ⟨_, op_le, fun F0 H0 F H ρ σ s x y Q hx hy q => ⟨i, j, den_int hx, den_int hy, q _ F H s (Same.refl F) mk_bl⟩⟩
theorem cmp_gt {i j : Int} : CmpD X .Gt (.int i) (.int j) (decide (j < i)) := ⟨_, op_gt, fun F0 H0 F H ρ σ s x y Q hx hy q => ⟨i, j, den_int hx, den_int hy, q _ F H s (Same.refl F) mk_bl⟩⟩
theorem cmp_ge {i j : Int} : CmpD X .GtE (.int i) (.int j) (decide (j ≤ i)) := ⟨_, op_ge, fun F0 H0 F H ρ σ s x y Q hx hy q => ⟨i, j, den_int hx, den_int hy, q _ F H s (Same.refl F) mk_bl⟩⟩
theorem cmp_eqI {i j : Int} : CmpD X .Eq (.int i) (.int j) (decide (i = j)) := ⟨_, op_eq, fun F0 H0 F H ρ σ s x y Q hx hy q => by
  obtain rfl := den_int hx
  obtain rfl := den_int hy
  refine ⟨rfl, ?_⟩
  have e : decide (V.int i = V.int j) = decide (i = j) := by
    by_cases h : i = j
    · subst h; simp
    · rw [decide_eq_false h, decide_eq_false fun z => h (V.int.inj z)]
  rw [e]
  exact q _ F H s (Same.refl F) mk_bl⟩
theorem cmp_neI {i j : Int} : CmpD X .NotEq (.int i) (.int j) (!decide (i = j)) := ⟨_, op_ne, fun F0 H0 F H ρ σ s x y Q hx hy q => by
  obtain rfl := den_int hx
  obtain rfl := den_int hy
  refine ⟨rfl, ?_⟩
  have e : decide (V.int i = V.int j) = decide (i = j) := by
    by_cases h : i = j
    · subst h; simp
    · rw [decide_eq_false h, decide_eq_false fun z => h (V.int.inj z)]
  rw [e]
  exact q _ F H s (Same.refl F) mk_bl⟩
theorem cmp_eqS {i j : Str} : CmpD X .Eq (.str i) (.str j) (decide (i = j)) := ⟨_, op_eq, fun F0 H0 F H ρ σ s x y Q hx hy q => by
  obtain rfl := den_str hx
  obtain rfl := den_str hy
  refine ⟨rfl, ?_⟩
  have e : decide (V.str i = V.str j) = decide (i = j) := by
    by_cases h : i = j
    · subst h; simp
    · rw [decide_eq_false h, decide_eq_false fun z => h (V.str.inj z)]
  rw [e]
  exact q _ F H s (Same.refl F) mk_bl⟩
theorem cmp_neS {i j : Str} : CmpD X .NotEq (.str i) (.str j) (!decide (i = j)) := ⟨_, op_ne, fun F0 H0 F H ρ σ s x y Q hx hy q => by
  obtain rfl := den_str hx
  obtain rfl := den_str hy
  refine ⟨rfl, ?_⟩
  have e : decide (V.str i = V.str j) = decide (i = j) := by
    by_cases h : i = j
    · subst h; simp
    · rw [decide_eq_false h, decide_eq_false fun z => h (V.str.inj z)]
  rw [e]
  exact q _ F H s (Same.refl F) mk_bl⟩
theorem cmp_neB {i j : Bool} : CmpD X .NotEq (.bl i) (.bl j) (!decide (i = j)) := ⟨_, op_ne, fun F0 H0 F H ρ σ s x y Q hx hy q => by
  obtain rfl := den_bl hx
  obtain rfl := den_bl hy
  refine ⟨rfl, ?_⟩
  have e : decide (V.bl i = V.bl j) = decide (i = j) := by
    by_cases h : i = j
    · subst h; simp
    · rw [decide_eq_false h, decide_eq_false fun z => h (V.bl.inj z)]
  rw [e]
  exact q _ F H s (Same.refl F) mk_bl⟩
theorem cmp_notB {i j : Bool} : CmpD X .IsNot (.bl i) (.bl j) (!decide (i = j)) := ⟨_, op_notBl, fun F0 H0 F H ρ σ s x y Q hx hy q => ⟨i, j, den_bl hx, den_bl hy, q _ F H s (Same.refl F) mk_bl⟩⟩
def isNon : D → Bool
  | .non => true
  | _ => false
theorem isNon_den {K : PySem.W.Frag} {F : Hp} {v : V} : ∀ {d : D}, Den K F d v → decide (v = .non) = isNon d := fun {d} h => by
  cases d with
  | non => rw [den_non h]; rfl
  | bl b => rw [den_bl h]; rfl
  | int i => rw [den_int h]; rfl
  | str i => rw [den_str h]; rfl
  | ty i => rw [den_ty h]; rfl
  | tup ds => obtain ⟨p, vs, rfl, _⟩ := den_tup h; rfl
  | scr ns => obtain ⟨p, rfl, _⟩ := den_scr h; rfl
  | lst ds => obtain ⟨p, vs, rfl, _⟩ := den_lst h; rfl
  | dic ks ds => obtain ⟨p, vs, rfl, _⟩ := den_dic h; rfl
theorem cmp_isN : CmpD X .Is d .non (isNon d) := ⟨_, op_isN, fun F0 H0 F H ρ σ s x y Q hx hy q => ⟨den_non hy, by rw [isNon_den hx]; exact q _ F H s (Same.refl F) mk_bl⟩⟩
theorem cmp_notN : CmpD X .IsNot d .non (!isNon d) := ⟨_, op_notN, fun F0 H0 F H ρ σ s x y Q hx hy q => ⟨den_non hy, by rw [isNon_den hx]; exact q _ F H s (Same.refl F) mk_bl⟩⟩
/-- in, over flat things -/
def flatD : D → Bool
  | .non => true
  | .bl _ => true
  | .int _ => true
  | .str _ => true
  | _ => false
def vOf : D → V
  | .bl b => .bl b
  | .int i => .int i
  | .str x => .str x
  | _ => .non
theorem flat_den {K : PySem.W.Frag} {F : Hp} {v : V} {d : D} (h : flatD d = true) (q : Den K F d v) : v = vOf d ∧ flatV v = true := by
  cases d with
  | non => rw [den_non q]; exact ⟨rfl, rfl⟩
  | bl b => rw [den_bl q]; exact ⟨rfl, rfl⟩
  | int i => rw [den_int q]; exact ⟨rfl, rfl⟩
  | str i => rw [den_str q]; exact ⟨rfl, rfl⟩
  | _ => cases h
theorem flats_den {K : PySem.W.Frag} {F : Hp} : ∀ {ds : List D} {vs : List V}, ds.all flatD = true → Dens K F ds vs → vs = ds.map vOf ∧ vs.all flatV = true
  | [], vs, _, q => by rw [dens_nil' q]; exact ⟨rfl, rfl⟩
  | d :: ds, vs, h, q => by
    obtain ⟨v, r, rfl, q1, q2⟩ := dens_cons' q
    rw [List.all_cons, Bool.and_eq_true] at h
    obtain ⟨h1, h2⟩ := flat_den h.1 q1
    obtain ⟨h3, h4⟩ := flats_den h.2 q2
    exact ⟨by rw [List.map_cons, h1, h3], by rw [List.all_cons, h2, h4]; rfl⟩
theorem cmp_inT (h1 : flatD d = true) (h2 : ds.all flatD = true) : CmpD X .In d (.tup ds) (inV (vOf d) (ds.map vOf)) := ⟨_, op_in_seq, fun F0 H0 F H ρ σ s x y Q hx hy q => by
  obtain ⟨p, vs, rfl, g1, g2⟩ := den_tup hy
  obtain ⟨e1, e2⟩ := flat_den h1 hx
  obtain ⟨e3, e4⟩ := flats_den h2 g2
  refine ⟨p, vs, rfl, .inr (sqT_mono s.fh g1), e2, e4, ?_⟩
  rw [e1, e3]
  exact q _ F H s (Same.refl F) mk_bl⟩
theorem cmp_inL (h1 : flatD d = true) (h2 : ds.all flatD = true) : CmpD X .In d (.lst ds) (inV (vOf d) (ds.map vOf)) := ⟨_, op_in_seq, fun F0 H0 F H ρ σ s x y Q hx hy q => by
  obtain ⟨p, vs, rfl, g1, g2⟩ := den_lst hy
  obtain ⟨e1, e2⟩ := flat_den h1 hx
  obtain ⟨e3, e4⟩ := flats_den h2 g2
  refine ⟨p, vs, rfl, .inl (.inl (.inl (s.fh _ _ g1))), e2, e4, ?_⟩
  rw [e1, e3]
  exact q _ F H s (Same.refl F) mk_bl⟩
theorem cmp_niT (h1 : flatD d = true) (h2 : ds.all flatD = true) : CmpD X .NotIn d (.tup ds) (!inV (vOf d) (ds.map vOf)) := ⟨_, op_notIn_seq, fun F0 H0 F H ρ σ s x y Q hx hy q => by
  obtain ⟨p, vs, rfl, g1, g2⟩ := den_tup hy
  obtain ⟨e1, e2⟩ := flat_den h1 hx
  obtain ⟨e3, e4⟩ := flats_den h2 g2
  refine ⟨p, vs, rfl, .inr (sqT_mono s.fh g1), e2, e4, ?_⟩
  rw [e1, e3]
  exact q _ F H s (Same.refl F) mk_bl⟩
/-! ### chains of <= -/
theorem ch_le {k : Bool} {j : Int} {l : Int} (h : k = true → ED X c ρ (.int l) ρ) : ∃ r, OpR X (compareOp .LtE) r ∧ (k = true → ∃ dc, ED X c ρ dc ρ ∧ RD X.K r (.int j) dc (.bl (decide (j ≤ l)))) :=
  ⟨_, op_le, fun hk => ⟨.int l, h hk, fun F0 H0 F H ρ σ s x y Q hx hy q => ⟨j, l, den_int hx, den_int hy, q _ F H s (Same.refl F) mk_bl⟩⟩⟩
theorem ed_le3 {i j l : Int} (ha : ED X a ρ (.int i) ρ) (hb : ED X b ρ (.int j) ρ) (hc : decide (i ≤ j) = true → ED X c ρ (.int l) ρ) (hm : lastMarks [CmpOp.LtE, CmpOp.LtE] [b, c] = false := by with_unfolding_all rfl) : ED X (.Compare a [.LtE, .LtE] [b, c] pos) ρ (.bl (decide (i ≤ j) && decide (j ≤ l))) ρ := by
  obtain ⟨r, h1, h2⟩ := ch_le (X := X) (ρ := ρ) (c := c) (k := decide (i ≤ j)) (j := j) (l := l) hc
  exact ed_chain2 ha hb cmp_le ⟨r, h1, h2⟩ hm
theorem td_le3 {i j l : Int} (ha : ED X a ρ (.int i) ρ) (hb : ED X b ρ (.int j) ρ) (hc : decide (i ≤ j) = true → ED X c ρ (.int l) ρ) (hm : lastMarks [CmpOp.LtE, CmpOp.LtE] [b, c] = false := by with_unfolding_all rfl) : TD X (.Compare a [.LtE, .LtE] [b, c] pos) ρ (decide (i ≤ j) && decide (j ≤ l)) :=
  td_chain ha hb cmp_le (ch_le hc) hm
/-! ### subscripts -/
theorem ix_tupD {k : Int} (h : atI ds k = some d) : IxD X (.tup ds) (.int k) d := ⟨_, ix_tup, fun F0 H0 F H ρ σ s x y Q hx hy q => by
  obtain ⟨p, vs, rfl, g1, g2⟩ := den_tup hx
  unfold atI at h
  cases hj : ixN ds.length k with
  | none => rw [hj] at h; cases h
  | some j =>
    rw [hj] at h
    obtain ⟨u, h1, h2⟩ := g2.get (i := j) (d := d) h
    refine ⟨p, vs, k, u, rfl, den_int hy, sqT_mono s.fh g1, ?_, q u F H s (Same.refl F) h2⟩
    unfold atI
    rw [g2.len, hj]
    exact h1⟩
theorem ix_lstD {k : Int} (h : atI ds k = some d) : IxD X (.lst ds) (.int k) d := ⟨_, ix_list, fun F0 H0 F H ρ σ s x y Q hx hy q => by
  obtain ⟨p, vs, rfl, g1, g2⟩ := den_lst hx
  unfold atI at h
  cases hj : ixN ds.length k with
  | none => rw [hj] at h; cases h
  | some j =>
    rw [hj] at h
    obtain ⟨u, h1, h2⟩ := g2.get (i := j) (d := d) h
    refine ⟨p, vs, k, u, rfl, den_int hy, .inl (.inl (s.fh _ _ g1)), ?_, q u F H s (Same.refl F) h2⟩
    unfold atI
    rw [g2.len, hj]
    exact h1⟩
end
end Mf
/-! rules that the layer lacks: enumerate of a tuple, zip of any two, zip of two reversed tuples -/
namespace Mf
open PySem PySem.Spec PyProof.Rows L2
/-! ### one side of an iterator over pairs -/
structure Sd (P : Program) (w : World) (K : PySem.W.Frag) (it : Addr) (n : Nat) (G : Hp → Prop) (xs : Nat → Option V) (tn : Nat → Heap → Prop) : Prop where
  dr : ∀ {X : Cx} {pins : List (Addr × Obj)} {σ : L2.St} {H : Hp} {s : Shared}, X.prog = P → X.w = w → X.K = K → X.calm = true → Inv X pins σ H s → H it = none → G H →
    ∃ (a : Addr) (ct : Heap → Prop) (Pi : Nat → Value → Prop), Draws P w X.A.in1 it [it, a] n Pi (fun i h => tn i h ∧ ct h) ∧ ct s.heap ∧ H a ≠ none ∧ ∀ i u, Pi i u → ∃ x, xs i = some x ∧ RelV x u
  keep : ∀ i h h', tn i h → (∀ o, h.get? it = some o → h'.get? it = some o) → tn i h'
  obj : ∀ i h, tn i h → ∃ o, h.get? it = some o ∧ ∀ v, o.data ≠ .cell v
theorem sd_tup {P : Program} {w : World} {K : PySem.W.Frag} (it a : Addr) (vs : List V) : Sd P w K it vs.length (fun H => H a = some (.tup vs)) (fun i => vs[i]?) (fun i h => h.IsTupleIter it a i) where
  dr := by
    intro X pins σ H s e1 e2 e3 hc I hn hG
    subst e1 e2 e3
    obtain ⟨its, rv, p, hz⟩ := I.tuple (xs := vs) (.inl (.inl hG))
    have hne : a ≠ it := fun e => by
      rw [e, hn] at hG
      cases hG
    have hl : its.toArray.size = vs.length := by rw [List.size_toArray, rv.length]
    refine ⟨a, fun h => h.IsTuple a its.toArray, fun i u => its.toArray[i]? = some u, ?_, p, (by rw [hG]; exact nofun), fun i u hu => ?_⟩
    · rw [← hl]
      exact Draws.tuple (A := X.A.in1) (I.ok.hd hc) it a hne its.toArray
    · have hi : i < vs.length := by
        rw [← hl]
        exact (Array.getElem?_eq_some_iff.mp hu).1
      obtain ⟨u', h1, h2⟩ := rv.get (i := i) (List.getElem?_eq_getElem hi)
      have h3 : its[i]? = some u := by simpa using hu
      rw [h3] at h1
      cases h1
      exact ⟨vs[i], List.getElem?_eq_getElem hi, h2⟩
  keep := fun i h h' t k => let ⟨o, ho, r⟩ := t; ⟨o, k o ho, r⟩
  obj := fun i h t => let ⟨o, ho, hc, hd⟩ := t; ⟨o, ho, fun v z => by rw [hd] at z; cases z⟩
theorem sd_lst {P : Program} {w : World} {K : PySem.W.Frag} (it a : Addr) (vs : List V) : Sd P w K it vs.length (fun H => H a = some (.lst vs)) (fun i => vs[i]?) (fun i h => h.IsListIter it a i) where
  dr := by
    intro X pins σ H s e1 e2 e3 hc I hn hG
    subst e1 e2 e3
    obtain ⟨its, rv, p, hz⟩ := I.list (xs := vs) (.inl (.inl hG))
    have hne : a ≠ it := fun e => by
      rw [e, hn] at hG
      cases hG
    have hl : its.toArray.size = vs.length := by rw [List.size_toArray, rv.length]
    refine ⟨a, fun h => h.IsList a its.toArray, fun i u => its.toArray[i]? = some u, ?_, p.isList, (by rw [hG]; exact nofun), fun i u hu => ?_⟩
    · rw [← hl]
      exact Draws.list (A := X.A.in1) (I.ok.hd hc) it a hne its.toArray
    · have hi : i < vs.length := by
        rw [← hl]
        exact (Array.getElem?_eq_some_iff.mp hu).1
      obtain ⟨u', h1, h2⟩ := rv.get (i := i) (List.getElem?_eq_getElem hi)
      have h3 : its[i]? = some u := by simpa using hu
      rw [h3] at h1
      cases h1
      exact ⟨vs[i], List.getElem?_eq_getElem hi, h2⟩
  keep := fun i h h' t k => let ⟨o, ho, r⟩ := t; ⟨o, k o ho, r⟩
  obj := fun i h t => let ⟨o, ho, hc, hd⟩ := t; ⟨o, ho, fun v z => by rw [hd] at z; cases z⟩
/-! ### zip over two sides -/
/-- new pairs of xs and ys, n of them, while G stands -/
def JP (n : Nat) (G : Hp → Prop) (xs ys : Nat → Option V) : It :=
  ⟨fun i H => i < n ∧ G H, fun i H v H' => ∃ T x y, v = .ref T ∧ H T = none ∧ H' = upd H T (.tup [x, y]) ∧ xs i = some x ∧ ys i = some y, fun i H => n ≤ i ∧ G H⟩
theorem walk_JP {n : Nat} {G : Hp → Prop} {xs ys : Nat → Option V} : Walk (JP n G xs ys) n G (YPair xs ys) :=
  ⟨fun i H hi h => ⟨hi, h⟩, fun H h => ⟨Nat.le_refl _, h⟩, fun i H v H' _ _ y => y⟩
/-- five cells, one apart from another -/
structure Ap5 (z TI TO i1 i2 : Addr) : Prop where
  a1 : TI ≠ z
  a2 : TO ≠ z
  a3 : TI ≠ TO
  a4 : TI ≠ i1
  a5 : TI ≠ i2
  a6 : z ≠ i1
  a7 : z ≠ i2
  a8 : TO ≠ i1
  a9 : TO ≠ i2
  a10 : i1 ≠ i2
theorem sep_of {z TI TO i1 i2 a b : Addr} (D : Ap5 z TI TO i1 i2) (ha : ∀ c ∈ [z, TI, TO, i1, i2], c ≠ a) (hb : ∀ c ∈ [z, TI, TO, i1, i2], c ≠ b) : ZipSep2 z TI TO i1 i2 [i1, a] [i2, b] where
  TIz := D.a1
  TOz := D.a2
  TITO := D.a3
  TIi1 := D.a4
  mem1 := by simp
  zf1 := by simp [D.a6, ha z (by simp)]
  Tf1 := by simp [D.a8, ha TO (by simp)]
  TIi2 := D.a5
  mem2 := by simp
  zf2 := by simp [D.a7, hb z (by simp)]
  Tf2 := by simp [D.a9, hb TO (by simp)]
  sep1_2 := by simp [D.a10, hb i1 (by simp)]
  sep2_1 := by simp [D.a10.symm, ha i2 (by simp)]
theorem turn_zipS {P : Program} {w : World} {K : PySem.W.Frag} {elts : List Expr} {kk : Nat} {tpos : Pos} {z TI TO i1 i2 : Addr} {n1 n2 : Nat} {G1 G2 : Hp → Prop} {xs ys : Nat → Option V} {t1 t2 : Nat → Heap → Prop}
    (D : Ap5 z TI TO i1 i2) (S1 : Sd P w K i1 n1 G1 xs t1) (S2 : Sd P w K i2 n2 G2 ys t2) :
    Turn P w K (.Tuple elts kk tpos) (JP (min n1 n2) (fun H => G1 H ∧ G2 H) xs ys) [z, TI, TO, i1, i2] z
      (fun i h => i ≤ min n1 n2 ∧ IsZip h z TI TO .none ∧ IsTupOf2 h TI (.ref i1) (.ref i2) ∧ (∃ a1 a2, IsTupOf2 h TO a1 a2) ∧ t1 i h ∧ t2 i h) where
  mem := by simp
  obj := fun i h st b hb => by
    obtain ⟨_, hz, hI, ⟨a1, a2, hO⟩, s1, s2⟩ := st
    have hb' : b = z ∨ b = TI ∨ b = TO ∨ b = i1 ∨ b = i2 := by simpa using hb
    rcases hb' with e | e | e | e | e
    · subst e; exact ⟨_, hz, fun v q => nomatch q⟩
    · subst e; exact ⟨_, hI, fun v q => nomatch q⟩
    · subst e; exact ⟨_, hO, fun v q => nomatch q⟩
    · subst e; exact S1.obj _ _ s1
    · subst e; exact S2.obj _ _ s2
  keep := fun i h h' st k => by
    obtain ⟨h0, hz, hI, ⟨a1, a2, hO⟩, s1, s2⟩ := st
    exact ⟨h0, k z (by simp) _ hz, k TI (by simp) _ hI, ⟨a1, a2, k TO (by simp) _ hO⟩, S1.keep _ _ _ s1 fun o e => k i1 (by simp) o e, S2.keep _ _ _ s2 fun o e => k i2 (by simp) o e⟩
  item := by
    intro X hP hw hK hc i pins s σ H E I hf st hg
    obtain ⟨hin, g1, g2⟩ := hg
    obtain ⟨h0, hz, hI, ⟨b1, b2, hO⟩, s1, s2⟩ := st
    obtain ⟨a, c1, P1, D1, k1, ha, r1⟩ := S1.dr hP hw hK hc I (hf i1 (by simp)).1 g1
    obtain ⟨b, c2, P2, D2, k2, hb, r2⟩ := S2.dr hP hw hK hc I (hf i2 (by simp)).1 g2
    have na : ∀ c ∈ [z, TI, TO, i1, i2], c ≠ a := fun c hcm e => ha (by rw [← e]; exact (hf c hcm).1)
    have nb : ∀ c ∈ [z, TI, TO, i1, i2], c ≠ b := fun c hcm e => hb (by rw [← e]; exact (hf c hcm).1)
    have S := sep_of D na nb
    subst hP hw
    refine wpAny_pyNext_zipD2_item S D1 D2 hz hI hO ⟨s1, k1⟩ ⟨s2, k2⟩ (by omega) (by omega) fun x1 x2 h' tk q1 q2 z' O' u1 u2 hT hsz hk => ?_
    obtain ⟨x, ex, rx⟩ := r1 _ _ q1
    obtain ⟨y, ey, ry⟩ := r2 _ _ q2
    have hzl : z < s.heap.objs.size := Heap.lt_size hz
    refine ⟨_, rfl, wpAny_letOwnedTupleGo_zip (s := { s with heap := h', toks := tk }) z' fun h'' z'' sb => ?_⟩
    have hT2 : h''.get? s.heap.objs.size = some { cls := .type "tuple", data := .seq #[x1, x2] } := (sb.2 _ (Nat.ne_of_gt hzl)).trans hT
    have new : ObjOk X.prog X.w (upd H s.heap.objs.size (.tup [x, y])) h'' s.heap.objs.size (.tup [x, y]) := ⟨(by decide : 2 ≤ sizeLine), [x1, x2], .cons rx (.cons ry .nil), ⟨_, hT2, rfl, _, rfl⟩⟩
    have I1 : Inv X pins σ (upd H s.heap.objs.size (.tup [x, y])) { s with heap := h'', toks := tk } :=
      I.turnedNew (t' := tk) (ch := [z, TI, TO, i1, i2]) (fun c o hcn q => (sb.2 c (fun e => hcn (by simp [e]))).trans (hk c o (fun e => hcn (by simp [e])) (fun e => hcn (by simp [e])) (fun e => hcn (by simp [e])) (fun e => hcn (by simp [e])) q)) hf (Nat.le_refl _) new
    refine ⟨.ref s.heap.objs.size, _, I1, rfl, ⟨_, x, y, rfl, I.hok.fresh (Nat.le_refl _), rfl, ex, ey⟩, ⟨by omega, z'', ?_, ⟨x1, x2, ?_⟩, ?_, ?_⟩, fun c hcm => ?_⟩
    · exact (sb.2 _ D.a1).trans (hk _ _ D.a1 D.a3 D.a4 D.a5 hI)
    · exact (sb.2 _ D.a2).trans O'
    · exact S1.keep _ _ _ u1.1 fun o q => (sb.2 _ D.a6.symm).trans q
    · exact S2.keep _ _ _ u2.1 fun o q => (sb.2 _ D.a7.symm).trans q
    · have hlt : c < s.heap.objs.size := by
        have e' : c = z ∨ c = TI ∨ c = TO ∨ c = i1 ∨ c = i2 := by simpa using hcm
        rcases e' with e | e | e | e | e
        · subst e; exact hzl
        · subst e; exact Heap.lt_size hI
        · subst e; exact Heap.lt_size hO
        · subst e; obtain ⟨_, e1⟩ := D1.live _ _ ⟨s1, k1⟩; exact Heap.lt_size e1
        · subst e; obtain ⟨_, e1⟩ := D2.live _ _ ⟨s2, k2⟩; exact Heap.lt_size e1
      rw [upd_ne (Nat.ne_of_lt hlt)]
      exact (hf c hcm).1
  done := by
    intro X hP hw hK hc i pins s σ H E I hf st hg
    obtain ⟨hin, g1, g2⟩ := hg
    obtain ⟨h0, hz, hI, ⟨b1, b2, hO⟩, s1, s2⟩ := st
    obtain ⟨a, c1, P1, D1, k1, ha, r1⟩ := S1.dr hP hw hK hc I (hf i1 (by simp)).1 g1
    obtain ⟨b, c2, P2, D2, k2, hb, r2⟩ := S2.dr hP hw hK hc I (hf i2 (by simp)).1 g2
    have na : ∀ c ∈ [z, TI, TO, i1, i2], c ≠ a := fun c hcm e => ha (by rw [← e]; exact (hf c hcm).1)
    have nb : ∀ c ∈ [z, TI, TO, i1, i2], c ≠ b := fun c hcm e => hb (by rw [← e]; exact (hf c hcm).1)
    have S := sep_of D na nb
    subst hP hw
    exact wpAny_pyNext_zipD2_end S D1 D2 hz hI hO ⟨s1, k1⟩ ⟨s2, k2⟩ (by omega) (by omega) (by omega) fun h' tk hk => ⟨rfl, I.turnedL (t' := tk) (ch := [z, TI, TO, i1, i2]) (fun c o hcn q =>
      hk c o (fun e => hcn (by simp [e])) (fun e => hcn (by simp [e])) (fun e => hcn (by simp [e])) (fun e => hcn (by simp [e])) q) hf⟩
  self := fun A i s Q E st h => wpAny_pyIter_zip st.2.1 h
/-! ### enumerate over a side -/
theorem turn_enumS {P : Program} {w : World} {K : PySem.W.Frag} {elts : List Expr} {kk : Nat} {tpos : Pos} {e it : Addr} {n : Nat} {G : Hp → Prop} {xs : Nat → Option V} {t : Nat → Heap → Prop} (hne : e ≠ it) (S : Sd P w K it n G xs t) :
    Turn P w K (.Tuple elts kk tpos) (JP n G (fun i => some (.int (i : Nat))) xs) [e, it] e (fun i h => i ≤ n ∧ (∃ old, IsEnum h e it ((i : Nat) : Int) old) ∧ t i h) where
  mem := by simp
  obj := fun i h st b hb => by
    obtain ⟨_, ⟨old, he⟩, s1⟩ := st
    have hb' : b = e ∨ b = it := by simpa using hb
    rcases hb' with q | q
    · subst q; exact ⟨_, he, fun v q => nomatch q⟩
    · subst q; exact S.obj _ _ s1
  keep := fun i h h' st k => let ⟨h0, ⟨old, he⟩, s1⟩ := st; ⟨h0, ⟨old, k e (by simp) _ he⟩, S.keep _ _ _ s1 fun o q => k it (by simp) o q⟩
  item := by
    intro X hP hw hK hc i pins s σ H E I hf st hg
    obtain ⟨hin, g1⟩ := hg
    obtain ⟨h0, ⟨old, he⟩, s1⟩ := st
    obtain ⟨a, c1, P1, D1, k1, ha, r1⟩ := S.dr hP hw hK hc I (hf it (by simp)).1 g1
    have nea : e ≠ a := fun q => ha (by rw [← q]; exact (hf e (by simp)).1)
    subst hP hw
    have hel : e < s.heap.objs.size := Heap.lt_size he
    have hil : it < s.heap.objs.size := by obtain ⟨_, q⟩ := D1.live _ _ ⟨s1, k1⟩; exact Heap.lt_size q
    refine wpAny_pyNext_enum_itemD D1 he ⟨s1, k1⟩ hin hne (by simp [hne, nea]) fun x h' tk hx ho s1' hT hsz hk => ?_
    obtain ⟨y, ey, ry⟩ := r1 _ _ hx
    refine ⟨_, rfl, wpAny_letOwnedTupleGo_enum (s := { s with heap := h', toks := tk + 1 }) ho fun h'' he' sb => ?_⟩
    have hT2 : h''.get? s.heap.objs.size = some { cls := .type "tuple", data := .seq #[.int i tk, x] } := (sb.2 _ (Nat.ne_of_gt hel)).trans hT
    have new : ObjOk X.prog X.w (upd H s.heap.objs.size (.tup [.int (i : Nat), y])) h'' s.heap.objs.size (.tup [.int (i : Nat), y]) := ⟨(by decide : 2 ≤ sizeLine), [.int i tk, x], .cons ⟨_, rfl⟩ (.cons ry .nil), ⟨_, hT2, rfl, _, rfl⟩⟩
    have I1 : Inv X pins σ (upd H s.heap.objs.size (.tup [.int (i : Nat), y])) { s with heap := h'', toks := tk + 1 } :=
      I.turnedNew (t' := tk + 1) (ch := [e, it]) (fun b ob hb q => (sb.2 b (fun z => hb (by simp [z]))).trans (hk b ob (fun z => hb (by simp [z])) (fun z => hb (by simp [z])) q)) hf (Nat.le_refl _) new
    refine ⟨.ref s.heap.objs.size, _, I1, rfl, ⟨_, _, y, rfl, I.hok.fresh (Nat.le_refl _), rfl, rfl, ey⟩, ⟨hin, ⟨x, ?_⟩, S.keep _ _ _ s1'.1 fun o q => (sb.2 it (Ne.symm hne)).trans q⟩, fun b hb => ?_⟩
    · rw [show ((i + 1 : Nat) : Int) = (i : Int) + 1 by omega]
      exact he'
    · have hb' : b < s.heap.objs.size := by
        have e' : b = e ∨ b = it := by simpa using hb
        rcases e' with z | z
        · subst z; exact hel
        · subst z; exact hil
      rw [upd_ne (Nat.ne_of_lt hb')]
      exact (hf b hb).1
  done := by
    intro X hP hw hK hc i pins s σ H E I hf st hg
    obtain ⟨hin, g1⟩ := hg
    obtain ⟨h0, ⟨old, he⟩, s1⟩ := st
    obtain ⟨a, c1, P1, D1, k1, ha, r1⟩ := S.dr hP hw hK hc I (hf it (by simp)).1 g1
    subst hP hw
    have ei : i = n := by omega
    subst ei
    obtain ⟨f0, f1, f2, f3, f4, f5⟩ := hf it (by simp)
    exact wpAny_pyNext_enum_endD D1 he ⟨s1, k1⟩ fun h' eb => ⟨rfl, I.turned (t' := s.toks) (fun b o hb q => eb b o hb q) f0 f1 f3 f4 f5⟩
  self := fun A i s Q E st h => let ⟨_, ⟨_, he⟩, _⟩ := st; wpAny_pyIter_enum he h
/-- enumerate(v) begins: v by what its iterator is -/
theorem meets_enumB {v : Value} {o : Obj} {H : Heap → Prop} (B : Begins v o H) :
    Meets (Builtin.«enumerate.__new__» ⟨[.type "enumerate", v], []⟩) (fun _ R s => H s.heap ∧
      R (.ok (.ret (.ref (s.heap.push o).objs.size))) { s with heap := (s.heap.push o).push { cls := .type "enumerate", data := .fields #[.none, .bool false, .ref s.heap.objs.size, rawInt 0, .none, .none] } }) :=
  .of_wp fun prog w A R s h => by
    obtain ⟨hp, g, d, tk, os⟩ := s; obtain ⟨h1, h⟩ := h
    have hsub := sub_enumerate
    have q1 : ∀ {A' : Around} {E : Value → Shared → Prop} {Q : Value → Shared → Prop}, Q (.ref hp.objs.size) ⟨hp.push o, g, d, tk, os⟩ → wpAny (model prog w) A' (pyIter v) Q E ⟨hp, g, d, tk, os⟩ := fun q => B.iter prog w _ _ ⟨hp, g, d, tk, os⟩ _ h1 q
    wp_walk using q1
    refine wpAny_stack_any fun st => wpAny_pure ?_
    split
    · rename_i c _ _ _ _ _
      cases (c == Value.type "enumerate") <;> (wp_walk using q1; exact ⟨_, rfl, h⟩)
    · wp_walk using q1
      exact ⟨_, rfl, h⟩
theorem call_enumB {prog : Program} {w : World} {A : Around} {E : Value → Shared → Prop} {s : Shared} {v : Value} {o : Obj} {H : Heap → Prop} {Q : Value → Shared → Prop} (B : Begins v o H) (h1 : H s.heap)
    (h : ∀ h', IsEnum h' (s.heap.objs.size + 1) s.heap.objs.size 0 .none → h'.get? s.heap.objs.size = some o → h'.objs.size = s.heap.objs.size + 2 → (∀ b o, s.heap.get? b = some o → h'.get? b = some o) → Q (.ref (s.heap.objs.size + 1)) { s with heap := h' }) :
    wpAny (model prog w) A (call (.type "enumerate") [v]) Q E s := by
  refine callType_new F.called_enumerate (by decide) (F.typeCall_enumerate_1 _) (F.newCall_enumerate_1 _) (fun obj => F.args_object_init_2 obj _) F.entry_enumerate_new (meets_enumB B) ⟨h1, ?_⟩
  have hz : (s.heap.push o).objs.size = s.heap.objs.size + 1 := Heap.size_push ..
  show _ ∧ _
  rw [hz]
  have he := Heap.get?_push_size (s.heap.push o) (o := { cls := .type "enumerate", data := .fields #[.none, .bool false, .ref s.heap.objs.size, rawInt 0, .none, .none] }) rfl
  rw [hz] at he
  exact ⟨⟨_, he, rfl⟩, h _ he (Heap.get?_push_of_some _ (Heap.get?_push_size _ B.free)) (by rw [Heap.size_push, hz]) fun b o x => Heap.get?_push_of_some _ (Heap.get?_push_of_some _ x)⟩
section
variable {X : Cx} {e e2 : Expr} {ta : TA} {p pos tpos : Pos} {elts : List Expr} {kk : Nat}
/-- enumerate(a tuple) -/
def iEnumT (ta : TA) : TI := fun σ H R => ta σ H fun vs H1 => ∃ a xs, vs = [.ref a] ∧ H1 a = some (.tup xs) ∧ R (JP xs.length (fun H => H a = some (.tup xs)) (fun i => some (.int (i : Nat))) (fun i => xs[i]?)) H1
theorem pi_enumT (hg : Gl X "enumerate") (hm : X.mg "enumerate" = none) (ha : PA X [e] ta) (hs : starEach [e] X.env = (false, eval e X.env) :: starEach [] X.env := by rfl) :
    PI X (.Tuple elts kk tpos) (.Call (.Name "enumerate" p) [e] [] pos) (iEnumT ta) := by
  refine ⟨fun pins s σ H R I h => Call_ (ld_blt I hg hm boot_enumerate (PyProof.Rows.callWith_type1 (thn (ha.run pos pins s σ H _ I h) fun us s1 ⟨vs, H1, I1, r1, q1⟩ => ?_) hs rfl))⟩
  obtain ⟨a, xs, ex, hq, q⟩ := q1
  subst ex
  obtain ⟨u, rfl, ru⟩ := vals1 r1
  obtain rfl : u = Value.ref a := ru
  obtain ⟨its, rv, p', hz⟩ := I1.tuple (xs := xs) (.inl (.inl hq))
  refine call_enumB (begins_tuple a its.toArray) p' fun h' he hit hsz hk => wpAny_pyIter_enum he ?_
  have I2 : Inv X pins σ H1 { s1 with heap := h' } := I1.kept (t' := s1.toks) hk
  refine ⟨s1.heap.objs.size + 1, [s1.heap.objs.size + 1, s1.heap.objs.size], _, _, H1, rfl, I2, turn_enumS (e := s1.heap.objs.size + 1) (it := s1.heap.objs.size) (Nat.succ_ne_self _) (sd_tup s1.heap.objs.size a xs), ⟨Nat.zero_le _, ⟨.none, he⟩, ⟨_, hit, rfl, rfl⟩⟩, fun b hb => ?_, q⟩
  have hle : s1.heap.objs.size ≤ b := by
    have e' : b = s1.heap.objs.size + 1 ∨ b = s1.heap.objs.size := by simpa using hb
    rcases e' with z | z
    · rw [z]; exact Nat.le_add_right _ _
    · rw [z]; exact Nat.le_refl _
  exact I1.fpOk hle (I1.hok.fresh hle)
theorem nat_a0 (N a : Nat) (h : a ≠ 0) : N + a ≠ N := by omega
theorem nat_ab (N a b : Nat) (h : a ≠ b) : N + a ≠ N + b := by omega
theorem ap5_new (N : Addr) : Ap5 (N + 4) (N + 2) (N + 3) N (N + 1) :=
  ⟨nat_ab N 2 4 (by decide), nat_ab N 3 4 (by decide), nat_ab N 2 3 (by decide), nat_a0 N 2 (by decide), nat_ab N 2 1 (by decide), nat_a0 N 4 (by decide), nat_ab N 4 1 (by decide), nat_a0 N 3 (by decide), nat_ab N 3 1 (by decide), (nat_a0 N 1 (by decide)).symm⟩
theorem fresh_ap (N : Addr) {c : Addr} (h : c ∈ [N + 4, N + 2, N + 3, N, N + 1]) : N ≤ c := by
  have e' : c = N + 4 ∨ c = N + 2 ∨ c = N + 3 ∨ c = N ∨ c = N + 1 := by simpa using h
  rcases e' with z | z | z | z | z <;> rw [z]
  · exact Nat.le_add_right _ _
  · exact Nat.le_add_right _ _
  · exact Nat.le_add_right _ _
  · exact Nat.le_refl _
  · exact Nat.le_add_right _ _
/-- zip(a tuple, a list), zip(a list, a tuple) -/
def iZipTL (ta : TA) : TI := fun σ H R => ta σ H fun vs H1 => ∃ a b xs ys, vs = [.ref a, .ref b] ∧ H1 a = some (.tup xs) ∧ H1 b = some (.lst ys) ∧ R (JP (min xs.length ys.length) (fun H => H a = some (.tup xs) ∧ H b = some (.lst ys)) (fun i => xs[i]?) (fun i => ys[i]?)) H1
def iZipLT (ta : TA) : TI := fun σ H R => ta σ H fun vs H1 => ∃ a b xs ys, vs = [.ref a, .ref b] ∧ H1 a = some (.lst xs) ∧ H1 b = some (.tup ys) ∧ R (JP (min xs.length ys.length) (fun H => H a = some (.lst xs) ∧ H b = some (.tup ys)) (fun i => xs[i]?) (fun i => ys[i]?)) H1
theorem pi_zipTL (hg : Gl X "zip") (hm : X.mg "zip" = none) (ha : PA X [e, e2] ta) (hs : starEach [e, e2] X.env = (false, eval e X.env) :: starEach [e2] X.env := by rfl) (hpl : (backTo pos (starEach [e2] X.env)).any (·.1) = false := by rfl) :
    PI X (.Tuple elts kk tpos) (.Call (.Name "zip" p) [e, e2] [] pos) (iZipTL ta) := by
  refine ⟨fun pins s σ H R I h => Call_ (ld_blt I hg hm PyProof.Rows.boot_zip (PyProof.Rows.callWith_type1 (thn (ha.run pos pins s σ H _ I h) fun us s1 ⟨vs, H1, I1, r1, q1⟩ => ?_) hs hpl))⟩
  obtain ⟨a, b, xs, ys, ex, hx, hy, q⟩ := q1
  subst ex
  obtain ⟨u1, u2, rfl, ru1, ru2⟩ := vals2 r1
  obtain rfl : u1 = Value.ref a := ru1
  obtain rfl : u2 = Value.ref b := ru2
  obtain ⟨its, rv, p1, _⟩ := I1.tuple (xs := xs) (.inl (.inl hx))
  obtain ⟨its2, rv2, p2, _⟩ := I1.list (xs := ys) (.inl (.inl hy))
  refine zip_begins2 (begins_tuple a its.toArray) (begins_list b its2.toArray) p1 p2.isList fun h' hz hTI hTO h1 h2 hsz hk => wpAny_pyIter_zip hz ?_
  exact ⟨s1.heap.objs.size + 4, [s1.heap.objs.size + 4, s1.heap.objs.size + 2, s1.heap.objs.size + 3, s1.heap.objs.size, s1.heap.objs.size + 1], _, _, H1, rfl, I1.kept (t' := s1.toks) hk, turn_zipS (ap5_new _) (sd_tup s1.heap.objs.size a xs) (sd_lst (s1.heap.objs.size + 1) b ys), ⟨Nat.zero_le _, hz, hTI, ⟨_, _, hTO⟩, ⟨_, h1, rfl, rfl⟩, ⟨_, h2, rfl, rfl⟩⟩, fun c hcm => I1.fpOk (fresh_ap _ hcm) (I1.hok.fresh (fresh_ap _ hcm)), q⟩
theorem pi_zipLT (hg : Gl X "zip") (hm : X.mg "zip" = none) (ha : PA X [e, e2] ta) (hs : starEach [e, e2] X.env = (false, eval e X.env) :: starEach [e2] X.env := by rfl) (hpl : (backTo pos (starEach [e2] X.env)).any (·.1) = false := by rfl) :
    PI X (.Tuple elts kk tpos) (.Call (.Name "zip" p) [e, e2] [] pos) (iZipLT ta) := by
  refine ⟨fun pins s σ H R I h => Call_ (ld_blt I hg hm PyProof.Rows.boot_zip (PyProof.Rows.callWith_type1 (thn (ha.run pos pins s σ H _ I h) fun us s1 ⟨vs, H1, I1, r1, q1⟩ => ?_) hs hpl))⟩
  obtain ⟨a, b, xs, ys, ex, hx, hy, q⟩ := q1
  subst ex
  obtain ⟨u1, u2, rfl, ru1, ru2⟩ := vals2 r1
  obtain rfl : u1 = Value.ref a := ru1
  obtain rfl : u2 = Value.ref b := ru2
  obtain ⟨its, rv, p1, _⟩ := I1.list (xs := xs) (.inl (.inl hx))
  obtain ⟨its2, rv2, p2, _⟩ := I1.tuple (xs := ys) (.inl (.inl hy))
  refine zip_begins2 (begins_list a its.toArray) (begins_tuple b its2.toArray) p1.isList p2 fun h' hz hTI hTO h1 h2 hsz hk => wpAny_pyIter_zip hz ?_
  exact ⟨s1.heap.objs.size + 4, [s1.heap.objs.size + 4, s1.heap.objs.size + 2, s1.heap.objs.size + 3, s1.heap.objs.size, s1.heap.objs.size + 1], _, _, H1, rfl, I1.kept (t' := s1.toks) hk, turn_zipS (ap5_new _) (sd_lst s1.heap.objs.size a xs) (sd_tup (s1.heap.objs.size + 1) b ys), ⟨Nat.zero_le _, hz, hTI, ⟨_, _, hTO⟩, ⟨_, h1, rfl, rfl⟩, ⟨_, h2, rfl, rfl⟩⟩, fun c hcm => I1.fpOk (fresh_ap _ hcm) (I1.hok.fresh (fresh_ap _ hcm)), q⟩
end
end Mf
/-! zip of two reversed tuples; sum, sorted of a tuple; list of a stepped range -/
namespace Mf
open PySem PySem.Spec PyProof.Rows L2 RT
section
variable {prog : Program} {w : World} {A : Around} {E : Value → Shared → Prop} {s : Shared}
theorem rt_item {it t : Addr} {i : Nat} {items : Array Value} {x : Value} {Q : Value → Shared → Prop} (hit : IsRt s.heap it t (i : Int)) (ht : IsTup s.heap t items) (hx : items[i]? = some x) (hsz : items.size ≤ sizeLine)
    (hQ : ∀ h', IsRt h' it t ((i : Int) - 1) → Heap.SameBut it s.heap h' → Q x { s with heap := h', toks := s.toks + 1 }) : wpAny (model prog w) A (Builtin.SmallTypes.nextOf (.ref it)) Q E s := by
  obtain ⟨o, ho, hc, hd⟩ := id hit
  have hi : i < items.size := (Array.getElem?_eq_some_iff.mp hx).1
  have hT : s.TypeIs (.ref t) "tuple" := IsTup.typeOf' ht
  rw [sizeLine_eq] at hsz
  unfold Builtin.SmallTypes.nextOf
  refine wpAny_bind (wpAny_callSpecial?_slot (name := Str.ofString "__next__") hit.typeIs slot_rt_next (wpAny_call_entry slot_rt_next hit.typeIs entry_rt_next ?_ (args_rt_next _)))
  unfold Builtin.«reversed.__next__»
  refine wpAny_bind (wpAny_of_eq (a := (Value.ref it, [])) rfl (wpAny_bind (wpAny_field ho hd (x := .ref t) rfl (wpAny_bind (wpAny_field ho hd (x := rawInt (i : Int)) rfl ?_)))))
  show wpAny _ _ (if (i : Int) < 0 then _ else _) _ _ s
  rw [if_neg (by omega)]
  refine wpAny_bind (wpAny_specialOf hT get_tuple ?_)
  try dsimp only
  try rw [if_neg (by decide)]
  refine wpAny_bind (wpAny_mkInt (wpAny_bind (wpAny_attempt ?_)))
  refine PyProof.Rows.getItem_tuple (s := { s with toks := s.toks + 1 }) ht (by omega) (by omega) (seqIndex_of (by omega) (by omega)) hx ?_
  try dsimp only
  refine wpAny_bind (wpAny_field (s := { s with toks := s.toks + 1 }) ho hd (x := rawInt (i : Int)) rfl (wpAny_bind (wpAny_setField (s := { s with toks := s.toks + 1 }) ho hd (by simp) ?_)))
  first
  | refine wpAny_pure ⟨x, rfl, wpAny_pure (hQ _ ?_ (Heap.SameBut.update ..))⟩
  | refine wpAny_bind (wpAny_pure (wpAny_pure ⟨x, rfl, wpAny_pure (hQ _ ?_ (Heap.SameBut.update ..))⟩))
  refine ⟨_, Heap.get?_update_self _ ho (Obj.isFreed_of_fields (Obj.data_mapFields hd _)), (Obj.cls_mapFields ..).trans hc, ?_⟩
  rw [Obj.data_mapFields hd] <;> simp
theorem rt_end {it t : Addr} {Q : Value → Shared → Prop} (hh : A.handled = none) (hit : IsRt s.heap it t (-1))
    (hE : ∀ h' e, Heap.ExtBut it s.heap h' → (∃ o, h'.get? e = some o ∧ o.cls = .type "StopIteration") → E (.ref e) { s with heap := h' }) : wpAny (model prog w) A (Builtin.SmallTypes.nextOf (.ref it)) Q E s := by
  obtain ⟨o, ho, hc, hd⟩ := id hit
  unfold Builtin.SmallTypes.nextOf
  refine wpAny_bind (wpAny_callSpecial?_slot (name := Str.ofString "__next__") hit.typeIs slot_rt_next (wpAny_call_entry slot_rt_next hit.typeIs entry_rt_next ?_ (args_rt_next _)))
  unfold Builtin.«reversed.__next__»
  refine wpAny_bind (wpAny_of_eq (a := (Value.ref it, [])) rfl (wpAny_bind (wpAny_field ho hd (x := .ref t) rfl (wpAny_bind (wpAny_field ho hd (x := rawInt (-1)) rfl ?_)))))
  show wpAny _ _ (if (-1 : Int) < 0 then _ else _) _ _ s
  rw [if_pos (by decide)]
  refine wpAny_bind (wpAny_rule (wpAny_bind ?_))
  wp_delta
  refine wpAny_bind (wpAny_setField ho hd (by simp) ?_)
  have ho2 := Heap.get?_update_self (Obj.mapFields (·.setIfInBounds 1 (rawInt (-1)))) ho (Obj.isFreed_of_fields (Obj.data_mapFields hd _))
  refine wpAny_setField (s := { s with heap := s.heap.update it (Obj.mapFields (·.setIfInBounds 1 (rawInt (-1)))) }) ho2 (Obj.data_mapFields hd _) (by simp) ?_
  first
  | show wpAny _ _ (newExc (.type "StopIteration") [] >>= _) _ _ _
  | (refine wpAny_bind ?_; show wpAny _ _ (newExc (.type "StopIteration") [] >>= _) _ _ _)
  | (refine wpAny_bind ?_; wp_delta; show wpAny _ _ (newExc (.type "StopIteration") [] >>= _) _ _ _)
  simp only [newExc, newTuple]
  refine wpAny_bind (wpAny_bind (wpAny_newObj_type (wpAny_bind (m := firstArgMember _ _) (wpAny_of_eq (a := Value.none) (by first | rfl | (simp only [firstArgMember]; rfl)) (wpAny_newObj_type ?_ (by size_fits)))) (by size_fits)))
  simp only [raiseNew]
  refine wpAny_bind (wpAny_handled ?_)
  first | rw [show A.in1.handled = none from hh] | rw [hh]
  refine wpAny_bind (wpAny_pure (wpAny_throw ?_))
  refine hE _ _ (((?_ : Heap.ExtBut it s.heap _).push _).push _) ⟨_, Heap.get?_push_size _ rfl, rfl⟩
  exact fun b ob hb e => (Heap.get?_update_other _ _ (Ne.symm hb)).trans ((Heap.get?_update_other _ _ (Ne.symm hb)).trans e)
end
theorem Draws_rt {prog : Program} {w : World} {A : Around} (hh : A.handled = none) (it t : Addr) (hne : t ≠ it) (items : Array Value) (hsz : items.size ≤ sizeLine) :
    Draws prog w A it [it, t] items.size (fun i v => i < items.size ∧ items[items.size - 1 - i]? = some v) (fun i h => (i ≤ items.size ∧ IsRt h it t ((items.size : Int) - 1 - (i : Nat))) ∧ IsTup h t items) where
  live := fun _ _ st => let ⟨o, ho, _⟩ := st.1.2; ⟨o, ho⟩
  frame := fun _ _ _ st hk => ⟨⟨st.1.1, st.1.2.at fun o e => hk it (by simp) o e⟩, let ⟨o, ho, r⟩ := st.2; ⟨o, hk t (by simp) o ho, r⟩⟩
  item := fun i s Q E hi st hQ => by
    obtain ⟨⟨h0, h1⟩, h2⟩ := st
    have e1 : (items.size : Int) - 1 - ((i : Nat) : Int) = ((items.size - 1 - i : Nat) : Int) := by omega
    rw [e1] at h1
    have hlt : items.size - 1 - i < items.size := by omega
    refine rt_item h1 h2 (x := items[items.size - 1 - i]) (by simp [hlt]) hsz fun h' r' sb => ?_
    have e2 : ((items.size - 1 - i : Nat) : Int) - 1 = (items.size : Int) - 1 - ((i + 1 : Nat) : Int) := by omega
    rw [e2] at r'
    exact hQ _ h' (s.toks + 1) ⟨hi, by simp [hlt]⟩ ⟨⟨hi, r'⟩, let ⟨o, ho, r⟩ := h2; ⟨o, (sb.2 t hne).trans ho, r⟩⟩ sb
  done := fun s Q E st hE => by
    obtain ⟨⟨h0, h1⟩, h2⟩ := st
    have e1 : (items.size : Int) - 1 - ((items.size : Nat) : Int) = -1 := by omega
    rw [e1] at h1
    exact rt_end hh h1 hE
theorem sd_rt {P : Program} {w : World} {K : PySem.W.Frag} (it a : Addr) (vs : List V) : Sd P w K it vs.length (fun H => H a = some (.tup vs)) (fun i => if i < vs.length then vs[vs.length - 1 - i]? else none) (fun i h => i ≤ vs.length ∧ IsRt h it a ((vs.length : Int) - 1 - (i : Nat))) where
  dr := by
    intro X pins σ H s e1 e2 e3 hc I hn hG
    subst e1 e2 e3
    obtain ⟨its, rv, p, hz⟩ := I.tuple (xs := vs) (.inl (.inl hG))
    have hne : a ≠ it := fun e => by
      rw [e, hn] at hG
      cases hG
    have hl : its.toArray.size = vs.length := by rw [List.size_toArray, rv.length]
    refine ⟨a, fun h => IsTup h a its.toArray, fun i u => i < its.toArray.size ∧ its.toArray[its.toArray.size - 1 - i]? = some u, ?_, p, (by rw [hG]; exact nofun), fun i u hu => ?_⟩
    · rw [← hl]
      exact Draws_rt (A := X.A.in1) (I.ok.hd hc) it a hne its.toArray (by rw [hl]; exact hz)
    · obtain ⟨h1, h2⟩ := hu
      rw [hl] at h1 h2
      have hi : vs.length - 1 - i < vs.length := by omega
      obtain ⟨u', h3, h4⟩ := rv.get (i := vs.length - 1 - i) (List.getElem?_eq_getElem hi)
      have h5 : its[vs.length - 1 - i]? = some u := by simpa using h2
      rw [h5] at h3
      cases h3
      exact ⟨vs[vs.length - 1 - i], by rw [if_pos h1]; exact List.getElem?_eq_getElem hi, h4⟩
  keep := fun i h h' t k => ⟨t.1, let ⟨o, ho, r⟩ := t.2; ⟨o, k o ho, r⟩⟩
  obj := fun i h t => let ⟨o, ho, hc, hd⟩ := t.2; ⟨o, ho, fun v z => by rw [hd] at z; cases z⟩
/-- zip(i1, i2), both iterators already -/
abbrev zsT (h : Heap) (i1 i2 : Addr) : Heap := h.push { cls := .type "tuple", data := .seq #[.ref i1, .ref i2] }
abbrev zsO (h : Heap) (i1 i2 : Addr) : Heap := (zsT h i1 i2).push { cls := .type "tuple", data := .seq #[.none, .none] }
abbrev zsZ (h : Heap) (i1 i2 : Addr) : Heap := (zsO h i1 i2).push { cls := .type "zip", data := .fields #[.none, .bool false, .bool false, .ref h.objs.size, .ref (zsT h i1 i2).objs.size] }
theorem meets_zipS {i1 i2 t1 t2 : Addr} {k1 k2 : Int} :
    Meets (Builtin.«zip.__new__» ⟨[.type "zip", .ref i1, .ref i2], []⟩) (fun _ R s => (IsRt s.heap i1 t1 k1 ∧ IsRt s.heap i2 t2 k2) ∧ R (.ok (.ret (.ref (zsO s.heap i1 i2).objs.size))) { s with heap := zsZ s.heap i1 i2 }) :=
  .of_wp fun prog w A R s h => by
    obtain ⟨hp, g, d, tk, os⟩ := s; obtain ⟨⟨h1, h2⟩, h⟩ := h
    have hsub := sub_zip
    have q1 : ∀ {A' : Around} {E : Value → Shared → Prop} {Q : Value → Shared → Prop}, Q (.ref i1) ⟨hp, g, d, tk, os⟩ → wpAny (model prog w) A' (pyIter (.ref i1)) Q E ⟨hp, g, d, tk, os⟩ := fun q => iter_rt (s := ⟨hp, g, d, tk, os⟩) h1 q
    have q2 : ∀ {A' : Around} {E : Value → Shared → Prop} {Q : Value → Shared → Prop}, Q (.ref i2) ⟨hp, g, d, tk, os⟩ → wpAny (model prog w) A' (pyIter (.ref i2)) Q E ⟨hp, g, d, tk, os⟩ := fun q => iter_rt (s := ⟨hp, g, d, tk, os⟩) h2 q
    wp_walk using q1, q2
    exact ⟨_, rfl, h⟩
theorem call_zipS {prog : Program} {w : World} {A : Around} {E : Value → Shared → Prop} {s : Shared} {i1 i2 t1 t2 : Addr} {k1 k2 : Int} {Q : Value → Shared → Prop} (h1 : IsRt s.heap i1 t1 k1) (h2 : IsRt s.heap i2 t2 k2)
    (h : ∀ h', IsZip h' (s.heap.objs.size + 2) s.heap.objs.size (s.heap.objs.size + 1) .none → IsTupOf2 h' s.heap.objs.size (.ref i1) (.ref i2) → IsTupOf2 h' (s.heap.objs.size + 1) .none .none → (∀ c o, s.heap.get? c = some o → h'.get? c = some o) → Q (.ref (s.heap.objs.size + 2)) { s with heap := h' }) :
    wpAny (model prog w) A (call (.type "zip") [.ref i1, .ref i2]) Q E s := by
  refine callType_new F.called_zip (by decide) (F.typeCall_zip_2 _ _) (F.newCall_zip_2 _ _) (fun obj => F.args_object_init_3 obj _ _) F.entry_zip_new meets_zipS ⟨⟨h1, h2⟩, ?_⟩
  have z1 : (zsT s.heap i1 i2).objs.size = s.heap.objs.size + 1 := by rw [Heap.size_push]
  have z2 : (zsO s.heap i1 i2).objs.size = s.heap.objs.size + 2 := by rw [Heap.size_push, z1]
  have gZ : (zsZ s.heap i1 i2).get? (zsO s.heap i1 i2).objs.size = some { cls := .type "zip", data := .fields #[.none, .bool false, .bool false, .ref s.heap.objs.size, .ref (zsT s.heap i1 i2).objs.size] } := Heap.get?_push_size _ rfl
  have gO : (zsZ s.heap i1 i2).get? (zsT s.heap i1 i2).objs.size = some { cls := .type "tuple", data := .seq #[.none, .none] } := Heap.get?_push_of_some _ (Heap.get?_push_size _ rfl)
  have gT : (zsZ s.heap i1 i2).get? s.heap.objs.size = some { cls := .type "tuple", data := .seq #[.ref i1, .ref i2] } := Heap.get?_push_of_some _ (Heap.get?_push_of_some _ (Heap.get?_push_size _ rfl))
  rw [z2, z1] at gZ
  rw [z1] at gO
  show _ ∧ _
  rw [z2]
  exact ⟨⟨_, gZ, rfl⟩, h _ gZ gT gO fun c o e => Heap.get?_push_of_some _ (Heap.get?_push_of_some _ (Heap.get?_push_of_some _ e))⟩
section
variable {X : Cx} {e e2 : Expr} {ta tb : TE} {p pos tpos : Pos} {elts : List Expr} {kk : Nat}
def iZipRR (ta tb : TE) : TI := fun σ H R => ta σ H fun v H1 => ∃ a xs, v = .ref a ∧ H1 a = some (.tup xs) ∧ tb σ H1 fun u H2 => ∃ b ys, u = .ref b ∧ H2 b = some (.tup ys) ∧ H2 a = some (.tup xs) ∧
  R (JP (min xs.length ys.length) (fun H => H a = some (.tup xs) ∧ H b = some (.tup ys)) (fun i => if i < xs.length then xs[xs.length - 1 - i]? else none) (fun i => if i < ys.length then ys[ys.length - 1 - i]? else none)) H2
theorem ap5_rr (N : Addr) {i1 i2 : Addr} (h1 : i1 < N) (h2 : i2 < N) (h : i1 ≠ i2) : Ap5 (N + 2) N (N + 1) i1 i2 := by
  have lt : ∀ (i k : Nat), i < N → (N : Nat) + k ≠ i := fun i k h e => absurd (Nat.lt_of_lt_of_le h (Nat.le_add_right N k)) (by rw [e]; exact Nat.lt_irrefl _)
  exact ⟨(nat_a0 N 2 (by decide)).symm, nat_ab N 1 2 (by decide), (nat_a0 N 1 (by decide)).symm, (Nat.ne_of_lt h1).symm, (Nat.ne_of_lt h2).symm, lt _ 2 h1, lt _ 2 h2, lt _ 1 h1, lt _ 1 h2, h⟩
theorem pi_zipRR {p1 p2 q1 q2 : Pos} (hg : Gl X "zip") (hm : X.mg "zip" = none) (hgr : Gl X "reversed") (hmr : X.mg "reversed" = none) (ha : PE X e ta) (hb : PE X e2 tb)
    (hs : starEach [.Call (.Name "reversed" p1) [e] [] q1, .Call (.Name "reversed" p2) [e2] [] q2] X.env = (false, eval (.Call (.Name "reversed" p1) [e] [] q1) X.env) :: starEach [.Call (.Name "reversed" p2) [e2] [] q2] X.env := by rfl)
    (hs2 : starEach [.Call (.Name "reversed" p2) [e2] [] q2] X.env = (false, eval (.Call (.Name "reversed" p2) [e2] [] q2) X.env) :: starEach [] X.env := by rfl)
    (hpl : (backTo pos (starEach [.Call (.Name "reversed" p2) [e2] [] q2] X.env)).any (·.1) = false := by rfl) (ha1 : starEach [e] X.env = (false, eval e X.env) :: starEach [] X.env := by rfl) (hb1 : starEach [e2] X.env = (false, eval e2 X.env) :: starEach [] X.env := by rfl) :
    PI X (.Tuple elts kk tpos) (.Call (.Name "zip" p) [.Call (.Name "reversed" p1) [e] [] q1, .Call (.Name "reversed" p2) [e2] [] q2] [] pos) (iZipRR ta tb) := by
  refine ⟨fun pins s σ H R I h => Call_ (ld_blt I hg hm PyProof.Rows.boot_zip (PyProof.Rows.callWith_type1 (args_cons (Call_ (ld_blt I hgr hmr PyProof.Rows.boot_reversed (PyProof.Rows.callWith_type1 (args_cons (thn (ha.run pins s σ H _ I h) fun u s1 ⟨v, H1, I1, r1, k1⟩ => args_nil ?_) ha1) ha1 rfl))) hs) hs hpl))⟩
  obtain ⟨a, xs, ev, hx, k1⟩ := k1
  subst ev
  obtain rfl : u = Value.ref a := r1
  obtain ⟨its, rv, p', hz⟩ := I1.tuple (xs := xs) (.inl (.inl hx))
  have hl := rv.length
  have hn := line63
  have e1 : ((its.toArray.size : Nat) : Int) - 1 = (xs.length : Int) - 1 - ((0 : Nat) : Int) := by simp only [List.size_toArray]; omega
  refine call_reversed_tup p' (fun A E Q k => len_tuple p' (by simp only [List.size_toArray] <;> omega) k) ?_
  -- the first reversed stands pinned while the second is made
  have I2 : Inv X pins σ H1 { s1 with heap := s1.heap.push (rtObj a ((its.toArray.size : Int) - 1)), toks := s1.toks + 1 + 1 } := I1.kept fun b o q => Heap.get?_push_of_some _ q
  have g1 : (s1.heap.push (rtObj a ((its.toArray.size : Int) - 1))).get? s1.heap.objs.size = some (rtObj a ((its.toArray.size : Int) - 1)) := Heap.get?_push_size _ rfl
  have f1 : FpOk X pins H1 s1.heap.objs.size := I1.fpOk (Nat.le_refl _) (I1.hok.fresh (Nat.le_refl _))
  have I3 := I2.pinned (fp := [s1.heap.objs.size]) (fun b hb => by
    obtain rfl : b = s1.heap.objs.size := by simpa using hb
    exact f1) fun b hb => by
    obtain rfl : b = s1.heap.objs.size := by simpa using hb
    exact ⟨_, g1, fun v z => nomatch z⟩
  refine args_cons (Call_ (ld_blt I3 hgr hmr PyProof.Rows.boot_reversed (PyProof.Rows.callWith_type1 (args_cons (thn (hb.run _ _ σ H1 _ I3 k1) fun u s2 ⟨v, H2, I4, r2, k2⟩ => args_nil ?_) hb1) hb1 rfl))) hs2
  obtain ⟨b, ys, ev, hy, hx2, k2⟩ := k2
  subst ev
  obtain rfl : u = Value.ref b := r2
  obtain ⟨its2, rv2, p2', hz2⟩ := I4.tuple (xs := ys) (.inl (.inl hy))
  have hl2 := rv2.length
  have e2 : ((its2.toArray.size : Nat) : Int) - 1 = (ys.length : Int) - 1 - ((0 : Nat) : Int) := by simp only [List.size_toArray]; omega
  have pin := I4.pin (s1.heap.objs.size, rtObj a ((its.toArray.size : Int) - 1)) (List.mem_append_right _ (List.mem_append_right _ (mem_pinsAt (by simp) g1)))
  have hlt1 : s1.heap.objs.size < s2.heap.objs.size := Heap.lt_size pin.1
  refine call_reversed_tup p2' (fun A E Q k => len_tuple p2' (by simp only [List.size_toArray] <;> omega) k) (args_nil ?_)
  have I5 : Inv X pins σ H2 { s2 with heap := s2.heap.push (rtObj b ((its2.toArray.size : Int) - 1)), toks := s2.toks + 1 + 1 } := I4.unpinned.kept fun b o q => Heap.get?_push_of_some _ q
  have g2 : (s2.heap.push (rtObj b ((its2.toArray.size : Int) - 1))).get? s2.heap.objs.size = some (rtObj b ((its2.toArray.size : Int) - 1)) := Heap.get?_push_size _ rfl
  have g3 : (s2.heap.push (rtObj b ((its2.toArray.size : Int) - 1))).get? s1.heap.objs.size = some (rtObj a ((its.toArray.size : Int) - 1)) := Heap.get?_push_of_some _ pin.1
  have hsz : (s2.heap.push (rtObj b ((its2.toArray.size : Int) - 1))).objs.size = s2.heap.objs.size + 1 := Heap.size_push ..
  refine call_zipS (s := { s2 with heap := s2.heap.push (rtObj b ((its2.toArray.size : Int) - 1)), toks := s2.toks + 1 + 1 }) (i1 := s1.heap.objs.size) (i2 := s2.heap.objs.size) (t1 := a) (t2 := b) ⟨_, g3, rfl, rfl⟩ ⟨_, g2, rfl, rfl⟩ fun h' hz' hTI hTO hk => wpAny_pyIter_zip hz' ?_
  have I6 : Inv X pins σ H2 { s2 with heap := h', toks := s2.toks + 1 + 1 } := I5.kept (t' := s2.toks + 1 + 1) hk
  have n12 : s1.heap.objs.size ≠ s2.heap.objs.size := Nat.ne_of_lt hlt1
  have l1 : s1.heap.objs.size < (s2.heap.push (rtObj b ((its2.toArray.size : Int) - 1))).objs.size := by rw [hsz]; exact Nat.lt_succ_of_lt hlt1
  have l2 : s2.heap.objs.size < (s2.heap.push (rtObj b ((its2.toArray.size : Int) - 1))).objs.size := by rw [hsz]; exact Nat.lt_succ_self _
  refine ⟨_, [(s2.heap.push (rtObj b ((its2.toArray.size : Int) - 1))).objs.size + 2, (s2.heap.push (rtObj b ((its2.toArray.size : Int) - 1))).objs.size, (s2.heap.push (rtObj b ((its2.toArray.size : Int) - 1))).objs.size + 1, s1.heap.objs.size, s2.heap.objs.size], _, _, H2, rfl, I6, turn_zipS (ap5_rr _ l1 l2 n12) (sd_rt s1.heap.objs.size a xs) (sd_rt s2.heap.objs.size b ys), ⟨Nat.zero_le _, hz', hTI, ⟨_, _, hTO⟩, ⟨Nat.zero_le _, ?_⟩, ⟨Nat.zero_le _, ?_⟩⟩, fun c hcm => ?_, k2⟩
  · rw [← e1]
    exact ⟨_, hk _ _ g3, rfl, rfl⟩
  · rw [← e2]
    exact ⟨_, hk _ _ g2, rfl, rfl⟩
  · have e' : c = (s2.heap.push (rtObj b ((its2.toArray.size : Int) - 1))).objs.size + 2 ∨ c = (s2.heap.push (rtObj b ((its2.toArray.size : Int) - 1))).objs.size ∨ c = (s2.heap.push (rtObj b ((its2.toArray.size : Int) - 1))).objs.size + 1 ∨ c = s1.heap.objs.size ∨ c = s2.heap.objs.size := by simpa using hcm
    have nw : ∀ {c : Addr}, (s2.heap.push (rtObj b ((its2.toArray.size : Int) - 1))).objs.size ≤ c → FpOk X pins H2 c := fun {c} hle => I5.fpOk hle (I5.hok.fresh hle)
    rcases e' with z | z | z | z | z
    · rw [z]; exact nw (Nat.le_add_right _ _)
    · rw [z]; exact nw (Nat.le_refl _)
    · rw [z]; exact nw (Nat.le_add_right _ _)
    · rw [z]; exact ⟨pin.2.1, f1.2⟩
    · rw [z]; exact I4.unpinned.fpOk (Nat.le_refl _) (I4.hok.fresh (Nat.le_refl _))
end
end Mf
/-! sum, sorted of a tuple; list of a stepped range; the built-ins over data -/
namespace Mf
open PySem PySem.Spec PyProof.Rows L2
theorem ints_at : ∀ {ns : List Int} {us : List Value} {i : Nat} {u : Value}, Vals (ns.map V.int) us → us[i]? = some u → ∃ t, u = .int (ns.getD i 0) t
  | [], us, i, u, h, e => by
    cases h
    simp at e
  | n :: ns, us, i, u, h, e => by
    cases h with
    | cons r rr =>
      cases i with
      | zero =>
        obtain ⟨t, rfl⟩ := r
        cases e
        exact ⟨t, rfl⟩
      | succ i =>
        obtain ⟨t, ht⟩ := ints_at (i := i) rr (by simpa using e)
        exact ⟨t, by rw [ht]; simp⟩
theorem preSum_ns (ns : List Int) : ∀ j, j ≤ ns.length → preSum (fun i => ns.getD i 0) j = (ns.take j).sum
  | 0, _ => by simp [preSum]
  | j + 1, h => by
    have hj : j < ns.length := h
    rw [preSum, preSum_ns ns j (Nat.le_of_lt hj), List.take_add_one, List.getElem?_eq_getElem hj, List.sum_append]
    simp [List.getD_eq_getElem?_getD, List.getElem?_eq_getElem hj]
def rSumT : List V → Hp → VK → Prop := fun vs H Q => ∃ (a : Addr) (ns : List Int), vs = [V.ref a] ∧ H a = some (.tup (ns.map V.int)) ∧ Q (.int ns.sum) H
theorem cr_sumT {X : Cx} (hc : X.calm = true) : CallR X (.builtin "sum") rSumT := by
  intro pins s σ H vs us Q I r h
  obtain ⟨a, ns, rfl, hs, q⟩ := h
  obtain ⟨its, rv, hl, _⟩ := I.tuple (xs := ns.map V.int) (.inl (.inl hs))
  obtain ⟨u, rfl, ru⟩ := vals1 r
  obtain rfl : u = Value.ref a := ru
  have hle := rv.length
  rw [List.length_map] at hle
  have ht : s.heap.IsTuple a its.toArray := hl
  obtain ⟨o, ho, hr⟩ := id ht
  have hlt : a < s.heap.objs.size := Heap.lt_size ho
  refine call_sum_walkG (wpAny_pyIter_tuple ht ?_)
  refine ⟨s.heap.objs.size, [s.heap.objs.size, a], [s.heap.objs.size], _, _, _, fun i => ns.getD i 0, rfl, Walks.tuple (A := X.A.in1) (I.ok.hd hc) s.heap.objs.size a (Nat.ne_of_lt hlt) its.toArray, ⟨⟨_, Heap.get?_push_size _ rfl, rfl, rfl⟩, ⟨o, Heap.get?_push_of_some _ ho, hr⟩⟩, fun b hb => ?_, fun i v hv => ints_at rv (by simpa using hv), fun h' tk t' hk => ?_⟩
  · have hb' : b = s.heap.objs.size ∨ b = a := by simpa using hb
    show b < (s.heap.push _).objs.size
    rw [Heap.size_push]
    rcases hb' with e | e
    · rw [e]; exact Nat.lt_succ_self _
    · rw [e]; exact Nat.lt_succ_of_lt hlt
  · rw [List.size_toArray, ← hle, preSum_ns ns _ (Nat.le_refl _), List.take_length]
    have I1 : Inv X pins σ H { s with heap := h', toks := tk } := I.kept (t' := tk) fun b o e => hk b o (by
      have hbl : b < s.heap.objs.size := Heap.lt_size e
      simp [Nat.ne_of_lt hbl]) (Heap.get?_push_of_some _ e)
    exact ⟨.int ns.sum, H, I1, ⟨_, rfl⟩, q⟩
/-! ### sorted(a tuple of ints) -/
section
variable {prog : Program} {w : World} {A : Around} {E : Value → Shared → Prop} {s : Shared}
theorem collect_tup {l : Addr} {vs : List Value} {Q : List Value → Shared → Prop} (hl : IsTup s.heap l vs.toArray)
    (h : Q vs { s with heap := (s.heap.push (seqObj "list" #[] 0)).update s.heap.objs.size (Obj.mapSeq (· ++ vs.toArray)) }) (hsz : vs.length ≤ sizeLine) :
    wpAny (model prog w) A (collect (.ref l)) Q E s := by
  obtain ⟨o, ho, hc, n, hd⟩ := id hl
  unfold collect
  refine wpAny_bind (wpAny_runValue (codeAny_builtin entry_proto_collect' ?_))
  show wpAny _ _ (do again (.builtin "list.__iadd__" ⟨[← newList [], .ref l], []⟩)) _ _ s
  refine wpAny_bind (wpAny_newList (wpAny_pure ⟨Code.quiet_builtin _ (by decide +kernel), codeAny_builtin entry_list_iadd' ?_⟩))
  show wpAny _ _ (Builtin.List.listExtendWith (.ref s.heap.objs.size) (.ref l) (.ref s.heap.objs.size)) _ _ { s with heap := s.heap.push (seqObj "list" #[] 0) }
  unfold Builtin.List.listExtendWith
  have ho' : (s.heap.push (seqObj "list" #[] 0)).get? l = some o := Heap.get?_push_of_some _ ho
  refine wpAny_bind (wpAny_typeOf (T := "tuple") ⟨o, ho', hc⟩ ?_)
  have ht : (Value.type "tuple" == Value.type "tuple") = true := by rfl
  rw [if_pos (by rw [ht]; simp)]
  refine wpAny_bind (listItems_at ho' hd (wpAny_bind (listItems_at (xs := #[]) (n := 0) (Heap.get?_push_size _ rfl) rfl ?_)))
  rw [if_neg (by simp)]
  refine wpAny_bind (listUpdate_at (xs := #[]) (n := 0) (Heap.get?_push_size _ rfl) rfl (wpAny_pure ?_) (Nat.zero_le _) (by show (#[] ++ vs.toArray).size ≤ sizeLine + 1; simp only [Array.size_append, List.size_toArray, List.length_nil]; omega))
  show wpAny (model prog w) A (do
      let o ← load s.heap.objs.size
      match o.data with | .seq xs _ => pure xs.toList | _ => unsupported "internal:collect") Q E { s with heap := (s.heap.push (seqObj "list" #[] 0)).update s.heap.objs.size (Obj.mapSeq (· ++ vs.toArray)) }
  refine wpAny_bind (wpAny_load (get?_update_seq (Heap.get?_push_size _ rfl) _) ?_)
  show wpAny _ _ (pure ((#[] : Array Value) ++ vs.toArray).toList) Q E _
  rw [show ((#[] : Array Value) ++ vs.toArray).toList = vs by simp]
  exact wpAny_pure h
theorem sorted_tup {l : Addr} {vs : List Value} {ns : List Int} {Q : Value → Shared → Prop} (hl : IsTup s.heap l vs.toArray) (hI : IntsAre vs ns) (h64 : vs.length < 64)
    (h : ∀ (out : Array Value) (ns' : List Int), IntsAre out.toList ns' → ns'.Perm ns → ns'.Pairwise (· ≤ ·) → Q (.ref (s.heap.objs.size + 1)) { s with heap := sortedAll s.heap vs out }) :
    wpAny (model prog w) A (call (.builtin "sorted") [.ref l]) Q E s := by
  refine Calls.call_function_entry kind_sorted plain_sorted entry_sorted (args_sorted1 _) ?_
  unfold Builtin.«sorted»
  refine wpAny_bind (m := checkCount "sorted" 1 1 _) (wpAny_pure (wpAny_bind (collect_tup hl (wpAny_bind (wpAny_newList ?_)) (small64 h64))))
  have hsz : ((s.heap.push (seqObj "list" #[] 0)).update s.heap.objs.size (Obj.mapSeq (· ++ vs.toArray))).objs.size = s.heap.objs.size + 1 := by rw [Heap.size_update, size_push']
  have hoL : (((s.heap.push (seqObj "list" #[] 0)).update s.heap.objs.size (Obj.mapSeq (· ++ vs.toArray))).push (seqObj "list" vs.toArray 0)).get? (s.heap.objs.size + 1) = some (seqObj "list" vs.toArray 0) := hsz ▸ Heap.get?_push_size _ rfl
  show wpAny _ _ _ _ _ { s with heap := ((s.heap.push (seqObj "list" #[] 0)).update s.heap.objs.size (Obj.mapSeq (· ++ vs.toArray))).push (seqObj "list" vs.toArray 0) }
  rw [hsz]
  exact wpAny_bind (wpAny_holding (wpAny_call_entry slot_list_sort ⟨_, hoL, rfl⟩ entry_list_sort (list_sort_tree hoL hI h64 fun out ns' a1 a2 a3 => ⟨_, rfl, wpAny_pure ⟨_, rfl, h out ns' a1 a2 a3⟩⟩) (args_list_sort _)))
end
def rSortedTI : List V → Hp → VK → Prop := fun vs H Q => ∃ (a : Addr) (ns : List Int), vs = [V.ref a] ∧ H a = some (.tup (ns.map V.int)) ∧ ns.length < 64 ∧
  ∀ (ns' : List Int) (p : Addr), ns'.Perm ns → ns'.Pairwise (· ≤ ·) → H p = none → Q (.ref p) (upd H p (.lst (ns'.map V.int)))
theorem cr_sortedTI {X : Cx} : CallR X (.builtin "sorted") rSortedTI := by
  intro pins s σ H vs us Q I r h
  obtain ⟨a, ns, rfl, hs, h64, q⟩ := h
  obtain ⟨its, rv, hl, _⟩ := I.tuple (xs := ns.map V.int) (.inl (.inl hs))
  rw [Vals.ref1 r]
  have hi := rv.ints
  refine sorted_tup hl hi (by rw [hi.length]; exact h64) fun out ns' h1 h2 h3 => ?_
  obtain ⟨ep, he'⟩ := PyProof.Rows.sortedAll_at s.heap its out
  have hlen : (ns'.map V.int).length ≤ sizeLine := by rw [List.length_map, h2.length_eq]; exact small64 h64
  refine ⟨.ref _, upd H (s.heap.objs.size + 1) (.lst (ns'.map V.int)), I.laid (t' := s.toks) (fun _ _ => PyProof.Rows.sortedAll_old) (Nat.le_succ _) ⟨hlen, out.toList, ep, vals_of_ints h1, he'⟩, rfl, ?_⟩
  exact q ns' _ h2 h3 (I.hok.fresh (Nat.le_succ _))
/-! ### list(range(a, b, c)) -/
def rg3 (a c : Int) (n : Nat) : List Int := (List.range n).map fun i => a + (i : Nat) * c
theorem vals_rg3 {a c : Int} {n : Nat} {acc : Array Value} (h : ItemsOf (fun i v => ∃ t, v = .int (a + i * c) t) acc n) : Vals ((rg3 a c n).map V.int) acc.toList := by
  have e : acc.toList.length = n := by rw [Array.length_toList]; exact h.1
  unfold rg3
  rw [← e, List.map_map]
  refine vals_of_get acc.toList _ fun j u hj => ?_
  obtain ⟨t, rfl⟩ := h.2 j u (by rw [← hj, Array.getElem?_toList])
  exact ⟨t, rfl⟩
def tLstRg3 (ta : TA) : TE := fun σ H Q => ta σ H fun vs H1 => ∃ (i j c : Int) (n : Nat), vs = [.int i, .int j, .int c] ∧ RgC i j c n ∧ n ≤ 2 ^ 24 ∧ ∀ q, H1 q = none → Q (.ref q) (upd H1 q (.lst ((rg3 i c n).map V.int)))
theorem pe_listRg3 {X : Cx} {a b c : Expr} {ta : TA} {p1 p2 pos pos2 : Pos} (hc : X.calm = true) (hgl : Gl X "list") (hml : X.mg "list" = none) (hg : Gl X "range") (hm : X.mg "range" = none) (ha : PA X [a, b, c] ta)
    (na : starEach [.Call (.Name "range" p2) [a, b, c] [] pos2] X.env = (false, eval (.Call (.Name "range" p2) [a, b, c] [] pos2) X.env) :: starEach [] X.env := by rfl)
    (hs : starEach [a, b, c] X.env = (false, eval a X.env) :: starEach [b, c] X.env := by rfl) (hpl : (backTo pos2 (starEach [b, c] X.env)).any (·.1) = false := by rfl) : PE X (.Call (.Name "list" p1) [.Call (.Name "range" p2) [a, b, c] [] pos2] [] pos) (tLstRg3 ta) := by
  refine ⟨fun pins s σ H Q I h => Call_ (ld_blt I hgl hml boot_list (PyProof.Rows.callWith_type1 (args_cons (Call_ (ld_blt I hg hm boot_range (PyProof.Rows.callWith_type1 (thn (ha.run pos2 pins s σ H _ I h) fun us s1 ⟨vs, H1, I1, r1, q1⟩ => ?_) hs hpl))) na) na))⟩
  obtain ⟨i, j, k, n, e, ⟨c0, c1, c2, c3⟩, hn, q⟩ := q1
  subst e
  cases r1 with
  | cons r rr =>
    cases rr with
    | cons r' rr =>
      cases rr with
      | cons r'' rr =>
        cases rr
        obtain ⟨t, rfl⟩ := r
        obtain ⟨t', rfl⟩ := r'
        obtain ⟨t'', rfl⟩ := r''
        refine call_range_3 c0 (args_nil ?_) (.inl (PyProof.noPylong_small c1))
        have I2 : Inv X pins σ H1 { s1 with heap := s1.heap.push { cls := .type "range", data := .fields #[.int i t, .int j t', .int k t''] }, toks := s1.toks } := I1.kept fun b o q => Heap.get?_push_of_some _ q
        refine call_list_range (n := n) (I1.ok.hd hc) (IsRange.new ..) c2 c3 hn fun h' tk acc c' hk e' hi => ?_
        refine ⟨.ref _, upd H1 (s1.heap.push { cls := .type "range", data := .fields #[.int i t, .int j t', .int k t''] }).objs.size (.lst ((rg3 i k n).map V.int)), I2.laid hk (Nat.le_refl _) (show ObjOk X.prog X.w _ _ _ (.lst ((rg3 i k n).map V.int)) from ⟨?_, acc.toList, c', vals_rg3 hi, ?_⟩), rfl, q _ (I2.hok.fresh (Nat.le_refl _))⟩
        · unfold rg3
          rw [List.length_map, List.length_map, List.length_range, sizeLine_eq]
          omega
        · rw [Array.toArray_toList]
          exact e'
end Mf
/-! the built-ins over data -/
namespace Mf
open PySem PySem.Spec PyProof.Rows L2
theorem perm_uniq {α : Type} {r : α → α → Prop} (anti : ∀ a b, r a b → r b a → a = b) : ∀ {l m : List α}, l.Pairwise r → m.Pairwise r → l.Perm m → l = m
  | [], m, _, _, h => (List.Perm.eq_nil h.symm).symm
  | x :: l, [], _, _, h => absurd h.length_eq (by simp)
  | x :: l, y :: m, hl, hm, h => by
    obtain ⟨hx, hl'⟩ := List.pairwise_cons.mp hl
    obtain ⟨hy, hm'⟩ := List.pairwise_cons.mp hm
    have e : x = y := by
      rcases List.mem_cons.mp (h.mem_iff.mp (List.mem_cons_self (a := x) (l := l))) with e | h1
      · exact e
      · rcases List.mem_cons.mp (h.mem_iff.mpr (List.mem_cons_self (a := y) (l := m))) with e | h2
        · exact e.symm
        · exact anti _ _ (hx y h2) (hy x h1)
    subst e
    rw [perm_uniq anti hl' hm' h.cons_inv]
def sortI (ns : List Int) : List Int := ns.mergeSort
theorem sortI_uniq {ns ms : List Int} (h1 : ms.Perm ns) (h2 : ms.Pairwise (· ≤ ·)) : ms = sortI ns := by
  refine perm_uniq (r := fun a b : Int => a ≤ b) (fun a b h g => Int.le_antisymm h g) h2 ?_ (h1.trans (List.mergeSort_perm ns _).symm)
  have q := List.pairwise_mergeSort (le := fun a b : Int => decide (a ≤ b)) (fun a b c h g => by simp at *; omega) (fun a b => by simp; omega) ns
  exact q.imp fun h => of_decide_eq_true h
def lexLe (a b : Int × Int) : Bool := !SrtO.lexB b a
def sortP (ps : List (Int × Int)) : List (Int × Int) := ps.mergeSort lexLe
theorem lexLe_iff {a b : Int × Int} : lexLe a b = true ↔ a.1 < b.1 ∨ (a.1 = b.1 ∧ a.2 ≤ b.2) := by
  unfold lexLe SrtO.lexB
  by_cases e : b.1 = a.1
  · rw [if_pos e]
    simp
    omega
  · rw [if_neg e]
    simp
    omega
theorem lexLe_pair (ps : List (Int × Int)) : (sortP ps).Pairwise fun a b => lexLe a b = true :=
  List.pairwise_mergeSort (le := lexLe) (fun a b c h g => by rw [lexLe_iff] at *; omega) (fun a b => by
    rw [Bool.or_eq_true, lexLe_iff, lexLe_iff]
    omega) ps
theorem sortP_perm (ps : List (Int × Int)) : (sortP ps).Perm ps := List.mergeSort_perm ps _
theorem sortP_uniq {ns ms : List (Int × Int)} (h1 : ms.Perm ns) (h2 : ms.Pairwise fun a b => lexLe a b = true) : ms = sortP ns :=
  perm_uniq (r := fun a b => lexLe a b = true) (fun a b h g => by
    rw [lexLe_iff] at h g
    obtain ⟨a1, a2⟩ := a
    obtain ⟨b1, b2⟩ := b
    simp at h g
    rw [Prod.mk.injEq]
    omega) h2 (lexLe_pair ns) (h1.trans (sortP_perm ns).symm)
def encP (p : Int × Int) : D := .tup [.int p.1, .int p.2]
section
variable {X : Cx} {ρ ρ' ρ1 ρ2 : En} {a b c e : Expr} {da db dc d x y : D} {pos p : Pos} {ds es : List D} {ns : List Int}
theorem call_lenD' : CallD X (.builtin "len") [.tup ds] (.int (ds.length : Nat)) := ⟨_, call_len_seq, fun F0 H0 F H ρ σ s vs Q dv q => by
  obtain ⟨u, rfl, g⟩ := one_arg dv
  obtain ⟨p, vs, rfl, h1, h2⟩ := den_tup g
  exact ⟨p, vs, rfl, .inr (sqT_mono s.fh h1), by rw [h2.len]; exact q _ F H s (Same.refl F) mk_int⟩⟩
theorem call_lenL : CallD X (.builtin "len") [.lst ds] (.int (ds.length : Nat)) := ⟨_, call_len_seq, fun F0 H0 F H ρ σ s vs Q dv q => by
  obtain ⟨u, rfl, g⟩ := one_arg dv
  obtain ⟨p, vs, rfl, h1, h2⟩ := den_lst g
  exact ⟨p, vs, rfl, .inl (.inl (.inl (s.fh _ _ h1))), by rw [h2.len]; exact q _ F H s (Same.refl F) mk_int⟩⟩
theorem call_lenS : CallD X (.builtin "len") [.scr ns] (.int (ns.length : Nat)) := ⟨_, call_len_seq, fun F0 H0 F H ρ σ s vs Q dv q => by
  obtain ⟨u, rfl, g⟩ := one_arg dv
  obtain ⟨p, rfl, h1⟩ := den_scr g
  exact ⟨p, ns.map V.int, rfl, .inl (sqL_mono s.fh h1), by rw [List.length_map]; exact q _ F H s (Same.refl F) mk_int⟩⟩
theorem call_sumL (hc : X.calm = true := by rfl) : CallD X (.builtin "sum") [.lst (ns.map .int)] (.int ns.sum) := ⟨_, cr_sum hc, fun F0 H0 F H ρ σ s vs Q dv q => by
  obtain ⟨u, rfl, g⟩ := one_arg dv
  obtain ⟨p, vs, rfl, h1, h2⟩ := den_lst g
  obtain rfl := h2.ints
  exact ⟨p, ns, rfl, .inl (.inl (s.fh _ _ h1)), q _ F H s (Same.refl F) mk_int⟩⟩
theorem call_sumT (hc : X.calm = true := by rfl) : CallD X (.builtin "sum") [.tup (ns.map .int)] (.int ns.sum) := ⟨_, cr_sumT hc, fun F0 H0 F H ρ σ s vs Q dv q => by
  obtain ⟨u, rfl, g⟩ := one_arg dv
  obtain ⟨p, vs, rfl, h1, h2⟩ := den_tup g
  obtain rfl := h2.ints
  exact ⟨p, ns, rfl, s.fh _ _ h1, q _ F H s (Same.refl F) mk_int⟩⟩
theorem call_allL {bs : List Bool} (hc : X.calm = true := by rfl) : CallD X (.builtin "all") [.lst (bs.map .bl)] (.bl (bs.all id)) := ⟨_, cr_all hc, fun F0 H0 F H ρ σ s vs Q dv q => by
  obtain ⟨u, rfl, g⟩ := one_arg dv
  obtain ⟨p, vs, rfl, h1, h2⟩ := den_lst g
  obtain rfl := h2.bls
  exact ⟨p, bs, rfl, .inl (.inl (s.fh _ _ h1)), q _ F H s (Same.refl F) mk_bl⟩⟩
theorem call_tupL : CallD X (.type "tuple") [.lst ds] (.tup ds) := ⟨_, call_tuple_of, fun F0 H0 F H ρ σ s vs Q dv q => by
  obtain ⟨u, rfl, g⟩ := one_arg dv
  obtain ⟨p, vs, rfl, h1, h2⟩ := den_lst g
  exact ⟨p, vs, rfl, .inl ⟨.inl (.inl (s.fh _ _ h1)), fun l hl => q _ _ _ (s.new hl) (same_new (s.free hl)) (mk_tup upd_same (Dens.mono (same_new (s.free hl)) _ h2))⟩⟩⟩
theorem call_min {i j : Int} (hc : X.calm = true := by rfl) : CallD X (.builtin "min") [.int i, .int j] (.int (min i j)) := ⟨_, call_min2 hc, fun F0 H0 F H ρ σ s vs Q dv q => by
  obtain ⟨u, w, rfl, g1, g2⟩ := two_args dv
  obtain rfl := den_int g1
  obtain rfl := den_int g2
  refine ⟨i, j, rfl, ?_⟩
  have e : (if j < i then j else i) = min i j := by
    split <;> omega
  rw [e]
  exact q _ F H s (Same.refl F) mk_int⟩
theorem call_max {i j : Int} (hc : X.calm = true := by rfl) : CallD X (.builtin "max") [.int i, .int j] (.int (max i j)) := ⟨_, call_max2 hc, fun F0 H0 F H ρ σ s vs Q dv q => by
  obtain ⟨u, w, rfl, g1, g2⟩ := two_args dv
  obtain rfl := den_int g1
  obtain rfl := den_int g2
  refine ⟨i, j, rfl, ?_⟩
  have e : (if j > i then j else i) = max i j := by
    split <;> omega
  rw [e]
  exact q _ F H s (Same.refl F) mk_int⟩
theorem call_intB {k : Bool} : CallD X (.type "int") [.bl k] (.int (if k then 1 else 0)) := ⟨_, call_int1, fun F0 H0 F H ρ σ s vs Q dv q => by
  obtain ⟨u, rfl, g⟩ := one_arg dv
  obtain rfl := den_bl g
  exact .inr ⟨k, rfl, q _ F H s (Same.refl F) mk_int⟩⟩
theorem call_divmodD {i j : Int} (h : 0 < j ∧ j < 1073741824) : CallD X (.builtin "divmod") [.int i, .int j] (.tup [.int (i / j), .int (i % j)]) := ⟨_, call_divmod, fun F0 H0 F H ρ σ s vs Q dv q => by
  obtain ⟨u, w, rfl, g1, g2⟩ := two_args dv
  obtain rfl := den_int g1
  obtain rfl := den_int g2
  exact ⟨i, j, rfl, h, fun p hp => q _ _ _ (s.new hp) (same_new (s.free hp)) (mk_tup upd_same (dens_cons mk_int (dens_cons mk_int dens_nil)))⟩⟩
/-- the type of a thing, by name -/
def tyD : D → String
  | .non => "NoneType"
  | .bl _ => "bool"
  | .int _ => "int"
  | .str _ => "str"
  | .ty _ => "type"
  | .tup _ => "tuple"
  | .lst _ => "list"
  | .scr _ => "list"
  | .dic _ _ => "dict"
theorem call_isiD {t : String} {k : Bool} (h : kitB (tyD d) t = some k) (h2 : (match d with | .ty _ => false | .scr _ => false | _ => true) = true := by rfl) : CallD X (.builtin "isinstance") [d, .ty t] (.bl k) := ⟨_, call_isi, fun F0 H0 F H ρ σ s vs Q dv q => by
  obtain ⟨u, w, rfl, g1, g2⟩ := two_args dv
  obtain rfl := den_ty g2
  have ty : TyX X.K H u (.type (tyD d)) := by
    cases d with
    | non => rw [den_non g1]; exact .base .non
    | bl b => rw [den_bl g1]; exact .base (.bl b)
    | int b => rw [den_int g1]; exact .base (.int b)
    | str b => rw [den_str g1]; exact .base (.str b)
    | ty n => cases h2
    | tup ds =>
      obtain ⟨p, vs, rfl, h3, _⟩ := den_tup g1
      exact .base (.tup (s.fh _ _ h3))
    | lst ds =>
      obtain ⟨p, vs, rfl, h3, _⟩ := den_lst g1
      exact .base (.lst (s.fh _ _ h3))
    | scr ns => cases h2
    | dic ks ds =>
      obtain ⟨p, vs, rfl, h3, _⟩ := den_dic g1
      exact .base (.dK (s.fh _ _ h3))
  exact ⟨u, .ty t, _, _, k, rfl, .ty t, ty, kit_ty h, q _ F H s (Same.refl F) mk_bl⟩⟩
theorem call_sortT (h64 : ns.length < 64) : CallD X (.builtin "sorted") [.tup (ns.map .int)] (.lst ((sortI ns).map .int)) := ⟨_, cr_sortedTI, fun F0 H0 F H ρ σ s vs Q dv q => by
  obtain ⟨u, rfl, g⟩ := one_arg dv
  obtain ⟨p, vs, rfl, h1, h2⟩ := den_tup g
  obtain rfl := h2.ints
  refine ⟨p, ns, rfl, s.fh _ _ h1, h64, fun ms l h3 h4 hl => ?_⟩
  have e := sortI_uniq h3 h4
  subst e
  exact q _ _ _ (s.new hl) (same_new (s.free hl)) (mk_lst upd_same dens_ints)⟩
theorem call_sortP {ps : List (Int × Int)} : CallD X (.builtin "sorted") [.lst (ps.map encP)] (.lst ((sortP ps).map encP)) := ⟨_, cr_sortedPO, fun F0 H0 F H ρ σ s vs Q dv q => by
  obtain ⟨u, rfl, g⟩ := one_arg dv
  obtain ⟨p, vs, rfl, h1, h2⟩ := den_lst g
  let k : V → Int × Int := fun v => match v with
    | .ref t => match F t with
      | some (.tup [.int i, .int j]) => (i, j)
      | _ => (0, 0)
    | _ => (0, 0)
  have one : ∀ {q : Int × Int} {v : V}, Den X.K F (encP q) v → ∃ t, v = .ref t ∧ F t = some (.tup [.int q.1, .int q.2]) ∧ k v = q := fun {q v} hq => by
    obtain ⟨t, us, rfl, h3, h4⟩ := den_tup hq
    obtain ⟨u, w, rfl, g1, g2⟩ := two_args h4
    obtain rfl := den_int g1
    obtain rfl := den_int g2
    exact ⟨t, rfl, h3, by simp only [k, h3]⟩
  have all : ∀ {qs : List (Int × Int)} {us : List V}, Dens X.K F (qs.map encP) us → us.map k = qs ∧ ∀ v ∈ us, ∃ t, v = .ref t ∧ F t = some (.tup [.int (k v).1, .int (k v).2]) := fun {qs} => by
    induction qs with
    | nil => intro us h; rw [dens_nil' h]; exact ⟨rfl, fun v hv => by simp at hv⟩
    | cons q qs ih =>
      intro us h
      obtain ⟨v, r, rfl, g1, g2⟩ := dens_cons' (d := encP q) (ds := qs.map encP) h
      obtain ⟨t, e1, e2, e3⟩ := one g1
      obtain ⟨e4, e5⟩ := ih g2
      refine ⟨by rw [List.map_cons, e3, e4], fun u hu => ?_⟩
      rcases List.mem_cons.mp hu with e | hu
      · subst e
        exact ⟨t, e1, by rw [e3]; exact e2⟩
      · exact e5 u hu
  obtain ⟨e1, e2⟩ := all h2
  refine ⟨p, vs, k, rfl, .inl (.inl (s.fh _ _ h1)), fun v hv => ?_, fun ys l h3 h4 hl => ?_⟩
  · obtain ⟨t, e3, e4⟩ := e2 v hv
    exact ⟨t, e3, s.fh _ _ e4⟩
  · have hp : ys.Perm vs := h4.perm
    have e3 : ys.map k = sortP ps := sortP_uniq (by rw [← e1]; exact hp.map k) (List.pairwise_map.mpr (h3.imp fun {x y} h => by
      unfold lexLe
      rw [show SrtO.lexB (k y) (k x) = false from h]
      rfl))
    have dens : ∀ {us : List V}, (∀ v ∈ us, ∃ t, v = .ref t ∧ F t = some (.tup [.int (k v).1, .int (k v).2])) → Dens X.K F ((us.map k).map encP) us := fun {us} => by
      induction us with
      | nil => intro _; exact dens_nil
      | cons v us ih =>
        intro h
        obtain ⟨t, g1, g2⟩ := h v List.mem_cons_self
        refine dens_cons ?_ (ih fun u hu => h u (List.mem_cons_of_mem _ hu))
        have m : Den X.K F (encP (k v)) (.ref t) := mk_tup g2 (dens_cons mk_int (dens_cons mk_int dens_nil))
        rw [g1] at m ⊢
        exact m
    have dy := dens (us := ys) fun v hv => e2 v (hp.mem_iff.mp hv)
    rw [e3] at dy
    exact q _ _ _ (s.new hl) (same_new (s.free hl)) (mk_lst upd_same (Dens.mono (same_new (s.free hl)) _ dy))⟩
/-! ### dicts -/
def dicAt : List Int → List D → Int → Option D
  | k :: ks, d :: ds, i => if k = i then some d else dicAt ks ds i
  | _, _, _ => none
theorem valV_zipK {K : PySem.W.Frag} {F : Hp} : ∀ {ks : List Int} {ds : List D} {vs : List V} (i : Int), ks.length = vs.length → Dens K F ds vs → (∀ d, dicAt ks ds i = some d → ∃ v, valV (zipK ks vs) (.inl i) = some v ∧ Den K F d v) ∧ (dicAt ks ds i = none → valV (zipK ks vs) (.inl i) = none)
  | [], ds, vs, i, hl, dv => by
    have e : vs = [] := List.eq_nil_of_length_eq_zero hl.symm
    subst e
    exact ⟨(fun d h => by simp [dicAt] at h), fun _ => rfl⟩
  | k :: ks, ds, vs, i, hl, dv => by
    cases vs with
    | nil => cases hl
    | cons v vs =>
      cases ds with
      | nil => cases dens_nil' dv
      | cons d ds =>
        obtain ⟨v', r, e, g1, g2⟩ := dens_cons' dv
        cases e
        obtain ⟨h1, h2⟩ := valV_zipK (ks := ks) (ds := ds) (vs := vs) i (by simpa using hl) g2
        have ez : zipK (k :: ks) (v :: vs) = (Sum.inl k, v) :: zipK ks vs := rfl
        unfold dicAt
        by_cases hk : k = i
        · subst hk
          rw [if_pos rfl, ez, valV_pos rfl]
          exact ⟨(fun d' h => by cases h; exact ⟨v, rfl, g1⟩), (fun h => by cases h)⟩
        · rw [if_neg hk, ez, valV_neg (by simpa using hk)]
          exact ⟨h1, h2⟩
theorem cmp_inDic {ks : List Int} {i : Int} (hu : X.A.units + 1 < cLine) (ha : ED X a ρ (.int i) ρ) (hb : ED X b ρ (.dic ks ds) ρ) (hm : behindInMarks .In b = false := by rfl) : TD X (.Compare a [.In] [b] pos) ρ (dicAt ks ds i).isSome := fun F0 H0 F H σ s Q q => by
  refine wT_of (pt_cmp (pc_din hu pe_w pe_w) hm) (ha _ _ _ _ _ s _ fun v F1 H1 s1 e1 d1 => hb _ _ _ _ _ s1 _ fun u F2 H2 s2 e2 d2 => ?_)
  obtain rfl := den_int d1
  obtain ⟨p, vs, rfl, h1, hl, h2⟩ := den_dic d2
  refine ⟨p, _, rfl, DGet.k (k := Sum.inl i) (s2.fh _ _ h1), _, rfl, ?_⟩
  obtain ⟨g1, g2⟩ := valV_zipK i hl h2
  have e : (valV (zipK ks vs) (.inl i)).isSome = (dicAt ks ds i).isSome := by
    cases hd : dicAt ks ds i with
    | none => rw [g2 hd] <;> rfl
    | some d =>
      obtain ⟨v, h3, _⟩ := g1 d hd
      rw [h3]
      rfl
  rw [e]
  exact q F2 H2 s2 (e1.trans e2)
theorem cmp_niDic {ks : List Int} {i : Int} (hu : X.A.units + 1 < cLine) (ha : ED X a ρ (.int i) ρ) (hb : ED X b ρ (.dic ks ds) ρ) (hm : behindInMarks .NotIn b = false := by rfl) : TD X (.Compare a [.NotIn] [b] pos) ρ (!(dicAt ks ds i).isSome) := fun F0 H0 F H σ s Q q => by
  refine wT_of (pt_cmp (pc_dnotin hu pe_w pe_w) hm) (ha _ _ _ _ _ s _ fun v F1 H1 s1 e1 d1 => hb _ _ _ _ _ s1 _ fun u F2 H2 s2 e2 d2 => ?_)
  obtain rfl := den_int d1
  obtain ⟨p, vs, rfl, h1, hl, h2⟩ := den_dic d2
  refine ⟨p, _, rfl, DGet.k (k := Sum.inl i) (s2.fh _ _ h1), _, rfl, ?_⟩
  obtain ⟨g1, g2⟩ := valV_zipK i hl h2
  have e : (valV (zipK ks vs) (.inl i)).isSome = (dicAt ks ds i).isSome := by
    cases hd : dicAt ks ds i with
    | none => rw [g2 hd] <;> rfl
    | some d =>
      obtain ⟨v, h3, _⟩ := g1 d hd
      rw [h3]
      rfl
  rw [e]
  exact q F2 H2 s2 (e1.trans e2)
theorem ed_ixDic {ks : List Int} {i : Int} (hu : X.A.units + 1 < cLine) (ha : ED X a ρ (.dic ks ds) ρ) (hb : ED X b ρ (.int i) ρ) (h : dicAt ks ds i = some d) (hs : NoSl b := by exact fun _ _ => rfl) : ED X (.Subscript a b pos) ρ d ρ := fun F0 H0 F H σ s Q q => by
  refine wE_of (pe_dget hu pe_w pe_w hs) (ha _ _ _ _ _ s _ fun u F1 H1 s1 e1 d1 => hb _ _ _ _ _ s1 _ fun v F2 H2 s2 e2 d2 => ?_)
  obtain rfl := den_int d2
  obtain ⟨p, vs, rfl, h1, hl, h2⟩ := den_dic (d1.mono e2)
  obtain ⟨v, g1, g2⟩ := (valV_zipK i hl h2).1 d h
  exact ⟨p, v, rfl, by rw [← g1]; exact DGet.k (k := Sum.inl i) (s2.fh _ _ h1), q v F2 H2 s2 (e1.trans e2) g2⟩
theorem zipK_app {ks : List Int} {vs : List V} {i : Int} {v : V} (hl : ks.length = vs.length) : zipK (ks ++ [i]) (vs ++ [v]) = zipK ks vs ++ [(.inl i, v)] := by
  unfold zipK
  rw [List.map_append, List.zip_append (by rw [List.length_map, hl])]
  rfl
theorem putK_new {ks : List Int} {vs : List V} {i : Int} {v : V} (hi : i ∉ ks) : putK (zipK ks vs) (.inl i) v = zipK ks vs ++ [(.inl i, v)] := by
  unfold putK
  rw [if_neg]
  intro h
  obtain ⟨kv, h1, h2⟩ := List.any_eq_true.mp h
  have h3 := List.of_mem_zip h1
  obtain ⟨j, h4, h5⟩ := List.mem_map.mp h3.1
  have h6 : kv.1 = Sum.inl i := of_decide_eq_true h2
  rw [← h5] at h6
  cases h6
  exact hi h4
/-- d[i] = e, d one's own, i new -/
theorem sds_dput {Pn : En → Prop} {Pr : D → En → Prop} {rest : List Stmt} (j : Nat) {n : Str} {p' sp : Pos} {ks : List Int} {i : Int} {ie : Expr} (hu : X.A.units + 1 < cLine) (he : ED X e ρ d ρ1) (hb : ED X ie ρ1 (.int i) ρ1) (hi : i ∉ ks) (hl : ks.length < 100000) (k2 : SDs X rest (ρ1.set j (some (.own (.dic (ks ++ [i]) (ds ++ [d]))))) Pn Pr) (h1 : ρ1[j]? = some (some (.own (.dic ks ds))) := by rfl) (hN : X.N[j]? = some n := by rfl)
    (hv : Vis X.env.scope n := by first | exact Or.inl rfl | exact Or.inr (Or.inl rfl) | exact Or.inr (Or.inr rfl)) (hd : (n == ("__debug__" : Str)) = false := by decide) (hcd : (n == ("__classdict__" : Str)) = false := by decide)
    (hs : swapsWith e (some (.Subscript (.Name n p') ie sp)) pos.line X.env = pure false := by rfl) : SDs X (.Assign [.Subscript (.Name n p') ie sp] e pos :: rest) ρ Pn Pr :=
  sds_cons (P1 := fun ρ' => ρ' = ρ1.set j (some (.own (.dic (ks ++ [i]) (ds ++ [d]))))) (fun F0 H0 F H σ s D qn qr => by
    refine wS_of (ps_dput hu (pe_var hN hv hd hcd) pe_w pe_w hs) (he _ _ _ _ _ s _ fun v F1 H1 s1 e1 d1 => ?_)
    obtain ⟨p, o, a1, a2, a3, a4, a5⟩ := s1.o j _ h1
    refine ⟨.ref p, a1, hb _ _ _ _ _ s1 _ fun u F2 H2 s2 e2 d2 => ?_⟩
    obtain ⟨p2, o2, g1, g2, g3, g4, vs, g5, g6, g7⟩ := s2.o j _ h1
    subst g5
    rw [a1] at g1
    cases g1
    obtain rfl := den_int d2
    have hz : (zipK ks vs).length < sizeLine := by
      unfold zipK
      rw [List.length_zip, List.length_map]
      exact Nat.lt_of_lt_of_le (Nat.lt_of_le_of_lt (Nat.min_le_left _ _) hl) (by decide)
    refine ⟨p, _, rfl, DPut.k (k := Sum.inl i) g4 hz, qn _ F2 _ _ rfl (s2.mut (y := .dic (ks ++ [i]) (ds ++ [d])) h1 a1 ⟨vs ++ [v], ?_, ?_, g7.app (dens_cons (d1.mono e2) dens_nil)⟩) (e1.trans e2)⟩
    · rw [putK_new hi, zipK_app g6]
    · rw [List.length_append, List.length_append, g6]
      rfl) fun ρ2 e2 => by
    rw [e2]
    exact k2
/-- dict(a list of pairs) with rising keys -/
theorem call_dictD {ks : List Int} {ds : List D} (hl : ks.length = ds.length) (hn : ks.Nodup) (hc : X.calm = true := by rfl) : CallD X (.type "dict") [.lst ((ks.zip ds).map fun p => .tup [.int p.1, p.2])] (.dic ks ds) := ⟨_, call_dictP hc, fun F0 H0 F H ρ σ s vs Q dv q => by
  obtain ⟨u, rfl, g⟩ := one_arg dv
  obtain ⟨p, vs, rfl, h1, h2⟩ := den_lst g
  have all : ∀ {ks : List Int} {ds : List D} {us : List V}, ks.length = ds.length → Dens X.K F ((ks.zip ds).map fun p => .tup [.int p.1, p.2]) us → ∃ (ps : List Addr) (ws : List V), us = ps.map V.ref ∧ ks.length = ws.length ∧ Dens X.K F ds ws ∧ Paired (fun p kv => SqT X.K H p [kV kv.1, kv.2]) ps (zipK ks ws) := fun {ks} => by
    induction ks with
    | nil =>
      intro ds us hl h
      have e : ds = [] := List.eq_nil_of_length_eq_zero hl.symm
      subst e
      rw [dens_nil' h]
      exact ⟨[], [], rfl, rfl, dens_nil, .nil⟩
    | cons k ks ih =>
      intro ds us hl h
      cases ds with
      | nil => cases hl
      | cons d ds =>
        obtain ⟨v, r, rfl, g1, g2⟩ := dens_cons' (d := .tup [.int k, d]) (ds := (ks.zip ds).map fun p => .tup [.int p.1, p.2]) h
        obtain ⟨ps, ws, e1, e2, e3, e4⟩ := ih (by simpa using hl) g2
        obtain ⟨t, xs, rfl, k1, k2⟩ := den_tup g1
        obtain ⟨u, w, rfl, k3, k4⟩ := two_args k2
        obtain rfl := den_int k3
        exact ⟨t :: ps, w :: ws, by rw [e1]; rfl, by simp [e2], dens_cons k4 e3, .cons (sqT_mono s.fh k1) e4⟩
  obtain ⟨ps, ws, rfl, e2, e3, e4⟩ := all hl h2
  refine ⟨p, ps, zipK ks ws, rfl, .inl (.inl (s.fh _ _ h1)), e4, fun l hl' => ?_⟩
  have mk : ∀ {js : List Int} {ws : List V} {is : List Int} {us : List V}, (is ++ js).Nodup → js.length = ws.length → is.length = us.length → mergeK (zipK is us) (zipK js ws) = zipK (is ++ js) (us ++ ws) := fun {js} => by
    induction js with
    | nil =>
      intro ws is us _ h1 _
      have e : ws = [] := List.eq_nil_of_length_eq_zero h1.symm
      subst e
      rw [List.append_nil, List.append_nil]
      rfl
    | cons j js ih =>
      intro ws is us hn h1 h2
      cases ws with
      | nil => cases h1
      | cons w ws =>
        have hj : j ∉ is := fun hm => by
          have := List.nodup_append.mp hn
          exact this.2.2 j hm j List.mem_cons_self rfl
        show mergeK (putK (zipK is us) (.inl j) w) (zipK js ws) = _
        rw [putK_new hj, ← zipK_app h2, ih (by rw [List.append_assoc]; exact hn) (by simpa using h1) (by simp [h2]), List.append_assoc, List.append_assoc]
        rfl
  have e5 : mergeK [] (zipK ks ws) = zipK ks ws := by
    have := mk (js := ks) (ws := ws) (is := []) (us := []) (by simpa using hn) e2 rfl
    simpa [zipK] using this
  rw [e5]
  exact q _ _ _ (s.new hl') (same_new (s.free hl')) (mk_dic upd_same e2 (Dens.mono (same_new (s.free hl')) _ e3))⟩
end
end Mf
/-! equality of data, walks over tuples, ranges as lists, the script -/
namespace Mf
open PySem PySem.Spec PyProof.Rows L2
mutual
def toPy : D → PyData
  | .bl b => .bool b
  | .int i => .int i
  | .str x => .str x
  | .tup ds => .tuple (toPys ds)
  | .lst ds => .list (toPys ds)
  | _ => .none
def toPys : List D → List PyData
  | [] => []
  | d :: ds => toPy d :: toPys ds
end
def fine : Nat → D → Bool
  | _, .non => true
  | _, .bl _ => true
  | _, .int _ => true
  | _, .str x => PyData.strOk x
  | n + 1, .tup ds => ds.all (fine n)
  | n + 1, .lst ds => ds.all (fine n)
  | _, _ => false
theorem toPys_fine {n : Nat} (h : ∀ d, fine n d = true → (toPy d).canLay0 = true ∧ (toPy d).depth ≤ n) : ∀ {ds : List D}, ds.all (fine n) = true → PyData.canLayAll0 (toPys ds) = true ∧ PyData.depthAll (toPys ds) ≤ n
  | [], _ => by
    simp only [toPys, PyData.canLayAll0, PyData.depthAll]
    exact ⟨trivial, Nat.zero_le _⟩
  | d :: ds, g => by
    rw [List.all_cons, Bool.and_eq_true] at g
    obtain ⟨h1, h2⟩ := h d g.1
    obtain ⟨h3, h4⟩ := toPys_fine h g.2
    simp only [toPys, PyData.canLayAll0, PyData.depthAll]
    rw [h1, h3]
    exact ⟨rfl, Nat.max_le.mpr ⟨h2, h4⟩⟩
theorem toPy_fine : ∀ (n : Nat) (d : D), fine n d = true → (toPy d).canLay0 = true ∧ (toPy d).depth ≤ n
  | n, .non, _ => by simp only [toPy, PyData.canLay0, PyData.depth]; exact ⟨trivial, Nat.zero_le _⟩
  | n, .bl _, _ => by simp only [toPy, PyData.canLay0, PyData.depth]; exact ⟨trivial, Nat.zero_le _⟩
  | n, .int _, _ => by simp only [toPy, PyData.canLay0, PyData.depth]; exact ⟨trivial, Nat.zero_le _⟩
  | n, .str x, h => by
    have h' : PyData.strOk x = true := by
      cases n <;> exact h
    simp only [toPy, PyData.canLay0, PyData.depth]
    exact ⟨h', Nat.zero_le _⟩
  | 0, .tup _, h => by cases h
  | n + 1, .tup ds, h => by
    obtain ⟨h1, h2⟩ := toPys_fine (toPy_fine n) (ds := ds) h
    simp only [toPy, PyData.canLay0, PyData.depth]
    exact ⟨h1, Nat.succ_le_succ h2⟩
  | 0, .lst _, h => by cases h
  | n + 1, .lst ds, h => by
    obtain ⟨h1, h2⟩ := toPys_fine (toPy_fine n) (ds := ds) h
    simp only [toPy, PyData.canLay0, PyData.depth]
    exact ⟨h1, Nat.succ_le_succ h2⟩
  | 0, .ty _, h => by cases h
  | 0, .scr _, h => by cases h
  | 0, .dic _ _, h => by cases h
  | n + 1, .ty _, h => by cases h
  | n + 1, .scr _, h => by cases h
  | n + 1, .dic _ _, h => by cases h
section
variable {K : PySem.W.Frag} {F : Hp}
theorem dp_all {n : Nat} (h : ∀ (d : D) (v : V), fine n d = true → Den K F d v → Dp K F v (toPy d)) : ∀ {ds : List D} {vs : List V}, ds.all (fine n) = true → Dens K F ds vs → DpAll K F vs (toPys ds)
  | [], vs, _, dv => by
    rw [dens_nil' dv]
    simp only [toPys]
    exact .nil
  | d :: ds, vs, g, dv => by
    rw [List.all_cons, Bool.and_eq_true] at g
    obtain ⟨v, r, rfl, h1, h2⟩ := dens_cons' dv
    simp only [toPys]
    exact .cons (h d v g.1 h1) (dp_all h g.2 h2)
theorem dp_of : ∀ (n : Nat) (d : D) (v : V), fine n d = true → Den K F d v → Dp K F v (toPy d)
  | n, .non, v, _, h => by rw [den_non h]; simp only [toPy]; exact .non
  | n, .bl b, v, _, h => by rw [den_bl h]; simp only [toPy]; exact .bl b
  | n, .int b, v, _, h => by rw [den_int h]; simp only [toPy]; exact .int b
  | n, .str b, v, _, h => by rw [den_str h]; simp only [toPy]; exact .str b
  | 0, .tup _, _, h, _ => by cases h
  | n + 1, .tup ds, v, g, h => by
    obtain ⟨p, vs, rfl, h1, h2⟩ := den_tup h
    simp only [toPy]
    exact .tup (.inl (.inl h1)) (dp_all (dp_of n) g h2)
  | 0, .lst _, _, h, _ => by cases h
  | n + 1, .lst ds, v, g, h => by
    obtain ⟨p, vs, rfl, h1, h2⟩ := den_lst h
    simp only [toPy]
    exact .lst (.inl (.inl h1)) (dp_all (dp_of n) g h2)
  | 0, .ty _, _, h, _ => by cases h
  | 0, .scr _, _, h, _ => by cases h
  | 0, .dic _ _, _, h, _ => by cases h
  | n + 1, .ty _, _, h, _ => by cases h
  | n + 1, .scr _, _, h, _ => by cases h
  | n + 1, .dic _ _, _, h, _ => by cases h
end
theorem shaped_fine {n : Nat} (hn : n ≤ 64) {d : D} (h : fine n d = true) : SeqAt.shaped (toPy d) = true := by
  obtain ⟨h1, h2⟩ := toPy_fine n d h
  unfold SeqAt.shaped
  rw [h1, decide_eq_true (Nat.le_trans h2 hn)]
  rfl
theorem eqv_ints : ∀ {ns ms : List Int}, PyData.eqvAll (toPys (ns.map D.int)) (toPys (ms.map D.int)) = decide (ns = ms)
  | [], [] => by simp only [List.map_nil, toPys, PyData.eqvAll]; rfl
  | [], m :: ms => by
    simp only [List.map_nil, List.map_cons, toPys, PyData.eqvAll]
    exact (decide_eq_false nofun).symm
  | n :: ns, [] => by
    simp only [List.map_nil, List.map_cons, toPys, PyData.eqvAll]
    exact (decide_eq_false nofun).symm
  | n :: ns, m :: ms => by
    simp only [List.map_cons, toPys, PyData.eqvAll, toPy, PyData.eqv, eqv_ints (ns := ns) (ms := ms)]
    by_cases h : n = m
    · subst h
      by_cases g : ns = ms
      · subst g; simp
      · rw [decide_eq_false g, decide_eq_false fun z => g (List.cons.inj z).2, Bool.and_false]
    · rw [decide_eq_false fun z => h (List.cons.inj z).1, show (n == m) = false by simpa using h, Bool.false_and]
theorem fine_ints {n : Nat} {ns : List Int} : (ns.map D.int).all (fine n) = true := by
  rw [List.all_map]
  exact List.all_eq_true.mpr fun x _ => by cases n <;> rfl
section
variable {X : Cx} {ρ ρ' ρ1 ρ2 : En} {a b c e : Expr} {da db dc d x y : D} {pos p : Pos} {ds es : List D} {ns ms : List Int} {elts : List Expr} {kk : Nat} {tpos : Pos}
theorem cmp_eqD (n : Nat) (hu : X.A.units + 64 < cLine) (h1 : fine n da = true) (h2 : fine n db = true) (hn : n ≤ 64 := by decide) : CmpD X .Eq da db (PyData.eqv (toPy da) (toPy db)) := ⟨_, op_eqD hu, fun F0 H0 F H ρ σ s x y Q hx hy q => by
  exact ⟨_, _, dp_of n _ _ h1 (hx.mono s.fh), dp_of n _ _ h2 (hy.mono s.fh), shaped_fine hn h1, shaped_fine hn h2, q _ F H s (Same.refl F) mk_bl⟩⟩
theorem cmp_neD (n : Nat) (hu : X.A.units + 64 < cLine) (h1 : fine n da = true) (h2 : fine n db = true) (hn : n ≤ 64 := by decide) : CmpD X .NotEq da db (!PyData.eqv (toPy da) (toPy db)) := ⟨_, op_neD hu, fun F0 H0 F H ρ σ s x y Q hx hy q => by
  exact ⟨_, _, dp_of n _ _ h1 (hx.mono s.fh), dp_of n _ _ h2 (hy.mono s.fh), shaped_fine hn h1, shaped_fine hn h2, q _ F H s (Same.refl F) mk_bl⟩⟩
theorem cmp_eqTI (hu : X.A.units + 64 < cLine) : CmpD X .Eq (.tup (ns.map .int)) (.tup (ms.map .int)) (decide (ns = ms)) := by
  have h := cmp_eqD (X := X) (da := .tup (ns.map .int)) (db := .tup (ms.map .int)) 1 hu fine_ints fine_ints
  simp only [toPy, PyData.eqv, eqv_ints] at h
  exact h
theorem cmp_eqT0 (n : Nat) (hu : X.A.units + 64 < cLine) (h1 : fine n (.tup (x :: ds)) = true) (h2 : fine n (.tup []) = true) (hn : n ≤ 64 := by decide) : CmpD X .Eq (.tup (x :: ds)) (.tup []) false := by
  have h := cmp_eqD (X := X) n hu h1 h2 hn
  simp only [toPy, toPys, PyData.eqv, PyData.eqvAll] at h
  exact h
theorem cmp_neLI (hu : X.A.units + 64 < cLine) : CmpD X .NotEq (.lst (ns.map .int)) (.lst (ms.map .int)) (!decide (ns = ms)) := by
  have h := cmp_neD (X := X) (da := .lst (ns.map .int)) (db := .lst (ms.map .int)) 1 hu fine_ints fine_ints
  simp only [toPy, PyData.eqv, eqv_ints] at h
  exact h
/-! ### walks -/
theorem id_enumT (hm : X.mg "enumerate" = none) (h : AD X [a] ρ [.tup ds] ρ1) (hg : Gl X "enumerate" := by rfl) (hs : starEach [a] X.env = (false, eval a X.env) :: starEach [] X.env := by rfl) :
    ID X (.Tuple elts kk tpos) (.Call (.Name "enumerate" p) [a] [] pos) ρ (enumD ds) ρ1 := fun F0 H0 F H σ s R r => wI_of (pi_enumT hg hm pa_w hs) (h _ _ _ _ _ s _ fun vs F1 H1 s1 e1 d1 => by
  obtain ⟨u, rfl, g1⟩ := one_arg d1
  obtain ⟨p1, vs1, rfl, h1, h2⟩ := den_tup g1
  refine ⟨p1, vs1, rfl, s1.fh _ _ h1, r _ F1 H1 s1 e1 (walkD_pair walk_JP (fun F2 H2 e f => f _ _ (e _ _ h1)) (by rw [enumD_length, h2.len]) fun i x y hi hx hy => ?_)⟩
  cases hx
  obtain ⟨dy, k3, k4⟩ := h2.at hy
  exact ⟨_, dy, enumD_get k3, mk_int, k4⟩)
theorem id_zipTL (hm : X.mg "zip" = none) (h : AD X [a, b] ρ [.tup ds, .lst es] ρ1) (hg : Gl X "zip" := by rfl) (hs : starEach [a, b] X.env = (false, eval a X.env) :: starEach [b] X.env := by rfl) (hpl : (backTo pos (starEach [b] X.env)).any (·.1) = false := by rfl) :
    ID X (.Tuple elts kk tpos) (.Call (.Name "zip" p) [a, b] [] pos) ρ (zipD ds es) ρ1 := fun F0 H0 F H σ s R r => wI_of (pi_zipTL hg hm pa_w hs hpl) (h _ _ _ _ _ s _ fun vs F1 H1 s1 e1 d1 => by
  obtain ⟨u, w, rfl, g1, g2⟩ := two_args d1
  obtain ⟨p1, vs1, rfl, h1, h2⟩ := den_tup g1
  obtain ⟨p2, vs2, rfl, h3, h4⟩ := den_lst g2
  refine ⟨p1, p2, vs1, vs2, rfl, s1.fh _ _ h1, s1.fh _ _ h3, r _ F1 H1 s1 e1 (walkD_pair walk_JP (fun F2 H2 e f => ⟨f _ _ (e _ _ h1), f _ _ (e _ _ h3)⟩) (by rw [zipD_length, h2.len, h4.len]) fun i x y hi hx hy => ?_)⟩
  obtain ⟨dx, k1, k2⟩ := h2.at hx
  obtain ⟨dy, k3, k4⟩ := h4.at hy
  exact ⟨dx, dy, zipD_get k1 k3, k2, k4⟩)
theorem id_zipLT (hm : X.mg "zip" = none) (h : AD X [a, b] ρ [.lst ds, .tup es] ρ1) (hg : Gl X "zip" := by rfl) (hs : starEach [a, b] X.env = (false, eval a X.env) :: starEach [b] X.env := by rfl) (hpl : (backTo pos (starEach [b] X.env)).any (·.1) = false := by rfl) :
    ID X (.Tuple elts kk tpos) (.Call (.Name "zip" p) [a, b] [] pos) ρ (zipD ds es) ρ1 := fun F0 H0 F H σ s R r => wI_of (pi_zipLT hg hm pa_w hs hpl) (h _ _ _ _ _ s _ fun vs F1 H1 s1 e1 d1 => by
  obtain ⟨u, w, rfl, g1, g2⟩ := two_args d1
  obtain ⟨p1, vs1, rfl, h1, h2⟩ := den_lst g1
  obtain ⟨p2, vs2, rfl, h3, h4⟩ := den_tup g2
  refine ⟨p1, p2, vs1, vs2, rfl, s1.fh _ _ h1, s1.fh _ _ h3, r _ F1 H1 s1 e1 (walkD_pair walk_JP (fun F2 H2 e f => ⟨f _ _ (e _ _ h1), f _ _ (e _ _ h3)⟩) (by rw [zipD_length, h2.len, h4.len]) fun i x y hi hx hy => ?_)⟩
  obtain ⟨dx, k1, k2⟩ := h2.at hx
  obtain ⟨dy, k3, k4⟩ := h4.at hy
  exact ⟨dx, dy, zipD_get k1 k3, k2, k4⟩)
theorem id_zipRR {p1 p2 q1 q2 : Pos} (hm : X.mg "zip" = none) (hmr : X.mg "reversed" = none) (ha : ED X a ρ (.tup ds) ρ) (hb : ED X b ρ (.tup es) ρ) (hg : Gl X "zip" := by rfl) (hgr : Gl X "reversed" := by rfl)
    (hs : starEach [.Call (.Name "reversed" p1) [a] [] q1, .Call (.Name "reversed" p2) [b] [] q2] X.env = (false, eval (.Call (.Name "reversed" p1) [a] [] q1) X.env) :: starEach [.Call (.Name "reversed" p2) [b] [] q2] X.env := by rfl)
    (hs2 : starEach [.Call (.Name "reversed" p2) [b] [] q2] X.env = (false, eval (.Call (.Name "reversed" p2) [b] [] q2) X.env) :: starEach [] X.env := by rfl)
    (hpl : (backTo pos (starEach [.Call (.Name "reversed" p2) [b] [] q2] X.env)).any (·.1) = false := by rfl) (ha1 : starEach [a] X.env = (false, eval a X.env) :: starEach [] X.env := by rfl) (hb1 : starEach [b] X.env = (false, eval b X.env) :: starEach [] X.env := by rfl) :
    ID X (.Tuple elts kk tpos) (.Call (.Name "zip" p) [.Call (.Name "reversed" p1) [a] [] q1, .Call (.Name "reversed" p2) [b] [] q2] [] pos) ρ (zipD ds.reverse es.reverse) ρ := fun F0 H0 F H σ s R r => wI_of (pi_zipRR hg hm hgr hmr pe_w pe_w hs hs2 hpl ha1 hb1) (ha _ _ _ _ _ s _ fun v F1 H1 s1 e1 d1 => by
  obtain ⟨p1, vs1, rfl, h1, h2⟩ := den_tup d1
  refine ⟨p1, vs1, rfl, s1.fh _ _ h1, hb _ _ _ _ _ s1 _ fun u F2 H2 s2 e2 d2 => ?_⟩
  obtain ⟨p2, vs2, rfl, h3, h4⟩ := den_tup d2
  refine ⟨p2, vs2, rfl, s2.fh _ _ h3, s2.fh _ _ (e2 _ _ h1), r _ F2 H2 s2 (e1.trans e2) (walkD_pair walk_JP (fun F3 H3 e f => ⟨f _ _ (e _ _ (e2 _ _ h1)), f _ _ (e _ _ h3)⟩) (by rw [zipD_length, List.length_reverse, List.length_reverse, h2.len, h4.len]) fun i x y hi hx hy => ?_)⟩
  have l1 := h2.len
  have l2 := h4.len
  have hi1 : i < vs1.length := by omega
  have hi2 : i < vs2.length := by omega
  rw [if_pos hi1] at hx
  rw [if_pos hi2] at hy
  obtain ⟨dx, k1, k2⟩ := (h2.mono e2).at hx
  obtain ⟨dy, k3, k4⟩ := h4.at hy
  refine ⟨dx, dy, zipD_get ?_ ?_, k2, k4⟩
  · rw [List.getElem?_reverse (by omega), ← l1]
    exact k1
  · rw [List.getElem?_reverse (by omega), ← l2]
    exact k3)
/-! ### ranges as lists and tuples -/
def rgI (n : Nat) : List Int := (List.range n).map fun i => (i : Nat)
theorem dens_rg {K : PySem.W.Frag} {F : Hp} {n : Nat} : Dens K F ((rgI n).map .int) (rgV 0 n) := by
  have e : rgV 0 n = (rgI n).map V.int := by
    unfold rgV rgI
    rw [List.map_map, Int.sub_zero, Int.toNat_natCast]
    apply List.map_congr_left
    intro i _
    show V.int (0 + (i : Nat)) = V.int ((i : Nat) : Int)
    rw [Int.zero_add]
  rw [e]
  exact dens_ints
theorem ed_listRg1 {n : Nat} {p1 p2 pos2 : Pos} (hml : X.mg "list" = none) (hm : X.mg "range" = none) (ha : ED X a ρ (.int (n : Int)) ρ1) (hn : n ≤ 100000) (hgl : Gl X "list" := by rfl) (hg : Gl X "range" := by rfl) (hc : X.calm = true := by rfl)
    (na : starEach [a] X.env = (false, eval a X.env) :: starEach [] X.env := by rfl) (na2 : starEach [.Call (.Name "range" p2) [a] [] pos2] X.env = (false, eval (.Call (.Name "range" p2) [a] [] pos2) X.env) :: starEach [] X.env := by rfl) :
    ED X (.Call (.Name "list" p1) [.Call (.Name "range" p2) [a] [] pos2] [] pos) ρ (.lst ((rgI n).map .int)) ρ1 := fun F0 H0 F H σ s Q q => by
  refine wE_of (pe_listRg hc hgl hml (prg_1 hg hm pe_w na) na2) (ha _ _ _ _ _ s _ fun v F1 H1 s1 e1 d1 => ⟨n, den_int d1, RgOk.of_le (by omega) (by omega) (by omega) (by omega), fun q' hq => q _ _ _ (s1.new hq) (e1.trans (same_new (s1.free hq))) (mk_lst upd_same dens_rg)⟩)
theorem ed_tupRg1 {n : Nat} {p1 p2 pos2 : Pos} (hml : X.mg "tuple" = none) (hm : X.mg "range" = none) (ha : ED X a ρ (.int (n : Int)) ρ1) (hn : n ≤ 100000) (hgl : Gl X "tuple" := by rfl) (hg : Gl X "range" := by rfl) (hc : X.calm = true := by rfl)
    (na : starEach [a] X.env = (false, eval a X.env) :: starEach [] X.env := by rfl) (na2 : starEach [.Call (.Name "range" p2) [a] [] pos2] X.env = (false, eval (.Call (.Name "range" p2) [a] [] pos2) X.env) :: starEach [] X.env := by rfl) :
    ED X (.Call (.Name "tuple" p1) [.Call (.Name "range" p2) [a] [] pos2] [] pos) ρ (.tup ((rgI n).map .int)) ρ1 := fun F0 H0 F H σ s Q q => by
  refine wE_of (pe_tupRg hc hgl hml (prg_1 hg hm pe_w na) na2) (ha _ _ _ _ _ s _ fun v F1 H1 s1 e1 d1 => ⟨n, den_int d1, RgOk.of_le (by omega) (by omega) (by omega) (by omega), fun q' hq => q _ _ _ (s1.new hq) (e1.trans (same_new (s1.free hq))) (mk_tup upd_same dens_rg)⟩)
theorem ed_listRg3 {i j k : Int} {n : Nat} {p1 p2 pos2 : Pos} (hml : X.mg "list" = none) (hm : X.mg "range" = none) (ha : AD X [a, b, c] ρ [.int i, .int j, .int k] ρ1) (hr : RgC i j k n) (hn : n ≤ 100000) (hgl : Gl X "list" := by rfl) (hg : Gl X "range" := by rfl) (hc : X.calm = true := by rfl)
    (na : starEach [.Call (.Name "range" p2) [a, b, c] [] pos2] X.env = (false, eval (.Call (.Name "range" p2) [a, b, c] [] pos2) X.env) :: starEach [] X.env := by rfl)
    (hs : starEach [a, b, c] X.env = (false, eval a X.env) :: starEach [b, c] X.env := by rfl) (hpl : (backTo pos2 (starEach [b, c] X.env)).any (·.1) = false := by rfl) :
    ED X (.Call (.Name "list" p1) [.Call (.Name "range" p2) [a, b, c] [] pos2] [] pos) ρ (.lst ((rg3 i k n).map .int)) ρ1 := fun F0 H0 F H σ s Q q => by
  refine wE_of (pe_listRg3 hc hgl hml hg hm pa_w na hs hpl) (ha _ _ _ _ _ s _ fun vs F1 H1 s1 e1 d1 => ?_)
  obtain ⟨v1, r, rfl, g1, g2⟩ := dens_cons' d1
  obtain ⟨v2, v3, rfl, g3, g4⟩ := two_args g2
  obtain rfl := den_int g1
  obtain rfl := den_int g3
  obtain rfl := den_int g4
  exact ⟨i, j, k, n, rfl, hr, Nat.le_trans hn (by decide), fun q' hq => q _ _ _ (s1.new hq) (e1.trans (same_new (s1.free hq))) (mk_lst upd_same dens_ints)⟩
/-! ### the script -/
theorem ix_scrD {k : Int} {i : Int} (h : atI ns k = some i) : IxD X (.scr ns) (.int k) (.int i) := ⟨_, ix_list, fun F0 H0 F H ρ σ s x y Q hx hy q => by
  obtain ⟨p, rfl, g1⟩ := den_scr hx
  unfold atI at h
  cases hj : ixN ns.length k with
  | none => rw [hj] at h; cases h
  | some j =>
    rw [hj] at h
    have h' : ns[j]? = some i := h
    refine ⟨p, ns.map V.int, k, .int i, rfl, den_int hy, sqL_mono s.fh g1, ?_, q _ F H s (Same.refl F) mk_int⟩
    unfold atI
    rw [List.length_map, hj]
    show (ns.map V.int)[j]? = _
    rw [List.getElem?_map, h']
    rfl⟩
theorem ed_slS {lo hi : Option Expr} {l u : Option Int} {p2 : Pos} (h : ED X e ρ (.scr ns) ρ) (hl : OD X lo ρ l) (hu : OD X hi ρ u) : ED X (.Subscript e (.Slice lo hi none p2) pos) ρ (.lst (cutD (ns.map .int) l u)) ρ := fun F0 H0 F H σ s Q q => by
  refine wE_of (pe_slice sl_list pe_w po_w po_w) (h _ _ _ _ _ s _ fun v F1 H1 s1 e1 d1 => hl _ _ _ _ _ s1 _ fun F2 H2 s2 e2 => hu _ _ _ _ _ s2 _ fun F3 H3 s3 e3 => ?_)
  obtain ⟨p, rfl, h1⟩ := den_scr (d1.mono (e2.trans e3))
  have dv : Dens X.K F3 (ns.map D.int) (ns.map V.int) := dens_ints
  exact ⟨p, _, rfl, sqL_mono s3.fh h1, fun p' hp => q _ _ _ (s3.new hp) (((e1.trans e2).trans e3).trans (same_new (s3.free hp))) (mk_lst upd_same (Dens.mono (same_new (s3.free hp)) _ (dens_cut dv l u)))⟩
/-! ### not in a tuple of the module's -/
theorem td_notInG {n : Str} {f : Addr} {vs : List V} {w : Str} (hm : X.mg n = some (.ref f)) (ht : ∀ H, SqT X.K H f vs) (hf : vs.all flatV = true) (ha : ED X a ρ (.str w) ρ) (hg : Gl X n := by rfl) (hd : (n == ("__debug__" : Str)) = false := by decide) :
    TD X (.Compare a [.NotIn] [.Name n p] pos) ρ (!inV (.str w) vs) := fun F0 H0 F H σ s Q q => by
  refine wT_of (pt_cmpR op_notIn_seq pe_w (pe_glob hg hm (v := .ref f) rfl hd) rfl) (ha _ _ _ _ _ s _ fun v F1 H1 s1 e1 d1 => ?_)
  obtain rfl := den_str d1
  exact ⟨f, vs, rfl, .inr (ht H1), rfl, hf, _, rfl, q F1 H1 s1 e1⟩
end
end Mf
/-! a def of the text and its promise -/
namespace Mf
open PySem PySem.Spec PyProof.Rows L2
/-- what the module's names hold -/
structure Bi (K : PySem.W.Frag) (mg : Str → Option Value) : Prop where
  all : mg "all" = none
  bool : mg "bool" = none
  dict : mg "dict" = none
  divmod : mg "divmod" = none
  enumerate : mg "enumerate" = none
  int : mg "int" = none
  isinstance : mg "isinstance" = none
  len : mg "len" = none
  list : mg "list" = none
  max : mg "max" = none
  min : mg "min" = none
  range : mg "range" = none
  reversed : mg "reversed" = none
  sorted : mg "sorted" = none
  str : mg "str" = none
  sum : mg "sum" = none
  tuple : mg "tuple" = none
  zip : mg "zip" = none
  mBoil : ∃ t, mg "MOST_BOILERS" = some (.int 4 t)
  mEng : ∃ t, mg "MOST_ENGINES" = some (.int 4 t)
  mMain : ∃ t, mg "MOST_MAIN" = some (.int 40 t)
  mHours : ∃ t, mg "MOST_HOURS" = some (.int 8 t)
  mExtra : ∃ t, mg "MOST_EXTRA" = some (.int 20 t)
  mFaults : ∃ t, mg "MOST_FAULTS" = some (.int 4 t)
  faults : ∃ f, mg "FAULTS" = some (.ref f) ∧ ∀ H, SqT K H f [.str "out", .str "scaled"]
def startE (N : List Str) (ds : List D) : En := (ds.map fun d => some (.d d)) ++ List.replicate (N.length - ds.length) none
/-- the context of a def's body -/
def cx (P : Program) (w : World) (K : PySem.W.Frag) (mg : Str → Option Value) (base : Heap) (N : List Str) (x : Str) (st : Stmt) (f : Addr) (cdv : Value) (A : Around) (outer : List Env) (s : Shared) (H : Hp) (E : XK) : Cx :=
  (cxOf CX0 P w K mg base N x (defScope st) f cdv A outer s H E).nox
theorem start_s0 {K : PySem.W.Frag} {F H : Hp} {N : List Str} {ds : List D} {vs : List V} (h : Same F H) (dv : Dens K F ds vs) (hl : ds.length ≤ N.length) : S0 K F H F H (startE N ds) (L2.start N vs) where
  f := Same.refl F
  fh := h
  h := Same.refl H
  g := fun p h1 _ => h1
  len := by
    unfold startE L2.start
    simp only [List.length_append, List.length_map, List.length_replicate, dv.len]
  d := fun i x e => by
    unfold startE at e
    by_cases hi : i < ds.length
    · rw [List.getElem?_append_left (by rw [List.length_map]; exact hi), List.getElem?_map, List.getElem?_eq_getElem hi] at e
      cases e
      obtain ⟨v, h1, h2⟩ := dv.get (i := i) (List.getElem?_eq_getElem hi)
      refine ⟨v, ?_, h2⟩
      unfold L2.start
      rw [List.getElem?_append_left (by rw [List.length_map, dv.len]; exact hi), List.getElem?_map, h1]
      rfl
    · rw [List.getElem?_append_right (by rw [List.length_map]; omega)] at e
      rw [List.getElem?_replicate] at e
      split at e <;> cases e
  o := fun i x e => by
    unfold startE at e
    by_cases hi : i < ds.length
    · rw [List.getElem?_append_left (by rw [List.length_map]; exact hi), List.getElem?_map, List.getElem?_eq_getElem hi] at e
      cases e
    · rw [List.getElem?_append_right (by rw [List.length_map]; omega)] at e
      rw [List.getElem?_replicate] at e
      split at e <;> cases e
  a := fun i j x y p e _ _ _ => by
    unfold startE at e
    by_cases hi : i < ds.length
    · rw [List.getElem?_append_left (by rw [List.length_map]; exact hi), List.getElem?_map, List.getElem?_eq_getElem hi] at e
      cases e
    · rw [List.getElem?_append_right (by rw [List.length_map]; omega)] at e
      rw [List.getElem?_replicate] at e
      split at e <;> cases e
section
variable {P : Program} {w : World} {K : PySem.W.Frag} {mg : Str → Option Value} {base : Heap}
/-- a def as the head tells it -/
abbrev Fd (K : PySem.W.Frag) (mg : Str → Option Value) (x : Str) (st : Stmt) : Prop := ∃ f fd, FunD K x x (defArgs st) (defBody st) (defScope st) [] [] f fd ∧ mg x = some (.ref f)
theorem cal_of {x : Str} {st : Stmt} {N ps : List Str} {k : Nat} {R : List D → D → Prop} (F : Fd K mg x st) (S : FnScope N ps (defScope st)) (hps : ps.length ≤ N.length)
    (hb : ∀ (kV doc pm : Value) (an : Option Addr) (cdv ct : Value) (us : List Value), us.length = ps.length → bindArgs (PySem.W.fnOf x x (defArgs st) (defBody st) (defScope st) .none kV doc pm an cdv ct) ⟨us, []⟩ = pure (ps.zip us))
    (hR : ∀ ds d, R ds d → ds.length = ps.length)
    (body : ∀ (ds : List D) (d : D) (f : Addr) (cdv : Value) (A : Around) (outer : List Env) (s : Shared) (H : Hp) (E : XK), R ds d → Room k (cx P w K mg base N x st f cdv A outer s H E).A →
      SDs (cx P w K mg base N x st f cdv A outer s H E) (defBody st) (startE N ds) (fun _ => d = .non) (fun d' _ => d' = d)) : C8.Cal P w K mg base (k + 1) x (spD K R) [] := by
  obtain ⟨f, fd, F, hm⟩ := F
  refine ⟨f, fd, ps, [], ?_, hm, F.kp, F.bindsN hb, .nil⟩
  refine F.ok S (fun vs H Q E h => ?_) (fun cdv A outer s H vs Q E hr h => ?_)
  · obtain ⟨F0, ds, d, _, dv, hr, _⟩ := h
    rw [dv.len, hR ds d hr]
  · obtain ⟨F0, ds, d, h1, dv, hRd, q⟩ := h
    refine ⟨wSs (cx P w K mg base N x st f cdv A outer s H E) (defBody st), PSs.nox pss_w, ?_⟩
    refine body ds d f cdv A outer s H E hRd hr _ _ _ _ _ (start_s0 h1 dv (by rw [hR ds d hRd]; exact hps)) _ (fun ρ' F' H' σ' hd s' e => ?_) fun d' ρ' v F' H' σ' hd s' e dd => ?_
    · subst hd
      exact q _ F' H' s'.stp mk_non
    · subst hd
      exact q _ F' H' s'.stp dd
end
end Mf
/-! the names of each def -/
namespace Mf
open PySem PySem.Spec PyProof.Rows L2
abbrev N_is_within : List Str := ["thing", "least", "most"]
abbrev P_is_within : List Str := ["thing", "least", "most"]
theorem sc_is_within : FnScope N_is_within P_is_within (defScope s_is_within) := ⟨rfl, rfl, rfl, by decide +kernel, rfl, by decide +kernel, by decide +kernel⟩
theorem bd_is_within (kV doc pm : Value) (an : Option Addr) (cdv ct : Value) (us : List Value) (hl : us.length = (P_is_within).length) : bindArgs (PySem.W.fnOf "is_within" "is_within" (defArgs s_is_within) (defBody s_is_within) (defScope s_is_within) .none kV doc pm an cdv ct) ⟨us, []⟩ = pure ((P_is_within).zip us) := match us, hl with | [_, _, _], _ => rfl
abbrev N_is_upto : List Str := ["thing", "many"]
abbrev P_is_upto : List Str := ["thing", "many"]
theorem sc_is_upto : FnScope N_is_upto P_is_upto (defScope s_is_upto) := ⟨rfl, rfl, rfl, by decide +kernel, rfl, by decide +kernel, by decide +kernel⟩
theorem bd_is_upto (kV doc pm : Value) (an : Option Addr) (cdv ct : Value) (us : List Value) (hl : us.length = (P_is_upto).length) : bindArgs (PySem.W.fnOf "is_upto" "is_upto" (defArgs s_is_upto) (defBody s_is_upto) (defScope s_is_upto) .none kV doc pm an cdv ct) ⟨us, []⟩ = pure ((P_is_upto).zip us) := match us, hl with | [_, _], _ => rfl
abbrev N_are_within : List Str := ["thing", "bounds", "one", "least", "most"]
abbrev P_are_within : List Str := ["thing", "bounds"]
theorem sc_are_within : FnScope N_are_within P_are_within (defScope s_are_within) := ⟨rfl, rfl, rfl, by decide +kernel, rfl, by decide +kernel, by decide +kernel⟩
theorem bd_are_within (kV doc pm : Value) (an : Option Addr) (cdv ct : Value) (us : List Value) (hl : us.length = (P_are_within).length) : bindArgs (PySem.W.fnOf "are_within" "are_within" (defArgs s_are_within) (defBody s_are_within) (defScope s_are_within) .none kV doc pm an cdv ct) ⟨us, []⟩ = pure ((P_are_within).zip us) := match us, hl with | [_, _], _ => rfl
abbrev N_is_main : List Str := ["thing"]
abbrev P_is_main : List Str := ["thing"]
theorem sc_is_main : FnScope N_is_main P_is_main (defScope s_is_main) := ⟨rfl, rfl, rfl, by decide +kernel, rfl, by decide +kernel, by decide +kernel⟩
theorem bd_is_main (kV doc pm : Value) (an : Option Addr) (cdv ct : Value) (us : List Value) (hl : us.length = (P_is_main).length) : bindArgs (PySem.W.fnOf "is_main" "is_main" (defArgs s_is_main) (defBody s_is_main) (defScope s_is_main) .none kV doc pm an cdv ct) ⟨us, []⟩ = pure ((P_is_main).zip us) := match us, hl with | [_], _ => rfl
abbrev N_is_plant : List Str := ["thing", "boilers", "engines", "one"]
abbrev P_is_plant : List Str := ["thing"]
theorem sc_is_plant : FnScope N_is_plant P_is_plant (defScope s_is_plant) := ⟨rfl, rfl, rfl, by decide +kernel, rfl, by decide +kernel, by decide +kernel⟩
theorem bd_is_plant (kV doc pm : Value) (an : Option Addr) (cdv ct : Value) (us : List Value) (hl : us.length = (P_is_plant).length) : bindArgs (PySem.W.fnOf "is_plant" "is_plant" (defArgs s_is_plant) (defBody s_is_plant) (defScope s_is_plant) .none kV doc pm an cdv ct) ⟨us, []⟩ = pure ((P_is_plant).zip us) := match us, hl with | [_], _ => rfl
abbrev N_is_fault : List Str := ["many", "hours", "thing"]
abbrev P_is_fault : List Str := ["many", "hours", "thing"]
theorem sc_is_fault : FnScope N_is_fault P_is_fault (defScope s_is_fault) := ⟨rfl, rfl, rfl, by decide +kernel, rfl, by decide +kernel, by decide +kernel⟩
theorem bd_is_fault (kV doc pm : Value) (an : Option Addr) (cdv ct : Value) (us : List Value) (hl : us.length = (P_is_fault).length) : bindArgs (PySem.W.fnOf "is_fault" "is_fault" (defArgs s_is_fault) (defBody s_is_fault) (defScope s_is_fault) .none kV doc pm an cdv ct) ⟨us, []⟩ = pure ((P_is_fault).zip us) := match us, hl with | [_, _, _], _ => rfl
abbrev N_is_story_of : List Str := ["plant", "thing", "one"]
abbrev P_is_story_of : List Str := ["plant", "thing"]
theorem sc_is_story_of : FnScope N_is_story_of P_is_story_of (defScope s_is_story_of) := ⟨rfl, rfl, rfl, by decide +kernel, rfl, by decide +kernel, by decide +kernel⟩
theorem bd_is_story_of (kV doc pm : Value) (an : Option Addr) (cdv ct : Value) (us : List Value) (hl : us.length = (P_is_story_of).length) : bindArgs (PySem.W.fnOf "is_story_of" "is_story_of" (defArgs s_is_story_of) (defBody s_is_story_of) (defScope s_is_story_of) .none kV doc pm an cdv ct) ⟨us, []⟩ = pure ((P_is_story_of).zip us) := match us, hl with | [_, _], _ => rfl
abbrev N_need_plant : List Str := ["thing"]
abbrev P_need_plant : List Str := ["thing"]
theorem sc_need_plant : FnScope N_need_plant P_need_plant (defScope s_need_plant) := ⟨rfl, rfl, rfl, by decide +kernel, rfl, by decide +kernel, by decide +kernel⟩
theorem bd_need_plant (kV doc pm : Value) (an : Option Addr) (cdv ct : Value) (us : List Value) (hl : us.length = (P_need_plant).length) : bindArgs (PySem.W.fnOf "need_plant" "need_plant" (defArgs s_need_plant) (defBody s_need_plant) (defScope s_need_plant) .none kV doc pm an cdv ct) ⟨us, []⟩ = pure ((P_need_plant).zip us) := match us, hl with | [_], _ => rfl
abbrev N_need_story : List Str := ["plant", "story"]
abbrev P_need_story : List Str := ["plant", "story"]
theorem sc_need_story : FnScope N_need_story P_need_story (defScope s_need_story) := ⟨rfl, rfl, rfl, by decide +kernel, rfl, by decide +kernel, by decide +kernel⟩
theorem bd_need_story (kV doc pm : Value) (an : Option Addr) (cdv ct : Value) (us : List Value) (hl : us.length = (P_need_story).length) : bindArgs (PySem.W.fnOf "need_story" "need_story" (defArgs s_need_story) (defBody s_need_story) (defScope s_need_story) .none kV doc pm an cdv ct) ⟨us, []⟩ = pure ((P_need_story).zip us) := match us, hl with | [_, _], _ => rfl
abbrev N_cap_at : List Str := ["plant", "story", "hour", "boiler", "words", "make", "number", "word", "first", "last"]
abbrev P_cap_at : List Str := ["plant", "story", "hour", "boiler"]
theorem sc_cap_at : FnScope N_cap_at P_cap_at (defScope s_cap_at) := ⟨rfl, rfl, rfl, by decide +kernel, rfl, by decide +kernel, by decide +kernel⟩
theorem bd_cap_at (kV doc pm : Value) (an : Option Addr) (cdv ct : Value) (us : List Value) (hl : us.length = (P_cap_at).length) : bindArgs (PySem.W.fnOf "cap_at" "cap_at" (defArgs s_cap_at) (defBody s_cap_at) (defScope s_cap_at) .none kV doc pm an cdv ct) ⟨us, []⟩ = pure ((P_cap_at).zip us) := match us, hl with | [_, _, _, _], _ => rfl
abbrev N_caps_by : List Str := ["plant", "story", "found", "hour", "boiler"]
abbrev P_caps_by : List Str := ["plant", "story"]
theorem sc_caps_by : FnScope N_caps_by P_caps_by (defScope s_caps_by) := ⟨rfl, rfl, rfl, by decide +kernel, rfl, by decide +kernel, by decide +kernel⟩
theorem bd_caps_by (kV doc pm : Value) (an : Option Addr) (cdv ct : Value) (us : List Value) (hl : us.length = (P_caps_by).length) : bindArgs (PySem.W.fnOf "caps_by" "caps_by" (defArgs s_caps_by) (defBody s_caps_by) (defScope s_caps_by) .none kV doc pm an cdv ct) ⟨us, []⟩ = pure ((P_caps_by).zip us) := match us, hl with | [_, _], _ => rfl
abbrev N_draws_by : List Str := ["plant", "story", "found", "hour", "extra", "turns", "draw", "first", "every"]
abbrev P_draws_by : List Str := ["plant", "story"]
theorem sc_draws_by : FnScope N_draws_by P_draws_by (defScope s_draws_by) := ⟨rfl, rfl, rfl, by decide +kernel, rfl, by decide +kernel, by decide +kernel⟩
theorem bd_draws_by (kV doc pm : Value) (an : Option Addr) (cdv ct : Value) (us : List Value) (hl : us.length = (P_draws_by).length) : bindArgs (PySem.W.fnOf "draws_by" "draws_by" (defArgs s_draws_by) (defBody s_draws_by) (defScope s_draws_by) .none kV doc pm an cdv ct) ⟨us, []⟩ = pure ((P_draws_by).zip us) := match us, hl with | [_, _], _ => rfl
abbrev N_is_row_of : List Str := ["caps", "thing", "one", "cap"]
abbrev P_is_row_of : List Str := ["caps", "thing"]
theorem sc_is_row_of : FnScope N_is_row_of P_is_row_of (defScope s_is_row_of) := ⟨rfl, rfl, rfl, by decide +kernel, rfl, by decide +kernel, by decide +kernel⟩
theorem bd_is_row_of (kV doc pm : Value) (an : Option Addr) (cdv ct : Value) (us : List Value) (hl : us.length = (P_is_row_of).length) : bindArgs (PySem.W.fnOf "is_row_of" "is_row_of" (defArgs s_is_row_of) (defBody s_is_row_of) (defScope s_is_row_of) .none kV doc pm an cdv ct) ⟨us, []⟩ = pure ((P_is_row_of).zip us) := match us, hl with | [_, _], _ => rfl
abbrev N_is_firing_of : List Str := ["plant", "story", "thing", "caps", "row", "one"]
abbrev P_is_firing_of : List Str := ["plant", "story", "thing"]
theorem sc_is_firing_of : FnScope N_is_firing_of P_is_firing_of (defScope s_is_firing_of) := ⟨rfl, rfl, rfl, by decide +kernel, rfl, by decide +kernel, by decide +kernel⟩
theorem bd_is_firing_of (kV doc pm : Value) (an : Option Addr) (cdv ct : Value) (us : List Value) (hl : us.length = (P_is_firing_of).length) : bindArgs (PySem.W.fnOf "is_firing_of" "is_firing_of" (defArgs s_is_firing_of) (defBody s_is_firing_of) (defScope s_is_firing_of) .none kV doc pm an cdv ct) ⟨us, []⟩ = pure ((P_is_firing_of).zip us) := match us, hl with | [_, _, _], _ => rfl
abbrev N_need_firing : List Str := ["plant", "story", "firing"]
abbrev P_need_firing : List Str := ["plant", "story", "firing"]
theorem sc_need_firing : FnScope N_need_firing P_need_firing (defScope s_need_firing) := ⟨rfl, rfl, rfl, by decide +kernel, rfl, by decide +kernel, by decide +kernel⟩
theorem bd_need_firing (kV doc pm : Value) (an : Option Addr) (cdv ct : Value) (us : List Value) (hl : us.length = (P_need_firing).length) : bindArgs (PySem.W.fnOf "need_firing" "need_firing" (defArgs s_need_firing) (defBody s_need_firing) (defScope s_need_firing) .none kV doc pm an cdv ct) ⟨us, []⟩ = pure ((P_need_firing).zip us) := match us, hl with | [_, _, _], _ => rfl
abbrev N_day_run : List Str := ["main", "draws", "firing", "low", "high", "here", "rows", "hour", "draw", "made", "left"]
abbrev P_day_run : List Str := ["main", "draws", "firing"]
theorem sc_day_run : FnScope N_day_run P_day_run (defScope s_day_run) := ⟨rfl, rfl, rfl, by decide +kernel, rfl, by decide +kernel, by decide +kernel⟩
theorem bd_day_run (kV doc pm : Value) (an : Option Addr) (cdv ct : Value) (us : List Value) (hl : us.length = (P_day_run).length) : bindArgs (PySem.W.fnOf "day_run" "day_run" (defArgs s_day_run) (defBody s_day_run) (defScope s_day_run) .none kV doc pm an cdv ct) ⟨us, []⟩ = pure ((P_day_run).zip us) := match us, hl with | [_, _, _], _ => rfl
abbrev N_run_of : List Str := ["plant", "story", "firing"]
abbrev P_run_of : List Str := ["plant", "story", "firing"]
theorem sc_run_of : FnScope N_run_of P_run_of (defScope s_run_of) := ⟨rfl, rfl, rfl, by decide +kernel, rfl, by decide +kernel, by decide +kernel⟩
theorem bd_run_of (kV doc pm : Value) (an : Option Addr) (cdv ct : Value) (us : List Value) (hl : us.length = (P_run_of).length) : bindArgs (PySem.W.fnOf "run_of" "run_of" (defArgs s_run_of) (defBody s_run_of) (defScope s_run_of) .none kV doc pm an cdv ct) ⟨us, []⟩ = pure ((P_run_of).zip us) := match us, hl with | [_, _, _], _ => rfl
abbrev N_does_keep_up : List Str := ["plant", "story", "firing"]
abbrev P_does_keep_up : List Str := ["plant", "story", "firing"]
theorem sc_does_keep_up : FnScope N_does_keep_up P_does_keep_up (defScope s_does_keep_up) := ⟨rfl, rfl, rfl, by decide +kernel, rfl, by decide +kernel, by decide +kernel⟩
theorem bd_does_keep_up (kV doc pm : Value) (an : Option Addr) (cdv ct : Value) (us : List Value) (hl : us.length = (P_does_keep_up).length) : bindArgs (PySem.W.fnOf "does_keep_up" "does_keep_up" (defArgs s_does_keep_up) (defBody s_does_keep_up) (defScope s_does_keep_up) .none kV doc pm an cdv ct) ⟨us, []⟩ = pure ((P_does_keep_up).zip us) := match us, hl with | [_, _, _], _ => rfl
abbrev N_coal_in : List Str := ["plant", "firing", "row", "steam", "make", "coal"]
abbrev P_coal_in : List Str := ["plant", "firing"]
theorem sc_coal_in : FnScope N_coal_in P_coal_in (defScope s_coal_in) := ⟨rfl, rfl, rfl, by decide +kernel, rfl, by decide +kernel, by decide +kernel⟩
theorem bd_coal_in (kV doc pm : Value) (an : Option Addr) (cdv ct : Value) (us : List Value) (hl : us.length = (P_coal_in).length) : bindArgs (PySem.W.fnOf "coal_in" "coal_in" (defArgs s_coal_in) (defBody s_coal_in) (defScope s_coal_in) .none kV doc pm an cdv ct) ⟨us, []⟩ = pure ((P_coal_in).zip us) := match us, hl with | [_, _], _ => rfl
abbrev N_coal_of : List Str := ["plant", "story", "firing"]
abbrev P_coal_of : List Str := ["plant", "story", "firing"]
theorem sc_coal_of : FnScope N_coal_of P_coal_of (defScope s_coal_of) := ⟨rfl, rfl, rfl, by decide +kernel, rfl, by decide +kernel, by decide +kernel⟩
theorem bd_coal_of (kV doc pm : Value) (an : Option Addr) (cdv ct : Value) (us : List Value) (hl : us.length = (P_coal_of).length) : bindArgs (PySem.W.fnOf "coal_of" "coal_of" (defArgs s_coal_of) (defBody s_coal_of) (defScope s_coal_of) .none kV doc pm an cdv ct) ⟨us, []⟩ = pure ((P_coal_of).zip us) := match us, hl with | [_, _, _], _ => rfl
abbrev N_steam_by : List Str := ["plant", "story", "firing", "boiler", "row"]
abbrev P_steam_by : List Str := ["plant", "story", "firing"]
theorem sc_steam_by : FnScope N_steam_by P_steam_by (defScope s_steam_by) := ⟨rfl, rfl, rfl, by decide +kernel, rfl, by decide +kernel, by decide +kernel⟩
theorem bd_steam_by (kV doc pm : Value) (an : Option Addr) (cdv ct : Value) (us : List Value) (hl : us.length = (P_steam_by).length) : bindArgs (PySem.W.fnOf "steam_by" "steam_by" (defArgs s_steam_by) (defBody s_steam_by) (defScope s_steam_by) .none kV doc pm an cdv ct) ⟨us, []⟩ = pure ((P_steam_by).zip us) := match us, hl with | [_, _, _], _ => rfl
abbrev N_is_short : List Str := ["main", "caps", "draws", "first", "last", "low", "high", "start", "there", "row"]
abbrev P_is_short : List Str := ["main", "caps", "draws", "first", "last"]
theorem sc_is_short : FnScope N_is_short P_is_short (defScope s_is_short) := ⟨rfl, rfl, rfl, by decide +kernel, rfl, by decide +kernel, by decide +kernel⟩
theorem bd_is_short (kV doc pm : Value) (an : Option Addr) (cdv ct : Value) (us : List Value) (hl : us.length = (P_is_short).length) : bindArgs (PySem.W.fnOf "is_short" "is_short" (defArgs s_is_short) (defBody s_is_short) (defScope s_is_short) .none kV doc pm an cdv ct) ⟨us, []⟩ = pure ((P_is_short).zip us) := match us, hl with | [_, _, _, _, _], _ => rfl
abbrev N_short_by : List Str := ["main", "caps", "draws", "first", "last"]
abbrev P_short_by : List Str := ["main", "caps", "draws"]
theorem sc_short_by : FnScope N_short_by P_short_by (defScope s_short_by) := ⟨rfl, rfl, rfl, by decide +kernel, rfl, by decide +kernel, by decide +kernel⟩
theorem bd_short_by (kV doc pm : Value) (an : Option Addr) (cdv ct : Value) (us : List Value) (hl : us.length = (P_short_by).length) : bindArgs (PySem.W.fnOf "short_by" "short_by" (defArgs s_short_by) (defBody s_short_by) (defScope s_short_by) .none kV doc pm an cdv ct) ⟨us, []⟩ = pure ((P_short_by).zip us) := match us, hl with | [_, _, _], _ => rfl
abbrev N_is_stretch : List Str := ["main", "caps", "draws", "thing"]
abbrev P_is_stretch : List Str := ["main", "caps", "draws", "thing"]
theorem sc_is_stretch : FnScope N_is_stretch P_is_stretch (defScope s_is_stretch) := ⟨rfl, rfl, rfl, by decide +kernel, rfl, by decide +kernel, by decide +kernel⟩
theorem bd_is_stretch (kV doc pm : Value) (an : Option Addr) (cdv ct : Value) (us : List Value) (hl : us.length = (P_is_stretch).length) : bindArgs (PySem.W.fnOf "is_stretch" "is_stretch" (defArgs s_is_stretch) (defBody s_is_stretch) (defScope s_is_stretch) .none kV doc pm an cdv ct) ⟨us, []⟩ = pure ((P_is_stretch).zip us) := match us, hl with | [_, _, _, _], _ => rfl
abbrev N_coals_of : List Str := ["plant", "make", "coal"]
abbrev P_coals_of : List Str := ["plant"]
theorem sc_coals_of : FnScope N_coals_of P_coals_of (defScope s_coals_of) := ⟨rfl, rfl, rfl, by decide +kernel, rfl, by decide +kernel, by decide +kernel⟩
theorem bd_coals_of (kV doc pm : Value) (an : Option Addr) (cdv ct : Value) (us : List Value) (hl : us.length = (P_coals_of).length) : bindArgs (PySem.W.fnOf "coals_of" "coals_of" (defArgs s_coals_of) (defBody s_coals_of) (defScope s_coals_of) .none kV doc pm an cdv ct) ⟨us, []⟩ = pure ((P_coals_of).zip us) := match us, hl with | [_], _ => rfl
abbrev N_row_made : List Str := ["coals", "caps", "amount", "row", "coal", "boiler"]
abbrev P_row_made : List Str := ["coals", "caps", "amount"]
theorem sc_row_made : FnScope N_row_made P_row_made (defScope s_row_made) := ⟨rfl, rfl, rfl, by decide +kernel, rfl, by decide +kernel, by decide +kernel⟩
theorem bd_row_made (kV doc pm : Value) (an : Option Addr) (cdv ct : Value) (us : List Value) (hl : us.length = (P_row_made).length) : bindArgs (PySem.W.fnOf "row_made" "row_made" (defArgs s_row_made) (defBody s_row_made) (defScope s_row_made) .none kV doc pm an cdv ct) ⟨us, []⟩ = pure ((P_row_made).zip us) := match us, hl with | [_, _, _], _ => rfl
abbrev N_row_coal : List Str := ["coals", "row", "steam", "coal"]
abbrev P_row_coal : List Str := ["coals", "row"]
theorem sc_row_coal : FnScope N_row_coal P_row_coal (defScope s_row_coal) := ⟨rfl, rfl, rfl, by decide +kernel, rfl, by decide +kernel, by decide +kernel⟩
theorem bd_row_coal (kV doc pm : Value) (an : Option Addr) (cdv ct : Value) (us : List Value) (hl : us.length = (P_row_coal).length) : bindArgs (PySem.W.fnOf "row_coal" "row_coal" (defArgs s_row_coal) (defBody s_row_coal) (defScope s_row_coal) .none kV doc pm an cdv ct) ⟨us, []⟩ = pure ((P_row_coal).zip us) := match us, hl with | [_, _], _ => rfl
abbrev N_best_step : List Str := ["costs", "later", "here", "draw", "main", "best", "amount", "cost", "left"]
abbrev P_best_step : List Str := ["costs", "later", "here", "draw", "main"]
theorem sc_best_step : FnScope N_best_step P_best_step (defScope s_best_step) := ⟨rfl, rfl, rfl, by decide +kernel, rfl, by decide +kernel, by decide +kernel⟩
theorem bd_best_step (kV doc pm : Value) (an : Option Addr) (cdv ct : Value) (us : List Value) (hl : us.length = (P_best_step).length) : bindArgs (PySem.W.fnOf "best_step" "best_step" (defArgs s_best_step) (defBody s_best_step) (defScope s_best_step) .none kV doc pm an cdv ct) ⟨us, []⟩ = pure ((P_best_step).zip us) := match us, hl with | [_, _, _, _, _], _ => rfl
abbrev N_steps_by : List Str := ["coals", "caps", "draws", "main", "later", "found", "row", "draw", "costs", "steps", "here", "step", "amount"]
abbrev P_steps_by : List Str := ["coals", "caps", "draws", "main"]
theorem sc_steps_by : FnScope N_steps_by P_steps_by (defScope s_steps_by) := ⟨rfl, rfl, rfl, by decide +kernel, rfl, by decide +kernel, by decide +kernel⟩
theorem bd_steps_by (kV doc pm : Value) (an : Option Addr) (cdv ct : Value) (us : List Value) (hl : us.length = (P_steps_by).length) : bindArgs (PySem.W.fnOf "steps_by" "steps_by" (defArgs s_steps_by) (defBody s_steps_by) (defScope s_steps_by) .none kV doc pm an cdv ct) ⟨us, []⟩ = pure ((P_steps_by).zip us) := match us, hl with | [_, _, _, _], _ => rfl
abbrev N_plan_by : List Str := ["coals", "caps", "draws", "main", "steps", "here", "coal", "rows", "hour", "draw", "amount"]
abbrev P_plan_by : List Str := ["coals", "caps", "draws", "main"]
theorem sc_plan_by : FnScope N_plan_by P_plan_by (defScope s_plan_by) := ⟨rfl, rfl, rfl, by decide +kernel, rfl, by decide +kernel, by decide +kernel⟩
theorem bd_plan_by (kV doc pm : Value) (an : Option Addr) (cdv ct : Value) (us : List Value) (hl : us.length = (P_plan_by).length) : bindArgs (PySem.W.fnOf "plan_by" "plan_by" (defArgs s_plan_by) (defBody s_plan_by) (defScope s_plan_by) .none kV doc pm an cdv ct) ⟨us, []⟩ = pure ((P_plan_by).zip us) := match us, hl with | [_, _, _, _], _ => rfl
abbrev N_own_bounds : List Str := ["coals", "caps", "row", "low", "coal", "steam", "cap"]
abbrev P_own_bounds : List Str := ["coals", "caps", "row"]
theorem sc_own_bounds : FnScope N_own_bounds P_own_bounds (defScope s_own_bounds) := ⟨rfl, rfl, rfl, by decide +kernel, rfl, by decide +kernel, by decide +kernel⟩
theorem bd_own_bounds (kV doc pm : Value) (an : Option Addr) (cdv ct : Value) (us : List Value) (hl : us.length = (P_own_bounds).length) : bindArgs (PySem.W.fnOf "own_bounds" "own_bounds" (defArgs s_own_bounds) (defBody s_own_bounds) (defScope s_own_bounds) .none kV doc pm an cdv ct) ⟨us, []⟩ = pure ((P_own_bounds).zip us) := match us, hl with | [_, _, _], _ => rfl
abbrev N_price_bounds : List Str := ["coals", "caps", "main", "firing", "mains", "found", "later", "hour", "low", "high"]
abbrev P_price_bounds : List Str := ["coals", "caps", "main", "firing", "mains"]
theorem sc_price_bounds : FnScope N_price_bounds P_price_bounds (defScope s_price_bounds) := ⟨rfl, rfl, rfl, by decide +kernel, rfl, by decide +kernel, by decide +kernel⟩
theorem bd_price_bounds (kV doc pm : Value) (an : Option Addr) (cdv ct : Value) (us : List Value) (hl : us.length = (P_price_bounds).length) : bindArgs (PySem.W.fnOf "price_bounds" "price_bounds" (defArgs s_price_bounds) (defBody s_price_bounds) (defScope s_price_bounds) .none kV doc pm an cdv ct) ⟨us, []⟩ = pure ((P_price_bounds).zip us) := match us, hl with | [_, _, _, _, _], _ => rfl
abbrev N_prices_by : List Str := ["coals", "caps", "draws", "main", "firing", "mains", "bounds", "found", "hour", "price", "row"]
abbrev P_prices_by : List Str := ["coals", "caps", "draws", "main", "firing"]
theorem sc_prices_by : FnScope N_prices_by P_prices_by (defScope s_prices_by) := ⟨rfl, rfl, rfl, by decide +kernel, rfl, by decide +kernel, by decide +kernel⟩
theorem bd_prices_by (kV doc pm : Value) (an : Option Addr) (cdv ct : Value) (us : List Value) (hl : us.length = (P_prices_by).length) : bindArgs (PySem.W.fnOf "prices_by" "prices_by" (defArgs s_prices_by) (defBody s_prices_by) (defScope s_prices_by) .none kV doc pm an cdv ct) ⟨us, []⟩ = pure ((P_prices_by).zip us) := match us, hl with | [_, _, _, _, _], _ => rfl
abbrev N_best_plan : List Str := ["plant", "story"]
abbrev P_best_plan : List Str := ["plant", "story"]
theorem sc_best_plan : FnScope N_best_plan P_best_plan (defScope s_best_plan) := ⟨rfl, rfl, rfl, by decide +kernel, rfl, by decide +kernel, by decide +kernel⟩
theorem bd_best_plan (kV doc pm : Value) (an : Option Addr) (cdv ct : Value) (us : List Value) (hl : us.length = (P_best_plan).length) : bindArgs (PySem.W.fnOf "best_plan" "best_plan" (defArgs s_best_plan) (defBody s_best_plan) (defScope s_best_plan) .none kV doc pm an cdv ct) ⟨us, []⟩ = pure ((P_best_plan).zip us) := match us, hl with | [_, _], _ => rfl
abbrev N_cheapest : List Str := ["plant", "story", "plan", "caps", "draws"]
abbrev P_cheapest : List Str := ["plant", "story"]
theorem sc_cheapest : FnScope N_cheapest P_cheapest (defScope s_cheapest) := ⟨rfl, rfl, rfl, by decide +kernel, rfl, by decide +kernel, by decide +kernel⟩
theorem bd_cheapest (kV doc pm : Value) (an : Option Addr) (cdv ct : Value) (us : List Value) (hl : us.length = (P_cheapest).length) : bindArgs (PySem.W.fnOf "cheapest" "cheapest" (defArgs s_cheapest) (defBody s_cheapest) (defScope s_cheapest) .none kV doc pm an cdv ct) ⟨us, []⟩ = pure ((P_cheapest).zip us) := match us, hl with | [_, _], _ => rfl
abbrev N_least_coal : List Str := ["plant", "story", "plan"]
abbrev P_least_coal : List Str := ["plant", "story"]
theorem sc_least_coal : FnScope N_least_coal P_least_coal (defScope s_least_coal) := ⟨rfl, rfl, rfl, by decide +kernel, rfl, by decide +kernel, by decide +kernel⟩
theorem bd_least_coal (kV doc pm : Value) (an : Option Addr) (cdv ct : Value) (us : List Value) (hl : us.length = (P_least_coal).length) : bindArgs (PySem.W.fnOf "least_coal" "least_coal" (defArgs s_least_coal) (defBody s_least_coal) (defScope s_least_coal) .none kV doc pm an cdv ct) ⟨us, []⟩ = pure ((P_least_coal).zip us) := match us, hl with | [_, _], _ => rfl
abbrev N_caps_alone : List Str := ["plant", "story", "chosen", "found", "row", "boiler", "cap"]
abbrev P_caps_alone : List Str := ["plant", "story", "chosen"]
theorem sc_caps_alone : FnScope N_caps_alone P_caps_alone (defScope s_caps_alone) := ⟨rfl, rfl, rfl, by decide +kernel, rfl, by decide +kernel, by decide +kernel⟩
theorem bd_caps_alone (kV doc pm : Value) (an : Option Addr) (cdv ct : Value) (us : List Value) (hl : us.length = (P_caps_alone).length) : bindArgs (PySem.W.fnOf "caps_alone" "caps_alone" (defArgs s_caps_alone) (defBody s_caps_alone) (defScope s_caps_alone) .none kV doc pm an cdv ct) ⟨us, []⟩ = pure ((P_caps_alone).zip us) := match us, hl with | [_, _, _], _ => rfl
abbrev N_plan_alone : List Str := ["plant", "story", "chosen"]
abbrev P_plan_alone : List Str := ["plant", "story", "chosen"]
theorem sc_plan_alone : FnScope N_plan_alone P_plan_alone (defScope s_plan_alone) := ⟨rfl, rfl, rfl, by decide +kernel, rfl, by decide +kernel, by decide +kernel⟩
theorem bd_plan_alone (kV doc pm : Value) (an : Option Addr) (cdv ct : Value) (us : List Value) (hl : us.length = (P_plan_alone).length) : bindArgs (PySem.W.fnOf "plan_alone" "plan_alone" (defArgs s_plan_alone) (defBody s_plan_alone) (defScope s_plan_alone) .none kV doc pm an cdv ct) ⟨us, []⟩ = pure ((P_plan_alone).zip us) := match us, hl with | [_, _, _], _ => rfl
abbrev N_sets_of : List Str := ["many", "size", "found", "turn", "longer", "row", "one"]
abbrev P_sets_of : List Str := ["many", "size"]
theorem sc_sets_of : FnScope N_sets_of P_sets_of (defScope s_sets_of) := ⟨rfl, rfl, rfl, by decide +kernel, rfl, by decide +kernel, by decide +kernel⟩
theorem bd_sets_of (kV doc pm : Value) (an : Option Addr) (cdv ct : Value) (us : List Value) (hl : us.length = (P_sets_of).length) : bindArgs (PySem.W.fnOf "sets_of" "sets_of" (defArgs s_sets_of) (defBody s_sets_of) (defScope s_sets_of) .none kV doc pm an cdv ct) ⟨us, []⟩ = pure ((P_sets_of).zip us) := match us, hl with | [_, _], _ => rfl
abbrev N_short_alone : List Str := ["plant", "story", "chosen"]
abbrev P_short_alone : List Str := ["plant", "story", "chosen"]
theorem sc_short_alone : FnScope N_short_alone P_short_alone (defScope s_short_alone) := ⟨rfl, rfl, rfl, by decide +kernel, rfl, by decide +kernel, by decide +kernel⟩
theorem bd_short_alone (kV doc pm : Value) (an : Option Addr) (cdv ct : Value) (us : List Value) (hl : us.length = (P_short_alone).length) : bindArgs (PySem.W.fnOf "short_alone" "short_alone" (defArgs s_short_alone) (defBody s_short_alone) (defScope s_short_alone) .none kV doc pm an cdv ct) ⟨us, []⟩ = pure ((P_short_alone).zip us) := match us, hl with | [_, _, _], _ => rfl
abbrev N_shows_below : List Str := ["plant", "story", "size", "chosen"]
abbrev P_shows_below : List Str := ["plant", "story", "size"]
theorem sc_shows_below : FnScope N_shows_below P_shows_below (defScope s_shows_below) := ⟨rfl, rfl, rfl, by decide +kernel, rfl, by decide +kernel, by decide +kernel⟩
theorem bd_shows_below (kV doc pm : Value) (an : Option Addr) (cdv ct : Value) (us : List Value) (hl : us.length = (P_shows_below).length) : bindArgs (PySem.W.fnOf "shows_below" "shows_below" (defArgs s_shows_below) (defBody s_shows_below) (defScope s_shows_below) .none kV doc pm an cdv ct) ⟨us, []⟩ = pure ((P_shows_below).zip us) := match us, hl with | [_, _, _], _ => rfl
abbrev N_fewest : List Str := ["plant", "story", "many", "size", "chosen", "plan"]
abbrev P_fewest : List Str := ["plant", "story"]
theorem sc_fewest : FnScope N_fewest P_fewest (defScope s_fewest) := ⟨rfl, rfl, rfl, by decide +kernel, rfl, by decide +kernel, by decide +kernel⟩
theorem bd_fewest (kV doc pm : Value) (an : Option Addr) (cdv ct : Value) (us : List Value) (hl : us.length = (P_fewest).length) : bindArgs (PySem.W.fnOf "fewest" "fewest" (defArgs s_fewest) (defBody s_fewest) (defScope s_fewest) .none kV doc pm an cdv ct) ⟨us, []⟩ = pure ((P_fewest).zip us) := match us, hl with | [_, _], _ => rfl
abbrev N_is_set : List Str := ["many", "thing", "one", "other"]
abbrev P_is_set : List Str := ["many", "thing"]
theorem sc_is_set : FnScope N_is_set P_is_set (defScope s_is_set) := ⟨rfl, rfl, rfl, by decide +kernel, rfl, by decide +kernel, by decide +kernel⟩
theorem bd_is_set (kV doc pm : Value) (an : Option Addr) (cdv ct : Value) (us : List Value) (hl : us.length = (P_is_set).length) : bindArgs (PySem.W.fnOf "is_set" "is_set" (defArgs s_is_set) (defBody s_is_set) (defScope s_is_set) .none kV doc pm an cdv ct) ⟨us, []⟩ = pure ((P_is_set).zip us) := match us, hl with | [_, _], _ => rfl
abbrev N_does_with : List Str := ["plant", "story", "chosen", "firing", "row", "boiler", "steam"]
abbrev P_does_with : List Str := ["plant", "story", "chosen", "firing"]
theorem sc_does_with : FnScope N_does_with P_does_with (defScope s_does_with) := ⟨rfl, rfl, rfl, by decide +kernel, rfl, by decide +kernel, by decide +kernel⟩
theorem bd_does_with (kV doc pm : Value) (an : Option Addr) (cdv ct : Value) (us : List Value) (hl : us.length = (P_does_with).length) : bindArgs (PySem.W.fnOf "does_with" "does_with" (defArgs s_does_with) (defBody s_does_with) (defScope s_does_with) .none kV doc pm an cdv ct) ⟨us, []⟩ = pure ((P_does_with).zip us) := match us, hl with | [_, _, _, _], _ => rfl
abbrev N_are_shows : List Str := ["plant", "story", "size", "thing", "sets", "draws", "rows", "chosen", "caps", "one"]
abbrev P_are_shows : List Str := ["plant", "story", "size", "thing"]
theorem sc_are_shows : FnScope N_are_shows P_are_shows (defScope s_are_shows) := ⟨rfl, rfl, rfl, by decide +kernel, rfl, by decide +kernel, by decide +kernel⟩
theorem bd_are_shows (kV doc pm : Value) (an : Option Addr) (cdv ct : Value) (us : List Value) (hl : us.length = (P_are_shows).length) : bindArgs (PySem.W.fnOf "are_shows" "are_shows" (defArgs s_are_shows) (defBody s_are_shows) (defScope s_are_shows) .none kV doc pm an cdv ct) ⟨us, []⟩ = pure ((P_are_shows).zip us) := match us, hl with | [_, _, _, _], _ => rfl
abbrev N_fewest_holds : List Str := ["plant", "story", "thing"]
abbrev P_fewest_holds : List Str := ["plant", "story", "thing"]
theorem sc_fewest_holds : FnScope N_fewest_holds P_fewest_holds (defScope s_fewest_holds) := ⟨rfl, rfl, rfl, by decide +kernel, rfl, by decide +kernel, by decide +kernel⟩
theorem bd_fewest_holds (kV doc pm : Value) (an : Option Addr) (cdv ct : Value) (us : List Value) (hl : us.length = (P_fewest_holds).length) : bindArgs (PySem.W.fnOf "fewest_holds" "fewest_holds" (defArgs s_fewest_holds) (defBody s_fewest_holds) (defScope s_fewest_holds) .none kV doc pm an cdv ct) ⟨us, []⟩ = pure ((P_fewest_holds).zip us) := match us, hl with | [_, _, _], _ => rfl
abbrev N_alone : List Str := ["plant", "story", "chosen", "plan"]
abbrev P_alone : List Str := ["plant", "story", "chosen"]
theorem sc_alone : FnScope N_alone P_alone (defScope s_alone) := ⟨rfl, rfl, rfl, by decide +kernel, rfl, by decide +kernel, by decide +kernel⟩
theorem bd_alone (kV doc pm : Value) (an : Option Addr) (cdv ct : Value) (us : List Value) (hl : us.length = (P_alone).length) : bindArgs (PySem.W.fnOf "alone" "alone" (defArgs s_alone) (defBody s_alone) (defScope s_alone) .none kV doc pm an cdv ct) ⟨us, []⟩ = pure ((P_alone).zip us) := match us, hl with | [_, _, _], _ => rfl
abbrev N_needed : List Str := ["plant", "story", "all_of", "rows", "boiler", "others", "one"]
abbrev P_needed : List Str := ["plant", "story"]
theorem sc_needed : FnScope N_needed P_needed (defScope s_needed) := ⟨rfl, rfl, rfl, by decide +kernel, rfl, by decide +kernel, by decide +kernel⟩
theorem bd_needed (kV doc pm : Value) (an : Option Addr) (cdv ct : Value) (us : List Value) (hl : us.length = (P_needed).length) : bindArgs (PySem.W.fnOf "needed" "needed" (defArgs s_needed) (defBody s_needed) (defScope s_needed) .none kV doc pm an cdv ct) ⟨us, []⟩ = pure ((P_needed).zip us) := match us, hl with | [_, _], _ => rfl
abbrev N__law_cell : List Str := ["_law_script", "_law_k"]
abbrev P__law_cell : List Str := ["_law_script", "_law_k"]
theorem sc__law_cell : FnScope N__law_cell P__law_cell (defScope s__law_cell) := ⟨rfl, rfl, rfl, by decide +kernel, rfl, by decide +kernel, by decide +kernel⟩
theorem bd__law_cell (kV doc pm : Value) (an : Option Addr) (cdv ct : Value) (us : List Value) (hl : us.length = (P__law_cell).length) : bindArgs (PySem.W.fnOf "_law_cell" "_law_cell" (defArgs s__law_cell) (defBody s__law_cell) (defScope s__law_cell) .none kV doc pm an cdv ct) ⟨us, []⟩ = pure ((P__law_cell).zip us) := match us, hl with | [_, _], _ => rfl
abbrev N__law_pen : List Str := ["_law_cell_here", "_law_more"]
abbrev P__law_pen : List Str := ["_law_cell_here"]
theorem sc__law_pen : FnScope N__law_pen P__law_pen (defScope s__law_pen) := ⟨rfl, rfl, rfl, by decide +kernel, rfl, by decide +kernel, by decide +kernel⟩
theorem bd__law_pen (kV doc pm : Value) (an : Option Addr) (cdv ct : Value) (us : List Value) (hl : us.length = (P__law_pen).length) : bindArgs (PySem.W.fnOf "_law_pen" "_law_pen" (defArgs s__law_pen) (defBody s__law_pen) (defScope s__law_pen) .none kV doc pm an cdv ct) ⟨us, []⟩ = pure ((P__law_pen).zip us) := match us, hl with | [_], _ => rfl
abbrev N__law_draw : List Str := ["_law_pen_here", "_law_many", "_law_stir", "_law_rest", "_law_drawn"]
abbrev P__law_draw : List Str := ["_law_pen_here", "_law_many"]
theorem sc__law_draw : FnScope N__law_draw P__law_draw (defScope s__law_draw) := ⟨rfl, rfl, rfl, by decide +kernel, rfl, by decide +kernel, by decide +kernel⟩
theorem bd__law_draw (kV doc pm : Value) (an : Option Addr) (cdv ct : Value) (us : List Value) (hl : us.length = (P__law_draw).length) : bindArgs (PySem.W.fnOf "_law_draw" "_law_draw" (defArgs s__law_draw) (defBody s__law_draw) (defScope s__law_draw) .none kV doc pm an cdv ct) ⟨us, []⟩ = pure ((P__law_draw).zip us) := match us, hl with | [_, _], _ => rfl
abbrev N__law_plant : List Str := ["_law_pen_here", "_law_most", "_law_boilers", "_law_turn", "_law_engines", "_law_low", "_law_high", "_law_start"]
abbrev P__law_plant : List Str := ["_law_pen_here", "_law_most"]
theorem sc__law_plant : FnScope N__law_plant P__law_plant (defScope s__law_plant) := ⟨rfl, rfl, rfl, by decide +kernel, rfl, by decide +kernel, by decide +kernel⟩
theorem bd__law_plant (kV doc pm : Value) (an : Option Addr) (cdv ct : Value) (us : List Value) (hl : us.length = (P__law_plant).length) : bindArgs (PySem.W.fnOf "_law_plant" "_law_plant" (defArgs s__law_plant) (defBody s__law_plant) (defScope s__law_plant) .none kV doc pm an cdv ct) ⟨us, []⟩ = pure ((P__law_plant).zip us) := match us, hl with | [_, _], _ => rfl
abbrev N__law_story : List Str := ["_law_pen_here", "_law_plant_here", "_law_most", "_law_hours", "_law_total", "_law_wide", "_law_extra", "_law_faults", "_law_turn", "_law_first", "_law_last", "_law_hour", "_law_make", "_law_coal"]
abbrev P__law_story : List Str := ["_law_pen_here", "_law_plant_here", "_law_most"]
theorem sc__law_story : FnScope N__law_story P__law_story (defScope s__law_story) := ⟨rfl, rfl, rfl, by decide +kernel, rfl, by decide +kernel, by decide +kernel⟩
theorem bd__law_story (kV doc pm : Value) (an : Option Addr) (cdv ct : Value) (us : List Value) (hl : us.length = (P__law_story).length) : bindArgs (PySem.W.fnOf "_law_story" "_law_story" (defArgs s__law_story) (defBody s__law_story) (defScope s__law_story) .none kV doc pm an cdv ct) ⟨us, []⟩ = pure ((P__law_story).zip us) := match us, hl with | [_, _, _], _ => rfl
abbrev N__law_caps : List Str := ["_law_plant_here", "_law_story_here", "_law_rows", "_law_hour", "_law_row", "_law_boiler", "_law_make", "_law_coal", "_law_words", "_law_one", "_law_word", "_law_first", "_law_last"]
abbrev P__law_caps : List Str := ["_law_plant_here", "_law_story_here"]
theorem sc__law_caps : FnScope N__law_caps P__law_caps (defScope s__law_caps) := ⟨rfl, rfl, rfl, by decide +kernel, rfl, by decide +kernel, by decide +kernel⟩
theorem bd__law_caps (kV doc pm : Value) (an : Option Addr) (cdv ct : Value) (us : List Value) (hl : us.length = (P__law_caps).length) : bindArgs (PySem.W.fnOf "_law_caps" "_law_caps" (defArgs s__law_caps) (defBody s__law_caps) (defScope s__law_caps) .none kV doc pm an cdv ct) ⟨us, []⟩ = pure ((P__law_caps).zip us) := match us, hl with | [_, _], _ => rfl
abbrev N__law_draws : List Str := ["_law_plant_here", "_law_story_here", "_law_found", "_law_hour", "_law_extra", "_law_draw_here", "_law_first", "_law_every"]
abbrev P__law_draws : List Str := ["_law_plant_here", "_law_story_here"]
theorem sc__law_draws : FnScope N__law_draws P__law_draws (defScope s__law_draws) := ⟨rfl, rfl, rfl, by decide +kernel, rfl, by decide +kernel, by decide +kernel⟩
theorem bd__law_draws (kV doc pm : Value) (an : Option Addr) (cdv ct : Value) (us : List Value) (hl : us.length = (P__law_draws).length) : bindArgs (PySem.W.fnOf "_law_draws" "_law_draws" (defArgs s__law_draws) (defBody s__law_draws) (defScope s__law_draws) .none kV doc pm an cdv ct) ⟨us, []⟩ = pure ((P__law_draws).zip us) := match us, hl with | [_, _], _ => rfl
abbrev N__law_mains : List Str := ["_law_main", "_law_draws_here", "_law_firing", "_law_low", "_law_high", "_law_here", "_law_found", "_law_draw_here", "_law_row"]
abbrev P__law_mains : List Str := ["_law_main", "_law_draws_here", "_law_firing"]
theorem sc__law_mains : FnScope N__law_mains P__law_mains (defScope s__law_mains) := ⟨rfl, rfl, rfl, by decide +kernel, rfl, by decide +kernel, by decide +kernel⟩
theorem bd__law_mains (kV doc pm : Value) (an : Option Addr) (cdv ct : Value) (us : List Value) (hl : us.length = (P__law_mains).length) : bindArgs (PySem.W.fnOf "_law_mains" "_law_mains" (defArgs s__law_mains) (defBody s__law_mains) (defScope s__law_mains) .none kV doc pm an cdv ct) ⟨us, []⟩ = pure ((P__law_mains).zip us) := match us, hl with | [_, _, _], _ => rfl
abbrev N__law_keeps : List Str := ["_law_plant_here", "_law_story_here", "_law_firing"]
abbrev P__law_keeps : List Str := ["_law_plant_here", "_law_story_here", "_law_firing"]
theorem sc__law_keeps : FnScope N__law_keeps P__law_keeps (defScope s__law_keeps) := ⟨rfl, rfl, rfl, by decide +kernel, rfl, by decide +kernel, by decide +kernel⟩
theorem bd__law_keeps (kV doc pm : Value) (an : Option Addr) (cdv ct : Value) (us : List Value) (hl : us.length = (P__law_keeps).length) : bindArgs (PySem.W.fnOf "_law_keeps" "_law_keeps" (defArgs s__law_keeps) (defBody s__law_keeps) (defScope s__law_keeps) .none kV doc pm an cdv ct) ⟨us, []⟩ = pure ((P__law_keeps).zip us) := match us, hl with | [_, _, _], _ => rfl
abbrev N__law_pair : List Str := ["_law_pen_here", "_law_most", "_law_hours", "_law_turn", "_law_plant_here", "_law_story_here"]
abbrev P__law_pair : List Str := ["_law_pen_here", "_law_most", "_law_hours"]
theorem sc__law_pair : FnScope N__law_pair P__law_pair (defScope s__law_pair) := ⟨rfl, rfl, rfl, by decide +kernel, rfl, by decide +kernel, by decide +kernel⟩
theorem bd__law_pair (kV doc pm : Value) (an : Option Addr) (cdv ct : Value) (us : List Value) (hl : us.length = (P__law_pair).length) : bindArgs (PySem.W.fnOf "_law_pair" "_law_pair" (defArgs s__law_pair) (defBody s__law_pair) (defScope s__law_pair) .none kV doc pm an cdv ct) ⟨us, []⟩ = pure ((P__law_pair).zip us) := match us, hl with | [_, _, _], _ => rfl
abbrev N__law_any_pair : List Str := ["_law_pen_here", "_law_most", "_law_hours", "_law_plant_here"]
abbrev P__law_any_pair : List Str := ["_law_pen_here", "_law_most", "_law_hours"]
theorem sc__law_any_pair : FnScope N__law_any_pair P__law_any_pair (defScope s__law_any_pair) := ⟨rfl, rfl, rfl, by decide +kernel, rfl, by decide +kernel, by decide +kernel⟩
theorem bd__law_any_pair (kV doc pm : Value) (an : Option Addr) (cdv ct : Value) (us : List Value) (hl : us.length = (P__law_any_pair).length) : bindArgs (PySem.W.fnOf "_law_any_pair" "_law_any_pair" (defArgs s__law_any_pair) (defBody s__law_any_pair) (defScope s__law_any_pair) .none kV doc pm an cdv ct) ⟨us, []⟩ = pure ((P__law_any_pair).zip us) := match us, hl with | [_, _, _], _ => rfl
abbrev N__law_right : List Str := ["_law_plant_here", "_law_story_here", "_law_paper", "_law_coal", "_law_many", "_law_chosen", "_law_firing", "_law_burnt", "_law_steam", "_law_one", "_law_more", "_law_boiler"]
abbrev P__law_right : List Str := ["_law_plant_here", "_law_story_here"]
theorem sc__law_right : FnScope N__law_right P__law_right (defScope s__law_right) := ⟨rfl, rfl, rfl, by decide +kernel, rfl, by decide +kernel, by decide +kernel⟩
theorem bd__law_right (kV doc pm : Value) (an : Option Addr) (cdv ct : Value) (us : List Value) (hl : us.length = (P__law_right).length) : bindArgs (PySem.W.fnOf "_law_right" "_law_right" (defArgs s__law_right) (defBody s__law_right) (defScope s__law_right) .none kV doc pm an cdv ct) ⟨us, []⟩ = pure ((P__law_right).zip us) := match us, hl with | [_, _], _ => rfl
abbrev N_law : List Str := ["_law_script", "_law_cell_here", "_law_pen_here", "_law_plant_here", "_law_story_here"]
abbrev P_law : List Str := ["_law_script"]
theorem sc_law : FnScope N_law P_law (defScope s_law) := ⟨rfl, rfl, rfl, by decide +kernel, rfl, by decide +kernel, by decide +kernel⟩
theorem bd_law (kV doc pm : Value) (an : Option Addr) (cdv ct : Value) (us : List Value) (hl : us.length = (P_law).length) : bindArgs (PySem.W.fnOf "law" "law" (defArgs s_law) (defBody s_law) (defScope s_law) .none kV doc pm an cdv ct) ⟨us, []⟩ = pure ((P_law).zip us) := match us, hl with | [_], _ => rfl
end Mf
/-! plants and stories -/
namespace Mf
structure Plant where
  boilers : List (Int × Int)
  engines : List (Int × Int × Int)
  low : Int
  high : Int
  start : Int
/-- a fault: boiler, out (else scaled), first, last -/
abbrev Fault := Int × Bool × Int × Int
structure Story where
  extra : List Int
  faults : List Fault
structure Plant.Ok (p : Plant) : Prop where
  b1 : 1 ≤ p.boilers.length
  b4 : p.boilers.length ≤ 4
  bs : ∀ b ∈ p.boilers, (1 ≤ b.1 ∧ b.1 ≤ 9) ∧ 1 ≤ b.2 ∧ b.2 ≤ 9
  e4 : p.engines.length ≤ 4
  es : ∀ e ∈ p.engines, (1 ≤ e.1 ∧ e.1 ≤ 9) ∧ (0 ≤ e.2.1 ∧ e.2.1 ≤ 7) ∧ 1 ≤ e.2.2 ∧ e.2.2 ≤ 8
  lo : 0 ≤ p.low
  hi : p.high ≤ 40
  s1 : p.low ≤ p.start
  s2 : p.start ≤ p.high
structure Story.Ok (p : Plant) (s : Story) : Prop where
  h1 : 1 ≤ s.extra.length
  h8 : s.extra.length ≤ 8
  es : ∀ e ∈ s.extra, 0 ≤ e ∧ e ≤ 20
  f4 : s.faults.length ≤ 4
  fs : ∀ f ∈ s.faults, (0 ≤ f.1 ∧ f.1 < p.boilers.length) ∧ (0 ≤ f.2.2.1 ∧ f.2.2.1 < s.extra.length) ∧ (0 ≤ f.2.2.2 ∧ f.2.2.2 < s.extra.length) ∧ f.2.2.1 ≤ f.2.2.2
end Mf
/-! the program as plain functions -/
namespace Mf
/-! ### kinds -/
def faultOn (hour boiler : Int) (f : Fault) : Bool := decide (f.1 = boiler) && (decide (f.2.2.1 ≤ hour) && decide (hour ≤ f.2.2.2))
def wordsAt (s : Story) (hour boiler : Int) : List Bool := (s.faults.filter (faultOn hour boiler)).map fun f => f.2.1
def capAt (p : Plant) (s : Story) (hour boiler : Nat) : Int :=
  if (wordsAt s hour boiler).any (· == true) then 0 else if (wordsAt s hour boiler).any (· == false) then (p.boilers.getD boiler (0, 0)).1 / 2 else (p.boilers.getD boiler (0, 0)).1
def capsBy (p : Plant) (s : Story) : List (List Int) := (List.range s.extra.length).map fun h => (List.range p.boilers.length).map fun b => capAt p s h b
def turnOn (hour : Int) (e : Int × Int × Int) : Bool := decide (e.2.1 ≤ hour) && decide ((hour - e.2.1) % e.2.2 = 0)
def drawAt (p : Plant) (hour : Int) : Int := ((p.engines.filter (turnOn hour)).map fun e => e.1).sum
def drawsBy (p : Plant) (s : Story) : List Int := s.extra.zipIdx.map fun q => q.1 + drawAt p (q.2 : Nat)
/-! ### days -/
/-- the rows of the hours to come (made, drawn, blown off, main), and where it falls -/
def dayRun (low high : Int) : Nat → Int → List (Int × List Int) → List (Int × Int × Int × Int) × Option (Nat × Int)
  | _, _, [] => ([], none)
  | h, here, q :: rest =>
    if here + q.2.sum - q.1 < low then ([], some (h, low - (here + q.2.sum - q.1)))
    else ((q.2.sum, q.1, here + q.2.sum - q.1 - min (here + q.2.sum - q.1) high, min (here + q.2.sum - q.1) high) :: (dayRun low high (h + 1) (min (here + q.2.sum - q.1) high) rest).1, (dayRun low high (h + 1) (min (here + q.2.sum - q.1) high) rest).2)
def keepsUp (p : Plant) (draws : List Int) (firing : List (List Int)) : Bool := (dayRun p.low p.high 0 p.start (draws.zip firing)).2.isNone
def rowCoal (coals row : List Int) : Int := ((row.zip coals).map fun q => q.1 * q.2).sum
def coalsOf (p : Plant) : List Int := p.boilers.map fun b => b.2
def coalIn (p : Plant) (firing : List (List Int)) : Int := (firing.map fun row => rowCoal (coalsOf p) row).sum
def steamBy (p : Plant) (firing : List (List Int)) : List Int := (List.range p.boilers.length).map fun b => (firing.map fun row => row.getD b 0).sum
def rowOk (caps row : List Int) : Bool := decide (row.length = caps.length) && (caps.zip row).all fun q => decide (0 ≤ q.2) && decide (q.2 ≤ q.1)
def firingOk (caps firing : List (List Int)) : Bool := decide (firing.length = caps.length) && (caps.zip firing).all fun q => rowOk q.1 q.2
/-! ### stretches -/
def isShort (low high start : Int) (caps : List (List Int)) (draws : List Int) (first last : Nat) : Bool :=
  decide ((if first = 0 then start else high) + (((caps.drop first).take (last + 1 - first)).map List.sum).sum < ((draws.drop first).take (last + 1 - first)).sum + low)
def pairsUpto (n : Nat) : List (Nat × Nat) := (List.range n).flatMap fun f => (List.range (n - f)).map fun k => (f, f + k)
def shortBy (p : Plant) (caps : List (List Int)) (draws : List Int) : Option (Nat × Nat) := (pairsUpto draws.length).find? fun q => isShort p.low p.high p.start caps draws q.1 q.2
/-! ### the least coal -/
def lexLe' (a b : Int × Int) : Bool := decide (a.1 < b.1) || (decide (a.1 = b.1) && decide (a.2 ≤ b.2))
def idxP (coals : List Int) : List (Int × Int) := coals.zipIdx.map fun q => (q.1, ((q.2 : Nat) : Int))
/-- the boilers in the order of their coal take what they can -/
def fillStep (caps : List Int) (st : List Int × Int) (q : Int × Int) : List Int × Int :=
  (st.1.set q.2.toNat (min (caps.getD q.2.toNat 0) st.2), st.2 - min (caps.getD q.2.toNat 0) st.2)
def rowMadeBy (order : List (Int × Int)) (caps : List Int) (amount : Int) : List Int := (order.foldl (fillStep caps) (List.replicate caps.length 0, amount)).1
/-- a dict: a main, the least coal behind it, what is made -/
abbrev Dct := List (Int × Int × Int)
def look (d : Dct) (k : Int) : Option (Int × Int) := (d.find? fun q => decide (q.1 = k)).map fun q => q.2
def bestGo (later : Dct) (here draw high : Int) (best : Option (Int × Int)) (q : Int × Nat) : Option (Int × Int) :=
  match look later (min (here + (q.2 : Nat) - draw) high) with
  | none => best
  | some c => match best with
    | none => some (q.1 + c.1, ((q.2 : Nat) : Int))
    | some b => if q.1 + c.1 < b.1 then some (q.1 + c.1, ((q.2 : Nat) : Int)) else some b
def bestStep (costs : List Int) (later : Dct) (here draw high : Int) : Option (Int × Int) := costs.zipIdx.foldl (bestGo later here draw high) none
def costsOf (order : List (Int × Int)) (coals caps : List Int) : List Int := (List.range (caps.sum.toNat + 1)).map fun a => rowCoal coals (rowMadeBy order caps ((a : Nat) : Int))
def hereAt (low high : Int) : List Int := (List.range (high + 1 - low).toNat).map fun i => low + (i : Nat)
def stepDict (costs : List Int) (later : Dct) (draw low high : Int) : Dct := (hereAt low high).filterMap fun here => (bestStep costs later here draw high).map fun s => (here, s)
def dict0 (low high : Int) : Dct := (hereAt low high).map fun here => (here, 0, 0)
/-- the hours to come: what each boiler can make, what is drawn -/
def dictOf (order : List (Int × Int)) (coals : List Int) (low high : Int) : List (List Int × Int) → Dct
  | [] => dict0 low high
  | (caps, draw) :: rest => stepDict (costsOf order coals caps) (dictOf order coals low high rest) draw low high
def planRows (order : List (Int × Int)) (coals : List Int) (low high : Int) : Int → List (List Int × Int) → List (List Int)
  | _, [] => []
  | here, (caps, draw) :: rest =>
    let amount := ((look (dictOf order coals low high ((caps, draw) :: rest)) here).getD (0, 0)).2
    rowMadeBy order caps amount :: planRows order coals low high (min (here + amount - draw) high) rest
def planBy (order : List (Int × Int)) (p : Plant) (caps : List (List Int)) (draws : List Int) : Option (Int × List (List Int)) :=
  match look (dictOf order (coalsOf p) p.low p.high (caps.zip draws)) p.start with
  | none => none
  | some c => some (c.1, planRows order (coalsOf p) p.low p.high p.start (caps.zip draws))
/-! ### sets -/
def capsAlone (caps : List (List Int)) (chosen : List Int) : List (List Int) := caps.map fun row => row.zipIdx.map fun q => if chosen.contains ((q.2 : Nat) : Int) then q.1 else 0
def longer (many : Nat) (row : List Int) : List (List Int) := ((List.range many).filter fun one => row.isEmpty || decide (row.getLastD 0 < (one : Nat))).map fun one => row ++ [((one : Nat) : Int)]
def setsOf (many : Nat) : Nat → List (List Int)
  | 0 => [[]]
  | n + 1 => (setsOf many n).flatMap (longer many)
/-- all sets, the smaller before the larger -/
def allSets (many : Nat) : List (Nat × List Int) := (List.range (many + 1)).flatMap fun size => (setsOf many size).map fun ch => (size, ch)
def planOf (order : List (Int × Int)) (p : Plant) (s : Story) (ch : List Int) : Option (Int × List (List Int)) := planBy order p (capsAlone (capsBy p s) ch) (drawsBy p s)
def shortOf (p : Plant) (s : Story) (ch : List Int) : Option (Nat × Nat) := shortBy p (capsAlone (capsBy p s) ch) (drawsBy p s)
def showsOf (p : Plant) (s : Story) : Nat → List (Option (Nat × Nat))
  | 0 => []
  | n + 1 => (setsOf p.boilers.length n).map (shortOf p s)
def upTo (n : Nat) : List Int := (List.range n).map fun i => ((i : Nat) : Int)
def othersOf (many : Nat) (b : Int) : List Int := (upTo many).filter fun one => decide (one ≠ b)
def neededOf (p : Plant) (s : Story) : List Int := (upTo p.boilers.length).filter fun b => (shortOf p s (othersOf p.boilers.length b)).isSome
end Mf
/-! plain facts that the walks want -/
namespace Mf
theorem look_filterMap {g : Int → Option (Int × Int)} (k : Int) : ∀ l : List Int, look (l.filterMap fun h => (g h).map fun s => (h, s)) k = if k ∈ l then g k else none
  | [] => rfl
  | h :: l => by
    have ih := look_filterMap (g := g) k l
    by_cases hk : h = k
    · subst hk
      rw [if_pos List.mem_cons_self]
      cases hg : g h with
      | none =>
        rw [List.filterMap_cons_none (by rw [hg]; rfl), ih, hg]
        split <;> rfl
      | some s =>
        rw [List.filterMap_cons_some (b := (h, s)) (by rw [hg]; rfl)]
        unfold look
        rw [List.find?_cons, decide_eq_true rfl]
        rfl
    · have hm : (k ∈ h :: l) ↔ k ∈ l := by
        rw [List.mem_cons]
        exact ⟨fun z => z.elim (fun e => absurd e.symm hk) id, .inr⟩
      have e : (if k ∈ h :: l then g k else none) = if k ∈ l then g k else none := by
        by_cases z : k ∈ l
        · rw [if_pos z, if_pos (hm.mpr z)]
        · rw [if_neg z, if_neg (fun y => z (hm.mp y))]
      rw [e, ← ih]
      cases hg : g h with
      | none => rw [List.filterMap_cons_none (by rw [hg]; rfl)]
      | some s =>
        rw [List.filterMap_cons_some (b := (h, s)) (by rw [hg]; rfl)]
        unfold look
        rw [List.find?_cons, decide_eq_false hk]
theorem look_step {costs : List Int} {later : Dct} {draw low high : Int} (k : Int) : look (stepDict costs later draw low high) k = if k ∈ hereAt low high then bestStep costs later k draw high else none :=
  look_filterMap (g := fun here => bestStep costs later here draw high) k _
theorem look_zero {low high : Int} (k : Int) : look (dict0 low high) k = if k ∈ hereAt low high then some (0, 0) else none := by
  have := look_filterMap (g := fun _ => some (0, 0)) k (hereAt low high)
  unfold dict0
  rw [← this]
  congr 1
  induction hereAt low high with
  | nil => rfl
  | cons h l ih => rw [List.map_cons, ih]; rfl
theorem here_mem {low high k : Int} : k ∈ hereAt low high ↔ low ≤ k ∧ k ≤ high := by
  unfold hereAt
  rw [List.mem_map]
  constructor
  · rintro ⟨i, hi, rfl⟩
    have := List.mem_range.mp hi
    omega
  · rintro ⟨h1, h2⟩
    exact ⟨(k - low).toNat, List.mem_range.mpr (by omega), by omega⟩
/-- what the best step is -/
def BestOk (later : Dct) (here draw high : Int) (l : List (Int × Nat)) (r : Option (Int × Int)) : Prop := match r with
  | none => ∀ q ∈ l, look later (min (here + (q.2 : Nat) - draw) high) = none
  | some s => (∃ q ∈ l, ∃ c, look later (min (here + (q.2 : Nat) - draw) high) = some c ∧ s = (q.1 + c.1, ((q.2 : Nat) : Int))) ∧ ∀ q ∈ l, ∀ c, look later (min (here + (q.2 : Nat) - draw) high) = some c → s.1 ≤ q.1 + c.1
theorem best_go {later : Dct} {here draw high : Int} : ∀ (l pre : List (Int × Nat)) (r : Option (Int × Int)), BestOk later here draw high pre r → BestOk later here draw high (pre ++ l) (l.foldl (bestGo later here draw high) r)
  | [], pre, r, h => by rw [List.append_nil]; exact h
  | q :: l, pre, r, h => by
    rw [List.foldl_cons, show pre ++ q :: l = (pre ++ [q]) ++ l from by rw [List.append_assoc]; rfl]
    refine best_go l (pre ++ [q]) _ ?_
    have hm : ∀ x, x ∈ pre ++ [q] ↔ x ∈ pre ∨ x = q := fun x => by rw [List.mem_append, List.mem_singleton]
    cases hl : look later (min (here + (q.2 : Nat) - draw) high) with
    | none =>
      have e : bestGo later here draw high r q = r := by unfold bestGo; rw [hl]
      rw [e]
      cases r with
      | none =>
        intro x hx
        rcases (hm x).mp hx with hx | rfl
        · exact h x hx
        · exact hl
      | some s =>
        obtain ⟨⟨y, hy, c, h1, h2⟩, h3⟩ := h
        refine ⟨⟨y, (hm y).mpr (.inl hy), c, h1, h2⟩, fun x hx c' hc' => ?_⟩
        rcases (hm x).mp hx with hx | rfl
        · exact h3 x hx c' hc'
        · rw [hl] at hc'; cases hc'
    | some c =>
      cases r with
      | none =>
        have e : bestGo later here draw high none q = some (q.1 + c.1, ((q.2 : Nat) : Int)) := by unfold bestGo; rw [hl]
        rw [e]
        refine ⟨⟨q, (hm q).mpr (.inr rfl), c, hl, rfl⟩, fun x hx c' hc' => ?_⟩
        rcases (hm x).mp hx with hx | rfl
        · have := h x hx
          rw [this] at hc'; cases hc'
        · rw [hl] at hc'
          cases hc'
          exact Int.le_refl _
      | some b =>
        obtain ⟨⟨y, hy, cy, h1, h2⟩, h3⟩ := h
        by_cases hb : q.1 + c.1 < b.1
        · have e : bestGo later here draw high (some b) q = some (q.1 + c.1, ((q.2 : Nat) : Int)) := by unfold bestGo; rw [hl]; exact if_pos hb
          rw [e]
          refine ⟨⟨q, (hm q).mpr (.inr rfl), c, hl, rfl⟩, fun x hx c' hc' => ?_⟩
          rcases (hm x).mp hx with hx | rfl
          · have := h3 x hx c' hc'
            show q.1 + c.1 ≤ _
            omega
          · rw [hl] at hc'
            cases hc'
            exact Int.le_refl _
        · have e : bestGo later here draw high (some b) q = some b := by unfold bestGo; rw [hl]; exact if_neg hb
          rw [e]
          refine ⟨⟨y, (hm y).mpr (.inl hy), cy, h1, h2⟩, fun x hx c' hc' => ?_⟩
          rcases (hm x).mp hx with hx | rfl
          · exact h3 x hx c' hc'
          · rw [hl] at hc'
            cases hc'
            omega
theorem best_ok {costs : List Int} {later : Dct} {here draw high : Int} : BestOk later here draw high costs.zipIdx (bestStep costs later here draw high) := by
  have := best_go (later := later) (here := here) (draw := draw) (high := high) costs.zipIdx [] none (fun q hq => by cases hq)
  rw [List.nil_append] at this
  exact this
theorem zipIdx_mem {α : Type} {xs : List α} {q : α × Nat} (h : q ∈ xs.zipIdx) : xs[q.2]? = some q.1 := by
  obtain ⟨i, hi⟩ := List.mem_iff_getElem?.mp h
  rw [List.getElem?_zipIdx] at hi
  cases hx : xs[i]? with
  | none => rw [hx] at hi; cases hi
  | some x =>
    rw [hx] at hi
    obtain rfl := Option.some.inj hi
    simpa using hx
theorem mem_zipIdx {α : Type} {xs : List α} {i : Nat} {x : α} (h : xs[i]? = some x) : (x, i) ∈ xs.zipIdx := by
  refine List.mem_iff_getElem?.mpr ⟨i, ?_⟩
  rw [List.getElem?_zipIdx, h]
  simp
/-- what a step that is found leads to -/
theorem step_some {costs : List Int} {later : Dct} {draw low high k : Int} {s : Int × Int} (h : look (stepDict costs later draw low high) k = some s) :
    low ≤ k ∧ k ≤ high ∧ ∃ (n : Nat) (x : Int) (c : Int × Int), costs[n]? = some x ∧ look later (min (k + (n : Nat) - draw) high) = some c ∧ s = (x + c.1, ((n : Nat) : Int)) ∧
      ∀ (n' : Nat) x' c', costs[n']? = some x' → look later (min (k + (n' : Nat) - draw) high) = some c' → s.1 ≤ x' + c'.1 := by
  rw [look_step] at h
  by_cases hk : k ∈ hereAt low high
  · rw [if_pos hk] at h
    have b := best_ok (costs := costs) (later := later) (here := k) (draw := draw) (high := high)
    rw [h] at b
    obtain ⟨⟨q, hq, c, h1, h2⟩, h3⟩ := b
    exact ⟨(here_mem.mp hk).1, (here_mem.mp hk).2, q.2, q.1, c, zipIdx_mem hq, h1, h2, fun n' x' c' g1 g2 => h3 (x', n') (mem_zipIdx g1) c' g2⟩
  · rw [if_neg hk] at h
    cases h
theorem step_none {costs : List Int} {later : Dct} {draw low high k : Int} (h : look (stepDict costs later draw low high) k = none) (h1 : low ≤ k) (h2 : k ≤ high) : ∀ (n : Nat) x, costs[n]? = some x → look later (min (k + (n : Nat) - draw) high) = none := by
  rw [look_step, if_pos (here_mem.mpr ⟨h1, h2⟩)] at h
  have b := best_ok (costs := costs) (later := later) (here := k) (draw := draw) (high := high)
  rw [h] at b
  exact fun n x g => b (x, n) (mem_zipIdx g)
end Mf
/-! the sets of at most four boilers -/
namespace Mf
theorem sets_len0 : ∀ many < 5, ∀ n < 5, (setsOf many n).length ≤ 6 := by decide +kernel
theorem sets_ok1 : ∀ many < 5, ∀ n < 5, ∀ ch ∈ setsOf many n, ch.length = n := by decide +kernel
theorem sets_ok2 : ∀ many < 5, ∀ n < 5, ∀ ch ∈ setsOf many n, ∀ c ∈ ch, 0 ≤ c ∧ c < ((many : Nat) : Int) := by decide +kernel
theorem sets_ok3 : ∀ many < 5, ∀ n < 5, ∀ ch ∈ setsOf many n, List.Pairwise (fun a b => a < b) ch := by decide +kernel
theorem sets_less0 : ∀ many < 5, ∀ n < 4, ∀ ch ∈ setsOf many (n + 1), ∀ one ∈ ch, (ch.filter fun b => decide (b ≠ one)) ∈ setsOf many n := by decide +kernel
theorem sets_all0 : ∀ many < 5, upTo many ∈ setsOf many many := by decide +kernel
theorem sets_len {many n : Nat} (h : many ≤ 4) (hn : n ≤ 4) : (setsOf many n).length ≤ 6 := sets_len0 many (by omega) n (by omega)
end Mf
/-! rules for common shapes -/
namespace Mf
open PySem PySem.Spec PyProof.Rows L2
theorem ed_cast {X : Cx} {e : Expr} {ρ ρ' : En} {d d2 : D} (h : ED X e ρ d ρ') (q : d = d2) : ED X e ρ d2 ρ' := q ▸ h
theorem td_cast {X : Cx} {e : Expr} {ρ : En} {d d2 : Bool} (h : TD X e ρ d) (q : d = d2) : TD X e ρ d2 := q ▸ h
theorem id_cast {X : Cx} {tg e : Expr} {ρ ρ' : En} {d d2 : List D} (h : ID X tg e ρ d ρ') (q : d = d2) : ID X tg e ρ d2 ρ' := q ▸ h
theorem sds_skip {X : Cx} {c : Expr} {A rest : List Stmt} {ρ : En} {k : Bool} {pos : Pos} {Pn : En → Prop} {Pr : D → En → Prop} (ht : TD X c ρ k) (e : k = false) (h : SDs X rest ρ Pn Pr) : SDs X (.If c A [] pos :: rest) ρ Pn Pr :=
  sds_if ht (fun q => by rw [e] at q; cases q) fun _ => sds_nil h
theorem sds_take {X : Cx} {c : Expr} {A B rest : List Stmt} {ρ : En} {k : Bool} {pos : Pos} {Pn : En → Prop} {Pr : D → En → Prop} (ht : TD X c ρ k) (e : k = true) (h : SDs X A ρ (fun ρ' => SDs X rest ρ' Pn Pr) Pr) : SDs X (.If c A B pos :: rest) ρ Pn Pr :=
  sds_if ht (fun _ => h) fun q => by rw [e] at q; cases q
theorem gd_js {X : Cx} {tg : Expr} {js ks : List Nat} {ρ ρ' : En} {d : D} (h : GD X tg js ρ d ρ') (e : js = ks) : GD X tg ks ρ d ρ' := e ▸ h
theorem all_true {α : Type} {xs : List α} {f : α → Bool} (h : ∀ x ∈ xs, f x = true) : (xs.map f).all id = true := by
  rw [List.all_map]
  exact List.all_eq_true.mpr h
theorem filt_true {α : Type} {xs : List α} : xs.filter (fun _ => true) = xs := List.filter_eq_self.mpr fun _ _ => rfl
theorem zipD_map {α β : Type} {f : α → D} {g : β → D} : ∀ {xs : List α} {ys : List β}, zipD (xs.map f) (ys.map g) = (xs.zip ys).map fun q => .tup [f q.1, g q.2]
  | [], ys => by simp [zipD]
  | x :: xs, [] => by simp [zipD]
  | x :: xs, y :: ys => by
    have := zipD_map (f := f) (g := g) (xs := xs) (ys := ys)
    unfold zipD at this ⊢
    simp only [List.map_cons, List.zip_cons_cons, this]
theorem enumD_map' {α : Type} {f : α → D} : ∀ {xs : List α} {n : Nat}, ((xs.map f).zipIdx n).map (fun p => D.tup [.int ((p.2 : Nat) : Int), p.1]) = (xs.zipIdx n).map fun q => .tup [.int ((q.2 : Nat) : Int), f q.1]
  | [], n => rfl
  | x :: xs, n => by
    rw [List.map_cons, List.zipIdx_cons, List.zipIdx_cons, List.map_cons, List.map_cons, enumD_map']
theorem enumD_map {α : Type} {f : α → D} {xs : List α} : enumD (xs.map f) = xs.zipIdx.map fun q => .tup [.int ((q.2 : Nat) : Int), f q.1] := enumD_map'
/-! ### the data -/
def encE (e : Int × Int × Int) : D := .tup [.int e.1, .int e.2.1, .int e.2.2]
def encM (p : Plant) : D := .tup [.int p.low, .int p.high, .int p.start]
def encPl (p : Plant) : D := .tup [.tup (p.boilers.map encP), .tup (p.engines.map encE), encM p]
def wordOf (b : Bool) : Str := if b then "out" else "scaled"
def encF (f : Fault) : D := .tup [.int f.1, .str (wordOf f.2.1), .int f.2.2.1, .int f.2.2.2]
def encI (i : Int) : D := .int i
def encT (r : List Int) : D := .tup (r.map .int)
def encS (s : Story) : D := .tup [encT s.extra, .tup (s.faults.map encF)]
def encR (rs : List (List Int)) : D := .tup (rs.map encT)
section
variable {X : Cx} {ρ ρ' ρ1 ρ2 : En} {a b c e : Expr} {pos : Pos} {Pn : En → Prop} {Pr : D → En → Prop} {rest st : List Stmt}
/-- [elt for tg in iter] -/
theorem ed_lc {α : Type} {elt tg iter : Expr} {scope : Scope} {xs : List α} {enc f : α → D} (own : List (Str × Nat)) (hN : X.N.Nodup) (hi : ID X tg iter ρ (xs.map enc) ρ)
    (turn : ∀ x ∈ xs, ∃ ρ3, wipeE ρ3 (own.map (·.2)) = ρ ∧ ∀ (s : Shared) (H : Hp) (C : Addr) (cl : List (Str × Addr)) (fp : List Addr), GD (X.blk s H scope (compEnvC scope cl C X.env) fp) tg (own.map (·.2)) ρ (enc x) ρ3 ∧ ED (X.blk s H scope (compEnvC scope cl C X.env) fp) elt ρ3 (f x) ρ3)
    (hsz : xs.length ≤ 100000) (hw : wipeE ρ (own.map (·.2)) = ρ := by rfl)
    (ok : BlkOk X.N X.env.scope scope own := by exact blkOk_by (by kernel_rfl)) (hc : X.calm = true := by rfl) (hs : ∀ x, foldedSetIterable iter X.env x = pure x := by intro _; rfl) : ED X (.ListComp elt [⟨tg, iter, [], 0⟩] scope pos) ρ (.lst (xs.map f)) ρ := by
  have L := lcI_pure (X := X) (elt := elt) (tg := tg) (ifs := []) (scope := scope) (js := own.map (·.2)) (vs := own.map (·.2)) (xs := xs) (enc := enc) (ρ := ρ) (fun _ => true) f hsz (fun _ z => z) hw (fun x hx => by
    obtain ⟨ρ3, h1, h2⟩ := turn x hx
    exact ⟨ρ3, h1, fun s H C cl fp => ⟨(h2 s H C cl fp).1, ts_nil, fun _ => (h2 s H C cl fp).2⟩⟩)
  rw [filt_true] at L
  exact ed_lcI L hN hi ok hc hs
/-- [elt for tg in iter if c] -/
theorem ed_lcIf {α : Type} {elt tg iter : Expr} {scope : Scope} {xs : List α} {enc f : α → D} {p : α → Bool} (own : List (Str × Nat)) (hN : X.N.Nodup) (hi : ID X tg iter ρ (xs.map enc) ρ)
    (turn : ∀ x ∈ xs, ∃ ρ3, wipeE ρ3 (own.map (·.2)) = ρ ∧ ∀ (s : Shared) (H : Hp) (C : Addr) (cl : List (Str × Addr)) (fp : List Addr), GD (X.blk s H scope (compEnvC scope cl C X.env) fp) tg (own.map (·.2)) ρ (enc x) ρ3 ∧ TD (X.blk s H scope (compEnvC scope cl C X.env) fp) c ρ3 (p x) ∧ (p x = true → ED (X.blk s H scope (compEnvC scope cl C X.env) fp) elt ρ3 (f x) ρ3))
    (hsz : xs.length ≤ 100000) (hw : wipeE ρ (own.map (·.2)) = ρ := by rfl)
    (ok : BlkOk X.N X.env.scope scope own := by exact blkOk_by (by kernel_rfl)) (hc : X.calm = true := by rfl) (hs : ∀ x, foldedSetIterable iter X.env x = pure x := by intro _; rfl) : ED X (.ListComp elt [⟨tg, iter, [c], 0⟩] scope pos) ρ (.lst ((xs.filter p).map f)) ρ :=
  ed_lcI (lcI_pure (X := X) (elt := elt) (tg := tg) (ifs := [c]) (scope := scope) (js := own.map (·.2)) (vs := own.map (·.2)) (xs := xs) (enc := enc) (ρ := ρ) p f hsz (fun _ z => z) hw (fun x hx => by
    obtain ⟨ρ3, h1, h2⟩ := turn x hx
    exact ⟨ρ3, h1, fun s H C cl fp => ⟨(h2 s H C cl fp).1, ts_one (h2 s H C cl fp).2.1, (h2 s H C cl fp).2.2⟩⟩)) hN hi ok hc hs
theorem ed_all {p : Pos} {bs : List Bool} (hm : X.mg "all" = none) (h : ED X e ρ (.lst (bs.map .bl)) ρ1) (hg : Gl X "all" := by rfl) (hc : X.calm = true := by rfl) (he : starEach [e] X.env = (false, eval e X.env) :: starEach [] X.env := by rfl) : ED X (.Call (.Name "all" p) [e] [] pos) ρ (.bl (bs.all id)) ρ1 :=
  ed_callB hg hm rfl (ad_cons h ad_nil he) (call_allL hc) (by decide) (by decide) he rfl
/-- all([..]) of what is true -/
theorem ed_allT {α : Type} {p : Pos} {xs : List α} {g : α → Bool} (hm : X.mg "all" = none) (h : ED X e ρ (.lst (xs.map fun x => .bl (g x))) ρ1) (ht : ∀ x ∈ xs, g x = true) (hg : Gl X "all" := by rfl) (hc : X.calm = true := by rfl) (he : starEach [e] X.env = (false, eval e X.env) :: starEach [] X.env := by rfl) : ED X (.Call (.Name "all" p) [e] [] pos) ρ (.bl true) ρ1 := by
  have h' : ED X e ρ (.lst ((xs.map g).map .bl)) ρ1 := by rw [List.map_map]; exact h
  have r := ed_all (p := p) (pos := pos) hm h' hg hc he
  rw [all_true ht] at r
  exact r
theorem ed_sum {α : Type} {p : Pos} {xs : List α} {g : α → Int} (hm : X.mg "sum" = none) (h : ED X e ρ (.lst (xs.map fun x => .int (g x))) ρ1) (hg : Gl X "sum" := by rfl) (hc : X.calm = true := by rfl) (he : starEach [e] X.env = (false, eval e X.env) :: starEach [] X.env := by rfl) : ED X (.Call (.Name "sum" p) [e] [] pos) ρ (.int (xs.map g).sum) ρ1 := by
  have h' : ED X e ρ (.lst ((xs.map g).map .int)) ρ1 := by rw [List.map_map]; exact h
  exact ed_callB hg hm rfl (ad_cons h' ad_nil he) (call_sumL hc) (by decide) (by decide) he rfl
theorem ed_sumT {p : Pos} {ns : List Int} (hm : X.mg "sum" = none) (h : ED X e ρ (encT ns) ρ1) (hg : Gl X "sum" := by rfl) (hc : X.calm = true := by rfl) (he : starEach [e] X.env = (false, eval e X.env) :: starEach [] X.env := by rfl) : ED X (.Call (.Name "sum" p) [e] [] pos) ρ (.int ns.sum) ρ1 :=
  ed_callB hg hm rfl (ad_cons h ad_nil he) (call_sumT hc) (by decide) (by decide) he rfl
theorem ed_tuple {p : Pos} {ds : List D} (hm : X.mg "tuple" = none) (h : ED X e ρ (.lst ds) ρ1) (hg : Gl X "tuple" := by rfl) (he : starEach [e] X.env = (false, eval e X.env) :: starEach [] X.env := by rfl) : ED X (.Call (.Name "tuple" p) [e] [] pos) ρ (.tup ds) ρ1 :=
  ed_callTy hg hm rfl (ad_cons h ad_nil he) call_tupL (by decide) (by decide) he rfl
theorem ed_lenT {p : Pos} {ds : List D} (hm : X.mg "len" = none) (h : ED X e ρ (.tup ds) ρ1) (hg : Gl X "len" := by rfl) (he : starEach [e] X.env = (false, eval e X.env) :: starEach [] X.env := by rfl) : ED X (.Call (.Name "len" p) [e] [] pos) ρ (.int (ds.length : Nat)) ρ1 :=
  ed_callB hg hm rfl (ad_cons h ad_nil he) call_lenD' (by decide) (by decide) he rfl
theorem ed_lenL {p : Pos} {ds : List D} (hm : X.mg "len" = none) (h : ED X e ρ (.lst ds) ρ1) (hg : Gl X "len" := by rfl) (he : starEach [e] X.env = (false, eval e X.env) :: starEach [] X.env := by rfl) : ED X (.Call (.Name "len" p) [e] [] pos) ρ (.int (ds.length : Nat)) ρ1 :=
  ed_callB hg hm rfl (ad_cons h ad_nil he) call_lenL (by decide) (by decide) he rfl
/-- isinstance(e, T) -/
theorem ed_isi {p p2 : Pos} {n : Str} {t : String} {d : D} (k : Bool) (hm : X.mg "isinstance" = none) (h : ED X e ρ d ρ1) (hm2 : X.mg n = none) (hv : bootBuiltins n = some (.type t) := by rfl) (hk : CallD X (.builtin "isinstance") [d, .ty t] (.bl k) := by exact call_isiD rfl)
    (hg : Gl X "isinstance" := by rfl) (hgn : Gl X n := by rfl) (hn : n ≠ "__name__" := by decide) (hd : (n == ("__debug__" : Str)) = false := by decide) (he : starEach [e, .Name n p2] X.env = (false, eval e X.env) :: starEach [.Name n p2] X.env := by rfl) (he2 : starEach [.Name n p2] X.env = (false, eval (.Name n p2) X.env) :: starEach [] X.env := by rfl) (hpl : (backTo pos (starEach [.Name n p2] X.env)).any (·.1) = false := by rfl) : ED X (.Call (.Name "isinstance" p) [e, .Name n p2] [] pos) ρ (.bl k) ρ1 :=
  ed_callB hg hm rfl (ad_cons h (ad_cons (ed_ty hm2 hv hgn hn hd) ad_nil he2) he) hk (by decide) (by decide) he hpl
/-- targets of two, three, four names -/
theorem gd_t2 {n1 n2 : Str} {k : Nat} {p1 p2 : Pos} {d1 d2 : D} (i j : Nat) (hN : X.N.Nodup) (h1 : X.N[i]? = some n1 := by rfl) (h2 : X.N[j]? = some n2 := by rfl) (x1 : Loc X.env.scope n1 := by first | exact Or.inl rfl | exact Or.inr rfl) (x2 : Loc X.env.scope n2 := by first | exact Or.inl rfl | exact Or.inr rfl)
    (f1 : X.fn n1 = true ∨ X.env.scope.names.lookup n1 = some .local := by first | exact .inl rfl | exact .inr rfl) (f2 : X.fn n2 = true ∨ X.env.scope.names.lookup n2 = some .local := by first | exact .inl rfl | exact .inr rfl) (hc : X.calm = true := by rfl) :
    GD X (.Tuple [.Name n1 p1, .Name n2 p2] k pos) [i, j] ρ (.tup [d1, d2]) ((ρ.set i (some (.d d1))).set j (some (.d d2))) :=
  gd_js (gd_tup (gsd_cons (gd_name i hN h1 x1 f1) (gsd_cons (gd_name j hN h2 x2 f2) gsd_nil)) hc) rfl
theorem gd_t3 {n1 n2 n3 : Str} {k : Nat} {p1 p2 p3 : Pos} {d1 d2 d3 : D} (i j l : Nat) (hN : X.N.Nodup) (h1 : X.N[i]? = some n1 := by rfl) (h2 : X.N[j]? = some n2 := by rfl) (h3 : X.N[l]? = some n3 := by rfl) (x1 : Loc X.env.scope n1 := by first | exact Or.inl rfl | exact Or.inr rfl) (x2 : Loc X.env.scope n2 := by first | exact Or.inl rfl | exact Or.inr rfl) (x3 : Loc X.env.scope n3 := by first | exact Or.inl rfl | exact Or.inr rfl)
    (f1 : X.fn n1 = true ∨ X.env.scope.names.lookup n1 = some .local := by first | exact .inl rfl | exact .inr rfl) (f2 : X.fn n2 = true ∨ X.env.scope.names.lookup n2 = some .local := by first | exact .inl rfl | exact .inr rfl) (f3 : X.fn n3 = true ∨ X.env.scope.names.lookup n3 = some .local := by first | exact .inl rfl | exact .inr rfl) (hc : X.calm = true := by rfl) :
    GD X (.Tuple [.Name n1 p1, .Name n2 p2, .Name n3 p3] k pos) [i, j, l] ρ (.tup [d1, d2, d3]) (((ρ.set i (some (.d d1))).set j (some (.d d2))).set l (some (.d d3))) :=
  gd_js (gd_tup (gsd_cons (gd_name i hN h1 x1 f1) (gsd_cons (gd_name j hN h2 x2 f2) (gsd_cons (gd_name l hN h3 x3 f3) gsd_nil))) hc) rfl
/-- a, (b, c) -/
theorem gd_t12 {n1 n2 n3 : Str} {k k2 : Nat} {p1 p2 p3 p4 : Pos} {d1 d2 d3 : D} (i j l : Nat) (hN : X.N.Nodup) (h1 : X.N[i]? = some n1 := by rfl) (h2 : X.N[j]? = some n2 := by rfl) (h3 : X.N[l]? = some n3 := by rfl) (x1 : Loc X.env.scope n1 := by first | exact Or.inl rfl | exact Or.inr rfl) (x2 : Loc X.env.scope n2 := by first | exact Or.inl rfl | exact Or.inr rfl) (x3 : Loc X.env.scope n3 := by first | exact Or.inl rfl | exact Or.inr rfl)
    (f1 : X.fn n1 = true ∨ X.env.scope.names.lookup n1 = some .local := by first | exact .inl rfl | exact .inr rfl) (f2 : X.fn n2 = true ∨ X.env.scope.names.lookup n2 = some .local := by first | exact .inl rfl | exact .inr rfl) (f3 : X.fn n3 = true ∨ X.env.scope.names.lookup n3 = some .local := by first | exact .inl rfl | exact .inr rfl) (hc : X.calm = true := by rfl) :
    GD X (.Tuple [.Name n1 p1, .Tuple [.Name n2 p2, .Name n3 p3] k2 p4] k pos) [i, j, l] ρ (.tup [d1, .tup [d2, d3]]) (((ρ.set i (some (.d d1))).set j (some (.d d2))).set l (some (.d d3))) :=
  gd_js (gd_tup (gsd_cons (gd_name i hN h1 x1 f1) (gsd_cons (gd_t2 j l hN h2 h3 x2 x3 f2 f3 hc) gsd_nil)) hc) rfl
theorem gd_t4 {n1 n2 n3 n4 : Str} {k : Nat} {p1 p2 p3 p4 : Pos} {d1 d2 d3 d4 : D} (i j l m : Nat) (hN : X.N.Nodup) (h1 : X.N[i]? = some n1 := by rfl) (h2 : X.N[j]? = some n2 := by rfl) (h3 : X.N[l]? = some n3 := by rfl) (h4 : X.N[m]? = some n4 := by rfl) (x1 : Loc X.env.scope n1 := by first | exact Or.inl rfl | exact Or.inr rfl) (x2 : Loc X.env.scope n2 := by first | exact Or.inl rfl | exact Or.inr rfl) (x3 : Loc X.env.scope n3 := by first | exact Or.inl rfl | exact Or.inr rfl) (x4 : Loc X.env.scope n4 := by first | exact Or.inl rfl | exact Or.inr rfl)
    (f1 : X.fn n1 = true ∨ X.env.scope.names.lookup n1 = some .local := by first | exact .inl rfl | exact .inr rfl) (f2 : X.fn n2 = true ∨ X.env.scope.names.lookup n2 = some .local := by first | exact .inl rfl | exact .inr rfl) (f3 : X.fn n3 = true ∨ X.env.scope.names.lookup n3 = some .local := by first | exact .inl rfl | exact .inr rfl) (f4 : X.fn n4 = true ∨ X.env.scope.names.lookup n4 = some .local := by first | exact .inl rfl | exact .inr rfl) (hc : X.calm = true := by rfl) :
    GD X (.Tuple [.Name n1 p1, .Name n2 p2, .Name n3 p3, .Name n4 p4] k pos) [i, j, l, m] ρ (.tup [d1, d2, d3, d4]) ((((ρ.set i (some (.d d1))).set j (some (.d d2))).set l (some (.d d3))).set m (some (.d d4))) :=
  gd_js (gd_tup (gsd_cons (gd_name i hN h1 x1 f1) (gsd_cons (gd_name j hN h2 x2 f2) (gsd_cons (gd_name l hN h3 x3 f3) (gsd_cons (gd_name m hN h4 x4 f4) gsd_nil)))) hc) rfl
/-- y = [elt for tg in iter], y a local -/
theorem sds_setLc {α : Type} {elt tg iter : Expr} {scope : Scope} {xs : List α} {enc f : α → D} {n : Str} {py spos : Pos} (i : Nat) (own : List (Str × Nat)) (hN : X.N.Nodup) (hi : ID X tg iter ρ (xs.map enc) ρ)
    (turn : ∀ x ∈ xs, ∃ ρ3, wipeE ρ3 (own.map (·.2)) = ρ ∧ ∀ (s : Shared) (H : Hp) (C : Addr) (cl : List (Str × Addr)) (fp : List Addr), GD (X.blk s H scope (compEnvC scope cl C X.env) fp) tg (own.map (·.2)) ρ (enc x) ρ3 ∧ ED (X.blk s H scope (compEnvC scope cl C X.env) fp) elt ρ3 (f x) ρ3)
    (hsz : xs.length ≤ 100000) (k : SDs X rest (ρ.set i (some (.d (.lst (xs.map f))))) Pn Pr) (hw : wipeE ρ (own.map (·.2)) = ρ := by rfl)
    (ok : BlkOk X.N X.env.scope scope own := by exact blkOk_by (by kernel_rfl)) (hc : X.calm = true := by rfl) (hs : ∀ x, foldedSetIterable iter X.env x = pure x := by intro _; rfl)
    (hy : X.N[i]? = some n := by rfl) (hyl : X.env.scope.names.lookup n = some .local := by rfl) (hsw : swapsWith (.ListComp elt [⟨tg, iter, [], 0⟩] scope pos) (some (.Name n py)) spos.line X.env = pure true := by exact sw_true rfl rfl rfl (by decide +kernel)) :
    SDs X (.Assign [.Name n py] (.ListComp elt [⟨tg, iter, [], 0⟩] scope pos) spos :: rest) ρ Pn Pr := by
  have L := lcI_pure (X := X) (elt := elt) (tg := tg) (ifs := []) (scope := scope) (js := own.map (·.2)) (vs := own.map (·.2)) (xs := xs) (enc := enc) (ρ := ρ) (fun _ => true) f hsz (fun _ z => z) hw (fun x hx => by
    obtain ⟨ρ3, h1, h2⟩ := turn x hx
    exact ⟨ρ3, h1, fun s H C cl fp => ⟨(h2 s H C cl fp).1, ts_nil, fun _ => (h2 s H C cl fp).2⟩⟩)
  rw [filt_true] at L
  exact sds_setLcI i L hN hi k ok hc hs hy hyl hsw
/-- y = [elt for tg in iter if c] -/
theorem sds_setLcIf {α : Type} {elt tg iter : Expr} {scope : Scope} {xs : List α} {enc f : α → D} {p : α → Bool} {n : Str} {py spos : Pos} (i : Nat) (own : List (Str × Nat)) (hN : X.N.Nodup) (hi : ID X tg iter ρ (xs.map enc) ρ)
    (turn : ∀ x ∈ xs, ∃ ρ3, wipeE ρ3 (own.map (·.2)) = ρ ∧ ∀ (s : Shared) (H : Hp) (C : Addr) (cl : List (Str × Addr)) (fp : List Addr), GD (X.blk s H scope (compEnvC scope cl C X.env) fp) tg (own.map (·.2)) ρ (enc x) ρ3 ∧ TD (X.blk s H scope (compEnvC scope cl C X.env) fp) c ρ3 (p x) ∧ (p x = true → ED (X.blk s H scope (compEnvC scope cl C X.env) fp) elt ρ3 (f x) ρ3))
    (hsz : xs.length ≤ 100000) (k : SDs X rest (ρ.set i (some (.d (.lst ((xs.filter p).map f))))) Pn Pr) (hw : wipeE ρ (own.map (·.2)) = ρ := by rfl)
    (ok : BlkOk X.N X.env.scope scope own := by exact blkOk_by (by kernel_rfl)) (hc : X.calm = true := by rfl) (hs : ∀ x, foldedSetIterable iter X.env x = pure x := by intro _; rfl)
    (hy : X.N[i]? = some n := by rfl) (hyl : X.env.scope.names.lookup n = some .local := by rfl) (hsw : swapsWith (.ListComp elt [⟨tg, iter, [c], 0⟩] scope pos) (some (.Name n py)) spos.line X.env = pure true := by exact sw_true rfl rfl rfl (by decide +kernel)) :
    SDs X (.Assign [.Name n py] (.ListComp elt [⟨tg, iter, [c], 0⟩] scope pos) spos :: rest) ρ Pn Pr :=
  sds_setLcI i (lcI_pure (X := X) (elt := elt) (tg := tg) (ifs := [c]) (scope := scope) (js := own.map (·.2)) (vs := own.map (·.2)) (xs := xs) (enc := enc) (ρ := ρ) p f hsz (fun _ z => z) hw (fun x hx => by
    obtain ⟨ρ3, h1, h2⟩ := turn x hx
    exact ⟨ρ3, h1, fun s H C cl fp => ⟨(h2 s H C cl fp).1, ts_one (h2 s H C cl fp).2.1, (h2 s H C cl fp).2.2⟩⟩)) hN hi k ok hc hs hy hyl hsw
theorem sds_par3 (i j l : Nat) {n m o : Str} {px py pz pt : Pos} {kt k2 pt2} {da db dc : D} (hN : X.N.Nodup) (ha : AD X [a, b, c] ρ [da, db, dc] ρ1) (k : SDs X rest (((ρ1.set i (some (.d da))).set j (some (.d db))).set l (some (.d dc))) Pn Pr) (hi : X.N[i]? = some n := by rfl) (hj : X.N[j]? = some m := by rfl) (hl : X.N[l]? = some o := by rfl) (hij : i ≠ j := by decide) (hil : i ≠ l := by decide) (hjl : j ≠ l := by decide)
    (hx : X.env.scope.names.lookup n = some .local := by rfl) (hy : X.env.scope.names.lookup m = some .local := by rfl) (hz : X.env.scope.names.lookup o = some .local := by rfl) (hc : X.calm = true := by rfl)
    (hw : swappedStores [.Tuple [.Name n px, .Name m py, .Name o pz] kt pt] (.Tuple [a, b, c] k2 pt2) X.env = pure (some [n, m, o]) := by rfl)
    (hs : swapsWithSole [.Tuple [.Name n px, .Name m py, .Name o pz] kt pt] (.Tuple [a, b, c] k2 pt2) pos.line X.env = pure false := by rfl) : SDs X (.Assign [.Tuple [.Name n px, .Name m py, .Name o pz] kt pt] (.Tuple [a, b, c] k2 pt2) pos :: rest) ρ Pn Pr :=
  sds_cons (P1 := fun ρ' => ρ' = ((ρ1.set i (some (.d da))).set j (some (.d db))).set l (some (.d dc))) (fun F0 H0 F H σ s D qn qr => wS_of (ps_par3 hc hN hi hj hl hij hil hjl hx hy hz pa_w hw hs) (ha _ _ _ _ _ s _ fun vs F1 H1 s1 e1 d1 => by
    obtain ⟨v, r, rfl, g1, g2⟩ := dens_cons' d1
    obtain ⟨u, r, rfl, g3, g4⟩ := dens_cons' g2
    obtain ⟨z, r, rfl, g5, g6⟩ := dens_cons' g4
    obtain rfl := dens_nil' g6
    exact ⟨v, u, z, rfl, qn _ F1 H1 _ rfl (((s1.setD g1).setD g3).setD g5) e1⟩)) fun ρ2 e2 => by
    rw [e2]
    exact k
theorem ed_neg {i : Int} (h : ED X a ρ (.int i) ρ1) : ED X (.UnaryOp .USub a pos) ρ (.int (-i)) ρ1 := fun F0 H0 F H σ s Q q =>
  wE_of (pe_un un_neg pe_w) (h _ _ _ _ _ s _ fun v F1 H1 s1 e1 d1 => ⟨i, den_int d1, q _ F1 H1 s1 e1 mk_int⟩)
theorem rng_get {α : Type} {n i : Nat} {f : Nat → α} {d : α} (h : ((List.range n).map f)[i]? = some d) : i < n ∧ d = f i := by
  rw [List.getElem?_map] at h
  by_cases hi : i < n
  · rw [List.getElem?_range hi] at h
    exact ⟨hi, (Option.some.inj h).symm⟩
  · rw [List.getElem?_eq_none (by simpa using hi)] at h
    cases h
theorem map_get {α β : Type} {xs : List α} {i : Nat} {f : α → β} {d : β} (h : (xs.map f)[i]? = some d) : ∃ x, xs[i]? = some x ∧ d = f x := by
  rw [List.getElem?_map] at h
  cases hx : xs[i]? with
  | none => rw [hx] at h; cases h
  | some x => rw [hx] at h; exact ⟨x, rfl, (Option.some.inj h).symm⟩
theorem atI_nat {α : Type} {xs : List α} {n : Nat} {d : α} (h : xs[n]? = some d) : atI xs (n : Int) = some d := by
  obtain ⟨hn, _⟩ := List.getElem?_eq_some_iff.mp h
  unfold atI ixN
  rw [if_pos (by omega), if_pos (by omega)]
  simpa using h
theorem atI_map {α β : Type} {xs : List α} {f : α → β} {n : Nat} {x : α} (h : xs[n]? = some x) : atI (xs.map f) (n : Int) = some (f x) := atI_nat (by rw [List.getElem?_map, h]; rfl)
theorem zip_get {α β : Type} {xs : List α} {ys : List β} {i : Nat} {q : α × β} (h : (xs.zip ys)[i]? = some q) : xs[i]? = some q.1 ∧ ys[i]? = some q.2 := List.getElem?_zip_eq_some.mp h
theorem zipIdx_get {α : Type} {xs : List α} {i : Nat} {q : α × Nat} (h : xs.zipIdx[i]? = some q) : xs[i]? = some q.1 ∧ q.2 = i := by
  rw [List.getElem?_zipIdx] at h
  cases hx : xs[i]? with
  | none => rw [hx] at h; cases h
  | some x =>
    rw [hx] at h
    obtain rfl := Option.some.inj h
    exact ⟨rfl, Nat.zero_add i⟩
theorem take_snoc {α : Type} {xs : List α} {i : Nat} {x : α} (h : xs[i]? = some x) : xs.take (i + 1) = xs.take i ++ [x] := by rw [List.take_add_one, h]; rfl
/-- the word is among the words -/
theorem inV_words (o : Bool) : ∀ bs : List Bool, inV (V.str (wordOf o)) ((bs.map fun b => D.str (wordOf b)).map vOf) = bs.any (· == o)
  | [] => rfl
  | b :: bs => by
    have := inV_words o bs
    unfold inV at this ⊢
    rw [List.map_cons, List.map_cons, List.any_cons, List.any_cons, this]
    congr 1
    cases b <;> cases o <;> rfl
theorem flat_words (bs : List Bool) : (bs.map fun b => D.str (wordOf b)).all flatD = true := by
  rw [List.all_map]
  exact List.all_eq_true.mpr fun _ _ => rfl
theorem inV_ints (i : Int) : ∀ ns : List Int, inV (V.int i) ((ns.map D.int).map vOf) = ns.contains i
  | [] => rfl
  | n :: ns => by
    have := inV_ints i ns
    unfold inV at this ⊢
    rw [List.map_cons, List.map_cons, List.any_cons, this, List.contains_cons]
    congr 1
    show (n == i) = (i == n)
    exact BEq.comm
theorem flat_ints (ns : List Int) : (ns.map D.int).all flatD = true := by
  rw [List.all_map]
  exact List.all_eq_true.mpr fun _ _ => rfl
theorem getD_some {α : Type} {xs : List α} {n : Nat} {d : α} (h : n < xs.length) : xs[n]? = some (xs.getD n d) := by
  rw [List.getD_eq_getElem?_getD, List.getElem?_eq_getElem h]
  rfl
theorem ed_tu {es : List Expr} {k} {ds : List D} (h : AD X es ρ ds ρ1) (hl : Nat.ble ds.length 100000 = true := by rfl) : ED X (.Tuple es k pos) ρ (.tup ds) ρ1 := ed_tup h (Nat.le_of_ble_eq_true hl)
theorem ed_li {es : List Expr} {ds : List D} (h : AD X es ρ ds ρ1) (hl : Nat.ble ds.length 100000 = true := by rfl) : ED X (.List es pos) ρ (.lst ds) ρ1 := ed_lst h (Nat.le_of_ble_eq_true hl)
theorem nd_li {es : List Expr} {ds : List D} (h : AD X es ρ ds ρ1) (hl : Nat.ble ds.length 100000 = true := by rfl) : ND X (.List es pos) ρ (.lst ds) ρ1 := nd_lst h (Nat.le_of_ble_eq_true hl)
theorem room64 {k : Nat} {A : Around} (r : Room k A) : A.units + 64 < cLine := by have := r.un; omega
theorem room1 {k : Nat} {A : Around} (r : Room k A) : A.units + 1 < cLine := by have := r.un; omega
end
end Mf
/-! what each def tells of what -/
namespace Mf
open PySem PySem.Spec PyProof.Rows L2
def R_is_within (ds : List D) (d : D) : Prop := ∃ i a b : Int, ds = [.int i, .int a, .int b] ∧ d = .bl (decide (a ≤ i) && decide (i ≤ b))
def R_is_upto (ds : List D) (d : D) : Prop := ∃ i a : Int, ds = [.int i, .int a] ∧ d = .bl (decide (0 ≤ i) && decide (i ≤ a - 1))
def R_are_within (ds : List D) (d : D) : Prop := ∃ (xs : List Int) (bs : List (Int × Int)), ds = [encT xs, .tup (bs.map encP)] ∧ xs.length = bs.length ∧ xs.length ≤ 100 ∧ (∀ q ∈ xs.zip bs, q.2.1 ≤ q.1 ∧ q.1 ≤ q.2.2) ∧ d = .bl true
def R_is_main (ds : List D) (d : D) : Prop := ∃ p : Plant, p.Ok ∧ ds = [encM p] ∧ d = .bl true
def R_is_plant (ds : List D) (d : D) : Prop := ∃ p : Plant, p.Ok ∧ ds = [encPl p] ∧ d = .bl true
def R_is_fault (ds : List D) (d : D) : Prop := ∃ (p : Plant) (s : Story) (f : Fault), s.Ok p ∧ f ∈ s.faults ∧ ds = [.int (p.boilers.length : Nat), .int (s.extra.length : Nat), encF f] ∧ d = .bl true
def R_is_story_of (ds : List D) (d : D) : Prop := ∃ (p : Plant) (s : Story), s.Ok p ∧ ds = [encPl p, encS s] ∧ d = .bl true
def R_need_plant (ds : List D) (d : D) : Prop := ∃ p : Plant, p.Ok ∧ ds = [encPl p] ∧ d = .non
def R_need_story (ds : List D) (d : D) : Prop := ∃ (p : Plant) (s : Story), p.Ok ∧ s.Ok p ∧ ds = [encPl p, encS s] ∧ d = .non
def R_cap_at (ds : List D) (d : D) : Prop := ∃ (p : Plant) (s : Story) (h b : Nat), s.Ok p ∧ b < p.boilers.length ∧ ds = [encPl p, encS s, .int h, .int b] ∧ d = .int (capAt p s h b)
def R_caps_by (ds : List D) (d : D) : Prop := ∃ (p : Plant) (s : Story), p.Ok ∧ s.Ok p ∧ ds = [encPl p, encS s] ∧ d = encR (capsBy p s)
def R_draws_by (ds : List D) (d : D) : Prop := ∃ (p : Plant) (s : Story), p.Ok ∧ s.Ok p ∧ ds = [encPl p, encS s] ∧ d = encT (drawsBy p s)
def R_is_row_of (ds : List D) (d : D) : Prop := ∃ caps row : List Int, rowOk caps row = true ∧ caps.length ≤ 100 ∧ ds = [encT caps, encT row] ∧ d = .bl true
def R_is_firing_of (ds : List D) (d : D) : Prop := ∃ (p : Plant) (s : Story) (fi : List (List Int)), p.Ok ∧ s.Ok p ∧ firingOk (capsBy p s) fi = true ∧ ds = [encPl p, encS s, encR fi] ∧ d = .bl true
def R_need_firing (ds : List D) (d : D) : Prop := ∃ (p : Plant) (s : Story) (fi : List (List Int)), p.Ok ∧ s.Ok p ∧ firingOk (capsBy p s) fi = true ∧ ds = [encPl p, encS s, encR fi] ∧ d = .non
def enc4 (q : Int × Int × Int × Int) : D := .tup [.int q.1, .int q.2.1, .int q.2.2.1, .int q.2.2.2]
def encFall : Option (Nat × Int) → D
  | none => .non
  | some q => .tup [.int (q.1 : Nat), .int q.2]
def encRun (r : List (Int × Int × Int × Int) × Option (Nat × Int)) : D := .tup [.lst (r.1.map enc4), encFall r.2]
def R_day_run (ds : List D) (d : D) : Prop := ∃ (p : Plant) (draws : List Int) (fi : List (List Int)), draws.length = fi.length ∧ fi.length ≤ 100 ∧ ds = [encM p, encT draws, encR fi] ∧ d = encRun (dayRun p.low p.high 0 p.start (draws.zip fi))
def R_run_of (ds : List D) (d : D) : Prop := ∃ (p : Plant) (s : Story) (fi : List (List Int)), p.Ok ∧ s.Ok p ∧ (drawsBy p s).length = fi.length ∧ ds = [encPl p, encS s, encR fi] ∧ d = encRun (dayRun p.low p.high 0 p.start ((drawsBy p s).zip fi))
def R_does_keep_up (ds : List D) (d : D) : Prop := ∃ (p : Plant) (s : Story) (fi : List (List Int)), p.Ok ∧ s.Ok p ∧ (drawsBy p s).length = fi.length ∧ ds = [encPl p, encS s, encR fi] ∧ d = .bl (keepsUp p (drawsBy p s) fi)
def R_coal_in (ds : List D) (d : D) : Prop := ∃ (p : Plant) (fi : List (List Int)), p.Ok ∧ fi.length ≤ 100 ∧ ds = [encPl p, encR fi] ∧ d = .int (coalIn p fi)
def R_coal_of (ds : List D) (d : D) : Prop := ∃ (p : Plant) (s : Story) (fi : List (List Int)), p.Ok ∧ s.Ok p ∧ firingOk (capsBy p s) fi = true ∧ ds = [encPl p, encS s, encR fi] ∧ d = .int (coalIn p fi)
def R_steam_by (ds : List D) (d : D) : Prop := ∃ (p : Plant) (s : Story) (fi : List (List Int)), p.Ok ∧ s.Ok p ∧ firingOk (capsBy p s) fi = true ∧ ds = [encPl p, encS s, encR fi] ∧ d = encT (steamBy p fi)
/-- what is short-tested -/
structure Hrs (caps : List (List Int)) (draws : List Int) : Prop where
  l : caps.length = draws.length
  m : draws.length ≤ 100
def R_is_short (ds : List D) (d : D) : Prop := ∃ (p : Plant) (caps : List (List Int)) (draws : List Int) (a b : Nat), Hrs caps draws ∧ a ≤ b ∧ b < draws.length ∧ ds = [encM p, encR caps, encT draws, .int (a : Nat), .int (b : Nat)] ∧ d = .bl (isShort p.low p.high p.start caps draws a b)
def encO : Option (Nat × Nat) → D
  | none => .non
  | some q => .tup [.int (q.1 : Nat), .int (q.2 : Nat)]
def R_short_by (ds : List D) (d : D) : Prop := ∃ (p : Plant) (caps : List (List Int)) (draws : List Int), Hrs caps draws ∧ ds = [encM p, encR caps, encT draws] ∧ d = encO (shortBy p caps draws)
def R_is_stretch (ds : List D) (d : D) : Prop := ∃ (p : Plant) (caps : List (List Int)) (draws : List Int) (a b : Nat), Hrs caps draws ∧ a ≤ b ∧ b < draws.length ∧ ds = [encM p, encR caps, encT draws, encO (some (a, b))] ∧ d = .bl (isShort p.low p.high p.start caps draws a b)
def encL (r : List Int) : D := .lst (r.map .int)
def R_coals_of (ds : List D) (d : D) : Prop := ∃ p : Plant, p.Ok ∧ ds = [encPl p] ∧ d = encL (coalsOf p)
/-- the boilers in the order of their coal -/
def ord (coals : List Int) : List (Int × Int) := sortP (idxP coals)
structure Cls (coals : List Int) : Prop where
  l : coals.length ≤ 100
  b : ∀ c ∈ coals, 0 ≤ c ∧ c ≤ 100
def R_row_made (ds : List D) (d : D) : Prop := ∃ (coals caps : List Int) (a : Int), Cls coals ∧ coals.length = caps.length ∧ ds = [encL coals, encT caps, .int a] ∧ d = encT (rowMadeBy (ord coals) caps a)
def R_row_coal (ds : List D) (d : D) : Prop := ∃ (coals row : List Int), Cls coals ∧ ds = [encL coals, encT row] ∧ d = .int (rowCoal coals row)
def encDc (d : Dct) : D := .dic (d.map fun q => q.1) (d.map fun q => encP q.2)
def encS2 : Option (Int × Int) → D
  | none => .non
  | some q => encP q
def R_best_step (ds : List D) (d : D) : Prop := ∃ (p : Plant) (costs : List Int) (later : Dct) (here draw : Int), costs.length ≤ 10000 ∧ ds = [encL costs, encDc later, .int here, .int draw, encM p] ∧ d = encS2 (bestStep costs later here draw p.high)
/-- what is planned on -/
structure Pln (p : Plant) (caps : List (List Int)) (draws : List Int) : Prop where
  l : caps.length = draws.length
  h1 : 1 ≤ draws.length
  m : draws.length ≤ 100
  r : ∀ row ∈ caps, row.length = p.boilers.length ∧ 0 ≤ row.sum ∧ row.sum ≤ 1000
def R_steps_by (ds : List D) (d : D) : Prop := ∃ (p : Plant) (caps : List (List Int)) (draws : List Int), p.Ok ∧ Pln p caps draws ∧ ds = [encL (coalsOf p), encR caps, encT draws, encM p] ∧
  d = .lst ((List.range draws.length).map fun i => encDc (dictOf (ord (coalsOf p)) (coalsOf p) p.low p.high ((caps.zip draws).drop (draws.length - 1 - i))))
def encPn : Option (Int × List (List Int)) → D
  | none => .non
  | some q => .tup [.int q.1, encR q.2]
def R_plan_by (ds : List D) (d : D) : Prop := ∃ (p : Plant) (caps : List (List Int)) (draws : List Int), p.Ok ∧ Pln p caps draws ∧ ds = [encL (coalsOf p), encR caps, encT draws, encM p] ∧ d = encPn (planBy (ord (coalsOf p)) p caps draws)
def planAll (p : Plant) (s : Story) : Option (Int × List (List Int)) := planBy (ord (coalsOf p)) p (capsBy p s) (drawsBy p s)
def planFor (p : Plant) (s : Story) (ch : List Int) : Option (Int × List (List Int)) := planOf (ord (coalsOf p)) p s ch
def R_best_plan (ds : List D) (d : D) : Prop := ∃ (p : Plant) (s : Story), p.Ok ∧ s.Ok p ∧ ds = [encPl p, encS s] ∧ d = encPn (planAll p s)
def R_cheapest (ds : List D) (d : D) : Prop := ∃ (p : Plant) (s : Story) (a b : Nat), p.Ok ∧ s.Ok p ∧ planAll p s = none ∧ shortBy p (capsBy p s) (drawsBy p s) = some (a, b) ∧ ds = [encPl p, encS s] ∧ d = .tup [.str "short", .int (a : Nat), .int (b : Nat)]
def encC : Option (Int × List (List Int)) → D
  | none => .non
  | some q => .int q.1
def R_least_coal (ds : List D) (d : D) : Prop := ∃ (p : Plant) (s : Story), p.Ok ∧ s.Ok p ∧ ds = [encPl p, encS s] ∧ d = encC (planAll p s)
def R_caps_alone (ds : List D) (d : D) : Prop := ∃ (p : Plant) (s : Story) (ch : List Int), p.Ok ∧ s.Ok p ∧ ds = [encPl p, encS s, encT ch] ∧ d = encR (capsAlone (capsBy p s) ch)
def R_plan_alone (ds : List D) (d : D) : Prop := ∃ (p : Plant) (s : Story) (ch : List Int), p.Ok ∧ s.Ok p ∧ ds = [encPl p, encS s, encT ch] ∧ d = encPn (planFor p s ch)
def R_sets_of (ds : List D) (d : D) : Prop := ∃ many size : Nat, many ≤ 4 ∧ size ≤ 4 ∧ ds = [.int (many : Nat), .int (size : Nat)] ∧ d = .lst ((setsOf many size).map encT)
def R_short_alone (ds : List D) (d : D) : Prop := ∃ (p : Plant) (s : Story) (ch : List Int), p.Ok ∧ s.Ok p ∧ ds = [encPl p, encS s, encT ch] ∧ d = encO (shortOf p s ch)
def R_shows_below (ds : List D) (d : D) : Prop := ∃ (p : Plant) (s : Story) (size : Nat), p.Ok ∧ s.Ok p ∧ size ≤ 4 ∧ ds = [encPl p, encS s, .int (size : Nat)] ∧ d = .tup ((showsOf p s size).map encO)
def foundSet (p : Plant) (s : Story) : Option (Nat × List Int) := (allSets p.boilers.length).find? fun q => (planFor p s q.2).isSome
def encFw (p : Plant) (s : Story) : D := match foundSet p s with
  | some q => .tup [.str "lit", encT q.2, encR ((planFor p s q.2).getD (0, [])).2, .tup ((showsOf p s q.1).map encO)]
  | none => .tup [.str "short", .int (((shortOf p s (upTo p.boilers.length)).getD (0, 0)).1 : Nat), .int (((shortOf p s (upTo p.boilers.length)).getD (0, 0)).2 : Nat)]
def R_fewest (ds : List D) (d : D) : Prop := ∃ (p : Plant) (s : Story), p.Ok ∧ s.Ok p ∧ (foundSet p s = none → (shortOf p s (upTo p.boilers.length)).isSome = true) ∧ ds = [encPl p, encS s] ∧ d = encFw p s
/-- a set of boilers, written in order -/
structure SetOk (many : Nat) (ch : List Int) : Prop where
  l : ch.length ≤ 4
  b : ∀ c ∈ ch, 0 ≤ c ∧ c < many
  u : ch.Pairwise (· < ·)
def R_is_set (ds : List D) (d : D) : Prop := ∃ (many : Nat) (ch : List Int), SetOk many ch ∧ ds = [.int (many : Nat), encT ch] ∧ d = .bl true
def onlyWith (ch : List Int) (fi : List (List Int)) : Prop := ∀ row ∈ fi, ∀ q ∈ row.zipIdx, q.1 = 0 ∨ ((q.2 : Nat) : Int) ∈ ch
def R_does_with (ds : List D) (d : D) : Prop := ∃ (p : Plant) (s : Story) (ch : List Int) (fi : List (List Int)), p.Ok ∧ s.Ok p ∧ firingOk (capsBy p s) fi = true ∧ keepsUp p (drawsBy p s) fi = true ∧ onlyWith ch fi ∧ ds = [encPl p, encS s, encT ch, encR fi] ∧ d = .bl true
/-- a true showing that a set will not do -/
def ShowOk (p : Plant) (s : Story) (ch : List Int) (o : Option (Nat × Nat)) : Prop := ∃ a b, o = some (a, b) ∧ a ≤ b ∧ b < (drawsBy p s).length ∧ isShort p.low p.high p.start (capsAlone (capsBy p s) ch) (drawsBy p s) a b = true
def R_are_shows (ds : List D) (d : D) : Prop := ∃ (p : Plant) (s : Story) (size : Nat), p.Ok ∧ s.Ok p ∧ size ≤ 4 ∧ (∀ n, size = n + 1 → ∀ ch ∈ setsOf p.boilers.length n, ShowOk p s ch (shortOf p s ch)) ∧ ds = [encPl p, encS s, .int (size : Nat), .tup ((showsOf p s size).map encO)] ∧ d = .bl true
/-- what the paper of fewest says -/
inductive Fws (p : Plant) (s : Story) : D → Prop where
  | short (a b : Nat) (h1 : a ≤ b) (h2 : b < (drawsBy p s).length) (h3 : isShort p.low p.high p.start (capsBy p s) (drawsBy p s) a b = true) : Fws p s (.tup [.str "short", .int (a : Nat), .int (b : Nat)])
  | lit (size : Nat) (ch : List Int) (fi : List (List Int)) (h1 : SetOk p.boilers.length ch) (h2 : ch.length = size) (h3 : firingOk (capsBy p s) fi = true) (h4 : keepsUp p (drawsBy p s) fi = true) (h5 : onlyWith ch fi) (h6 : ∀ n, size = n + 1 → ∀ ch ∈ setsOf p.boilers.length n, ShowOk p s ch (shortOf p s ch)) : Fws p s (.tup [.str "lit", encT ch, encR fi, .tup ((showsOf p s size).map encO)])
def R_fewest_holds (ds : List D) (d : D) : Prop := ∃ (p : Plant) (s : Story) (x : D), p.Ok ∧ s.Ok p ∧ Fws p s x ∧ ds = [encPl p, encS s, x] ∧ d = .bl true
def R_alone (ds : List D) (d : D) : Prop := ∃ (p : Plant) (s : Story) (ch : List Int), p.Ok ∧ s.Ok p ∧ SetOk p.boilers.length ch ∧ ds = [encPl p, encS s, encT ch] ∧ d = encC (planFor p s ch)
def R_needed (ds : List D) (d : D) : Prop := ∃ (p : Plant) (s : Story), p.Ok ∧ s.Ok p ∧ ds = [encPl p, encS s] ∧ d = encT (neededOf p s)
theorem find_flat {α β : Type} {f : α → List β} {p : β → Bool} {l : List α} {i : Nat} {x : α} {y : β} (h : ((l.take i).flatMap f).find? p = none) (hx : l[i]? = some x) (hy : (f x).find? p = some y) : (l.flatMap f).find? p = some y := by
  obtain ⟨h1, h2⟩ := List.getElem?_eq_some_iff.mp hx
  have e : l = l.take i ++ x :: l.drop (i + 1) := by
    rw [← h2, ← List.drop_eq_getElem_cons h1, List.take_append_drop]
  rw [e, List.flatMap_append, List.flatMap_cons, List.find?_append, List.find?_append, h, hy]
  rfl
theorem find_flat0 {α β : Type} {f : α → List β} {p : β → Bool} {l : List α} {i : Nat} {x : α} (h : ((l.take i).flatMap f).find? p = none) (hx : l[i]? = some x) (hy : (f x).find? p = none) : ((l.take (i + 1)).flatMap f).find? p = none := by
  rw [take_snoc hx, List.flatMap_append, List.find?_append, h]
  simpa using hy
theorem find_at {β : Type} {p : β → Bool} {l : List β} {i : Nat} {x : β} (h : (l.take i).find? p = none) (hx : l[i]? = some x) (hp : p x = true) : l.find? p = some x := by
  obtain ⟨h1, h2⟩ := List.getElem?_eq_some_iff.mp hx
  have e : l = l.take i ++ x :: l.drop (i + 1) := by
    rw [← h2, ← List.drop_eq_getElem_cons h1, List.take_append_drop]
  rw [e, List.find?_append, h, List.find?_cons, hp]
  rfl
theorem find_at0 {β : Type} {p : β → Bool} {l : List β} {i : Nat} {x : β} (h : (l.take i).find? p = none) (hx : l[i]? = some x) (hp : p x = false) : (l.take (i + 1)).find? p = none := by
  rw [take_snoc hx, List.find?_append, h, List.find?_cons, hp]
  rfl
theorem ord_mem {coals : List Int} {q : Int × Int} (h : q ∈ ord coals) : ∃ k : Nat, k < coals.length ∧ q.2 = (k : Int) ∧ coals[k]? = some q.1 := by
  have h1 := (sortP_perm (idxP coals)).mem_iff.mp h
  unfold idxP at h1
  obtain ⟨z, hz, rfl⟩ := List.mem_map.mp h1
  obtain ⟨i, hi⟩ := List.mem_iff_getElem?.mp hz
  obtain ⟨h2, h3⟩ := zipIdx_get hi
  exact ⟨z.2, by rw [h3]; exact (List.getElem?_eq_some_iff.mp h2).1, rfl, by rw [h3]; exact h2⟩
theorem dicAt_look (d : Dct) (k : Int) : dicAt (d.map fun q => q.1) (d.map fun q => encP q.2) k = (look d k).map encP := by
  induction d with
  | nil => rfl
  | cons q d ih =>
    unfold look at ih ⊢
    rw [List.map_cons, List.map_cons, List.find?_cons]
    unfold dicAt
    by_cases h : q.1 = k
    · rw [if_pos h, decide_eq_true h]
      rfl
    · rw [if_neg h, decide_eq_false h]
      exact ih
theorem caps_len {p : Plant} {s : Story} : (capsBy p s).length = s.extra.length := by unfold capsBy; simp
theorem draws_len {p : Plant} {s : Story} : (drawsBy p s).length = s.extra.length := by unfold drawsBy; simp
theorem caps_row {p : Plant} {s : Story} {row : List Int} (h : row ∈ capsBy p s) : row.length = p.boilers.length := by
  unfold capsBy at h
  obtain ⟨x, _, rfl⟩ := List.mem_map.mp h
  simp
theorem firing_len {p : Plant} {s : Story} {fi : List (List Int)} (h : firingOk (capsBy p s) fi = true) : fi.length = s.extra.length := by
  unfold firingOk at h
  simp only [Bool.and_eq_true, decide_eq_true_eq] at h
  rw [h.1, caps_len]
theorem zip_mem_r {α β : Type} {xs : List α} {ys : List β} {y : β} (hl : xs.length = ys.length) (h : y ∈ ys) : ∃ x, (x, y) ∈ xs.zip ys := by
  obtain ⟨i, hi⟩ := List.mem_iff_getElem?.mp h
  obtain ⟨hi', _⟩ := List.getElem?_eq_some_iff.mp hi
  exact ⟨xs[i]'(by omega), List.mem_iff_getElem?.mpr ⟨i, List.getElem?_zip_eq_some.mpr ⟨List.getElem?_eq_getElem _, hi⟩⟩⟩
theorem firing_row {p : Plant} {s : Story} {fi : List (List Int)} (h : firingOk (capsBy p s) fi = true) {row : List Int} (hr : row ∈ fi) : row.length = p.boilers.length := by
  unfold firingOk at h
  simp only [Bool.and_eq_true, decide_eq_true_eq, List.all_eq_true] at h
  obtain ⟨c, hc⟩ := zip_mem_r h.1.symm hr
  have := h.2 _ hc
  unfold rowOk at this
  simp only [Bool.and_eq_true, decide_eq_true_eq] at this
  rw [this.1]
  exact caps_row (List.of_mem_zip hc).1
end Mf
/-! the walks: kinds -/
namespace Mf
open PySem PySem.Spec PyProof.Rows L2
section
variable {P : Program} {w : World} {K : PySem.W.Frag} {mg : Str → Option Value} {base : Heap}
theorem c_is_within (B : Bi K mg) (F : Fd K mg "is_within" s_is_within) : C8.Cal P w K mg base 1 "is_within" (spD K R_is_within) [] := by
  refine cal_of F sc_is_within (by decide) bd_is_within (fun ds d ⟨i, a, b, e, _⟩ => by rw [e]; rfl) fun ds d f cdv A outer s H E h hr => ?_
  obtain ⟨i, a, b, rfl, rfl⟩ := h
  refine sds_ret (ed_and (k := true) (ed_callB rfl B.isinstance rfl (ad_cons (ed_var 0) (ad_cons (ed_ty B.int rfl) ad_nil)) (call_isiD rfl)) fun _ => ed_and (k := true) (ed_not (k := false) (ed_callB rfl B.isinstance rfl (ad_cons (ed_var 0) (ad_cons (ed_ty B.bool rfl) ad_nil)) (call_isiD rfl))) fun _ => ed_one (ed_le3 (ed_var 1) (ed_var 0) fun _ => ed_var 2)) rfl
theorem c_is_upto (c : C8.Cal P w K mg base 1 "is_within" (spD K R_is_within) []) (B : Bi K mg) (F : Fd K mg "is_upto" s_is_upto) : C8.Cal P w K mg base 2 "is_upto" (spD K R_is_upto) [] := by
  refine cal_of F sc_is_upto (by decide) bd_is_upto (fun ds d ⟨i, a, e, _⟩ => by rw [e]; rfl) fun ds d f cdv A outer s H E h hr => ?_
  obtain ⟨i, a, rfl, rfl⟩ := h
  exact sds_ret (ed_call c hr (by decide) rfl (ad_cons (ed_var 0) (ad_cons ed_int (ad_cons (ed_bin (ed_var 1) ed_int bin_sub) ad_nil))) ⟨_, _, _, rfl, rfl⟩) rfl
theorem c_are_within (c : C8.Cal P w K mg base 1 "is_within" (spD K R_is_within) []) (B : Bi K mg) (F : Fd K mg "are_within" s_are_within) : C8.Cal P w K mg base 2 "are_within" (spD K R_are_within) [] := by
  refine cal_of F sc_are_within (by decide) bd_are_within (fun ds d ⟨i, a, e, _⟩ => by rw [e]; rfl) fun ds d f cdv A outer s H E h hr => ?_
  obtain ⟨xs, bs, rfl, hl, hlen, hq, rfl⟩ := h
  refine sds_skip (td_bool (wd_or (td_not (td_val (ed_isi true B.isinstance (ed_var 0) B.tuple))) fun _ => wd_or1 (td_cmp (ed_lenT B.len (ed_var 0)) (ed_lenT B.len (ed_var 1)) cmp_neI))) (by simp [hl]) ?_
  refine sds_ret (ed_allT B.all (ed_lc [("one", 2), ("least", 3), ("most", 4)] sc_are_within.nd (id_cast (id_zipTT B.zip (ad_cons (ed_var 0) (ad_cons (ed_var 1) ad_nil))) zipD_map) ?_ (by rw [List.length_zip]; omega)) (xs := xs.zip bs) (g := fun q => decide (q.2.1 ≤ q.1) && decide (q.1 ≤ q.2.2)) fun q hm => by simp [hq q hm]) rfl
  exact fun q hm => ⟨_, by rfl, fun s H C cl fp => ⟨gd_t12 2 3 4 sc_are_within.nd, ed_call c hr (by decide) rfl (ad_cons (ed_var 2) (ad_cons (ed_var 3) (ad_cons (ed_var 4) ad_nil))) ⟨_, _, _, rfl, rfl⟩⟩⟩
theorem c_is_main (c : C8.Cal P w K mg base 2 "are_within" (spD K R_are_within) []) (B : Bi K mg) (F : Fd K mg "is_main" s_is_main) : C8.Cal P w K mg base 3 "is_main" (spD K R_is_main) [] := by
  refine cal_of F sc_is_main (by decide) bd_is_main (fun ds d ⟨p, _, e, _⟩ => by rw [e]; rfl) fun ds d f cdv A outer s H E h hr => ?_
  obtain ⟨p, hp, rfl, rfl⟩ := h
  have h1 := hp.lo; have h2 := hp.hi; have h3 := hp.s1; have h4 := hp.s2
  refine sds_ret (ed_and (k := true) (ed_call c hr (by decide) rfl (ad_cons (ed_var 0) (ad_cons (ed_bin (ed_tup (ad_cons (ed_tup (ad_cons ed_int (ad_cons (ed_gint B.mMain) ad_nil))) ad_nil)) ed_int (bin_repT (n := 3) (by simp) (by decide) (by decide) (by decide))) ad_nil)) ⟨[p.low, p.high, p.start], [(0, 40), (0, 40), (0, 40)], rfl, rfl, by simp, ?_, rfl⟩) fun _ => ed_one (ed_le3 (ed_ix (ed_var 0) ed_int (ix_tupD rfl)) (ed_ix (ed_var 0) ed_int (ix_tupD rfl)) fun _ => (ed_ix (ed_var 0) ed_int (ix_tupD rfl)))) ?_
  · intro q hq
    simp at hq
    rcases hq with rfl | rfl | rfl <;> simp <;> omega
  · simp [h3, h4]
theorem c_is_plant (c : C8.Cal P w K mg base 2 "are_within" (spD K R_are_within) []) (c2 : C8.Cal P w K mg base 3 "is_main" (spD K R_is_main) []) (B : Bi K mg) (F : Fd K mg "is_plant" s_is_plant) : C8.Cal P w K mg base 4 "is_plant" (spD K R_is_plant) [] := by
  refine cal_of F sc_is_plant (by decide) bd_is_plant (fun ds d ⟨p, _, e, _⟩ => by rw [e]; rfl) fun ds d f cdv A outer s H E h hr => ?_
  obtain ⟨p, hp, rfl, rfl⟩ := h
  have b1 := hp.b1; have b4 := hp.b4; have e4 := hp.e4
  refine sds_skip (td_bool (wd_or (td_not (td_val (ed_isi true B.isinstance (ed_var 0) B.tuple))) fun _ => wd_or (td_cmp (ed_lenT B.len (ed_var 0)) ed_int cmp_neI) fun _ => wd_or1 (td_not (k := true) (td_val (ed_call c2 hr (by decide) rfl (ad_cons (ed_ix (ed_var 0) ed_int (ix_tupD rfl)) ad_nil) ⟨p, hp, rfl, rfl⟩))))) (by simp) ?_
  refine sds_asg (ed_cast (d2 := D.tup [.tup (p.boilers.map encP), .tup (p.engines.map encE)]) (ed_slT (ed_var 0) od_none (od_some ed_int)) (by rfl)) (gd_t2 1 2 sc_is_plant.nd) ?_
  refine sds_skip (td_bool (wd_or (td_not (td_val (ed_isi true B.isinstance (ed_var 1) B.tuple))) fun _ => wd_or1 (td_not (td_le3 ed_int (ed_lenT B.len (ed_var 1)) fun _ => ed_gint B.mBoil)))) (by simp; omega) ?_
  refine sds_skip (td_bool (wd_or (td_not (td_val (ed_isi true B.isinstance (ed_var 2) B.tuple))) fun _ => wd_or1 (td_cmp (ed_lenT B.len (ed_var 2)) (ed_gint B.mEng) cmp_gt))) (by simp; omega) ?_
  refine sds_skip (td_not (k := true) (td_val (ed_allT B.all (ed_lc [("one", 3)] sc_is_plant.nd (id_tup (ed_var 1)) ?_ (by omega)) (xs := p.boilers) (g := fun _ => true) fun _ _ => rfl))) rfl ?_
  · exact fun q hm => ⟨_, by rfl, fun s H C cl fp => ⟨gd_name 3 sc_is_plant.nd, ed_call c hr (by decide) rfl (ad_cons (ed_var 3) (ad_cons (ed_tup (ad_cons (ed_tup (ad_cons ed_int (ad_cons ed_int ad_nil))) (ad_cons (ed_tup (ad_cons ed_int (ad_cons ed_int ad_nil))) ad_nil))) ad_nil)) ⟨[q.1, q.2], [(1, 9), (1, 9)], rfl, rfl, by simp, by
      have := hp.bs q hm
      intro z hz
      simp at hz
      rcases hz with rfl | rfl <;> simp <;> omega, rfl⟩⟩⟩
  refine sds_ret (ed_allT B.all (ed_lc [("one", 3)] sc_is_plant.nd (id_tup (ed_var 2)) ?_ (by omega)) (xs := p.engines) (g := fun _ => true) fun _ _ => rfl) rfl
  exact fun q hm => ⟨_, by rfl, fun s H C cl fp => ⟨gd_name 3 sc_is_plant.nd, ed_call c hr (by decide) rfl (ad_cons (ed_var 3) (ad_cons (ed_tup (ad_cons (ed_tup (ad_cons ed_int (ad_cons ed_int ad_nil))) (ad_cons (ed_tup (ad_cons ed_int (ad_cons ed_int ad_nil))) (ad_cons (ed_tup (ad_cons ed_int (ad_cons ed_int ad_nil))) ad_nil)))) ad_nil)) ⟨[q.1, q.2.1, q.2.2], [(1, 9), (0, 7), (1, 8)], rfl, rfl, by simp, by
      have := hp.es q hm
      intro z hz
      simp at hz
      rcases hz with rfl | rfl | rfl <;> simp <;> omega, rfl⟩⟩⟩
theorem c_is_fault (c : C8.Cal P w K mg base 2 "is_upto" (spD K R_is_upto) []) (B : Bi K mg) (F : Fd K mg "is_fault" s_is_fault) : C8.Cal P w K mg base 3 "is_fault" (spD K R_is_fault) [] := by
  refine cal_of F sc_is_fault (by decide) bd_is_fault (fun ds d ⟨p, s, f, _, _, e, _⟩ => by rw [e]; rfl) fun ds d f cdv A outer s H E h hr => ?_
  obtain ⟨p, st, q, hs, hq, rfl, rfl⟩ := h
  have h1 := hs.fs q hq
  obtain ⟨ff, hm, ht⟩ := B.faults
  refine sds_skip (td_bool (wd_or (td_not (td_val (ed_isi true B.isinstance (ed_var 2) B.tuple))) fun _ => wd_or (td_cmp (ed_lenT B.len (ed_var 2)) ed_int cmp_neI) fun _ => wd_or (td_not (k := true) (td_val (ed_isi true B.isinstance (ed_ix (ed_var 2) ed_int (ix_tupD rfl)) B.str))) fun _ => wd_or1 (td_notInG hm ht rfl (ed_ix (ed_var 2) ed_int (ix_tupD rfl))))) ?_ ?_
  · cases q.2.1 <;> rfl
  refine sds_ret (ed_and (ed_call c hr (by decide) rfl (ad_cons (ed_ix (ed_var 2) ed_int (ix_tupD rfl)) (ad_cons (ed_var 0) ad_nil)) ⟨_, _, rfl, rfl⟩) fun _ => ed_and (ed_call c hr (by decide) rfl (ad_cons (ed_ix (ed_var 2) ed_int (ix_tupD rfl)) (ad_cons (ed_var 1) ad_nil)) ⟨_, _, rfl, rfl⟩) fun _ => ed_and (ed_call c hr (by decide) rfl (ad_cons (ed_ix (ed_var 2) ed_int (ix_tupD rfl)) (ad_cons (ed_var 1) ad_nil)) ⟨_, _, rfl, rfl⟩) fun _ => ed_one (ed_cmp (ed_ix (ed_var 2) ed_int (ix_tupD rfl)) (ed_ix (ed_var 2) ed_int (ix_tupD rfl)) cmp_le)) ?_
  simp
  omega
theorem c_is_story_of (c : C8.Cal P w K mg base 1 "is_within" (spD K R_is_within) []) (c2 : C8.Cal P w K mg base 3 "is_fault" (spD K R_is_fault) []) (B : Bi K mg) (F : Fd K mg "is_story_of" s_is_story_of) : C8.Cal P w K mg base 4 "is_story_of" (spD K R_is_story_of) [] := by
  refine cal_of F sc_is_story_of (by decide) bd_is_story_of (fun ds d ⟨p, s, _, e, _⟩ => by rw [e]; rfl) fun ds d f cdv A outer s H E h hr => ?_
  obtain ⟨p, st, hs, rfl, rfl⟩ := h
  have h1 := hs.h1; have h8 := hs.h8; have f4 := hs.f4
  refine sds_skip (td_bool (wd_or (td_not (td_val (ed_isi true B.isinstance (ed_var 1) B.tuple))) fun _ => wd_or (td_cmp (ed_lenT B.len (ed_var 1)) ed_int cmp_neI) fun _ => wd_or1 (td_not (k := true) (td_val (ed_isi true B.isinstance (ed_ix (ed_var 1) ed_int (ix_tupD rfl)) B.tuple))))) (by simp) ?_
  refine sds_skip (td_bool (wd_or (td_not (td_le3 ed_int (ed_lenT B.len (ed_ix (ed_var 1) ed_int (ix_tupD rfl))) fun _ => ed_gint B.mHours)) fun _ => wd_or1 (td_not (k := true) (td_val (ed_allT B.all (ed_lc [("one", 2)] sc_is_story_of.nd (id_tup (ed_ix (ed_var 1) ed_int (ix_tupD rfl))) ?_ (by omega)) (xs := st.extra) (g := fun x => decide (0 ≤ x) && decide (x ≤ 20)) fun x hx => by simp [hs.es x hx]))))) (by simp; omega) ?_
  · exact fun q hm => ⟨_, by rfl, fun s H C cl fp => ⟨gd_name 2 sc_is_story_of.nd, ed_call c hr (by decide) rfl (ad_cons (ed_var 2) (ad_cons ed_int (ad_cons (ed_gint B.mExtra) ad_nil))) ⟨_, _, _, rfl, rfl⟩⟩⟩
  refine sds_skip (td_bool (wd_or (td_not (td_val (ed_isi true B.isinstance (ed_ix (ed_var 1) ed_int (ix_tupD rfl)) B.tuple))) fun _ => wd_or1 (td_cmp (ed_lenT B.len (ed_ix (ed_var 1) ed_int (ix_tupD rfl))) (ed_gint B.mFaults) cmp_gt))) (by simp; omega) ?_
  refine sds_ret (ed_allT B.all (ed_lc [("one", 2)] sc_is_story_of.nd (id_tup (ed_ix (ed_var 1) ed_int (ix_tupD rfl))) ?_ (by omega)) (xs := st.faults) (g := fun _ => true) fun _ _ => rfl) rfl
  exact fun q hm => ⟨_, by rfl, fun s H C cl fp => ⟨gd_name 2 sc_is_story_of.nd, ed_call c2 hr (by decide) rfl (ad_cons (ed_lenT B.len (ed_ix (ed_var 0) ed_int (ix_tupD rfl))) (ad_cons (ed_lenT B.len (ed_ix (ed_var 1) ed_int (ix_tupD rfl))) (ad_cons (ed_var 2) ad_nil))) ⟨p, st, q, hs, hm, by simp [encS, encT], rfl⟩⟩⟩
theorem c_need_plant (c : C8.Cal P w K mg base 4 "is_plant" (spD K R_is_plant) []) (F : Fd K mg "need_plant" s_need_plant) : C8.Cal P w K mg base 5 "need_plant" (spD K R_need_plant) [] := by
  refine cal_of F sc_need_plant (by decide) bd_need_plant (fun ds d ⟨p, _, e, _⟩ => by rw [e]; rfl) fun ds d f cdv A outer s H E h hr => ?_
  obtain ⟨p, hp, rfl, rfl⟩ := h
  exact sds_skip (td_not (k := true) (td_val (ed_call c hr (by decide) rfl (ad_cons (ed_var 0) ad_nil) ⟨p, hp, rfl, rfl⟩))) rfl (sds_nil rfl)
theorem c_need_story (c : C8.Cal P w K mg base 5 "need_plant" (spD K R_need_plant) []) (c2 : C8.Cal P w K mg base 4 "is_story_of" (spD K R_is_story_of) []) (F : Fd K mg "need_story" s_need_story) : C8.Cal P w K mg base 6 "need_story" (spD K R_need_story) [] := by
  refine cal_of F sc_need_story (by decide) bd_need_story (fun ds d ⟨p, s, _, _, e, _⟩ => by rw [e]; rfl) fun ds d f cdv A outer s H E h hr => ?_
  obtain ⟨p, st, hp, hs, rfl, rfl⟩ := h
  refine sds_expr (ed_call c hr (by decide) rfl (ad_cons (ed_var 0) ad_nil) ⟨p, hp, rfl, rfl⟩) ?_
  exact sds_skip (td_not (k := true) (td_val (ed_call c2 hr (by decide) rfl (ad_cons (ed_var 0) (ad_cons (ed_var 1) ad_nil)) ⟨p, st, hs, rfl, rfl⟩))) rfl (sds_nil rfl)
end
end Mf
/-! the walks: caps, draws -/
namespace Mf
open PySem PySem.Spec PyProof.Rows L2
section
variable {P : Program} {w : World} {K : PySem.W.Frag} {mg : Str → Option Value} {base : Heap}
theorem c_cap_at (B : Bi K mg) (F : Fd K mg "cap_at" s_cap_at) : C8.Cal P w K mg base 1 "cap_at" (spD K R_cap_at) [] := by
  refine cal_of F sc_cap_at (by decide) bd_cap_at (fun ds d ⟨p, s, h, b, _, _, e, _⟩ => by rw [e]; rfl) fun ds d f cdv A outer s H E h hr => ?_
  obtain ⟨p, st, hh, b, hs, hb, rfl, rfl⟩ := h
  refine sds_setLcIf 4 [("number", 6), ("word", 7), ("first", 8), ("last", 9)] sc_cap_at.nd (id_tup (ed_ix (ed_var 1) ed_int (ix_tupD rfl))) (xs := st.faults) (enc := encF) (f := fun f => .str (wordOf f.2.1)) (p := faultOn hh b) ?_ (by have := hs.f4; omega) ?_
  · exact fun q hm => ⟨_, by rfl, fun s H C cl fp => ⟨gd_t4 6 7 8 9 sc_cap_at.nd, td_bool (wd_and (td_cmp (ed_var 6) (ed_var 3) cmp_eqI) fun _ => wd_and1 (td_le3 (ed_var 8) (ed_var 2) fun _ => ed_var 9)), fun _ => ed_var 7⟩⟩
  rw [show (st.faults.filter (faultOn hh b)).map (fun f => D.str (wordOf f.2.1)) = (wordsAt st hh b).map fun b => D.str (wordOf b) from by unfold wordsAt; rw [List.map_map]; rfl]
  have e1 := inV_words true (wordsAt st hh b)
  have e2 := inV_words false (wordsAt st hh b)
  refine sds_if (td_cmp (ed_str (i := wordOf true)) (ed_var 4) (cmp_inL rfl (flat_words _)) rfl) (fun h => ?_) fun h => sds_nil ?_
  · refine sds_ret ed_int ?_
    have h' := e1.symm.trans h
    unfold capAt
    rw [if_pos h']
  refine sds_set 5 sc_cap_at.nd (ed_ix (ed_ix (ed_ix (ed_var 0) ed_int (ix_tupD rfl)) (ed_var 3) (ix_tupD (atI_map (getD_some (d := (0, 0)) hb)))) ed_int (ix_tupD rfl)) ?_
  have h' : ¬ (wordsAt st hh b).any (· == true) = true := by
    rw [← e1]
    exact fun z => Bool.noConfusion (h.symm.trans z)
  refine sds_ret (d := .int (capAt p st hh b)) (ed_if (td_cmp (ed_str (i := wordOf false)) (ed_var 4) (cmp_inL rfl (flat_words _)) rfl) (fun g => ed_cast (ed_bin (ed_var 5) ed_int (bin_fdiv ⟨by decide, by decide⟩)) ?_) fun g => ed_cast (ed_var 5) ?_) rfl
  · have g' := e2.symm.trans g
    unfold capAt
    rw [if_neg h', if_pos g']
  · have g' : ¬ (wordsAt st hh b).any (· == false) = true := by
      rw [← e2]
      exact fun z => Bool.noConfusion (g.symm.trans z)
    unfold capAt
    rw [if_neg h', if_neg g']
theorem c_caps_by (c : C8.Cal P w K mg base 1 "cap_at" (spD K R_cap_at) []) (B : Bi K mg) (F : Fd K mg "caps_by" s_caps_by) : C8.Cal P w K mg base 2 "caps_by" (spD K R_caps_by) [] := by
  refine cal_of F sc_caps_by (by decide) bd_caps_by (fun ds d ⟨p, s, _, _, e, _⟩ => by rw [e]; rfl) fun ds d f cdv A outer s H E h hr => ?_
  obtain ⟨p, st, hp, hs, rfl, rfl⟩ := h
  have b4 := hp.b4; have h8 := hs.h8
  refine sds_setN 2 sc_caps_by.nd (nd_lst ad_nil) ?_
  refine sds_for (js := [3]) (fun i ρ => ∃ x, ρ = [some (.d (encPl p)), some (.d (encS st)), some (.own (.lst ((List.range i).map fun h => encT ((List.range p.boilers.length).map fun b => capAt p st h b)))), x, none]) (id_rng1 (n := st.extra.length) B.range (ad_cons (ed_cast (ed_lenT B.len (ed_ix (ed_var 1) ed_int (ix_tupD rfl))) ?_) ad_nil) (by omega)) ⟨none, rfl⟩ ?_ ?_
  · rw [List.length_map]
  · rintro i d ρ2 hd ⟨x, rfl⟩
    obtain ⟨hi, rfl⟩ := rng_get hd
    refine ⟨_, gd_name 3 sc_caps_by.nd, ?_⟩
    refine sds_expr (ed_append 2 (ed_cast (d2 := encT ((List.range p.boilers.length).map fun b => capAt p st i b)) (ed_tuple B.tuple (ed_lc [("boiler", 4)] sc_caps_by.nd (id_rng1 (n := p.boilers.length) B.range (ad_cons (ed_cast (ed_lenT B.len (ed_ix (ed_var 0) ed_int (ix_tupD rfl))) ?_) ad_nil) (by omega)) (xs := List.range p.boilers.length) (enc := fun b => .int (b : Nat)) (f := fun b => .int (capAt p st i b)) ?_ (by simp; omega))) (by unfold encT; rw [List.map_map]; rfl)) rfl rfl ?_) (sds_nil ?_)
    · rw [List.length_map]
    · exact fun b hb => ⟨_, by rfl, fun s H C cl fp => ⟨gd_name 4 sc_caps_by.nd, ed_call c hr (by decide) rfl (ad_cons (ed_var 0) (ad_cons (ed_var 1) (ad_cons (ed_var 3) (ad_cons (ed_var 4) ad_nil)))) ⟨p, st, i, b, hs, List.mem_range.mp hb, rfl, rfl⟩⟩⟩
    · simp; omega
    · rw [List.range_succ, List.map_append]
      exact ⟨_, rfl⟩
  · rintro ρ2 ⟨x, rfl⟩
    refine sds_frz 2 rfl ?_
    refine sds_ret (ed_tuple B.tuple (ed_var 2)) ?_
    unfold encR capsBy
    rw [List.map_map, List.length_map, List.length_range]
    rfl
theorem draws_take {p : Plant} {s : Story} {i : Nat} {q : Int × Nat} (h : s.extra.zipIdx[i]? = some q) : (drawsBy p s)[i]? = some (q.1 + drawAt p (i : Nat)) := by
  unfold drawsBy
  rw [List.getElem?_map, h, ← (zipIdx_get h).2]
  rfl
theorem c_draws_by (B : Bi K mg) (F : Fd K mg "draws_by" s_draws_by) : C8.Cal P w K mg base 1 "draws_by" (spD K R_draws_by) [] := by
  refine cal_of F sc_draws_by (by decide) bd_draws_by (fun ds d ⟨p, s, _, _, e, _⟩ => by rw [e]; rfl) fun ds d f cdv A outer s H E h hr => ?_
  obtain ⟨p, st, hp, hs, rfl, rfl⟩ := h
  have e4 := hp.e4; have h8 := hs.h8
  have hl : (drawsBy p st).length = st.extra.length := by unfold drawsBy; rw [List.length_map, List.length_zipIdx]
  refine sds_setN 2 sc_draws_by.nd (nd_lst ad_nil) ?_
  refine sds_for (js := [3, 4]) (fun i ρ => ∃ x y z, ρ = [some (.d (encPl p)), some (.d (encS st)), some (.own (.lst (((drawsBy p st).take i).map .int))), x, y, z, none, none, none]) (id_cast (id_enumT B.enumerate (ad_cons (ed_ix (ed_var 1) ed_int (ix_tupD rfl)) ad_nil)) enumD_map) ⟨none, none, none, rfl⟩ ?_ ?_
  · rintro i d ρ2 hd ⟨x, y, z, rfl⟩
    obtain ⟨q, hq, rfl⟩ := map_get hd
    have hd2 := draws_take (p := p) hq
    have hi := (zipIdx_get hq).2
    have hlt : i < st.extra.length := (List.getElem?_eq_some_iff.mp (zipIdx_get hq).1).1
    refine ⟨_, gd_t2 3 4 sc_draws_by.nd, ?_⟩
    refine sds_setLcIf 5 [("draw", 6), ("first", 7), ("every", 8)] sc_draws_by.nd (id_tup (ed_ix (ed_var 0) ed_int (ix_tupD rfl))) (xs := p.engines) (enc := encE) (f := fun e => .int e.1) (p := turnOn (q.2 : Nat)) ?_ (by omega) ?_
    · exact fun e he => ⟨_, by rfl, fun s H C cl fp => ⟨gd_t3 6 7 8 sc_draws_by.nd, td_bool (wd_and (td_cmp (ed_var 3) (ed_var 7) cmp_ge) fun _ => wd_and1 (td_cmp (ed_bin (ed_bin (ed_var 3) (ed_var 7) bin_sub) (ed_var 8) (bin_mod (by have := (hp.es e he).2.2.1; omega))) ed_int cmp_eqI)), fun _ => ed_var 6⟩⟩
    refine sds_expr (ed_append 2 (ed_bin (ed_var 4) (ed_sum B.sum (ed_var 5)) bin_add) rfl rfl ?_) (sds_nil ?_)
    · rw [List.length_map, List.length_take]; omega
    · rw [take_snoc hd2, List.map_append, ← hi]
      exact ⟨_, _, _, rfl⟩
  · rintro ρ2 ⟨x, y, z, rfl⟩
    refine sds_frz 2 rfl ?_
    refine sds_ret (ed_tuple B.tuple (ed_var 2)) ?_
    rw [List.length_map, List.length_zipIdx, ← hl, List.take_length]
    rfl
end
end Mf
/-! the walks: firings, days -/
namespace Mf
open PySem PySem.Spec PyProof.Rows L2
section
variable {P : Program} {w : World} {K : PySem.W.Frag} {mg : Str → Option Value} {base : Heap}
theorem c_is_row_of (c : C8.Cal P w K mg base 1 "is_within" (spD K R_is_within) []) (B : Bi K mg) (F : Fd K mg "is_row_of" s_is_row_of) : C8.Cal P w K mg base 2 "is_row_of" (spD K R_is_row_of) [] := by
  refine cal_of F sc_is_row_of (by decide) bd_is_row_of (fun ds d ⟨p, s, _, _, e, _⟩ => by rw [e]; rfl) fun ds d f cdv A outer s H E h hr => ?_
  obtain ⟨caps, row, hk, hl, rfl, rfl⟩ := h
  unfold rowOk at hk
  simp only [Bool.and_eq_true, decide_eq_true_eq, List.all_eq_true] at hk
  refine sds_skip (td_bool (wd_or (td_not (td_val (ed_isi true B.isinstance (ed_var 1) B.tuple))) fun _ => wd_or1 (td_cmp (ed_lenT B.len (ed_var 1)) (ed_lenT B.len (ed_var 0)) cmp_neI))) (by simp [hk.1]) ?_
  refine sds_ret (ed_allT B.all (ed_lc [("one", 2), ("cap", 3)] sc_is_row_of.nd (id_cast (id_zipTT B.zip (ad_cons (ed_var 1) (ad_cons (ed_var 0) ad_nil))) zipD_map) ?_ (by rw [List.length_zip]; omega)) (xs := row.zip caps) (g := fun q => decide (0 ≤ q.1) && decide (q.1 ≤ q.2)) fun q hq => ?_) rfl
  · exact fun q hm => ⟨_, by rfl, fun s H C cl fp => ⟨gd_t2 2 3 sc_is_row_of.nd, ed_call c hr (by decide) rfl (ad_cons (ed_var 2) (ad_cons ed_int (ad_cons (ed_var 3) ad_nil))) ⟨_, _, _, rfl, rfl⟩⟩⟩
  · have hq' : (q.2, q.1) ∈ caps.zip row := by
      obtain ⟨i, hi⟩ := List.mem_iff_getElem?.mp hq
      obtain ⟨h1, h2⟩ := zip_get hi
      exact List.mem_iff_getElem?.mpr ⟨i, List.getElem?_zip_eq_some.mpr ⟨h2, h1⟩⟩
    have := hk.2 _ hq'
    simp [this.1, this.2]
theorem c_is_firing_of (c : C8.Cal P w K mg base 2 "is_row_of" (spD K R_is_row_of) []) (c2 : C8.Cal P w K mg base 2 "caps_by" (spD K R_caps_by) []) (B : Bi K mg) (F : Fd K mg "is_firing_of" s_is_firing_of) : C8.Cal P w K mg base 3 "is_firing_of" (spD K R_is_firing_of) [] := by
  refine cal_of F sc_is_firing_of (by decide) bd_is_firing_of (fun ds d ⟨p, s, _, _, _, _, e, _⟩ => by rw [e]; rfl) fun ds d f cdv A outer s H E h hr => ?_
  obtain ⟨p, st, fi, hp, hs, hf, rfl, rfl⟩ := h
  have h8 := hs.h8; have b4 := hp.b4
  have cl := caps_len (p := p) (s := st)
  have hl := firing_len hf
  unfold firingOk at hf
  simp only [Bool.and_eq_true, decide_eq_true_eq, List.all_eq_true] at hf
  refine sds_set 3 sc_is_firing_of.nd (ed_call c2 hr (by decide) rfl (ad_cons (ed_var 0) (ad_cons (ed_var 1) ad_nil)) ⟨p, st, hp, hs, rfl, rfl⟩) ?_
  refine sds_skip (td_bool (wd_or (td_not (td_val (ed_isi true B.isinstance (ed_var 2) B.tuple))) fun _ => wd_or1 (td_cmp (ed_lenT B.len (ed_var 2)) (ed_lenT B.len (ed_var 3)) cmp_neI))) (by simp [hf.1]) ?_
  refine sds_ret (ed_allT B.all (ed_lc [("row", 4), ("one", 5)] sc_is_firing_of.nd (id_cast (id_zipTT B.zip (ad_cons (ed_var 3) (ad_cons (ed_var 2) ad_nil))) zipD_map) ?_ (by rw [List.length_zip]; omega)) (xs := (capsBy p st).zip fi) (g := fun _ => true) fun q hq => rfl) rfl
  exact fun q hm => ⟨_, by rfl, fun s H C cl fp => ⟨gd_t2 4 5 sc_is_firing_of.nd, ed_call c hr (by decide) rfl (ad_cons (ed_var 4) (ad_cons (ed_var 5) ad_nil)) ⟨q.1, q.2, hf.2 q hm, by rw [caps_row (List.of_mem_zip hm).1]; omega, rfl, rfl⟩⟩⟩
theorem c_need_firing (c : C8.Cal P w K mg base 6 "need_story" (spD K R_need_story) []) (c2 : C8.Cal P w K mg base 3 "is_firing_of" (spD K R_is_firing_of) []) (F : Fd K mg "need_firing" s_need_firing) : C8.Cal P w K mg base 7 "need_firing" (spD K R_need_firing) [] := by
  refine cal_of F sc_need_firing (by decide) bd_need_firing (fun ds d ⟨p, s, _, _, _, _, e, _⟩ => by rw [e]; rfl) fun ds d f cdv A outer s H E h hr => ?_
  obtain ⟨p, st, fi, hp, hs, hf, rfl, rfl⟩ := h
  refine sds_expr (ed_call c hr (by decide) rfl (ad_cons (ed_var 0) (ad_cons (ed_var 1) ad_nil)) ⟨p, st, hp, hs, rfl, rfl⟩) ?_
  exact sds_skip (td_not (k := true) (td_val (ed_call c2 hr (by decide) rfl (ad_cons (ed_var 0) (ad_cons (ed_var 1) (ad_cons (ed_var 2) ad_nil))) ⟨p, st, fi, hp, hs, hf, rfl, rfl⟩))) rfl (sds_nil rfl)
theorem dayRun_cons {low high : Int} {h : Nat} {here : Int} {q : Int × List Int} {rest : List (Int × List Int)} : dayRun low high h here (q :: rest) = if here + q.2.sum - q.1 < low then ([], some (h, low - (here + q.2.sum - q.1)))
    else ((q.2.sum, q.1, here + q.2.sum - q.1 - min (here + q.2.sum - q.1) high, min (here + q.2.sum - q.1) high) :: (dayRun low high (h + 1) (min (here + q.2.sum - q.1) high) rest).1, (dayRun low high (h + 1) (min (here + q.2.sum - q.1) high) rest).2) := rfl
theorem dayRun_nil {low high : Int} {h : Nat} {here : Int} : dayRun low high h here [] = ([], none) := rfl
theorem c_day_run (B : Bi K mg) (F : Fd K mg "day_run" s_day_run) : C8.Cal P w K mg base 1 "day_run" (spD K R_day_run) [] := by
  refine cal_of F sc_day_run (by decide) bd_day_run (fun ds d ⟨p, s, _, _, _, e, _⟩ => by rw [e]; rfl) fun ds d f cdv A outer s H E h hr => ?_
  obtain ⟨p, dw, fi, hl, hm, rfl, rfl⟩ := h
  refine sds_asg (ed_var 0) (gd_t3 3 4 5 sc_day_run.nd) ?_
  refine sds_setN 6 sc_day_run.nd (nd_lst ad_nil) ?_
  refine sds_for (js := [7, 8]) (fun i ρ => ∃ (here : Int) (rows : List (Int × Int × Int × Int)) (x y z u : Option Sl), rows.length = i ∧ dayRun p.low p.high 0 p.start (dw.zip fi) = (rows ++ (dayRun p.low p.high i here ((dw.zip fi).drop i)).1, (dayRun p.low p.high i here ((dw.zip fi).drop i)).2) ∧
    ρ = [some (.d (encM p)), some (.d (encT dw)), some (.d (encR fi)), some (.d (.int p.low)), some (.d (.int p.high)), some (.d (.int here)), some (.own (.lst (rows.map enc4))), x, y, z, u]) (id_cast (id_enumT B.enumerate (ad_cons (ed_var 1) ad_nil)) enumD_map) ⟨p.start, [], none, none, none, none, rfl, rfl, rfl⟩ ?_ ?_
  · rintro i d ρ2 hd ⟨here, rows, x, y, z, u, hrl, hrun, rfl⟩
    obtain ⟨q, hq, rfl⟩ := map_get hd
    obtain ⟨hq1, hq2⟩ := zipIdx_get hq
    have hi : i < dw.length := (List.getElem?_eq_some_iff.mp hq1).1
    have hrow := getD_some (d := ([] : List Int)) (xs := fi) (n := i) (by omega)
    have hz : (dw.zip fi)[i]? = some (q.1, fi.getD i []) := List.getElem?_zip_eq_some.mpr ⟨hq1, hrow⟩
    have hdr : (dw.zip fi).drop i = (q.1, fi.getD i []) :: (dw.zip fi).drop (i + 1) := by
      obtain ⟨hz1, hz2⟩ := List.getElem?_eq_some_iff.mp hz
      rw [List.drop_eq_getElem_cons hz1, hz2]
    rw [hdr, dayRun_cons] at hrun
    rw [hq2]
    refine ⟨_, gd_t2 7 8 sc_day_run.nd, ?_⟩
    refine sds_set 9 sc_day_run.nd (ed_sumT B.sum (ed_ix (ed_var 2) (ed_var 7) (ix_tupD (atI_map hrow)))) ?_
    refine sds_set 10 sc_day_run.nd (ed_bin (ed_bin (ed_var 5) (ed_var 9) bin_add) (ed_var 8) bin_sub) ?_
    refine sds_if (td_cmp (ed_var 10) (ed_var 3) cmp_lt) (fun h => ?_) fun h => sds_nil ?_
    · refine sds_frz 6 rfl ?_
      refine sds_ret (ed_tu (ad_cons (ed_var 6) (ad_cons (ed_tu (ad_cons (ed_var 7) (ad_cons (ed_bin (ed_var 3) (ed_var 10) bin_sub) ad_nil))) ad_nil))) ?_
      have h' : here + (fi.getD i []).sum - q.1 < p.low := by simpa using h
      simp only [if_pos h', List.append_nil] at hrun
      rw [hrun]
      rfl
    · have h' : ¬ here + (fi.getD i []).sum - q.1 < p.low := by simpa using h
      simp only [if_neg h'] at hrun
      refine sds_set 5 sc_day_run.nd (ed_callB rfl B.min rfl (ad_cons (ed_var 10) (ad_cons (ed_var 4) ad_nil)) call_min) ?_
      refine sds_expr (ed_append 6 (ed_tu (ad_cons (ed_var 9) (ad_cons (ed_var 8) (ad_cons (ed_bin (ed_var 10) (ed_var 5) bin_sub) (ad_cons (ed_var 5) ad_nil))))) rfl rfl ?_) (sds_nil ?_)
      · rw [List.length_map]; omega
      · have h1 : (rows ++ [((fi.getD i []).sum, q.1, here + (fi.getD i []).sum - q.1 - min (here + (fi.getD i []).sum - q.1) p.high, min (here + (fi.getD i []).sum - q.1) p.high)]).length = i + 1 := by rw [List.length_append, hrl]; rfl
        have h2 : ∀ (r : List (Int × Int × Int × Int)) q u, (rows ++ q :: r, u) = ((rows ++ [q]) ++ r, (u : Option (Nat × Int))) := fun r q u => by rw [List.append_assoc]; rfl
        rw [h2] at hrun
        exact ⟨min (here + (fi.getD i []).sum - q.1) p.high, _, _, _, _, _, h1, hrun, by rw [List.map_append]; rfl⟩
  · rintro ρ2 ⟨here, rows, x, y, z, u, hrl, hrun, rfl⟩
    refine sds_frz 6 rfl ?_
    refine sds_ret (ed_tu (ad_cons (ed_var 6) (ad_cons ed_non ad_nil))) ?_
    rw [List.drop_eq_nil_of_le (by rw [List.length_zip, List.length_map, List.length_zipIdx]; omega)] at hrun
    rw [dayRun_nil, List.append_nil] at hrun
    rw [hrun]
    rfl
theorem c_run_of (c : C8.Cal P w K mg base 1 "day_run" (spD K R_day_run) []) (c2 : C8.Cal P w K mg base 1 "draws_by" (spD K R_draws_by) []) (F : Fd K mg "run_of" s_run_of) : C8.Cal P w K mg base 2 "run_of" (spD K R_run_of) [] := by
  refine cal_of F sc_run_of (by decide) bd_run_of (fun ds d ⟨p, s, _, _, _, _, e, _⟩ => by rw [e]; rfl) fun ds d f cdv A outer s H E h hr => ?_
  obtain ⟨p, st, fi, hp, hs, hf, rfl, rfl⟩ := h
  have h8 := hs.h8
  have dl := draws_len (p := p) (s := st)
  exact sds_ret (ed_call c hr (by decide) rfl (ad_cons (ed_ix (ed_var 0) ed_int (ix_tupD rfl)) (ad_cons (ed_call c2 hr (by decide) rfl (ad_cons (ed_var 0) (ad_cons (ed_var 1) ad_nil)) ⟨p, st, hp, hs, rfl, rfl⟩) (ad_cons (ed_var 2) ad_nil))) ⟨p, drawsBy p st, fi, hf, by omega, rfl, rfl⟩) rfl
theorem c_does_keep_up (c : C8.Cal P w K mg base 2 "run_of" (spD K R_run_of) []) (F : Fd K mg "does_keep_up" s_does_keep_up) : C8.Cal P w K mg base 3 "does_keep_up" (spD K R_does_keep_up) [] := by
  refine cal_of F sc_does_keep_up (by decide) bd_does_keep_up (fun ds d ⟨p, s, _, _, _, _, e, _⟩ => by rw [e]; rfl) fun ds d f cdv A outer s H E h hr => ?_
  obtain ⟨p, st, fi, hp, hs, hf, rfl, rfl⟩ := h
  refine sds_ret (ed_cmp (ed_ix (ed_call c hr (by decide) rfl (ad_cons (ed_var 0) (ad_cons (ed_var 1) (ad_cons (ed_var 2) ad_nil))) ⟨p, st, fi, hp, hs, hf, rfl, rfl⟩) ed_int (ix_tupD rfl)) ed_non cmp_isN) ?_
  unfold keepsUp
  cases (dayRun p.low p.high 0 p.start ((drawsBy p st).zip fi)).2 <;> rfl
theorem coal_row {p : Plant} {row : List Int} : (row.zip p.boilers).map (fun q => q.1 * q.2.2) = (row.zip (coalsOf p)).map fun q => q.1 * q.2 := by
  unfold coalsOf
  rw [List.zip_map_right, List.map_map]
  rfl
theorem c_coal_in (B : Bi K mg) (F : Fd K mg "coal_in" s_coal_in) : C8.Cal P w K mg base 1 "coal_in" (spD K R_coal_in) [] := by
  refine cal_of F sc_coal_in (by decide) bd_coal_in (fun ds d ⟨p, s, _, _, e, _⟩ => by rw [e]; rfl) fun ds d f cdv A outer s H E h hr => ?_
  obtain ⟨p, fi, hp, hm, rfl, rfl⟩ := h
  have b4 := hp.b4
  refine sds_ret (ed_sum B.sum (ed_lc [("row", 2)] sc_coal_in.nd (id_tup (ed_var 1)) ?_ (by omega)) (xs := fi) (g := fun row => ((row.zip p.boilers).map fun q => q.1 * q.2.2).sum)) ?_
  · refine fun row hrow => ⟨_, by rfl, fun s H C cl fp => ⟨gd_name 2 sc_coal_in.nd, ed_sum B.sum (ed_lc [("steam", 3), ("make", 4), ("coal", 5)] sc_coal_in.nd (id_cast (id_zipTT B.zip (ad_cons (ed_var 2) (ad_cons (ed_ix (ed_var 0) ed_int (ix_tupD rfl)) ad_nil))) zipD_map) ?_ (by rw [List.length_zip]; omega)) (xs := row.zip p.boilers) (g := fun q => q.1 * q.2.2)⟩⟩
    exact fun q hq => ⟨_, by rfl, fun s H C cl fp => ⟨gd_t12 3 4 5 sc_coal_in.nd, ed_bin (ed_var 3) (ed_var 5) (bin_mul (.inr (by have := (hp.bs q.2 (List.of_mem_zip hq).2).2; omega)))⟩⟩
  · unfold coalIn rowCoal
    congr 2
    exact List.map_congr_left fun row _ => by rw [coal_row]
theorem c_coal_of (c : C8.Cal P w K mg base 7 "need_firing" (spD K R_need_firing) []) (c2 : C8.Cal P w K mg base 1 "coal_in" (spD K R_coal_in) []) (F : Fd K mg "coal_of" s_coal_of) : C8.Cal P w K mg base 8 "coal_of" (spD K R_coal_of) [] := by
  refine cal_of F sc_coal_of (by decide) bd_coal_of (fun ds d ⟨p, s, _, _, _, _, e, _⟩ => by rw [e]; rfl) fun ds d f cdv A outer s H E h hr => ?_
  obtain ⟨p, st, fi, hp, hs, hf, rfl, rfl⟩ := h
  have h8 := hs.h8; have hl := firing_len hf
  refine sds_expr (ed_call c hr (by decide) rfl (ad_cons (ed_var 0) (ad_cons (ed_var 1) (ad_cons (ed_var 2) ad_nil))) ⟨p, st, fi, hp, hs, hf, rfl, rfl⟩) ?_
  exact sds_ret (ed_call c2 hr (by decide) rfl (ad_cons (ed_var 0) (ad_cons (ed_var 2) ad_nil)) ⟨p, fi, hp, by omega, rfl, rfl⟩) rfl
theorem c_steam_by (c : C8.Cal P w K mg base 7 "need_firing" (spD K R_need_firing) []) (B : Bi K mg) (F : Fd K mg "steam_by" s_steam_by) : C8.Cal P w K mg base 8 "steam_by" (spD K R_steam_by) [] := by
  refine cal_of F sc_steam_by (by decide) bd_steam_by (fun ds d ⟨p, s, _, _, _, _, e, _⟩ => by rw [e]; rfl) fun ds d f cdv A outer s H E h hr => ?_
  obtain ⟨p, st, fi, hp, hs, hf, rfl, rfl⟩ := h
  have h8 := hs.h8; have hl := firing_len hf; have b4 := hp.b4
  refine sds_expr (ed_call c hr (by decide) rfl (ad_cons (ed_var 0) (ad_cons (ed_var 1) (ad_cons (ed_var 2) ad_nil))) ⟨p, st, fi, hp, hs, hf, rfl, rfl⟩) ?_
  refine sds_ret (ed_tuple B.tuple (ed_lc [("boiler", 3)] sc_steam_by.nd (id_rng1 (n := p.boilers.length) B.range (ad_cons (ed_cast (ed_lenT B.len (ed_ix (ed_var 0) ed_int (ix_tupD rfl))) ?_) ad_nil) (by omega)) (xs := List.range p.boilers.length) (enc := fun b => .int (b : Nat)) (f := fun b => .int ((fi.map fun row => row.getD b 0).sum)) ?_ (by simp; omega))) ?_
  · rw [List.length_map]
  · refine fun b hb => ⟨_, by rfl, fun s H C cl fp => ⟨gd_name 3 sc_steam_by.nd, ed_sum B.sum (ed_lc [("row", 4)] sc_steam_by.nd (id_tup (ed_var 2)) ?_ (by omega)) (xs := fi) (g := fun row => row.getD b 0)⟩⟩
    exact fun row hrow => ⟨_, by rfl, fun s H C cl fp => ⟨gd_name 4 sc_steam_by.nd, ed_ix (ed_var 4) (ed_var 3) (ix_tupD (atI_map (getD_some (by rw [firing_row hf hrow]; exact List.mem_range.mp hb))))⟩⟩
  · unfold encT steamBy
    rw [List.map_map]
    rfl
end
end Mf
/-! the walks: stretches, rows, steps -/
namespace Mf
open PySem PySem.Spec PyProof.Rows L2
section
variable {P : Program} {w : World} {K : PySem.W.Frag} {mg : Str → Option Value} {base : Heap}
theorem cutD_nat {α : Type} {xs : List α} {f : α → D} {a b : Nat} (h : a ≤ b) (hb : b < xs.length) : cutD (xs.map f) (some (a : Int)) (some ((b : Int) + 1)) = ((xs.drop a).take (b + 1 - a)).map f := by
  unfold cutD
  have e1 : HT.sIx (xs.map f).length 0 (some (a : Int)) = a := by rw [HT.sIx_nat, List.length_map]; omega
  have e2 : HT.sIx (xs.map f).length (xs.map f).length (some ((b : Int) + 1)) = b + 1 := by
    have := HT.sIx_nat (xs.map f).length (xs.map f).length (b + 1)
    rw [List.length_map] at this ⊢
    rw [show ((b : Int) + 1) = ((b + 1 : Nat) : Int) from rfl, this]
    omega
  rw [e1, e2, List.map_take, List.map_drop]
theorem c_is_short (B : Bi K mg) (F : Fd K mg "is_short" s_is_short) : C8.Cal P w K mg base 1 "is_short" (spD K R_is_short) [] := by
  refine cal_of F sc_is_short (by decide) bd_is_short (fun ds d ⟨p, s, _, _, _, _, _, _, e, _⟩ => by rw [e]; rfl) fun ds d f cdv A outer s H E h hr => ?_
  obtain ⟨p, caps, dw, a, b, hh, hab, hb, rfl, rfl⟩ := h
  have hl := hh.l; have hm := hh.m
  refine sds_asg (ed_var 0) (gd_t3 5 6 7 sc_is_short.nd) ?_
  refine sds_set 8 sc_is_short.nd (ed_if (d := .int (if a = 0 then p.start else p.high)) (td_cmp (ed_var 3) ed_int cmp_eqI) (fun h => ed_cast (ed_var 7) ?_) fun h => ed_cast (ed_var 6) ?_) ?_
  · rw [if_pos (by simpa using h)]
  · rw [if_neg (by simpa using h)]
  refine sds_ret (ed_cmp (ed_bin (ed_var 8) (ed_sum B.sum (ed_lc [("row", 9)] sc_is_short.nd (id_tup (ed_cast (ed_slT (ed_var 1) (od_some (ed_var 3)) (od_some (ed_bin (ed_var 4) ed_int bin_add))) (by rw [cutD_nat hab (by omega)]))) ?_ ?_) (xs := (caps.drop a).take (b + 1 - a)) (g := fun row => row.sum)) bin_add)
    (ed_bin (ed_sumT (ns := (dw.drop a).take (b + 1 - a)) B.sum (ed_cast (ed_slT (ed_var 2) (od_some (ed_var 3)) (od_some (ed_bin (ed_var 4) ed_int bin_add))) (by rw [cutD_nat hab hb]; rfl))) (ed_var 5) bin_add) cmp_lt) rfl
  · exact fun row hrow => ⟨_, by rfl, fun s H C cl fp => ⟨gd_name 9 sc_is_short.nd, ed_sumT B.sum (ed_var 9)⟩⟩
  · rw [List.length_take, List.length_drop]; omega
theorem c_short_by (c : C8.Cal P w K mg base 1 "is_short" (spD K R_is_short) []) (B : Bi K mg) (F : Fd K mg "short_by" s_short_by) : C8.Cal P w K mg base 2 "short_by" (spD K R_short_by) [] := by
  refine cal_of F sc_short_by (by decide) bd_short_by (fun ds d ⟨p, s, _, _, e, _⟩ => by rw [e]; rfl) fun ds d f cdv A outer s H E h hr => ?_
  obtain ⟨p, caps, dw, hh, rfl, rfl⟩ := h
  have hl := hh.l; have hm := hh.m
  refine sds_for (js := [3]) (fun i ρ => (((List.range dw.length).take i).flatMap fun f => (List.range (dw.length - f)).map fun k => (f, f + k)).find? (fun q => isShort p.low p.high p.start caps dw q.1 q.2) = none ∧ ∃ x y, ρ = [some (.d (encM p)), some (.d (encR caps)), some (.d (encT dw)), x, y]) (id_rng1 (n := dw.length) B.range (ad_cons (ed_cast (ed_lenT B.len (ed_var 2)) ?_) ad_nil) (by omega)) ⟨rfl, none, none, rfl⟩ ?_ ?_
  · rw [List.length_map]
  · rintro i d ρ2 hd ⟨h0, x, y, rfl⟩
    obtain ⟨hi, rfl⟩ := rng_get hd
    refine ⟨_, gd_name 3 sc_short_by.nd, ?_⟩
    refine sds_for (js := [4]) (fun k ρ => (((List.range (dw.length - i)).map fun k => (i, i + k)).take k).find? (fun q => isShort p.low p.high p.start caps dw q.1 q.2) = none ∧ ∃ y, ρ = [some (.d (encM p)), some (.d (encR caps)), some (.d (encT dw)), some (.d (.int (i : Nat))), y]) (ds := (List.range (dw.length - i)).map fun k => .int ((i : Nat) + (k : Nat) : Nat)) (id_cast (id_rng2 (i := (i : Nat)) (j := (dw.length : Nat)) B.range (ad_cons (ed_var 3) (ad_cons (ed_cast (ed_lenT B.len (ed_var 2)) ?_) ad_nil)) (by omega)) ?_) ⟨rfl, y, rfl⟩ ?_ ?_
    · rw [List.length_map]
    · rw [show ((dw.length : Nat) - (i : Nat) : Int).toNat = dw.length - i from by omega]
      rfl
    · rintro k d ρ3 hd ⟨h1, y, rfl⟩
      obtain ⟨hk, rfl⟩ := rng_get hd
      have hx : ((List.range (dw.length - i)).map fun k => (i, i + k))[k]? = some (i, i + k) := by rw [List.getElem?_map, List.getElem?_range hk]; rfl
      refine ⟨_, gd_name 4 sc_short_by.nd, ?_⟩
      refine sds_if (td_val (ed_call c hr (by decide) rfl (ad_cons (ed_var 0) (ad_cons (ed_var 1) (ad_cons (ed_var 2) (ad_cons (ed_var 3) (ad_cons (ed_var 4) ad_nil))))) ⟨p, caps, dw, i, i + k, hh, by omega, by omega, rfl, rfl⟩)) (fun h => ?_) fun h => sds_nil (sds_nil ⟨find_at0 h1 hx h, _, rfl⟩)
      refine sds_ret (ed_tu (ad_cons (ed_var 3) (ad_cons (ed_var 4) ad_nil))) ?_
      have e : shortBy p caps dw = some (i, i + k) := find_flat h0 (List.getElem?_range hi) (find_at h1 hx h)
      rw [e]
      rfl
    · rintro ρ3 ⟨h1, y, rfl⟩
      refine sds_nil ⟨find_flat0 h0 (List.getElem?_range hi) ?_, _, _, rfl⟩
      rw [List.length_map, List.length_range, List.take_of_length_le (by simp)] at h1
      exact h1
  · rintro ρ2 ⟨h0, x, y, rfl⟩
    refine sds_ret ed_non ?_
    rw [List.length_map, List.length_range, List.take_of_length_le (by simp)] at h0
    have e : shortBy p caps dw = none := h0
    rw [e]
    rfl
theorem c_is_stretch (c : C8.Cal P w K mg base 1 "is_short" (spD K R_is_short) []) (c2 : C8.Cal P w K mg base 2 "is_upto" (spD K R_is_upto) []) (B : Bi K mg) (F : Fd K mg "is_stretch" s_is_stretch) : C8.Cal P w K mg base 3 "is_stretch" (spD K R_is_stretch) [] := by
  refine cal_of F sc_is_stretch (by decide) bd_is_stretch (fun ds d ⟨p, s, _, _, _, _, _, _, e, _⟩ => by rw [e]; rfl) fun ds d f cdv A outer s H E h hr => ?_
  obtain ⟨p, caps, dw, a, b, hh, hab, hb, rfl, rfl⟩ := h
  have hl := hh.l; have hm := hh.m
  refine sds_skip (td_bool (wd_or (td_not (td_val (ed_isi true B.isinstance (ed_var 3) B.tuple))) fun _ => wd_or1 (td_cmp (ed_lenT B.len (ed_var 3)) ed_int cmp_neI))) (by simp) ?_
  refine sds_skip (td_bool (wd_or (td_not (td_val (ed_call c2 hr (by decide) rfl (ad_cons (ed_ix (ed_var 3) ed_int (ix_tupD rfl)) (ad_cons (ed_lenT B.len (ed_var 2)) ad_nil)) ⟨_, _, rfl, rfl⟩))) fun _ => wd_or (td_not (td_val (ed_call c2 hr (by decide) rfl (ad_cons (ed_ix (ed_var 3) ed_int (ix_tupD rfl)) (ad_cons (ed_lenT B.len (ed_var 2)) ad_nil)) ⟨_, _, rfl, rfl⟩))) fun _ => wd_or1 (td_cmp (ed_ix (ed_var 3) ed_int (ix_tupD rfl)) (ed_ix (ed_var 3) ed_int (ix_tupD rfl)) cmp_gt))) ?_ ?_
  · rw [List.length_map]
    simp
    omega
  exact sds_ret (ed_call c hr (by decide) rfl (ad_cons (ed_var 0) (ad_cons (ed_var 1) (ad_cons (ed_var 2) (ad_cons (ed_ix (ed_var 3) ed_int (ix_tupD rfl)) (ad_cons (ed_ix (ed_var 3) ed_int (ix_tupD rfl)) ad_nil))))) ⟨p, caps, dw, a, b, hh, hab, hb, rfl, rfl⟩) rfl
theorem c_coals_of (B : Bi K mg) (F : Fd K mg "coals_of" s_coals_of) : C8.Cal P w K mg base 1 "coals_of" (spD K R_coals_of) [] := by
  refine cal_of F sc_coals_of (by decide) bd_coals_of (fun ds d ⟨p, _, e, _⟩ => by rw [e]; rfl) fun ds d f cdv A outer s H E h hr => ?_
  obtain ⟨p, hp, rfl, rfl⟩ := h
  have b4 := hp.b4
  refine sds_ret (ed_lc [("make", 1), ("coal", 2)] sc_coals_of.nd (id_tup (ed_ix (ed_var 0) ed_int (ix_tupD rfl))) (xs := p.boilers) (enc := encP) (f := fun b => .int b.2) ?_ (by omega)) ?_
  · exact fun q hq => ⟨_, by rfl, fun s H C cl fp => ⟨gd_t2 1 2 sc_coals_of.nd, ed_var 2⟩⟩
  · unfold encL coalsOf
    rw [List.map_map]
    rfl
theorem c_row_coal (B : Bi K mg) (F : Fd K mg "row_coal" s_row_coal) : C8.Cal P w K mg base 1 "row_coal" (spD K R_row_coal) [] := by
  refine cal_of F sc_row_coal (by decide) bd_row_coal (fun ds d ⟨p, _, _, e, _⟩ => by rw [e]; rfl) fun ds d f cdv A outer s H E h hr => ?_
  obtain ⟨coals, row, hc, rfl, rfl⟩ := h
  have l := hc.l
  refine sds_ret (ed_sum B.sum (ed_lc [("steam", 2), ("coal", 3)] sc_row_coal.nd (id_cast (id_zipTL B.zip (ad_cons (ed_var 1) (ad_cons (ed_var 0) ad_nil))) zipD_map) ?_ (by rw [List.length_zip]; omega)) (xs := row.zip coals) (g := fun q => q.1 * q.2)) rfl
  exact fun q hq => ⟨_, by rfl, fun s H C cl fp => ⟨gd_t2 2 3 sc_row_coal.nd, ed_bin (ed_var 2) (ed_var 3) (bin_mul (.inr (by have := hc.b q.2 (List.of_mem_zip hq).2; omega)))⟩⟩
theorem fill_len {caps : List Int} : ∀ (l : List (Int × Int)) (st : List Int × Int), (l.foldl (fillStep caps) st).1.length = st.1.length
  | [], st => rfl
  | q :: l, st => by
    rw [List.foldl_cons, fill_len l]
    unfold fillStep
    rw [List.length_set]
theorem rep_flat (n : Nat) : (List.replicate n [D.int 0]).flatten = (List.replicate n (0 : Int)).map D.int := by
  induction n with
  | zero => rfl
  | succ n ih => rw [List.replicate_succ, List.flatten_cons, ih, List.replicate_succ, List.map_cons]; rfl
theorem c_row_made (B : Bi K mg) (F : Fd K mg "row_made" s_row_made) : C8.Cal P w K mg base 1 "row_made" (spD K R_row_made) [] := by
  refine cal_of F sc_row_made (by decide) bd_row_made (fun ds d ⟨p, _, _, _, _, e, _⟩ => by rw [e]; rfl) fun ds d f cdv A outer s H E h hr => ?_
  obtain ⟨coals, caps, a, hc, hl, rfl, rfl⟩ := h
  have l := hc.l
  refine sds_setN 3 sc_row_made.nd (nd_rep (n := caps.length) (ed_li (ad_cons ed_int ad_nil)) (ed_cast (ed_lenT B.len (ed_var 1)) (by rw [List.length_map])) (by show 1 * _ ≤ _; omega) (by omega)) ?_
  rw [rep_flat]
  refine sds_for (js := [4, 5]) (fun i ρ => ∃ x y, ρ = [some (.d (encL coals)), some (.d (encT caps)), some (.d (.int (((ord coals).take i).foldl (fillStep caps) (List.replicate caps.length 0, a)).2)), some (.own (.lst ((((ord coals).take i).foldl (fillStep caps) (List.replicate caps.length 0, a)).1.map .int))), x, y])
    (id_lst (ds := (ord coals).map encP) (ed_callB rfl B.sorted rfl (ad_cons (ed_cast (d2 := .lst ((idxP coals).map encP)) (ed_lc [("boiler", 5), ("coal", 4)] sc_row_made.nd (id_cast (id_enumL B.enumerate (ad_cons (ed_var 0) ad_nil)) enumD_map) (f := fun q => .tup [.int q.1, .int (q.2 : Nat)]) ?_ (by rw [List.length_zipIdx]; omega)) ?_) ad_nil) call_sortP)) ⟨none, none, rfl⟩ ?_ ?_
  · exact fun q hq => ⟨_, by rfl, fun s H C cl fp => ⟨gd_t2 5 4 sc_row_made.nd, ed_tu (ad_cons (ed_var 4) (ad_cons (ed_var 5) ad_nil))⟩⟩
  · unfold idxP
    rw [List.map_map]
    rfl
  · rintro i d ρ2 hd ⟨x, y, rfl⟩
    obtain ⟨q, hq, rfl⟩ := map_get hd
    obtain ⟨k, hk, hk2, hk3⟩ := ord_mem (List.mem_of_getElem? hq)
    have hkn : q.2.toNat = k := by omega
    have hcap := getD_some (d := (0 : Int)) (xs := caps) (n := k) (by omega)
    generalize hst : ((ord coals).take i).foldl (fillStep caps) (List.replicate caps.length 0, a) = st
    have hsl : st.1.length = caps.length := by rw [← hst, fill_len, List.length_replicate]
    refine ⟨_, gd_t2 4 5 sc_row_made.nd, ?_⟩
    rw [hk2]
    refine sds_setIx 3 (j := k) (ed_callB rfl B.min rfl (ad_cons (ed_ix (ed_var 1) (ed_var 5) (ix_tupD (atI_map hcap))) (ad_cons (ed_var 2) ad_nil)) call_min) (ed_var 5) ?_ ?_
    · unfold ixN
      rw [List.length_map, if_pos (by omega), if_pos (by omega)]
      simp
    refine sds_set 2 sc_row_made.nd (ed_bin (ed_var 2) (ed_ixO 3 (ed_var 5) rfl (atI_nat (List.getElem?_set_self (by rw [List.length_map]; omega)))) bin_sub) (sds_nil ?_)
    rw [take_snoc hq, List.foldl_append, hst]
    have e : [q].foldl (fillStep caps) st = (st.1.set k (min (caps.getD k 0) st.2), st.2 - min (caps.getD k 0) st.2) := by
      show fillStep caps st q = _
      unfold fillStep
      rw [hkn]
    rw [e, List.map_set]
    exact ⟨_, _, rfl⟩
  · rintro ρ2 ⟨x, y, rfl⟩
    refine sds_frz 3 rfl ?_
    refine sds_ret (ed_tuple B.tuple (ed_var 3)) ?_
    rw [List.length_map, List.take_length]
    rfl
theorem c_best_step (B : Bi K mg) (F : Fd K mg "best_step" s_best_step) : C8.Cal P w K mg base 1 "best_step" (spD K R_best_step) [] := by
  refine cal_of F sc_best_step (by decide) bd_best_step (fun ds d ⟨p, _, _, _, _, _, e, _⟩ => by rw [e]; rfl) fun ds d f cdv A outer s H E h hr => ?_
  obtain ⟨p, costs, later, here, draw, hl, rfl, rfl⟩ := h
  refine sds_set 5 sc_best_step.nd ed_non ?_
  refine sds_for (js := [6, 7]) (fun i ρ => ∃ x y z, ρ = [some (.d (encL costs)), some (.d (encDc later)), some (.d (.int here)), some (.d (.int draw)), some (.d (encM p)), some (.d (encS2 ((costs.zipIdx.take i).foldl (bestGo later here draw p.high) none))), x, y, z])
    (id_cast (id_enumL B.enumerate (ad_cons (ed_var 0) ad_nil)) enumD_map) ⟨none, none, none, rfl⟩ ?_ ?_
  · rintro i d ρ2 hd ⟨x, y, z, rfl⟩
    obtain ⟨q, hq, rfl⟩ := map_get hd
    generalize hst : (costs.zipIdx.take i).foldl (bestGo later here draw p.high) none = best
    refine ⟨_, gd_t2 6 7 sc_best_step.nd, ?_⟩
    refine sds_set 8 sc_best_step.nd (ed_callB rfl B.min rfl (ad_cons (ed_bin (ed_bin (ed_var 2) (ed_var 6) bin_add) (ed_var 3) bin_sub) (ad_cons (ed_ix (ed_var 4) ed_int (ix_tupD rfl)) ad_nil)) call_min) ?_
    have hk := dicAt_look later (min (here + (q.2 : Nat) - draw) p.high)
    have fin : ∀ o, bestGo later here draw p.high best q = o → (costs.zipIdx.take (i + 1)).foldl (bestGo later here draw p.high) none = o := fun o ho => by
      rw [take_snoc hq, List.foldl_append, hst]
      exact ho
    cases hlk : look later (min (here + (q.2 : Nat) - draw) p.high) with
    | none =>
      rw [hlk] at hk
      refine sds_skip (td_bool (wd_and (cmp_inDic (room1 hr) (ed_var 8) (ed_var 1)) (j := true) fun h => ?_)) ?_ (sds_nil ?_)
      · rw [hk] at h; cases h
      · rw [hk]; rfl
      · rw [fin best (by unfold bestGo; rw [hlk])]
        exact ⟨_, _, _, rfl⟩
    | some c =>
      rw [hlk] at hk
      have hin : (dicAt (later.map fun q => q.1) (later.map fun q => encP q.2) (min (here + (q.2 : Nat) - draw) p.high)).isSome = true := by rw [hk]; rfl
      cases best with
      | none =>
        refine sds_take (td_bool (wd_and (cmp_inDic (room1 hr) (ed_var 8) (ed_var 1)) fun h => wd_and1 (td_bool (wd_or (j := true) (td_cmp (ed_var 5) ed_non cmp_isN) fun h => by cases h)))) (by rw [hin]; rfl) ?_
        refine sds_set 5 sc_best_step.nd (ed_tu (ad_cons (ed_bin (ed_var 7) (ed_ix (ed_ixDic (room1 hr) (ed_var 1) (ed_var 8) hk) ed_int (ix_tupD rfl)) bin_add) (ad_cons (ed_var 6) ad_nil))) (sds_nil (sds_nil ?_))
        rw [fin (some (q.1 + c.1, ((q.2 : Nat) : Int))) (by unfold bestGo; rw [hlk])]
        exact ⟨_, _, _, rfl⟩
      | some b =>
        refine sds_if (td_bool (wd_and (cmp_inDic (room1 hr) (ed_var 8) (ed_var 1)) fun h => wd_and1 (td_bool (wd_or (td_cmp (ed_var 5) ed_non cmp_isN) fun h => wd_or1 (td_cmp (ed_bin (ed_var 7) (ed_ix (ed_ixDic (room1 hr) (ed_var 1) (ed_var 8) hk) ed_int (ix_tupD rfl)) bin_add) (ed_ix (ed_var 5) ed_int (ix_tupD rfl)) cmp_lt))))) (fun h => ?_) fun h => sds_nil (sds_nil ?_)
        · rw [hin] at h
          have h' : q.1 + c.1 < b.1 := by simpa [isNon, encS2, encP] using h
          refine sds_set 5 sc_best_step.nd (ed_tu (ad_cons (ed_bin (ed_var 7) (ed_ix (ed_ixDic (room1 hr) (ed_var 1) (ed_var 8) hk) ed_int (ix_tupD rfl)) bin_add) (ad_cons (ed_var 6) ad_nil))) (sds_nil (sds_nil ?_))
          rw [fin (some (q.1 + c.1, ((q.2 : Nat) : Int))) (by unfold bestGo; rw [hlk]; exact if_pos h')]
          exact ⟨_, _, _, rfl⟩
        · rw [hin] at h
          have h' : ¬ q.1 + c.1 < b.1 := by simpa [isNon, encS2, encP] using h
          rw [fin (some b) (by unfold bestGo; rw [hlk]; exact if_neg h')]
          exact ⟨_, _, _, rfl⟩
  · rintro ρ2 ⟨x, y, z, rfl⟩
    refine sds_ret (ed_var 5) ?_
    rw [List.length_map, List.length_zipIdx, List.take_of_length_le (by simp)]
    rfl
end
end Mf
/-! the walks: plans -/
namespace Mf
open PySem PySem.Spec PyProof.Rows L2
section
variable {P : Program} {w : World} {K : PySem.W.Frag} {mg : Str → Option Value} {base : Heap}
theorem cls_of {p : Plant} (hp : p.Ok) : Cls (coalsOf p) where
  l := by unfold coalsOf; rw [List.length_map]; have := hp.b4; omega
  b := fun c hc => by
    unfold coalsOf at hc
    obtain ⟨b, hb, rfl⟩ := List.mem_map.mp hc
    have := (hp.bs b hb).2
    omega
theorem coals_len {p : Plant} : (coalsOf p).length = p.boilers.length := by unfold coalsOf; rw [List.length_map]
theorem here_len {low high : Int} : (hereAt low high).length = (high + 1 - low).toNat := by unfold hereAt; simp
theorem here_get {low high : Int} {k : Nat} (h : k < (high + 1 - low).toNat) : (hereAt low high)[k]? = some (low + (k : Nat)) := by
  unfold hereAt
  rw [List.getElem?_map, List.getElem?_range h]
  rfl
theorem here_nodup {low high : Int} : (hereAt low high).Nodup := by
  unfold hereAt
  exact List.pairwise_map.mpr (List.Pairwise.imp (fun {a b} h z => h (by have : low + (a : Nat) = low + (b : Nat) := z; omega)) List.nodup_range)
theorem pre_keys {g : Int → Option (Int × Int)} {k : Int} {l : List Int} (h : k ∉ l) : k ∉ (l.filterMap fun h => (g h).map fun s => (h, s)).map fun q => q.1 := fun z => by
  obtain ⟨q, hq, e⟩ := List.mem_map.mp z
  obtain ⟨x, hx, e2⟩ := List.mem_filterMap.mp hq
  cases hg : g x with
  | none => rw [hg] at e2; cases e2
  | some s =>
    rw [hg] at e2
    obtain rfl := Option.some.inj e2
    exact h (e ▸ hx)
theorem here_fresh {low high : Int} {k : Nat} : low + (k : Nat) ∉ (hereAt low high).take k := fun z => by
  obtain ⟨i, hi⟩ := List.mem_iff_getElem?.mp z
  rw [List.getElem?_take] at hi
  split at hi
  · unfold hereAt at hi
    rw [List.getElem?_map] at hi
    cases hx : (List.range (high + 1 - low).toNat)[i]? with
    | none => rw [hx] at hi; cases hi
    | some x =>
      rw [hx] at hi
      have e : low + ((x : Nat) : Int) = low + (k : Nat) := Option.some.inj hi
      obtain ⟨h1, h2⟩ := List.getElem?_eq_some_iff.mp hx
      rw [List.getElem_range] at h2
      omega
  · cases hi
theorem rev_zip {α β : Type} : ∀ {xs : List α} {ys : List β}, xs.length = ys.length → xs.reverse.zip ys.reverse = (xs.zip ys).reverse
  | [], [], _ => rfl
  | x :: xs, y :: ys, h => by
    have h' : xs.length = ys.length := Nat.succ.inj h
    rw [List.reverse_cons, List.reverse_cons, List.zip_append (by rw [List.length_reverse, List.length_reverse, h']), rev_zip h']
    exact (List.reverse_cons (a := (x, y)) (as := xs.zip ys)).symm
theorem fm_len {α β : Type} {f : α → Option β} {l : List α} : (l.filterMap f).length ≤ l.length := List.length_filterMap_le _ _
theorem zip_drop_cons {α β : Type} {xs : List α} {ys : List β} {j : Nat} {q : α × β} (h : (xs.zip ys)[j]? = some q) : (xs.zip ys).drop j = q :: (xs.zip ys).drop (j + 1) := by
  obtain ⟨h1, h2⟩ := List.getElem?_eq_some_iff.mp h
  rw [List.drop_eq_getElem_cons h1, h2]
theorem c_steps_by (c : C8.Cal P w K mg base 1 "best_step" (spD K R_best_step) []) (c2 : C8.Cal P w K mg base 1 "row_made" (spD K R_row_made) []) (c3 : C8.Cal P w K mg base 1 "row_coal" (spD K R_row_coal) []) (B : Bi K mg) (F : Fd K mg "steps_by" s_steps_by) : C8.Cal P w K mg base 2 "steps_by" (spD K R_steps_by) [] := by
  refine cal_of F sc_steps_by (by decide) bd_steps_by (fun ds d ⟨p, _, _, _, _, e, _⟩ => by rw [e]; rfl) fun ds d f cdv A outer s H E h hr => ?_
  obtain ⟨p, caps, dw, hp, hn, rfl, rfl⟩ := h
  have nl := hn.l; have nm := hn.m; have lo := hp.lo; have hi40 := hp.hi
  have hlh : p.low ≤ p.high := Int.le_trans hp.s1 hp.s2
  refine sds_set 4 sc_steps_by.nd (ed_callTy (ds := [.lst ((((dict0 p.low p.high).map fun q => q.1).zip ((dict0 p.low p.high).map fun q => encP q.2)).map fun q => .tup [.int q.1, q.2])]) rfl B.dict rfl (ad_cons (ed_cast (ed_lc [("here", 10)] sc_steps_by.nd (id_cast (id_rng2 B.range (ad_cons (ed_ix (ed_var 3) ed_int (ix_tupD rfl)) (ad_cons (ed_bin (ed_ix (ed_var 3) ed_int (ix_tupD rfl)) ed_int bin_add) ad_nil)) (by omega)) rfl) (f := fun k => .tup [.int (p.low + (k : Nat)), .tup [.int 0, .int 0]]) ?_ ?_) ?_) ad_nil) (call_dictD (by rw [List.length_map, List.length_map]) ?_)) ?_
  · exact fun k hk => ⟨_, by rfl, fun s H C cl fp => ⟨gd_name 10 sc_steps_by.nd, ed_tu (ad_cons (ed_var 10) (ad_cons (ed_tu (ad_cons ed_int (ad_cons ed_int ad_nil))) ad_nil))⟩⟩
  · rw [List.length_range]; omega
  · rw [List.zip_map', List.map_map]
    unfold dict0 hereAt
    rw [List.map_map, List.map_map]
    rfl
  · unfold dict0
    rw [List.map_map]
    exact (List.map_id (hereAt p.low p.high)).symm ▸ here_nodup
  refine sds_setN 5 sc_steps_by.nd (nd_li ad_nil) ?_
  have hd0 : ∀ i, i = dw.length → dictOf (ord (coalsOf p)) (coalsOf p) p.low p.high ((caps.zip dw).drop i) = dict0 p.low p.high := fun i hi => by
    rw [List.drop_eq_nil_of_le (by rw [List.length_zip]; omega)]
    rfl
  refine sds_for (js := [6, 7]) (ds := ((caps.zip dw).reverse).map fun q => .tup [encT q.1, .int q.2]) (fun i ρ => ∃ x6 x7 x8 x9 x10 x11, ρ = [some (.d (encL (coalsOf p))), some (.d (encR caps)), some (.d (encT dw)), some (.d (encM p)), some (.d (encDc (dictOf (ord (coalsOf p)) (coalsOf p) p.low p.high ((caps.zip dw).drop (dw.length - i))))),
    some (.own (.lst ((List.range i).map fun j => encDc (dictOf (ord (coalsOf p)) (coalsOf p) p.low p.high ((caps.zip dw).drop (dw.length - 1 - j)))))), x6, x7, x8, x9, x10, x11, none])
    (id_cast (id_zipRR B.zip B.reversed (ed_var 1) (ed_var 2)) ?_) ?_ ?_ ?_
  · rw [← List.map_reverse, ← List.map_reverse, zipD_map, rev_zip nl]
  · rw [hd0 _ (Nat.sub_zero _)]
    exact ⟨_, _, _, _, _, _, rfl⟩
  · rintro i d ρ2 hd ⟨x6, x7, x8, x9, x10, x11, rfl⟩
    obtain ⟨q, hq, rfl⟩ := map_get hd
    have hi : i < dw.length := by
      have := (List.getElem?_eq_some_iff.mp hq).1
      rw [List.length_reverse, List.length_zip] at this
      omega
    rw [List.getElem?_reverse (by rw [List.length_zip]; omega), List.length_zip, nl, Nat.min_self] at hq
    have hrow := hn.r q.1 (List.mem_of_getElem? (zip_get hq).1)
    have hdrop := zip_drop_cons hq
    rw [show dw.length - 1 - i + 1 = dw.length - i from by omega] at hdrop
    have hnew : dictOf (ord (coalsOf p)) (coalsOf p) p.low p.high ((caps.zip dw).drop (dw.length - 1 - i)) = stepDict (costsOf (ord (coalsOf p)) (coalsOf p) q.1) (dictOf (ord (coalsOf p)) (coalsOf p) p.low p.high ((caps.zip dw).drop (dw.length - i))) q.2 p.low p.high := by
      rw [hdrop]
      rfl
    generalize dictOf (ord (coalsOf p)) (coalsOf p) p.low p.high ((caps.zip dw).drop (dw.length - i)) = later at hnew
    have hcl : (costsOf (ord (coalsOf p)) (coalsOf p) q.1).length ≤ 10000 := by
      unfold costsOf
      rw [List.length_map, List.length_range]
      omega
    refine ⟨_, gd_t2 6 7 sc_steps_by.nd, ?_⟩
    refine sds_setLc 8 [("amount", 12)] sc_steps_by.nd (id_rng1 (n := q.1.sum.toNat + 1) B.range (ad_cons (ed_cast (ed_bin (ed_sumT B.sum (ed_var 6)) ed_int bin_add) ?_) ad_nil) (by omega)) (xs := List.range (q.1.sum.toNat + 1)) (f := fun a => .int (rowCoal (coalsOf p) (rowMadeBy (ord (coalsOf p)) q.1 ((a : Nat) : Int)))) ?_ (by rw [List.length_range]; omega) ?_
    · congr 1; omega
    · exact fun a ha => ⟨_, by rfl, fun s H C cl fp => ⟨gd_name 12 sc_steps_by.nd, ed_call c3 hr (by decide) rfl (ad_cons (ed_var 0) (ad_cons (ed_call c2 hr (by decide) rfl (ad_cons (ed_var 0) (ad_cons (ed_var 6) (ad_cons (ed_var 12) ad_nil))) ⟨coalsOf p, q.1, (a : Nat), cls_of hp, by rw [coals_len, hrow.1], rfl, rfl⟩) ad_nil)) ⟨coalsOf p, _, cls_of hp, rfl, rfl⟩⟩⟩
    rw [show ((List.range (q.1.sum.toNat + 1)).map fun a => D.int (rowCoal (coalsOf p) (rowMadeBy (ord (coalsOf p)) q.1 ((a : Nat) : Int)))) = (costsOf (ord (coalsOf p)) (coalsOf p) q.1).map D.int from by unfold costsOf; rw [List.map_map]; rfl]
    generalize costsOf (ord (coalsOf p)) (coalsOf p) q.1 = costs at hnew hcl
    refine sds_setN 9 sc_steps_by.nd nd_dic ?_
    refine sds_for (js := [10]) (ds := (hereAt p.low p.high).map .int) (fun k ρ => ∃ x10 x11, ρ = [some (.d (encL (coalsOf p))), some (.d (encR caps)), some (.d (encT dw)), some (.d (encM p)), some (.d (encDc later)),
      some (.own (.lst ((List.range i).map fun j => encDc (dictOf (ord (coalsOf p)) (coalsOf p) p.low p.high ((caps.zip dw).drop (dw.length - 1 - j)))))), some (.d (encT q.1)), some (.d (.int q.2)), some (.d (encL costs)),
      some (.own (encDc (((hereAt p.low p.high).take k).filterMap fun here => (bestStep costs later here q.2 p.high).map fun s => (here, s)))), x10, x11, none])
      (id_cast (id_rng2 B.range (ad_cons (ed_ix (ed_var 3) ed_int (ix_tupD rfl)) (ad_cons (ed_bin (ed_ix (ed_var 3) ed_int (ix_tupD rfl)) ed_int bin_add) ad_nil)) (by omega)) (by unfold hereAt; rw [List.map_map]; rfl)) ⟨_, _, rfl⟩ ?_ ?_
    · rintro k d ρ3 hd ⟨x10, x11, rfl⟩
      obtain ⟨here, hh, rfl⟩ := map_get hd
      have hk : k < (p.high + 1 - p.low).toNat := by
        have := (List.getElem?_eq_some_iff.mp hh).1
        rw [here_len] at this
        exact this
      have hhe : here = p.low + (k : Nat) := by
        rw [here_get hk] at hh
        exact (Option.some.inj hh).symm
      refine ⟨_, gd_name 10 sc_steps_by.nd, ?_⟩
      refine sds_set 11 sc_steps_by.nd (ed_call c hr (by decide) rfl (ad_cons (ed_var 8) (ad_cons (ed_var 4) (ad_cons (ed_var 10) (ad_cons (ed_var 7) (ad_cons (ed_var 3) ad_nil))))) ⟨p, costs, later, here, q.2, hcl, rfl, rfl⟩) ?_
      rw [take_snoc hh, List.filterMap_append]
      cases hb : bestStep costs later here q.2 p.high with
      | none =>
        refine sds_skip (td_cmp (ed_var 11) ed_non cmp_notN) rfl (sds_nil ?_)
        rw [List.filterMap_cons_none (by rw [hb]; rfl), List.filterMap_nil, List.append_nil]
        exact ⟨_, _, rfl⟩
      | some st =>
        refine sds_take (td_cmp (ed_var 11) ed_non cmp_notN) rfl ?_
        refine sds_dput 9 (room1 hr) (ed_var 11) (ed_var 10) (ks := (((hereAt p.low p.high).take k).filterMap fun here => (bestStep costs later here q.2 p.high).map fun s => (here, s)).map fun q => q.1) (pre_keys (by rw [hhe]; exact here_fresh)) ?_ (sds_nil (sds_nil ?_))
        · rw [List.length_map]
          have := fm_len (f := fun here => (bestStep costs later here q.2 p.high).map fun s => (here, s)) (l := (hereAt p.low p.high).take k)
          rw [List.length_take, here_len] at this
          omega
        · rw [List.filterMap_cons_some (b := (here, st)) (by rw [hb]; rfl), List.filterMap_nil]
          unfold encDc
          rw [List.map_append, List.map_append]
          exact ⟨_, _, rfl⟩
    · rintro ρ3 ⟨x10, x11, rfl⟩
      rw [List.length_map, List.take_length]
      refine sds_frz 9 rfl ?_
      refine sds_expr (ed_append 5 (ed_var 9) rfl rfl ?_) ?_
      · rw [List.length_map, List.length_range]; omega
      refine sds_set 4 sc_steps_by.nd (ed_var 9) (sds_nil ?_)
      rw [show dw.length - (i + 1) = dw.length - 1 - i from by omega, List.range_succ, List.map_append, List.map_cons, List.map_nil, hnew]
      exact ⟨_, _, _, _, _, _, rfl⟩
  · rintro ρ2 ⟨x6, x7, x8, x9, x10, x11, rfl⟩
    refine sds_frz 5 rfl ?_
    refine sds_ret (ed_var 5) ?_
    rw [List.length_map, List.length_reverse, List.length_zip, nl, Nat.min_self]
end
end Mf
/-! the walks: plans, sets -/
namespace Mf
open PySem PySem.Spec PyProof.Rows L2
section
variable {P : Program} {w : World} {K : PySem.W.Frag} {mg : Str → Option Value} {base : Heap}
theorem rev_rg {α : Type} {n : Nat} {f : Nat → α} : ((List.range n).map fun i => f (n - 1 - i)).reverse = (List.range n).map f := by
  refine List.ext_getElem (by simp) fun i h1 h2 => ?_
  simp at h1 h2 ⊢
  congr 1
  omega
theorem planRows_cons {order : List (Int × Int)} {coals : List Int} {low high here : Int} {q : List Int × Int} {rest : List (List Int × Int)} :
    planRows order coals low high here (q :: rest) = rowMadeBy order q.1 ((look (dictOf order coals low high (q :: rest)) here).getD (0, 0)).2 :: planRows order coals low high (min (here + ((look (dictOf order coals low high (q :: rest)) here).getD (0, 0)).2 - q.2) high) rest := rfl
theorem dictOf_cons {order : List (Int × Int)} {coals : List Int} {low high : Int} {q : List Int × Int} {rest : List (List Int × Int)} :
    dictOf order coals low high (q :: rest) = stepDict (costsOf order coals q.1) (dictOf order coals low high rest) q.2 low high := rfl
theorem c_plan_by (c : C8.Cal P w K mg base 2 "steps_by" (spD K R_steps_by) []) (c2 : C8.Cal P w K mg base 1 "row_made" (spD K R_row_made) []) (B : Bi K mg) (F : Fd K mg "plan_by" s_plan_by) : C8.Cal P w K mg base 3 "plan_by" (spD K R_plan_by) [] := by
  refine cal_of F sc_plan_by (by decide) bd_plan_by (fun ds d ⟨p, _, _, _, _, e, _⟩ => by rw [e]; rfl) fun ds d f cdv A outer s H E h hr => ?_
  obtain ⟨p, caps, dw, hp, hn, rfl, rfl⟩ := h
  have nl := hn.l; have nm := hn.m; have n1 := hn.h1
  refine sds_par 4 5 sc_plan_by.nd (ad_cons (ed_cast (d2 := .lst ((List.range dw.length).map fun i => encDc (dictOf (ord (coalsOf p)) (coalsOf p) p.low p.high ((caps.zip dw).drop i)))) (ed_revL (ed_call c hr (by decide) rfl (ad_cons (ed_var 0) (ad_cons (ed_var 1) (ad_cons (ed_var 2) (ad_cons (ed_var 3) ad_nil)))) ⟨p, caps, dw, hp, hn, rfl, rfl⟩)) (by rw [rev_rg (f := fun i => encDc (dictOf (ord (coalsOf p)) (coalsOf p) p.low p.high ((caps.zip dw).drop i)))])) (ad_cons (ed_ix (ed_var 3) ed_int (ix_tupD rfl)) ad_nil)) ?_
  have at' : ∀ i, i < dw.length → atI ((List.range dw.length).map fun i => encDc (dictOf (ord (coalsOf p)) (coalsOf p) p.low p.high ((caps.zip dw).drop i))) (i : Nat) = some (encDc (dictOf (ord (coalsOf p)) (coalsOf p) p.low p.high ((caps.zip dw).drop i))) := fun i hi => atI_map (List.getElem?_range hi)
  have hk := dicAt_look (dictOf (ord (coalsOf p)) (coalsOf p) p.low p.high ((caps.zip dw).drop 0)) p.start
  cases hl : look (dictOf (ord (coalsOf p)) (coalsOf p) p.low p.high ((caps.zip dw).drop 0)) p.start with
  | none =>
    rw [hl] at hk
    refine sds_take (cmp_niDic (room1 hr) (ed_var 5) (ed_ix (ed_var 4) ed_int (ix_lstD (at' 0 n1)))) (by rw [hk]; rfl) ?_
    refine sds_ret ed_non ?_
    unfold planBy
    rw [List.drop_zero] at hl
    rw [hl]
    rfl
  | some c0 =>
    rw [hl] at hk
    refine sds_skip (cmp_niDic (room1 hr) (ed_var 5) (ed_ix (ed_var 4) ed_int (ix_lstD (at' 0 n1)))) (by rw [hk]; rfl) ?_
    refine sds_parN 6 7 sc_plan_by.nd (ed_ix (ed_ixDic (room1 hr) (ed_ix (ed_var 4) ed_int (ix_lstD (at' 0 n1))) (ed_var 5) hk) ed_int (ix_tupD rfl)) ?_
    refine sds_for (js := [8, 9]) (fun i ρ => ∃ (here : Int) (rows : List (List Int)) (x y z : Option Sl), (look (dictOf (ord (coalsOf p)) (coalsOf p) p.low p.high ((caps.zip dw).drop i)) here).isSome = true ∧ rows.length = i ∧
      planRows (ord (coalsOf p)) (coalsOf p) p.low p.high p.start (caps.zip dw) = rows ++ planRows (ord (coalsOf p)) (coalsOf p) p.low p.high here ((caps.zip dw).drop i) ∧
      ρ = [some (.d (encL (coalsOf p))), some (.d (encR caps)), some (.d (encT dw)), some (.d (encM p)), some (.d (.lst ((List.range dw.length).map fun i => encDc (dictOf (ord (coalsOf p)) (coalsOf p) p.low p.high ((caps.zip dw).drop i))))), some (.d (.int here)), some (.d (.int c0.1)), some (.own (.lst (rows.map encT))), x, y, z])
      (id_cast (id_enumT B.enumerate (ad_cons (ed_var 2) ad_nil)) enumD_map) ⟨p.start, [], none, none, none, by rw [hl]; rfl, rfl, by rw [List.drop_zero]; rfl, rfl⟩ ?_ ?_
    · rintro i d ρ2 hd ⟨here, rows, x, y, z, hh, hrl, hpl, rfl⟩
      obtain ⟨q, hq, rfl⟩ := map_get hd
      obtain ⟨hq1, hq2⟩ := zipIdx_get hq
      have hi : i < dw.length := (List.getElem?_eq_some_iff.mp hq1).1
      have hcap := getD_some (d := ([] : List Int)) (xs := caps) (n := i) (by omega)
      have hz : (caps.zip dw)[i]? = some (caps.getD i [], q.1) := List.getElem?_zip_eq_some.mpr ⟨hcap, hq1⟩
      have hdr := zip_drop_cons hz
      have hrow := hn.r _ (List.mem_of_getElem? hcap)
      obtain ⟨st, hst⟩ := Option.isSome_iff_exists.mp hh
      have hk2 := dicAt_look (dictOf (ord (coalsOf p)) (coalsOf p) p.low p.high ((caps.zip dw).drop i)) here
      rw [hst] at hk2
      have hst' := hst
      rw [hdr, dictOf_cons] at hst'
      obtain ⟨_, _, n, xx, cc, _, hlk, hs2, _⟩ := step_some hst'
      have hnext : planRows (ord (coalsOf p)) (coalsOf p) p.low p.high here ((caps.zip dw).drop i) = rowMadeBy (ord (coalsOf p)) (caps.getD i []) st.2 :: planRows (ord (coalsOf p)) (coalsOf p) p.low p.high (min (here + st.2 - q.1) p.high) ((caps.zip dw).drop (i + 1)) := by
        rw [hdr, planRows_cons, ← hdr, hst]
        rfl
      rw [hnext] at hpl
      have happ : ∀ (r : List (List Int)) (q : List Int), rows ++ q :: r = (rows ++ [q]) ++ r := fun r q => by rw [List.append_assoc]; rfl
      rw [happ] at hpl
      rw [hq2]
      refine ⟨_, gd_t2 8 9 sc_plan_by.nd, ?_⟩
      refine sds_set 10 sc_plan_by.nd (ed_ix (ed_ixDic (room1 hr) (ed_ix (ed_var 4) (ed_var 8) (ix_lstD (at' i hi))) (ed_var 5) hk2) ed_int (ix_tupD rfl)) ?_
      refine sds_expr (ed_append 7 (ed_call c2 hr (by decide) rfl (ad_cons (ed_var 0) (ad_cons (ed_ix (ed_var 1) (ed_var 8) (ix_tupD (atI_map hcap))) (ad_cons (ed_var 10) ad_nil))) ⟨coalsOf p, caps.getD i [], st.2, cls_of hp, by rw [coals_len, hrow.1], rfl, rfl⟩) rfl rfl ?_) ?_
      · rw [List.length_map]; omega
      refine sds_set 5 sc_plan_by.nd (ed_callB rfl B.min rfl (ad_cons (ed_bin (ed_bin (ed_var 5) (ed_var 10) bin_add) (ed_var 9) bin_sub) (ad_cons (ed_ix (ed_var 3) ed_int (ix_tupD rfl)) ad_nil)) call_min) (sds_nil ?_)
      have h1 : (rows ++ [rowMadeBy (ord (coalsOf p)) (caps.getD i []) st.2]).length = i + 1 := by rw [List.length_append, hrl]; rfl
      have h2 : (look (dictOf (ord (coalsOf p)) (coalsOf p) p.low p.high ((caps.zip dw).drop (i + 1))) (min (here + st.2 - q.1) p.high)).isSome = true := by
        rw [hs2]
        show (look _ (min (here + (n : Nat) - q.1) p.high)).isSome = true
        have hlk' : look (dictOf (ord (coalsOf p)) (coalsOf p) p.low p.high ((caps.zip dw).drop (i + 1))) (min (here + (n : Nat) - q.1) p.high) = some cc := hlk
        rw [hlk']
        rfl
      exact ⟨min (here + st.2 - q.1) p.high, _, _, _, _, h2, h1, hpl, by rw [List.map_append]; rfl⟩
    · rintro ρ2 ⟨here, rows, x, y, z, hh, hrl, hpl, rfl⟩
      refine sds_frz 7 rfl ?_
      refine sds_ret (ed_tu (ad_cons (ed_var 6) (ad_cons (ed_tuple B.tuple (ed_var 7)) ad_nil))) ?_
      rw [List.drop_eq_nil_of_le (by rw [List.length_zip, List.length_map, List.length_zipIdx]; omega)] at hpl
      unfold planBy
      rw [List.drop_zero] at hl
      rw [hl]
      show _ = D.tup [.int c0.1, encR (planRows _ _ _ _ _ _)]
      rw [hpl]
      show _ = D.tup [.int c0.1, encR (rows ++ [])]
      rw [List.append_nil]
      rfl
theorem cap_le {p : Plant} (hp : p.Ok) {s : Story} {h b : Nat} (hb : b < p.boilers.length) : 0 ≤ capAt p s h b ∧ capAt p s h b ≤ 9 := by
  have h1 := hp.bs _ (List.mem_of_getElem? (getD_some (d := (0, 0)) hb))
  unfold capAt
  split
  · omega
  · split <;> omega
theorem sum_le {m : Int} : ∀ {l : List Int}, (∀ x ∈ l, 0 ≤ x ∧ x ≤ m) → 0 ≤ l.sum ∧ l.sum ≤ m * (l.length : Nat)
  | [], _ => by simp
  | x :: l, h => by
    have h1 := h x List.mem_cons_self
    have h2 := sum_le (m := m) (l := l) fun y hy => h y (List.mem_cons_of_mem _ hy)
    rw [List.sum_cons, List.length_cons]
    rw [show ((l.length + 1 : Nat) : Int) = (l.length : Nat) + 1 from rfl, Int.mul_add, Int.mul_one]
    omega
theorem caps_le {p : Plant} (hp : p.Ok) {s : Story} {row : List Int} (h : row ∈ capsBy p s) : ∀ x ∈ row, 0 ≤ x ∧ x ≤ 9 := by
  unfold capsBy at h
  obtain ⟨hh, _, rfl⟩ := List.mem_map.mp h
  intro x hx
  obtain ⟨b, hb, rfl⟩ := List.mem_map.mp hx
  exact cap_le hp (List.mem_range.mp hb)
theorem pln_of {p : Plant} (hp : p.Ok) {s : Story} (hs : s.Ok p) {caps : List (List Int)} (h1 : caps.length = s.extra.length) (h2 : ∀ row ∈ caps, row.length = p.boilers.length ∧ ∀ x ∈ row, 0 ≤ x ∧ x ≤ 9) : Pln p caps (drawsBy p s) where
  l := by rw [h1, draws_len]
  h1 := by rw [draws_len]; exact hs.h1
  m := by rw [draws_len]; have := hs.h8; omega
  r := fun row hr => by
    have h3 := sum_le (h2 row hr).2
    have b4 := hp.b4
    refine ⟨(h2 row hr).1, h3.1, ?_⟩
    rw [(h2 row hr).1] at h3
    omega
theorem pln_all {p : Plant} (hp : p.Ok) {s : Story} (hs : s.Ok p) : Pln p (capsBy p s) (drawsBy p s) := pln_of hp hs caps_len fun row hr => ⟨caps_row hr, caps_le hp hr⟩
theorem alone_row {p : Plant} {s : Story} {ch : List Int} {row : List Int} (h : row ∈ capsAlone (capsBy p s) ch) : ∃ r ∈ capsBy p s, row = r.zipIdx.map fun q => if ch.contains ((q.2 : Nat) : Int) then q.1 else 0 := by
  unfold capsAlone at h
  obtain ⟨r, hr, rfl⟩ := List.mem_map.mp h
  exact ⟨r, hr, rfl⟩
theorem alone_len {p : Plant} {s : Story} {ch : List Int} : (capsAlone (capsBy p s) ch).length = s.extra.length := by unfold capsAlone; rw [List.length_map, caps_len]
theorem alone_le {p : Plant} (hp : p.Ok) {s : Story} {ch : List Int} {row : List Int} (h : row ∈ capsAlone (capsBy p s) ch) : row.length = p.boilers.length ∧ ∀ x ∈ row, 0 ≤ x ∧ x ≤ 9 := by
  obtain ⟨r, hr, rfl⟩ := alone_row h
  refine ⟨by rw [List.length_map, List.length_zipIdx, caps_row hr], fun x hx => ?_⟩
  obtain ⟨q, hq, rfl⟩ := List.mem_map.mp hx
  have := caps_le hp hr q.1 (List.mem_of_getElem? (zipIdx_mem hq))
  split <;> omega
theorem pln_alone {p : Plant} (hp : p.Ok) {s : Story} (hs : s.Ok p) {ch : List Int} : Pln p (capsAlone (capsBy p s) ch) (drawsBy p s) := pln_of hp hs alone_len fun row hr => alone_le hp hr
theorem c_best_plan (c : C8.Cal P w K mg base 3 "plan_by" (spD K R_plan_by) []) (c2 : C8.Cal P w K mg base 1 "coals_of" (spD K R_coals_of) []) (c3 : C8.Cal P w K mg base 2 "caps_by" (spD K R_caps_by) []) (c4 : C8.Cal P w K mg base 1 "draws_by" (spD K R_draws_by) []) (F : Fd K mg "best_plan" s_best_plan) : C8.Cal P w K mg base 4 "best_plan" (spD K R_best_plan) [] := by
  refine cal_of F sc_best_plan (by decide) bd_best_plan (fun ds d ⟨p, _, _, _, e, _⟩ => by rw [e]; rfl) fun ds d f cdv A outer s H E h hr => ?_
  obtain ⟨p, st, hp, hs, rfl, rfl⟩ := h
  exact sds_ret (ed_call c hr (by decide) rfl (ad_cons (ed_call c2 hr (by decide) rfl (ad_cons (ed_var 0) ad_nil) ⟨p, hp, rfl, rfl⟩) (ad_cons (ed_call c3 hr (by decide) rfl (ad_cons (ed_var 0) (ad_cons (ed_var 1) ad_nil)) ⟨p, st, hp, hs, rfl, rfl⟩) (ad_cons (ed_call c4 hr (by decide) rfl (ad_cons (ed_var 0) (ad_cons (ed_var 1) ad_nil)) ⟨p, st, hp, hs, rfl, rfl⟩) (ad_cons (ed_ix (ed_var 0) ed_int (ix_tupD rfl)) ad_nil)))) ⟨p, _, _, hp, pln_all hp hs, rfl, rfl⟩) rfl
theorem hrs_all {p : Plant} {s : Story} (hs : s.Ok p) : Hrs (capsBy p s) (drawsBy p s) := ⟨by rw [caps_len, draws_len], by rw [draws_len]; have := hs.h8; omega⟩
theorem hrs_alone {p : Plant} {s : Story} (hs : s.Ok p) {ch : List Int} : Hrs (capsAlone (capsBy p s) ch) (drawsBy p s) := ⟨by rw [alone_len, draws_len], by rw [draws_len]; have := hs.h8; omega⟩
theorem c_cheapest (c : C8.Cal P w K mg base 6 "need_story" (spD K R_need_story) []) (c1 : C8.Cal P w K mg base 4 "best_plan" (spD K R_best_plan) []) (c2 : C8.Cal P w K mg base 2 "short_by" (spD K R_short_by) []) (c3 : C8.Cal P w K mg base 2 "caps_by" (spD K R_caps_by) []) (c4 : C8.Cal P w K mg base 1 "draws_by" (spD K R_draws_by) []) (F : Fd K mg "cheapest" s_cheapest) : C8.Cal P w K mg base 7 "cheapest" (spD K R_cheapest) [] := by
  refine cal_of F sc_cheapest (by decide) bd_cheapest (fun ds d ⟨p, _, _, _, _, _, _, _, e, _⟩ => by rw [e]; rfl) fun ds d f cdv A outer s H E h hr => ?_
  obtain ⟨p, st, a, b, hp, hs, h0, h1, rfl, rfl⟩ := h
  refine sds_expr (ed_call c hr (by decide) rfl (ad_cons (ed_var 0) (ad_cons (ed_var 1) ad_nil)) ⟨p, st, hp, hs, rfl, rfl⟩) ?_
  refine sds_set 2 sc_cheapest.nd (ed_call c1 hr (by decide) rfl (ad_cons (ed_var 0) (ad_cons (ed_var 1) ad_nil)) ⟨p, st, hp, hs, rfl, rfl⟩) ?_
  refine sds_par 3 4 sc_cheapest.nd (ad_cons (ed_call c3 hr (by decide) rfl (ad_cons (ed_var 0) (ad_cons (ed_var 1) ad_nil)) ⟨p, st, hp, hs, rfl, rfl⟩) (ad_cons (ed_call c4 hr (by decide) rfl (ad_cons (ed_var 0) (ad_cons (ed_var 1) ad_nil)) ⟨p, st, hp, hs, rfl, rfl⟩) ad_nil)) ?_
  refine sds_take (td_cmp (ed_var 2) ed_non cmp_isN) (by rw [h0]; rfl) ?_
  refine sds_ret (ed_bin (ed_tu (ad_cons ed_str ad_nil)) (ed_cast (d2 := encO (some (a, b))) (ed_call c2 hr (by decide) rfl (ad_cons (ed_ix (ed_var 0) ed_int (ix_tupD rfl)) (ad_cons (ed_var 3) (ad_cons (ed_var 4) ad_nil))) ⟨p, _, _, hrs_all hs, rfl, rfl⟩) (by rw [h1])) (bin_catT (by simp))) rfl
theorem c_least_coal (c : C8.Cal P w K mg base 6 "need_story" (spD K R_need_story) []) (c1 : C8.Cal P w K mg base 4 "best_plan" (spD K R_best_plan) []) (F : Fd K mg "least_coal" s_least_coal) : C8.Cal P w K mg base 7 "least_coal" (spD K R_least_coal) [] := by
  refine cal_of F sc_least_coal (by decide) bd_least_coal (fun ds d ⟨p, _, _, _, e, _⟩ => by rw [e]; rfl) fun ds d f cdv A outer s H E h hr => ?_
  obtain ⟨p, st, hp, hs, rfl, rfl⟩ := h
  refine sds_expr (ed_call c hr (by decide) rfl (ad_cons (ed_var 0) (ad_cons (ed_var 1) ad_nil)) ⟨p, st, hp, hs, rfl, rfl⟩) ?_
  refine sds_set 2 sc_least_coal.nd (ed_call c1 hr (by decide) rfl (ad_cons (ed_var 0) (ad_cons (ed_var 1) ad_nil)) ⟨p, st, hp, hs, rfl, rfl⟩) ?_
  cases planAll p st with
  | none => exact sds_ret (ed_if (k := true) (td_cmp (ed_var 2) ed_non cmp_isN) (fun _ => ed_non) fun h => nomatch h) rfl
  | some q => exact sds_ret (ed_if (k := false) (td_cmp (ed_var 2) ed_non cmp_isN) (fun h => nomatch h) fun _ => ed_ix (ed_var 2) ed_int (ix_tupD rfl)) rfl
theorem c_caps_alone (c3 : C8.Cal P w K mg base 2 "caps_by" (spD K R_caps_by) []) (B : Bi K mg) (F : Fd K mg "caps_alone" s_caps_alone) : C8.Cal P w K mg base 3 "caps_alone" (spD K R_caps_alone) [] := by
  refine cal_of F sc_caps_alone (by decide) bd_caps_alone (fun ds d ⟨p, _, _, _, _, e, _⟩ => by rw [e]; rfl) fun ds d f cdv A outer s H E h hr => ?_
  obtain ⟨p, st, ch, hp, hs, rfl, rfl⟩ := h
  have h8 := hs.h8; have b4 := hp.b4
  refine sds_setN 3 sc_caps_alone.nd (nd_li ad_nil) ?_
  refine sds_for (js := [4]) (fun i ρ => ∃ x, ρ = [some (.d (encPl p)), some (.d (encS st)), some (.d (encT ch)), some (.own (.lst (((capsAlone (capsBy p st) ch).take i).map encT))), x, none, none]) (id_tup (ds := (capsBy p st).map encT) (ed_call c3 hr (by decide) rfl (ad_cons (ed_var 0) (ad_cons (ed_var 1) ad_nil)) ⟨p, st, hp, hs, rfl, rfl⟩)) ⟨none, rfl⟩ ?_ ?_
  · rintro i d ρ2 hd ⟨x, rfl⟩
    obtain ⟨row, hrow, rfl⟩ := map_get hd
    have hi : i < st.extra.length := by
      have := (List.getElem?_eq_some_iff.mp hrow).1
      rw [caps_len] at this
      exact this
    have hnew : (capsAlone (capsBy p st) ch)[i]? = some (row.zipIdx.map fun q => if ch.contains ((q.2 : Nat) : Int) then q.1 else 0) := by
      unfold capsAlone
      rw [List.getElem?_map, hrow]
      rfl
    have hrl := caps_row (List.mem_of_getElem? hrow)
    refine ⟨_, gd_name 4 sc_caps_alone.nd, ?_⟩
    refine sds_expr (ed_append 3 (ed_cast (d2 := encT (row.zipIdx.map fun q => if ch.contains ((q.2 : Nat) : Int) then q.1 else 0)) (ed_tuple B.tuple (ed_lc [("boiler", 5), ("cap", 6)] sc_caps_alone.nd (id_cast (id_enumT B.enumerate (ad_cons (ed_var 4) ad_nil)) enumD_map) (f := fun q => .int (if ch.contains ((q.2 : Nat) : Int) then q.1 else 0)) ?_ ?_)) (by unfold encT; rw [List.map_map]; rfl)) rfl rfl ?_) (sds_nil ?_)
    · refine fun q hq => ⟨_, by rfl, fun s H C cl fp => ⟨gd_t2 5 6 sc_caps_alone.nd, ed_if (td_cmp (ed_var 5) (ed_var 2) (cmp_inT rfl (flat_ints ch)) rfl) (fun h => ed_cast (ed_var 6) ?_) fun h => ed_cast ed_int ?_⟩⟩
      · have e := (inV_ints ((q.2 : Nat) : Int) ch).symm.trans h
        rw [if_pos e]
      · have e := (inV_ints ((q.2 : Nat) : Int) ch).symm.trans h
        rw [if_neg (by rw [e]; exact Bool.false_ne_true)]
    · rw [List.length_zipIdx]; omega
    · rw [List.length_map, List.length_take]; omega
    · rw [take_snoc hnew, List.map_append]
      exact ⟨_, rfl⟩
  · rintro ρ2 ⟨x, rfl⟩
    refine sds_frz 3 rfl ?_
    refine sds_ret (ed_tuple B.tuple (ed_var 3)) ?_
    rw [List.length_map, List.take_of_length_le (by rw [alone_len, caps_len]; exact Nat.le_refl _)]
    rfl
theorem c_plan_alone (c : C8.Cal P w K mg base 3 "plan_by" (spD K R_plan_by) []) (c2 : C8.Cal P w K mg base 1 "coals_of" (spD K R_coals_of) []) (c3 : C8.Cal P w K mg base 3 "caps_alone" (spD K R_caps_alone) []) (c4 : C8.Cal P w K mg base 1 "draws_by" (spD K R_draws_by) []) (F : Fd K mg "plan_alone" s_plan_alone) : C8.Cal P w K mg base 4 "plan_alone" (spD K R_plan_alone) [] := by
  refine cal_of F sc_plan_alone (by decide) bd_plan_alone (fun ds d ⟨p, _, _, _, _, e, _⟩ => by rw [e]; rfl) fun ds d f cdv A outer s H E h hr => ?_
  obtain ⟨p, st, ch, hp, hs, rfl, rfl⟩ := h
  exact sds_ret (ed_call c hr (by decide) rfl (ad_cons (ed_call c2 hr (by decide) rfl (ad_cons (ed_var 0) ad_nil) ⟨p, hp, rfl, rfl⟩) (ad_cons (ed_call c3 hr (by decide) rfl (ad_cons (ed_var 0) (ad_cons (ed_var 1) (ad_cons (ed_var 2) ad_nil))) ⟨p, st, ch, hp, hs, rfl, rfl⟩) (ad_cons (ed_call c4 hr (by decide) rfl (ad_cons (ed_var 0) (ad_cons (ed_var 1) ad_nil)) ⟨p, st, hp, hs, rfl, rfl⟩) (ad_cons (ed_ix (ed_var 0) ed_int (ix_tupD rfl)) ad_nil)))) ⟨p, _, _, hp, pln_alone hp hs, rfl, rfl⟩) rfl
theorem c_short_alone (c : C8.Cal P w K mg base 2 "short_by" (spD K R_short_by) []) (c3 : C8.Cal P w K mg base 3 "caps_alone" (spD K R_caps_alone) []) (c4 : C8.Cal P w K mg base 1 "draws_by" (spD K R_draws_by) []) (F : Fd K mg "short_alone" s_short_alone) : C8.Cal P w K mg base 4 "short_alone" (spD K R_short_alone) [] := by
  refine cal_of F sc_short_alone (by decide) bd_short_alone (fun ds d ⟨p, _, _, _, _, e, _⟩ => by rw [e]; rfl) fun ds d f cdv A outer s H E h hr => ?_
  obtain ⟨p, st, ch, hp, hs, rfl, rfl⟩ := h
  exact sds_ret (ed_call c hr (by decide) rfl (ad_cons (ed_ix (ed_var 0) ed_int (ix_tupD rfl)) (ad_cons (ed_call c3 hr (by decide) rfl (ad_cons (ed_var 0) (ad_cons (ed_var 1) (ad_cons (ed_var 2) ad_nil))) ⟨p, st, ch, hp, hs, rfl, rfl⟩) (ad_cons (ed_call c4 hr (by decide) rfl (ad_cons (ed_var 0) (ad_cons (ed_var 1) ad_nil)) ⟨p, st, hp, hs, rfl, rfl⟩) ad_nil))) ⟨p, _, _, hrs_alone hs, rfl, rfl⟩) rfl
end
end Mf
/-! the walks: sets, fewest -/
namespace Mf
open PySem PySem.Spec PyProof.Rows L2
section
variable {P : Program} {w : World} {K : PySem.W.Frag} {mg : Str → Option Value} {base : Heap}
theorem longer_len {many : Nat} {row : List Int} : (longer many row).length ≤ many := by
  unfold longer
  rw [List.length_map]
  exact Nat.le_trans (List.length_filter_le _ _) (by rw [List.length_range]; exact Nat.le_refl _)
theorem flat_longer {many : Nat} : ∀ l : List (List Int), (l.flatMap (longer many)).length ≤ l.length * many
  | [] => by simp
  | r :: l => by
    have h1 := longer_len (many := many) (row := r)
    have h2 := flat_longer (many := many) l
    rw [List.flatMap_cons, List.length_append, List.length_cons, Nat.add_mul]
    omega
theorem last_at {row : List Int} (h : row ≠ []) : atI (row.map D.int) (-1) = some (.int (row.getLastD 0)) := by
  have hl : 0 < row.length := List.length_pos_iff.mpr h
  unfold atI ixN
  rw [if_neg (by decide), if_pos (by rw [List.length_map]; omega), List.length_map]
  show (row.map D.int)[((-1 : Int) + (row.length : Nat)).toNat]? = _
  rw [show ((-1 : Int) + (row.length : Nat)).toNat = row.length - 1 from by omega, List.getElem?_map, ← List.getLast?_eq_getElem?, List.getLastD_eq_getLast?]
  cases hx : row.getLast? with
  | none => exact absurd (List.getLast?_eq_none_iff.mp hx) h
  | some x => rfl
theorem c_sets_of (B : Bi K mg) (F : Fd K mg "sets_of" s_sets_of) : C8.Cal P w K mg base 1 "sets_of" (spD K R_sets_of) [] := by
  refine cal_of F sc_sets_of (by decide) bd_sets_of (fun ds d ⟨p, _, _, _, e, _⟩ => by rw [e]; rfl) fun ds d f cdv A outer s H E h hr => ?_
  obtain ⟨many, size, hm, hz, rfl, rfl⟩ := h
  refine sds_set 2 sc_sets_of.nd (ed_cast (d2 := .lst ((setsOf many 0).map encT)) (ed_li (ad_cons (ed_tu ad_nil) ad_nil)) rfl) ?_
  refine sds_for (js := [3]) (fun i ρ => ∃ x y z, ρ = [some (.d (.int (many : Nat))), some (.d (.int (size : Nat))), some (.d (.lst ((setsOf many i).map encT))), x, y, z, none]) (id_rng1 (n := size) B.range (ad_cons (ed_var 1) ad_nil) (by omega)) ⟨none, none, none, rfl⟩ ?_ ?_
  · rintro i d ρ2 hd ⟨x, y, z, rfl⟩
    obtain ⟨hi, rfl⟩ := rng_get hd
    refine ⟨_, gd_name 3 sc_sets_of.nd, ?_⟩
    refine sds_setN 4 sc_sets_of.nd (nd_li ad_nil) ?_
    refine sds_for (js := [5]) (fun k ρ => ∃ x z, ρ = [some (.d (.int (many : Nat))), some (.d (.int (size : Nat))), some (.d (.lst ((setsOf many i).map encT))), x, some (.own (.lst ((((setsOf many i).take k).flatMap (longer many)).map encT))), z, none]) (id_lst (ed_var 2)) ⟨_, _, rfl⟩ ?_ ?_
    · rintro k d ρ3 hd ⟨x, z, rfl⟩
      obtain ⟨row, hrow, rfl⟩ := map_get hd
      refine ⟨_, gd_name 5 sc_sets_of.nd, ?_⟩
      refine sds_expr (ed_extend 4 (es := (longer many row).map encT) (ed_cast (ed_lcIf [("one", 6)] sc_sets_of.nd (id_rng1 (n := many) B.range (ad_cons (ed_var 0) ad_nil) (by omega)) (xs := List.range many) (p := fun one => row.isEmpty || decide (row.getLastD 0 < ((one : Nat) : Int))) (f := fun one => encT (row ++ [((one : Nat) : Int)])) ?_ (by rw [List.length_range]; omega)) ?_) rfl rfl ?_) (sds_nil ?_)
      · refine fun b hb => ⟨_, by rfl, fun s H C cl fp => ⟨gd_name 6 sc_sets_of.nd, td_cast (td_bool (wd_or (td_cmp (ed_var 5) (ed_tu ad_nil) (cmp_eqTI (ms := []) (room64 hr))) fun h => wd_or1 (td_cmp (ed_var 6) (ed_ix (ed_var 5) (ed_neg ed_int) (ix_tupD (last_at (by simpa using h)))) cmp_gt))) ?_, fun _ => ed_cast (ed_bin (ed_var 5) (ed_tu (ad_cons (ed_var 6) ad_nil)) (bin_catT ?_)) ?_⟩⟩
        · cases row <;> simp
        · have : row.length ≤ 4 := by rw [sets_ok1 many (by omega) i (by omega) row (List.mem_of_getElem? hrow)]; omega
          rw [List.length_map, List.length_cons, List.length_nil]; omega
        · unfold encT
          rw [List.map_append]
          rfl
      · unfold longer
        rw [List.map_map]
        rfl
      · have h1 := flat_longer (many := many) ((setsOf many i).take k)
        have h2 := longer_len (many := many) (row := row)
        have h3 := sets_len hm (n := i) (by omega)
        have h4 : ((setsOf many i).take k).length * many ≤ 6 * 4 := Nat.mul_le_mul (by rw [List.length_take]; omega) hm
        rw [List.length_map, List.length_map]
        omega
      · rw [take_snoc hrow, List.flatMap_append, List.map_append, List.flatMap_cons, List.flatMap_nil, List.append_nil]
        exact ⟨_, _, rfl⟩
    · rintro ρ3 ⟨x, z, rfl⟩
      rw [List.length_map, List.take_length]
      refine sds_frz 4 rfl ?_
      exact sds_set 2 sc_sets_of.nd (ed_var 4) (sds_nil ⟨_, _, _, rfl⟩)
  · rintro ρ2 ⟨x, y, z, rfl⟩
    rw [List.length_map, List.length_range]
    exact sds_ret (ed_var 2) rfl
theorem c_shows_below (c : C8.Cal P w K mg base 1 "sets_of" (spD K R_sets_of) []) (c2 : C8.Cal P w K mg base 4 "short_alone" (spD K R_short_alone) []) (B : Bi K mg) (F : Fd K mg "shows_below" s_shows_below) : C8.Cal P w K mg base 5 "shows_below" (spD K R_shows_below) [] := by
  refine cal_of F sc_shows_below (by decide) bd_shows_below (fun ds d ⟨p, _, _, _, _, _, e, _⟩ => by rw [e]; rfl) fun ds d f cdv A outer s H E h hr => ?_
  obtain ⟨p, st, size, hp, hs, hz, rfl, rfl⟩ := h
  have b4 := hp.b4
  cases size with
  | zero => exact sds_take (k := true) (td_cmp (ed_var 2) ed_int cmp_eqI) rfl (sds_ret (ed_tu ad_nil) rfl)
  | succ n =>
    refine sds_skip (td_cmp (ed_var 2) ed_int cmp_eqI) (by simp; omega) ?_
    refine sds_ret (ed_tuple B.tuple (ed_lc [("chosen", 3)] sc_shows_below.nd (id_lst (ds := (setsOf p.boilers.length n).map encT) (ed_call c hr (by decide) rfl (ad_cons (ed_lenT B.len (ed_ix (ed_var 0) ed_int (ix_tupD rfl))) (ad_cons (ed_cast (d2 := .int (n : Nat)) (ed_bin (ed_var 2) ed_int bin_sub) ?_) ad_nil)) ⟨p.boilers.length, n, b4, by omega, by rw [List.length_map], rfl⟩)) (f := fun ch => encO (shortOf p st ch)) ?_ ?_)) ?_
    · congr 1; omega
    · exact fun ch hch => ⟨_, by rfl, fun s H C cl fp => ⟨gd_name 3 sc_shows_below.nd, ed_call c2 hr (by decide) rfl (ad_cons (ed_var 0) (ad_cons (ed_var 1) (ad_cons (ed_var 3) ad_nil))) ⟨p, st, ch, hp, hs, rfl, rfl⟩⟩⟩
    · have := sets_len b4 (n := n) (by omega); omega
    · unfold showsOf
      rw [List.map_map]
      rfl
theorem upTo_rg {n : Nat} : (rgI n).map D.int = (upTo n).map D.int := rfl
theorem c_fewest (c : C8.Cal P w K mg base 6 "need_story" (spD K R_need_story) []) (c1 : C8.Cal P w K mg base 1 "sets_of" (spD K R_sets_of) []) (c2 : C8.Cal P w K mg base 4 "plan_alone" (spD K R_plan_alone) []) (c3 : C8.Cal P w K mg base 5 "shows_below" (spD K R_shows_below) []) (c4 : C8.Cal P w K mg base 4 "short_alone" (spD K R_short_alone) []) (B : Bi K mg) (F : Fd K mg "fewest" s_fewest) : C8.Cal P w K mg base 7 "fewest" (spD K R_fewest) [] := by
  refine cal_of F sc_fewest (by decide) bd_fewest (fun ds d ⟨p, _, _, _, _, e, _⟩ => by rw [e]; rfl) fun ds d f cdv A outer s H E h hr => ?_
  obtain ⟨p, st, hp, hs, hsh, rfl, rfl⟩ := h
  have b4 := hp.b4
  refine sds_expr (ed_call c hr (by decide) rfl (ad_cons (ed_var 0) (ad_cons (ed_var 1) ad_nil)) ⟨p, st, hp, hs, rfl, rfl⟩) ?_
  refine sds_set 2 sc_fewest.nd (ed_cast (d2 := .int (p.boilers.length : Nat)) (ed_lenT B.len (ed_ix (ed_var 0) ed_int (ix_tupD rfl))) (by rw [List.length_map])) ?_
  refine sds_for (js := [3]) (fun i ρ => (((List.range (p.boilers.length + 1)).take i).flatMap fun size => (setsOf p.boilers.length size).map fun ch => (size, ch)).find? (fun q => (planFor p st q.2).isSome) = none ∧ ∃ x y z, ρ = [some (.d (encPl p)), some (.d (encS st)), some (.d (.int (p.boilers.length : Nat))), x, y, z])
    (id_rng1 (n := p.boilers.length + 1) B.range (ad_cons (ed_bin (ed_var 2) ed_int bin_add) ad_nil) (by omega)) ⟨rfl, none, none, none, rfl⟩ ?_ ?_
  · rintro i d ρ2 hd ⟨h0, x, y, z, rfl⟩
    obtain ⟨hi, rfl⟩ := rng_get hd
    refine ⟨_, gd_name 3 sc_fewest.nd, ?_⟩
    refine sds_for (js := [4]) (fun k ρ => (((setsOf p.boilers.length i).map fun ch => (i, ch)).take k).find? (fun q => (planFor p st q.2).isSome) = none ∧ ∃ y z, ρ = [some (.d (encPl p)), some (.d (encS st)), some (.d (.int (p.boilers.length : Nat))), some (.d (.int (i : Nat))), y, z]) (id_lst (ds := (setsOf p.boilers.length i).map encT) (ed_call c1 hr (by decide) rfl (ad_cons (ed_var 2) (ad_cons (ed_var 3) ad_nil)) ⟨p.boilers.length, i, b4, by omega, rfl, rfl⟩)) ⟨rfl, _, _, rfl⟩ ?_ ?_
    · rintro k d ρ3 hd ⟨h1, y, z, rfl⟩
      obtain ⟨ch, hch, rfl⟩ := map_get hd
      have hx : ((setsOf p.boilers.length i).map fun ch => (i, ch))[k]? = some (i, ch) := by rw [List.getElem?_map, hch]; rfl
      refine ⟨_, gd_name 4 sc_fewest.nd, ?_⟩
      refine sds_set 5 sc_fewest.nd (ed_call c2 hr (by decide) rfl (ad_cons (ed_var 0) (ad_cons (ed_var 1) (ad_cons (ed_var 4) ad_nil))) ⟨p, st, ch, hp, hs, rfl, rfl⟩) ?_
      cases hpl : planFor p st ch with
      | none => exact sds_skip (td_cmp (ed_var 5) ed_non cmp_notN) rfl (sds_nil ⟨find_at0 h1 hx (by show (planFor p st ch).isSome = false; rw [hpl]; rfl), _, _, rfl⟩)
      | some q =>
        refine sds_take (td_cmp (ed_var 5) ed_non cmp_notN) rfl ?_
        refine sds_ret (ed_tu (ad_cons ed_str (ad_cons (ed_var 4) (ad_cons (ed_ix (ed_var 5) ed_int (ix_tupD rfl)) (ad_cons (ed_call c3 hr (by decide) rfl (ad_cons (ed_var 0) (ad_cons (ed_var 1) (ad_cons (ed_var 3) ad_nil))) ⟨p, st, i, hp, hs, by omega, rfl, rfl⟩) ad_nil))))) ?_
        have e : foundSet p st = some (i, ch) := find_flat h0 (List.getElem?_range hi) (find_at h1 hx (by show (planFor p st ch).isSome = true; rw [hpl]; rfl))
        unfold encFw
        rw [e]
        show _ = D.tup [.str "lit", encT ch, encR ((planFor p st ch).getD (0, [])).2, .tup ((showsOf p st i).map encO)]
        rw [hpl]
        rfl
    · rintro ρ3 ⟨h1, y, z, rfl⟩
      refine sds_nil ⟨find_flat0 h0 (List.getElem?_range hi) ?_, _, _, _, rfl⟩
      rw [List.length_map, List.take_of_length_le (by rw [List.length_map]; exact Nat.le_refl _)] at h1
      exact h1
  · rintro ρ2 ⟨h0, x, y, z, rfl⟩
    rw [List.length_map, List.length_range, List.take_of_length_le (by simp)] at h0
    have e : foundSet p st = none := h0
    obtain ⟨q, hq⟩ := Option.isSome_iff_exists.mp (hsh e)
    refine sds_ret (ed_bin (ed_tu (ad_cons ed_str ad_nil)) (ed_cast (d2 := encO (some q)) (ed_call c4 hr (by decide) rfl (ad_cons (ed_var 0) (ad_cons (ed_var 1) (ad_cons (ed_tupRg1 (n := p.boilers.length) B.tuple B.range (ed_var 2) (by omega)) ad_nil))) ⟨p, st, upTo p.boilers.length, hp, hs, rfl, rfl⟩) (by rw [hq])) (bin_catT (by simp))) ?_
    unfold encFw
    rw [e]
    show _ = D.tup [.str "short", .int (((shortOf p st (upTo p.boilers.length)).getD (0, 0)).1 : Nat), .int (((shortOf p st (upTo p.boilers.length)).getD (0, 0)).2 : Nat)]
    rw [hq]
    rfl
end
end Mf
/-! the walks: what fewest says, alone, needed -/
namespace Mf
open PySem PySem.Spec PyProof.Rows L2
section
variable {P : Program} {w : World} {K : PySem.W.Frag} {mg : Str → Option Value} {base : Heap}
theorem cut_tail {xs : List D} : cutD xs (some 1) none = xs.drop 1 := by
  unfold cutD
  have e1 : HT.sIx xs.length 0 (some 1) = min 1 xs.length := HT.sIx_nat xs.length 0 1
  rw [e1, HT.sIx_none]
  cases xs with
  | nil => rfl
  | cons x xs =>
    rw [show min 1 (x :: xs).length = 1 from by rw [List.length_cons]; omega]
    exact List.take_of_length_le (by rw [List.length_drop]; exact Nat.le_refl _)
theorem zip_tail : ∀ {ch : List Int}, ch.Pairwise (· < ·) → ∀ q ∈ ch.zip (ch.drop 1), q.1 < q.2
  | [], _, q, h => by cases h
  | [x], _, q, h => by cases h
  | x :: y :: l, hp, q, h => by
    cases h with
    | head => exact List.rel_of_pairwise_cons hp List.mem_cons_self
    | tail _ h => exact zip_tail (ch := y :: l) (List.Pairwise.of_cons hp) q h
theorem c_is_set (c : C8.Cal P w K mg base 2 "is_upto" (spD K R_is_upto) []) (B : Bi K mg) (F : Fd K mg "is_set" s_is_set) : C8.Cal P w K mg base 3 "is_set" (spD K R_is_set) [] := by
  refine cal_of F sc_is_set (by decide) bd_is_set (fun ds d ⟨p, _, _, e, _⟩ => by rw [e]; rfl) fun ds d f cdv A outer s H E h hr => ?_
  obtain ⟨many, ch, hk, rfl, rfl⟩ := h
  have l := hk.l
  refine sds_skip (td_bool (wd_or (td_not (td_val (ed_isi true B.isinstance (ed_var 1) B.tuple))) fun _ => wd_or1 (td_not (k := true) (td_val (ed_allT B.all (ed_lc [("one", 2)] sc_is_set.nd (id_tup (ed_var 1)) ?_ (by omega)) (xs := ch) (g := fun x => decide (0 ≤ x) && decide (x ≤ (many : Nat) - 1)) fun x hx => ?_))))) rfl ?_
  · exact fun q hq => ⟨_, by rfl, fun s H C cl fp => ⟨gd_name 2 sc_is_set.nd, ed_call c hr (by decide) rfl (ad_cons (ed_var 2) (ad_cons (ed_var 0) ad_nil)) ⟨_, _, rfl, rfl⟩⟩⟩
  · have := hk.b x hx
    simp
    omega
  refine sds_ret (ed_allT B.all (ed_lc [("one", 2), ("other", 3)] sc_is_set.nd (id_cast (id_zipTT B.zip (ad_cons (ed_var 1) (ad_cons (ed_cast (d2 := encT (ch.drop 1)) (ed_slT (ed_var 1) (od_some ed_int) od_none) (by rw [cut_tail, ← List.map_drop]; rfl)) ad_nil))) zipD_map) ?_ (by rw [List.length_zip]; omega)) (xs := ch.zip (ch.drop 1)) (g := fun q => decide (q.1 < q.2)) fun q hq => decide_eq_true (zip_tail hk.u q hq)) rfl
  exact fun q hq => ⟨_, by rfl, fun s H C cl fp => ⟨gd_t2 2 3 sc_is_set.nd, ed_cmp (ed_var 2) (ed_var 3) cmp_lt⟩⟩
theorem c_does_with (c : C8.Cal P w K mg base 3 "is_firing_of" (spD K R_is_firing_of) []) (c2 : C8.Cal P w K mg base 3 "does_keep_up" (spD K R_does_keep_up) []) (B : Bi K mg) (F : Fd K mg "does_with" s_does_with) : C8.Cal P w K mg base 4 "does_with" (spD K R_does_with) [] := by
  refine cal_of F sc_does_with (by decide) bd_does_with (fun ds d ⟨p, _, _, _, _, _, _, _, _, e, _⟩ => by rw [e]; rfl) fun ds d f cdv A outer s H E h hr => ?_
  obtain ⟨p, st, ch, fi, hp, hs, hf, hk, ho, rfl, rfl⟩ := h
  have h8 := hs.h8; have b4 := hp.b4; have hl := firing_len hf
  refine sds_skip (td_bool (wd_or (td_not (k := true) (td_val (ed_call c hr (by decide) rfl (ad_cons (ed_var 0) (ad_cons (ed_var 1) (ad_cons (ed_var 3) ad_nil))) ⟨p, st, fi, hp, hs, hf, rfl, rfl⟩))) fun _ => wd_or1 (td_not (k := true) (td_val (ed_call c2 hr (by decide) rfl (ad_cons (ed_var 0) (ad_cons (ed_var 1) (ad_cons (ed_var 3) ad_nil))) ⟨p, st, fi, hp, hs, by rw [draws_len, hl], rfl, by rw [hk]⟩))))) rfl ?_
  refine sds_for (js := [4]) (fun i ρ => ∃ x, ρ = [some (.d (encPl p)), some (.d (encS st)), some (.d (encT ch)), some (.d (encR fi)), x, none, none]) (id_tup (ds := fi.map encT) (ed_var 3)) ⟨none, rfl⟩ ?_ ?_
  · rintro i d ρ2 hd ⟨x, rfl⟩
    obtain ⟨row, hrow, rfl⟩ := map_get hd
    have hrm := List.mem_of_getElem? hrow
    refine ⟨_, gd_name 4 sc_does_with.nd, ?_⟩
    refine sds_skip (td_not (k := true) (td_val (ed_allT B.all (ed_lc [("boiler", 5), ("steam", 6)] sc_does_with.nd (id_cast (id_enumT B.enumerate (ad_cons (ed_var 4) ad_nil)) enumD_map) ?_ ?_) (xs := row.zipIdx) (g := fun q => decide (q.1 = 0) || ch.contains ((q.2 : Nat) : Int)) fun q hq => ?_))) rfl (sds_nil ⟨_, rfl⟩)
    · exact fun q hq => ⟨_, by rfl, fun s H C cl fp => ⟨gd_t2 5 6 sc_does_with.nd, ed_or (ed_cmp (ed_var 6) ed_int cmp_eqI) fun _ => ed_one (ed_cast (ed_cmp (ed_var 5) (ed_var 2) (cmp_inT rfl (flat_ints ch)) rfl) (by rw [show vOf (D.int ((q.2 : Nat) : Int)) = V.int ((q.2 : Nat) : Int) from rfl, inV_ints]))⟩⟩
    · rw [List.length_zipIdx, firing_row hf hrm]; omega
    · rcases ho row hrm q hq with h | h
      · simp [h]
      · simp [h]
  · rintro ρ2 ⟨x, rfl⟩
    exact sds_ret ed_bl rfl
theorem zip_diag {α β : Type} {h : α × α → β} : ∀ {S : List α}, (S.zip S).map h = S.map fun x => h (x, x)
  | [] => rfl
  | x :: S => by rw [List.zip_cons_cons, List.map_cons, zip_diag, List.map_cons]
theorem c_are_shows (c : C8.Cal P w K mg base 1 "sets_of" (spD K R_sets_of) []) (c2 : C8.Cal P w K mg base 1 "draws_by" (spD K R_draws_by) []) (c3 : C8.Cal P w K mg base 3 "caps_alone" (spD K R_caps_alone) []) (c4 : C8.Cal P w K mg base 3 "is_stretch" (spD K R_is_stretch) []) (B : Bi K mg) (F : Fd K mg "are_shows" s_are_shows) : C8.Cal P w K mg base 4 "are_shows" (spD K R_are_shows) [] := by
  refine cal_of F sc_are_shows (by decide) bd_are_shows (fun ds d ⟨p, _, _, _, _, _, _, e, _⟩ => by rw [e]; rfl) fun ds d f cdv A outer s H E h hr => ?_
  obtain ⟨p, st, size, hp, hs, hz, ho, rfl, rfl⟩ := h
  have b4 := hp.b4
  obtain ⟨S, hS, hl, hok, hse⟩ : ∃ S : List (List Int), showsOf p st size = S.map (shortOf p st) ∧ S.length ≤ 6 ∧ (∀ ch ∈ S, ShowOk p st ch (shortOf p st ch)) ∧ ((0 < (size : Int) → ∃ n, size = n + 1 ∧ S = setsOf p.boilers.length n) ∧ (¬ 0 < (size : Int) → S = [])) := by
    cases size with
    | zero => exact ⟨[], rfl, by simp, (fun ch h => (nomatch h)), (fun h => absurd h (by decide)), fun _ => rfl⟩
    | succ n => exact ⟨setsOf p.boilers.length n, rfl, sets_len b4 (by omega), (fun ch h => ho n rfl ch h), (fun _ => ⟨n, rfl, rfl⟩), fun h => absurd (by omega) h⟩
  rw [hS]
  refine sds_set 4 sc_are_shows.nd (ed_if (ρ1 := startE N_are_shows [encPl p, encS st, .int (size : Nat), .tup ((S.map (shortOf p st)).map encO)]) (d := .lst (S.map encT)) (td_cmp (ed_var 2) ed_int cmp_gt) (fun h => ?_) fun h => ?_) ?_
  · obtain ⟨n, hn, rfl⟩ := hse.1 (of_decide_eq_true h)
    exact ed_call c hr (by decide) rfl (ad_cons (ed_lenT B.len (ed_ix (ed_var 0) ed_int (ix_tupD rfl))) (ad_cons (ed_cast (d2 := .int (n : Nat)) (ed_bin (ed_var 2) ed_int bin_sub) (by congr 1; omega)) ad_nil)) ⟨p.boilers.length, n, b4, by omega, by rw [List.length_map], rfl⟩
  · obtain rfl := hse.2 (of_decide_eq_false h)
    exact ed_li ad_nil
  refine sds_skip (td_bool (wd_or (td_not (td_val (ed_isi true B.isinstance (ed_var 3) B.tuple))) fun _ => wd_or1 (td_cmp (ed_lenT B.len (ed_var 3)) (ed_lenL B.len (ed_var 4)) cmp_neI))) (by simp) ?_
  refine sds_set 5 sc_are_shows.nd (ed_call c2 hr (by decide) rfl (ad_cons (ed_var 0) (ad_cons (ed_var 1) ad_nil)) ⟨p, st, hp, hs, rfl, rfl⟩) ?_
  refine sds_setLc 6 [("chosen", 7)] sc_are_shows.nd (id_lst (ed_var 4)) (xs := S) (f := fun ch => encR (capsAlone (capsBy p st) ch)) ?_ (by omega) ?_
  · exact fun ch hch => ⟨_, by rfl, fun s H C cl fp => ⟨gd_name 7 sc_are_shows.nd, ed_call c3 hr (by decide) rfl (ad_cons (ed_var 0) (ad_cons (ed_var 1) (ad_cons (ed_var 7) ad_nil))) ⟨p, st, ch, hp, hs, rfl, rfl⟩⟩⟩
  refine sds_ret (ed_allT B.all (ed_lc [("caps", 8), ("one", 9)] sc_are_shows.nd (id_cast (id_zipLT B.zip (ad_cons (ed_var 6) (ad_cons (ed_var 3) ad_nil))) (by rw [List.map_map, zipD_map, zip_diag]; rfl)) (xs := S) (enc := fun ch => .tup [encR (capsAlone (capsBy p st) ch), encO (shortOf p st ch)]) ?_ (by omega)) (g := fun _ => true) fun _ _ => rfl) rfl
  intro ch hch
  obtain ⟨a, b, e1, e2, e3, e4⟩ := hok ch hch
  rw [e1]
  exact ⟨_, by rfl, fun s H C cl fp => ⟨gd_t2 8 9 sc_are_shows.nd, ed_call c4 hr (by decide) rfl (ad_cons (ed_ix (ed_var 0) ed_int (ix_tupD rfl)) (ad_cons (ed_var 8) (ad_cons (ed_var 5) (ad_cons (ed_var 9) ad_nil)))) ⟨p, _, _, a, b, hrs_alone hs, e2, e3, rfl, by rw [e4]⟩⟩⟩
theorem fine_T {n : Nat} (r : List Int) : fine (n + 1) (encT r) = true := fine_ints
theorem fine_O {n : Nat} (o : Option (Nat × Nat)) : fine (n + 1) (encO o) = true := by
  cases o <;> cases n <;> rfl
theorem so_short : PyData.strOk "short" = true := by decide +kernel
theorem so_lit : PyData.strOk "lit" = true := by decide +kernel
theorem fine_map {α : Type} {n : Nat} {f : α → D} {l : List α} (h : ∀ x ∈ l, fine n (f x) = true) : fine (n + 1) (.tup (l.map f)) = true := by
  show (l.map f).all (fine n) = true
  rw [List.all_map]
  exact List.all_eq_true.mpr h
theorem c_fewest_holds (c : C8.Cal P w K mg base 6 "need_story" (spD K R_need_story) []) (c1 : C8.Cal P w K mg base 3 "is_stretch" (spD K R_is_stretch) []) (c2 : C8.Cal P w K mg base 2 "caps_by" (spD K R_caps_by) []) (c3 : C8.Cal P w K mg base 1 "draws_by" (spD K R_draws_by) []) (c4 : C8.Cal P w K mg base 3 "is_set" (spD K R_is_set) []) (c5 : C8.Cal P w K mg base 4 "does_with" (spD K R_does_with) []) (c6 : C8.Cal P w K mg base 4 "are_shows" (spD K R_are_shows) []) (B : Bi K mg) (F : Fd K mg "fewest_holds" s_fewest_holds) : C8.Cal P w K mg base 7 "fewest_holds" (spD K R_fewest_holds) [] := by
  refine cal_of F sc_fewest_holds (by decide) bd_fewest_holds (fun ds d ⟨p, _, _, _, _, _, e, _⟩ => by rw [e]; rfl) fun ds d f cdv A outer s H E h hr => ?_
  obtain ⟨p, st, x, hp, hs, hx, rfl, rfl⟩ := h
  refine sds_expr (ed_call c hr (by decide) rfl (ad_cons (ed_var 0) (ad_cons (ed_var 1) ad_nil)) ⟨p, st, hp, hs, rfl, rfl⟩) ?_
  cases hx with
  | short a b h1 h2 h3 =>
    have hf : fine 4 (.tup [.str "short", .int (a : Nat), .int (b : Nat)]) = true := by
      show (PyData.strOk "short" && (true && (true && true))) = true
      rw [so_short]
      rfl
    refine sds_skip (td_bool (wd_or (td_not (td_val (ed_isi true B.isinstance (ed_var 2) B.tuple))) fun _ => wd_or (td_cmp (ed_var 2) (ed_tu ad_nil) (cmp_eqT0 4 (room64 hr) hf rfl)) fun _ => wd_or1 (td_not (k := true) (td_val (ed_isi true B.isinstance (ed_ix (ed_var 2) ed_int (ix_tupD rfl)) B.str))))) rfl ?_
    refine sds_take (td_cmp (ed_ix (ed_var 2) ed_int (ix_tupD rfl)) ed_str cmp_eqS) (by decide) ?_
    exact sds_ret (ed_call c1 hr (by decide) rfl (ad_cons (ed_ix (ed_var 0) ed_int (ix_tupD rfl)) (ad_cons (ed_call c2 hr (by decide) rfl (ad_cons (ed_var 0) (ad_cons (ed_var 1) ad_nil)) ⟨p, st, hp, hs, rfl, rfl⟩) (ad_cons (ed_call c3 hr (by decide) rfl (ad_cons (ed_var 0) (ad_cons (ed_var 1) ad_nil)) ⟨p, st, hp, hs, rfl, rfl⟩) (ad_cons (ed_cast (d2 := encO (some (a, b))) (ed_slT (ed_var 2) (od_some ed_int) od_none) rfl) ad_nil)))) ⟨p, _, _, a, b, hrs_all hs, h1, h2, rfl, rfl⟩) (by rw [h3])
  | lit size ch fi h1 h2 h3 h4 h5 h6 =>
    subst h2
    have hf : fine 4 (.tup [.str "lit", encT ch, encR fi, .tup ((showsOf p st ch.length).map encO)]) = true := by
      show ([D.str "lit", encT ch, encR fi, .tup ((showsOf p st ch.length).map encO)]).all (fine 3) = true
      refine List.all_eq_true.mpr fun d hd => ?_
      rcases List.mem_cons.mp hd with rfl | hd
      · exact so_lit
      rcases List.mem_cons.mp hd with rfl | hd
      · exact fine_T ch
      rcases List.mem_cons.mp hd with rfl | hd
      · exact fine_map fun r _ => fine_T r
      rcases List.mem_cons.mp hd with rfl | hd
      · exact fine_map fun r _ => fine_O r
      · cases hd
    refine sds_skip (td_bool (wd_or (td_not (td_val (ed_isi true B.isinstance (ed_var 2) B.tuple))) fun _ => wd_or (td_cmp (ed_var 2) (ed_tu ad_nil) (cmp_eqT0 4 (room64 hr) hf rfl)) fun _ => wd_or1 (td_not (k := true) (td_val (ed_isi true B.isinstance (ed_ix (ed_var 2) ed_int (ix_tupD rfl)) B.str))))) rfl ?_
    refine sds_skip (td_cmp (ed_ix (ed_var 2) ed_int (ix_tupD rfl)) ed_str cmp_eqS) (by decide) ?_
    refine sds_skip (td_bool (wd_or (td_cmp (ed_ix (ed_var 2) ed_int (ix_tupD rfl)) ed_str cmp_neS) fun _ => wd_or (td_cmp (ed_lenT B.len (ed_var 2)) ed_int cmp_neI) fun _ => wd_or1 (td_not (k := true) (td_val (ed_call c4 hr (by decide) rfl (ad_cons (ed_lenT B.len (ed_ix (ed_var 0) ed_int (ix_tupD rfl))) (ad_cons (ed_ix (ed_var 2) ed_int (ix_tupD rfl)) ad_nil)) ⟨p.boilers.length, ch, h1, by rw [List.length_map], rfl⟩))))) rfl ?_
    exact sds_ret (ed_and (k := true) (ed_call c5 hr (by decide) rfl (ad_cons (ed_var 0) (ad_cons (ed_var 1) (ad_cons (ed_ix (ed_var 2) ed_int (ix_tupD rfl)) (ad_cons (ed_ix (ed_var 2) ed_int (ix_tupD rfl)) ad_nil)))) ⟨p, st, ch, fi, hp, hs, h3, h4, h5, rfl, rfl⟩) fun _ => ed_one (ed_call c6 hr (by decide) rfl (ad_cons (ed_var 0) (ad_cons (ed_var 1) (ad_cons (ed_lenT B.len (ed_ix (ed_var 2) ed_int (ix_tupD rfl))) (ad_cons (ed_ix (ed_var 2) ed_int (ix_tupD rfl)) ad_nil)))) ⟨p, st, ch.length, hp, hs, h1.l, h6, by rw [List.length_map], rfl⟩)) rfl
theorem c_alone (c : C8.Cal P w K mg base 6 "need_story" (spD K R_need_story) []) (c1 : C8.Cal P w K mg base 3 "is_set" (spD K R_is_set) []) (c2 : C8.Cal P w K mg base 4 "plan_alone" (spD K R_plan_alone) []) (B : Bi K mg) (F : Fd K mg "alone" s_alone) : C8.Cal P w K mg base 7 "alone" (spD K R_alone) [] := by
  refine cal_of F sc_alone (by decide) bd_alone (fun ds d ⟨p, _, _, _, _, _, e, _⟩ => by rw [e]; rfl) fun ds d f cdv A outer s H E h hr => ?_
  obtain ⟨p, st, ch, hp, hs, hk, rfl, rfl⟩ := h
  refine sds_expr (ed_call c hr (by decide) rfl (ad_cons (ed_var 0) (ad_cons (ed_var 1) ad_nil)) ⟨p, st, hp, hs, rfl, rfl⟩) ?_
  refine sds_skip (td_not (k := true) (td_val (ed_call c1 hr (by decide) rfl (ad_cons (ed_lenT B.len (ed_ix (ed_var 0) ed_int (ix_tupD rfl))) (ad_cons (ed_var 2) ad_nil)) ⟨p.boilers.length, ch, hk, by rw [List.length_map], rfl⟩))) rfl ?_
  refine sds_set 3 sc_alone.nd (ed_call c2 hr (by decide) rfl (ad_cons (ed_var 0) (ad_cons (ed_var 1) (ad_cons (ed_var 2) ad_nil))) ⟨p, st, ch, hp, hs, rfl, rfl⟩) ?_
  cases planFor p st ch with
  | none => exact sds_ret (ed_if (k := true) (td_cmp (ed_var 3) ed_non cmp_isN) (fun _ => ed_non) fun h => nomatch h) rfl
  | some q => exact sds_ret (ed_if (k := false) (td_cmp (ed_var 3) ed_non cmp_isN) (fun h => nomatch h) fun _ => ed_ix (ed_var 3) ed_int (ix_tupD rfl)) rfl
theorem zipIdx_fm {α β : Type} {P : α → Bool} {f : α → β} : ∀ {l : List α} {k : Nat}, ((l.zipIdx k).filter fun q => P q.1).map (fun q => f q.1) = (l.filter P).map f
  | [], k => rfl
  | x :: l, k => by
    rw [List.zipIdx_cons, List.filter_cons, List.filter_cons]
    show List.map _ (if P x = true then _ else _) = _
    cases P x
    · exact zipIdx_fm
    · show f x :: List.map _ _ = f x :: _
      rw [zipIdx_fm]
theorem c_needed (c : C8.Cal P w K mg base 6 "need_story" (spD K R_need_story) []) (c1 : C8.Cal P w K mg base 4 "short_alone" (spD K R_short_alone) []) (B : Bi K mg) (F : Fd K mg "needed" s_needed) : C8.Cal P w K mg base 7 "needed" (spD K R_needed) [] := by
  refine cal_of F sc_needed (by decide) bd_needed (fun ds d ⟨p, _, _, _, e, _⟩ => by rw [e]; rfl) fun ds d f cdv A outer s H E h hr => ?_
  obtain ⟨p, st, hp, hs, rfl, rfl⟩ := h
  have b4 := hp.b4
  have ul : (upTo p.boilers.length).length = p.boilers.length := by unfold upTo; simp
  refine sds_expr (ed_call c hr (by decide) rfl (ad_cons (ed_var 0) (ad_cons (ed_var 1) ad_nil)) ⟨p, st, hp, hs, rfl, rfl⟩) ?_
  refine sds_set 2 sc_needed.nd (ed_cast (d2 := encL (upTo p.boilers.length)) (ed_listRg1 (n := p.boilers.length) B.list B.range (ed_cast (ed_lenT B.len (ed_ix (ed_var 0) ed_int (ix_tupD rfl))) (by rw [List.length_map])) (by omega)) rfl) ?_
  refine sds_setLc 3 [("boiler", 4)] sc_needed.nd (id_lst (ed_var 2)) (xs := upTo p.boilers.length) (f := fun b => encT (othersOf p.boilers.length b)) ?_ (by omega) ?_
  · refine fun b hb => ⟨_, by rfl, fun s H C cl fp => ⟨gd_name 4 sc_needed.nd, ed_tuple B.tuple (ed_lcIf [("one", 6)] sc_needed.nd (id_lst (ed_var 2)) (xs := upTo p.boilers.length) (p := fun one => decide (one ≠ b)) (f := D.int) ?_ (by omega))⟩⟩
    exact fun o ho => ⟨_, by rfl, fun s H C cl fp => ⟨gd_name 6 sc_needed.nd, td_cast (td_cmp (ed_var 6) (ed_var 4) cmp_neI) (by simp), fun _ => ed_var 6⟩⟩
  refine sds_ret (ed_tuple B.tuple (ed_lcIf [("boiler", 4), ("others", 5)] sc_needed.nd (id_cast (id_enumL B.enumerate (ad_cons (ed_var 3) ad_nil)) enumD_map) (p := fun q => (shortOf p st (othersOf p.boilers.length q.1)).isSome) (f := fun q => .int q.1) ?_ (by rw [List.length_zipIdx]; omega))) ?_
  · intro q hq
    have hq1 : q.1 = ((q.2 : Nat) : Int) := by
      have := zipIdx_mem hq
      unfold upTo at this
      exact (rng_get this).2
    rw [hq1]
    refine ⟨_, by rfl, fun s H C cl fp => ⟨gd_t2 4 5 sc_needed.nd, td_cast (td_cmp (ed_call c1 hr (by decide) rfl (ad_cons (ed_var 0) (ad_cons (ed_var 1) (ad_cons (ed_var 5) ad_nil))) ⟨p, st, othersOf p.boilers.length ((q.2 : Nat) : Int), hp, hs, rfl, rfl⟩) ed_non cmp_notN) ?_, fun _ => ed_var 4⟩⟩
    cases shortOf p st (othersOf p.boilers.length ((q.2 : Nat) : Int)) <;> rfl
  · rw [zipIdx_fm (P := fun b => (shortOf p st (othersOf p.boilers.length b)).isSome) (f := D.int)]
    rfl
end
end Mf
/-! the law's own defs: models, promises -/
namespace Mf
open PySem PySem.Spec PyProof.Rows L2
def lcap (p : Plant) (s : Story) (h : Nat) (q : (Int × Int) × Nat) : Int :=
  if (wordsAt s (h : Nat) (q.2 : Nat)).any (· == true) then 0 else q.1.1 / (1 + if (wordsAt s (h : Nat) (q.2 : Nat)).any (· == false) then 1 else 0)
def lcaps (p : Plant) (s : Story) : List (List Int) := (List.range s.extra.length).map fun h => p.boilers.zipIdx.map (lcap p s h)
def turns (first every : Int) : List Int := rg3 first every (Builtin.Range.rangeSize first 8 every).toNat
def lturn (h : Nat) (x : Int) (e : Int × Int × Int) : Int := x + e.1 * (if (turns e.2.1 e.2.2).contains (h : Nat) then 1 else 0)
def ldraws (p : Plant) (s : Story) : List Int := s.extra.zipIdx.map fun q => p.engines.foldl (lturn q.2) q.1
def lmains (low high : Int) : Int → List (Int × List Int) → List Int
  | _, [] => []
  | here, q :: rest => if min high (here + q.2.sum - q.1) < low then [] else min high (here + q.2.sum - q.1) :: lmains low high (min high (here + q.2.sum - q.1)) rest
def R_lcell (ds : List D) (d : D) : Prop := ∃ ns : List Int, ds = [.scr ns, .int 0] ∧ d = .int (if 0 < ns.length then ns.getD 0 0 else 0)
def R_lcaps (ds : List D) (d : D) : Prop := ∃ (p : Plant) (s : Story), p.Ok ∧ s.Ok p ∧ ds = [encPl p, encS s] ∧ d = encR (lcaps p s)
def R_ldraws (ds : List D) (d : D) : Prop := ∃ (p : Plant) (s : Story), p.Ok ∧ s.Ok p ∧ ds = [encPl p, encS s] ∧ d = encT (ldraws p s)
def R_lmains (ds : List D) (d : D) : Prop := ∃ (p : Plant) (dw : List Int) (fi : List (List Int)), dw.length ≤ 100 ∧ ds = [encM p, encT dw, encR fi] ∧ d = encL (lmains p.low p.high p.start (dw.zip fi))
def R_lkeeps (ds : List D) (d : D) : Prop := ∃ (p : Plant) (s : Story) (fi : List (List Int)), p.Ok ∧ s.Ok p ∧ ds = [encPl p, encS s, encR fi] ∧ d = .bl (decide ((lmains p.low p.high p.start ((ldraws p s).zip fi)).length = fi.length))
def Pre_draw (ds : List D) : Prop := ∃ m : Int, ds = [.int m] ∧ 0 < m ∧ m < 1073741824
def R_ldraw (ds : List D) (d : D) : Prop := ∃ m n : Int, ds = [.int m] ∧ d = .int n ∧ 0 ≤ n ∧ n < m
def Pre_plant (ds : List D) : Prop := ∃ m : Int, ds = [.int m] ∧ 1 ≤ m ∧ m ≤ 4
def R_lplant (ds : List D) (d : D) : Prop := ∃ p : Plant, p.Ok ∧ d = encPl p
def Pre_story (ds : List D) : Prop := ∃ (p : Plant) (m : Int), p.Ok ∧ ds = [encPl p, .int m] ∧ 1 ≤ m ∧ m ≤ 8
def R_lstory (ds : List D) (d : D) : Prop := ∃ (p : Plant) (m : Int) (s : Story), ds = [encPl p, .int m] ∧ s.Ok p ∧ d = encS s
def Pre_pair (ds : List D) : Prop := ∃ m h : Int, ds = [.int m, .int h] ∧ (1 ≤ m ∧ m ≤ 4) ∧ 1 ≤ h ∧ h ≤ 8
def R_lpair (ds : List D) (d : D) : Prop := ∃ (p : Plant) (s : Story), p.Ok ∧ s.Ok p ∧ d = .tup [encPl p, encS s]
end Mf
/-! defs that change a list of two ints which they are given -/
namespace Mf
open PySem PySem.Spec PyProof.Rows L2
abbrev penO (a b : Int) : HO := .lst [.int a, .int b]
/-- slot i holds the pen at p; all else as in S0 -/
structure Q0 (K : PySem.W.Frag) (F0 H0 : Hp) (i : Nat) (p : Addr) (F H : Hp) (ρ : En) (σ : L2.St) : Prop where
  s : ∃ a b, S0 K F0 (upd H0 p (penO a b)) F H ρ σ
  v : σ[i]? = some (some (.ref p))
  f0 : F0 p = none
  h0 : H0 p = none
theorem S0.fp {K : PySem.W.Frag} {F0 H0 F H : Hp} {ρ : En} {σ : L2.St} {p : Addr} {o : HO} (s : S0 K F0 (upd H0 p o) F H ρ σ) (f0 : F0 p = none) : F p = none := s.g p f0 (by rw [upd_same]; exact fun z => nomatch z)
theorem S0.hp {K : PySem.W.Frag} {F0 H0 F H : Hp} {ρ : En} {σ : L2.St} {p : Addr} {o : HO} (s : S0 K F0 (upd H0 p o) F H ρ σ) : H p = some o := s.h p o upd_same
theorem S0.notOwn {K : PySem.W.Frag} {F0 H0 F H : Hp} {ρ : En} {σ : L2.St} {p : Addr} {o : HO} (s : S0 K F0 (upd H0 p o) F H ρ σ) : ∀ (j : Nat) y, ρ[j]? = some (some (.own y)) → σ[j]? ≠ some (some (.ref p)) := fun j y e z => by
  obtain ⟨q, u, h1, _, h3, _⟩ := s.o j y e
  rw [z] at h1
  cases h1
  rw [upd_same] at h3
  cases h3
/-- the pen is written -/
theorem S0.rewr {K : PySem.W.Frag} {F0 H0 F H : Hp} {ρ : En} {σ : L2.St} {p : Addr} {o : HO} (s : S0 K F0 (upd H0 p o) F H ρ σ) (f0 : F0 p = none) (h0 : H0 p = none) (o' : HO) : S0 K F0 (upd H0 p o') F (upd H p o') ρ σ :=
  (s.unguard (o' := o') h0 (s.fp f0)).guard upd_same (s.fp f0) s.notOwn
section
variable {X : Cx} {i : Nat} {ρ ρ' ρ1 ρ2 : En} {a b c e : Expr} {pos : Pos} {Pn : En → Prop} {Pr : D → Prop} {rest st : List Stmt} {R R2 R3 : D → Prop} {A B C : Int → Prop}
def QE (X : Cx) (i : Nat) (e : Expr) (ρ : En) (R : D → Prop) : Prop := ∀ F0 H0 p F H σ, Q0 X.K F0 H0 i p F H ρ σ → ∀ Q : VK, (∀ d v F' H', R d → Q0 X.K F0 H0 i p F' H' ρ σ → Same F F' → Den X.K F' d v → Q v H') → wE X e σ H Q
def QA (X : Cx) (i : Nat) (es : List Expr) (ρ : En) (R : List D → Prop) : Prop := ∀ F0 H0 p F H σ, Q0 X.K F0 H0 i p F H ρ σ → ∀ Q : List V → Hp → Prop, (∀ ds vs F' H', R ds → Q0 X.K F0 H0 i p F' H' ρ σ → Same F F' → Dens X.K F' ds vs → Q vs H') → wA X es σ H Q
def isI (A : Int → Prop) (d : D) : Prop := ∃ n, d = .int n ∧ A n
abbrev QI (X : Cx) (i : Nat) (e : Expr) (ρ : En) (A : Int → Prop) : Prop := QE X i e ρ (isI A)
def QT (X : Cx) (i : Nat) (e : Expr) (ρ : En) (R : Bool → Prop) : Prop := ∀ F0 H0 p F H σ, Q0 X.K F0 H0 i p F H ρ σ → ∀ Q : Bool → Hp → Prop, (∀ k F' H', R k → Q0 X.K F0 H0 i p F' H' ρ σ → Same F F' → Q k H') → wT X e σ H Q
def QIt (X : Cx) (i : Nat) (tg iter : Expr) (ρ : En) (R : List D → Prop) : Prop := ∀ F0 H0 p F H σ, Q0 X.K F0 H0 i p F H ρ σ → ∀ Rk : It → Hp → Prop, (∀ J ds F' H', R ds → Q0 X.K F0 H0 i p F' H' ρ σ → Same F F' → WalkD X.K J F' ds → Rk J H') → wI X tg iter σ H Rk
def Q1 (X : Cx) (i : Nat) (st : Stmt) (ρ : En) (Pn : En → Prop) (Pr : D → Prop) : Prop := ∀ F0 H0 p F H σ, Q0 X.K F0 H0 i p F H ρ σ → ∀ D : Ends,
  (∀ ρ' F' H' σ', Pn ρ' → Q0 X.K F0 H0 i p F' H' ρ' σ' → Same F F' → D.nx σ' H') → (∀ d ρ' v F' H' σ', Pr d → Q0 X.K F0 H0 i p F' H' ρ' σ' → Same F F' → Den X.K F' d v → D.rt v H') → wS X st D σ H
def QS (X : Cx) (i : Nat) (st : List Stmt) (ρ : En) (Pn : En → Prop) (Pr : D → Prop) : Prop := ∀ F0 H0 p F H σ, Q0 X.K F0 H0 i p F H ρ σ → ∀ D : Ends,
  (∀ ρ' F' H' σ', Pn ρ' → Q0 X.K F0 H0 i p F' H' ρ' σ' → Same F F' → D.nx σ' H') → (∀ d ρ' v F' H' σ', Pr d → Q0 X.K F0 H0 i p F' H' ρ' σ' → Same F F' → Den X.K F' d v → D.rt v H') → wSs X st D σ H
/-! ### expressions -/
theorem qe_ed {d : D} (h : ED X e ρ d ρ) (hR : R d) : QE X i e ρ R := fun F0 H0 p F H σ s Q q => by
  obtain ⟨⟨x, y, s'⟩, v, f0, h0⟩ := s
  exact h _ _ _ _ _ s' Q fun u F1 H1 s1 e1 d1 => q d u F1 H1 hR ⟨⟨x, y, s1⟩, v, f0, h0⟩ e1 d1
theorem qe_mono (h : QE X i e ρ R) (h2 : ∀ d, R d → R2 d) : QE X i e ρ R2 := fun F0 H0 p F H σ s Q q => h _ _ _ _ _ _ s Q fun d v F1 H1 r s1 e1 d1 => q d v F1 H1 (h2 d r) s1 e1 d1
theorem qi_ed {n : Int} (h : ED X e ρ (.int n) ρ) (hA : A n) : QI X i e ρ A := qe_ed h ⟨n, rfl, hA⟩
theorem qi_mono (h : QI X i e ρ A) (h2 : ∀ n, A n → B n) : QI X i e ρ B := qe_mono h fun d ⟨n, e, z⟩ => ⟨n, e, h2 n z⟩
theorem qi_add (ha : QI X i a ρ A) (hb : QI X i b ρ B) (h : ∀ m n, A m → B n → C (m + n)) : QI X i (.BinOp a .Add b pos) ρ C := fun F0 H0 p F H σ s Q q =>
  wE_of (pe_op op_add pe_w pe_w) (ha _ _ _ _ _ _ s _ fun d v F1 H1 r1 s1 e1 d1 => hb _ _ _ _ _ _ s1 _ fun d' u F2 H2 r2 s2 e2 d2 => by
    obtain ⟨m, rfl, g1⟩ := r1
    obtain ⟨n, rfl, g2⟩ := r2
    exact ⟨m, n, den_int (d1.mono e2), den_int d2, q (.int (m + n)) _ F2 H2 ⟨_, rfl, h m n g1 g2⟩ s2 (e1.trans e2) mk_int⟩)
theorem qi_mod (ha : QI X i a ρ A) (hb : QI X i b ρ B) (h0 : ∀ n, B n → 0 < n) (h : ∀ m n, A m → B n → C (m % n)) : QI X i (.BinOp a .Mod b pos) ρ C := fun F0 H0 p F H σ s Q q =>
  wE_of (pe_op op_mod pe_w pe_w) (ha _ _ _ _ _ _ s _ fun d v F1 H1 r1 s1 e1 d1 => hb _ _ _ _ _ _ s1 _ fun d' u F2 H2 r2 s2 e2 d2 => by
    obtain ⟨m, rfl, g1⟩ := r1
    obtain ⟨n, rfl, g2⟩ := r2
    exact ⟨m, n, den_int (d1.mono e2), den_int d2, h0 n g2, q (.int (m % n)) _ F2 H2 ⟨_, rfl, h m n g1 g2⟩ s2 (e1.trans e2) mk_int⟩)
theorem qi_mul (ha : QI X i a ρ A) (hb : QI X i b ρ B) (h0 : ∀ m n, A m → B n → CMul m n) (h : ∀ m n, A m → B n → C (m * n)) : QI X i (.BinOp a .Mult b pos) ρ C := fun F0 H0 p F H σ s Q q =>
  wE_of (pe_op op_mul pe_w pe_w) (ha _ _ _ _ _ _ s _ fun d v F1 H1 r1 s1 e1 d1 => hb _ _ _ _ _ _ s1 _ fun d' u F2 H2 r2 s2 e2 d2 => by
    obtain ⟨m, rfl, g1⟩ := r1
    obtain ⟨n, rfl, g2⟩ := r2
    exact ⟨m, n, den_int (d1.mono e2), den_int d2, h0 m n g1 g2, q (.int (m * n)) _ F2 H2 ⟨_, rfl, h m n g1 g2⟩ s2 (e1.trans e2) mk_int⟩)
theorem qi_fdiv (ha : QI X i a ρ A) (hb : QI X i b ρ B) (h0 : ∀ n, B n → 0 < n ∧ n < 1073741824) (h : ∀ m n, A m → B n → C (m / n)) : QI X i (.BinOp a .FloorDiv b pos) ρ C := fun F0 H0 p F H σ s Q q =>
  wE_of (pe_op op_fdiv pe_w pe_w) (ha _ _ _ _ _ _ s _ fun d v F1 H1 r1 s1 e1 d1 => hb _ _ _ _ _ _ s1 _ fun d' u F2 H2 r2 s2 e2 d2 => by
    obtain ⟨m, rfl, g1⟩ := r1
    obtain ⟨n, rfl, g2⟩ := r2
    exact ⟨m, n, den_int (d1.mono e2), den_int d2, h0 n g2, q (.int (m / n)) _ F2 H2 ⟨_, rfl, h m n g1 g2⟩ s2 (e1.trans e2) mk_int⟩)
theorem qa_nil : QA X i [] ρ (fun ds => ds = []) := fun F0 H0 p F H σ s Q q => wA_of pa_nil (q [] [] F H rfl s (Same.refl F) dens_nil)
theorem qa_cons {es : List Expr} {RR : List D → Prop} (h : QE X i e ρ R) (h2 : QA X i es ρ RR) (hs : starEach (e :: es) X.env = (false, eval e X.env) :: starEach es X.env := by rfl) : QA X i (e :: es) ρ (fun ds => ∃ d r, ds = d :: r ∧ R d ∧ RR r) := fun F0 H0 p F H σ s Q q =>
  wA_of (pa_cons pe_w pa_w hs) (h _ _ _ _ _ _ s _ fun d v F1 H1 r1 s1 e1 d1 => h2 _ _ _ _ _ _ s1 _ fun ds vs F2 H2 r2 s2 e2 d2 => q (d :: ds) (v :: vs) F2 H2 ⟨d, ds, rfl, r1, r2⟩ s2 (e1.trans e2) (dens_cons (d1.mono e2) d2))
theorem Q0.new {K : PySem.W.Frag} {F0 H0 F H : Hp} {p q : Addr} {σ : L2.St} {u : HO} (s : Q0 K F0 H0 i p F H ρ σ) (h : H q = none) : Q0 K F0 H0 i p (upd F q u) (upd H q u) ρ σ := by
  obtain ⟨⟨x, y, s'⟩, v, f0, h0⟩ := s
  exact ⟨⟨x, y, s'.new h⟩, v, f0, h0⟩
theorem Q0.free {K : PySem.W.Frag} {F0 H0 F H : Hp} {p q : Addr} {σ : L2.St} (s : Q0 K F0 H0 i p F H ρ σ) (h : H q = none) : F q = none := by
  obtain ⟨⟨x, y, s'⟩, v, f0, h0⟩ := s
  exact s'.free h
theorem Q0.fh {K : PySem.W.Frag} {F0 H0 F H : Hp} {p : Addr} {σ : L2.St} (s : Q0 K F0 H0 i p F H ρ σ) : Same F H := by
  obtain ⟨⟨x, y, s'⟩, v, f0, h0⟩ := s
  exact s'.fh
theorem qe_tup {es : List Expr} {k} {RR : List D → Prop} (h : QA X i es ρ RR) (hR : ∀ ds, RR ds → ds.length ≤ 100000 ∧ R (.tup ds)) : QE X i (.Tuple es k pos) ρ R := fun F0 H0 p F H σ s Q q =>
  wE_of (pe_tup pa_w) (h _ _ _ _ _ _ s _ fun ds vs F1 H1 r1 s1 e1 d1 => ⟨by rw [d1.len]; exact len_ok (hR ds r1).1, fun p hp => q (.tup ds) (.ref p) _ _ (hR ds r1).2 (s1.new hp) (e1.trans (same_new (s1.free hp))) (mk_tup upd_same (Dens.mono (same_new (s1.free hp)) _ d1))⟩)
theorem qe_lst {es : List Expr} {RR : List D → Prop} (h : QA X i es ρ RR) (hR : ∀ ds, RR ds → ds.length ≤ 100000 ∧ R (.lst ds)) : QE X i (.List es pos) ρ R := fun F0 H0 p F H σ s Q q =>
  wE_of (pe_lst pa_w) (h _ _ _ _ _ _ s _ fun ds vs F1 H1 r1 s1 e1 d1 => ⟨by rw [d1.len]; exact len_ok (hR ds r1).1, fun p hp => q (.lst ds) (.ref p) _ _ (hR ds r1).2 (s1.new hp) (e1.trans (same_new (s1.free hp))) (mk_lst upd_same (Dens.mono (same_new (s1.free hp)) _ d1))⟩)
/-- [..][e] -/
theorem qe_pick {es : List Expr} {RR : List D → Prop} {p2 : Pos} (ha : QA X i es ρ RR) (hb : QI X i b ρ B) (h : ∀ ds n, RR ds → B n → ds.length ≤ 100000 ∧ ∃ d, atI ds n = some d ∧ R d) (hB : ∃ n, B n) (hs : PlainIx b := by exact fun _ _ => rfl) : QE X i (.Subscript (.List es p2) b pos) ρ R := fun F0 H0 p F H σ s Q q => by
  have hl : QE X i (.List es p2) ρ (fun d => ∃ ds, d = .lst ds ∧ RR ds) := qe_lst ha fun ds r => ⟨(h ds hB.choose r hB.choose_spec).1, ds, rfl, r⟩
  refine wE_of (pe_ix ix_list pe_w pe_w hs) (hl _ _ _ _ _ _ s _ fun d v F1 H1 r1 s1 e1 d1 => hb _ _ _ _ _ _ s1 _ fun d' u F2 H2 r2 s2 e2 d2 => ?_)
  obtain ⟨ds, rfl, g⟩ := r1
  obtain ⟨n, rfl, g'⟩ := r2
  obtain ⟨_, y, hy, hR⟩ := h ds n g g'
  obtain ⟨p', vs, rfl, g1, g2⟩ := den_lst (d1.mono e2)
  unfold atI at hy
  cases hj : ixN ds.length n with
  | none => rw [hj] at hy; cases hy
  | some j =>
    rw [hj] at hy
    obtain ⟨z, h1, h2⟩ := g2.get (i := j) (d := y) hy
    refine ⟨p', vs, n, z, rfl, den_int d2, .inl (.inl (s2.fh _ _ g1)), ?_, q y z F2 H2 hR s2 (e1.trans e2) h2⟩
    unfold atI
    rw [g2.len, hj]
    exact h1
theorem qi_min {p : Pos} (hm : X.mg "min" = none) (ha : QI X i a ρ A) (hb : QI X i b ρ B) (h : ∀ m n, A m → B n → C (min m n)) (hg : Gl X "min" := by rfl) (hc : X.calm = true := by rfl)
    (h1 : starEach [a, b] X.env = (false, eval a X.env) :: starEach [b] X.env := by rfl) (h2 : starEach [b] X.env = (false, eval b X.env) :: starEach [] X.env := by rfl) (hpl : (backTo pos (starEach [b] X.env)).any (·.1) = false := by rfl) : QI X i (.Call (.Name "min" p) [a, b] [] pos) ρ C := fun F0 H0 p F H σ s Q q =>
  wE_of (pe_callB (call_min2 hc) hg hm rfl pa_w (by decide) (by decide) h1 hpl) ((qa_cons ha (qa_cons hb qa_nil h2) h1) _ _ _ _ _ _ s _ fun ds vs F1 H1 r1 s1 e1 d1 => by
    obtain ⟨d, r, rfl, ⟨m, rfl, g1⟩, d', r', rfl, ⟨n, rfl, g2⟩, rfl⟩ := r1
    obtain ⟨u, w, rfl, k1, k2⟩ := two_args d1
    obtain rfl := den_int k1
    obtain rfl := den_int k2
    refine ⟨m, n, rfl, ?_⟩
    have e : (if n < m then n else m) = min m n := by
      split <;> omega
    rw [e]
    exact q (.int (min m n)) _ F1 H1 ⟨_, rfl, h m n g1 g2⟩ s1 e1 mk_int)
theorem qe_divmod {p : Pos} (hm : X.mg "divmod" = none) (ha : QI X i a ρ A) (hb : QI X i b ρ B) (h0 : ∀ n, B n → 0 < n ∧ n < 1073741824) (hg : Gl X "divmod" := by rfl)
    (h1 : starEach [a, b] X.env = (false, eval a X.env) :: starEach [b] X.env := by rfl) (h2 : starEach [b] X.env = (false, eval b X.env) :: starEach [] X.env := by rfl) (hpl : (backTo pos (starEach [b] X.env)).any (·.1) = false := by rfl) : QE X i (.Call (.Name "divmod" p) [a, b] [] pos) ρ (fun d => ∃ m n, A m ∧ B n ∧ d = .tup [.int (m / n), .int (m % n)]) := fun F0 H0 p F H σ s Q q =>
  wE_of (pe_callB call_divmod hg hm rfl pa_w (by decide) (by decide) h1 hpl) ((qa_cons ha (qa_cons hb qa_nil h2) h1) _ _ _ _ _ _ s _ fun ds vs F1 H1 r1 s1 e1 d1 => by
    obtain ⟨d, r, rfl, ⟨m, rfl, g1⟩, d', r', rfl, ⟨n, rfl, g2⟩, rfl⟩ := r1
    obtain ⟨u, w, rfl, k1, k2⟩ := two_args d1
    obtain rfl := den_int k1
    obtain rfl := den_int k2
    exact ⟨m, n, rfl, h0 n g2, fun p hp => q _ _ _ _ ⟨m, n, g1, g2, rfl⟩ (s1.new hp) (e1.trans (same_new (s1.free hp))) (mk_tup upd_same (dens_cons mk_int (dens_cons mk_int dens_nil)))⟩)
theorem qe_tuple {p : Pos} {RR : List D → Prop} (hm : X.mg "tuple" = none) (h : QE X i e ρ (fun d => ∃ ds, d = .lst ds ∧ RR ds)) (hR : ∀ ds, RR ds → R (.tup ds)) (hg : Gl X "tuple" := by rfl)
    (he : starEach [e] X.env = (false, eval e X.env) :: starEach [] X.env := by rfl) (hpl : (backTo pos (starEach [] X.env)).any (·.1) = false := by rfl) : QE X i (.Call (.Name "tuple" p) [e] [] pos) ρ R := fun F0 H0 p F H σ s Q q =>
  wE_of (pe_callTy call_tuple_of hg hm rfl pa_w (by decide) (by decide) he hpl) ((qa_cons h qa_nil he) _ _ _ _ _ _ s _ fun ds vs F1 H1 r1 s1 e1 d1 => by
    obtain ⟨d, r, rfl, ⟨xs, rfl, g1⟩, rfl⟩ := r1
    obtain ⟨u, rfl, g⟩ := one_arg d1
    obtain ⟨p, vs, rfl, h1, h2⟩ := den_lst g
    exact ⟨p, vs, rfl, .inl ⟨.inl (.inl (s1.fh _ _ h1)), fun l hl => q _ _ _ _ (hR xs g1) (s1.new hl) (e1.trans (same_new (s1.free hl))) (mk_tup upd_same (Dens.mono (same_new (s1.free hl)) _ h2))⟩⟩)
/-- pen[k] -/
theorem qi_pen {n : Str} {pp : Pos} {k : Int} {j : Nat} {kp : Pos} (hk : k = 0 ∨ k = 1) (hN : X.N[i]? = some n := by rfl) (hv : Vis X.env.scope n := by first | exact Or.inl rfl | exact Or.inr (Or.inl rfl) | exact Or.inr (Or.inr rfl)) (hd : (n == ("__debug__" : Str)) = false := by decide) (hcd : (n == ("__classdict__" : Str)) = false := by decide)
    (hs : PlainIx (.Constant (.int k) j kp) := by exact fun _ _ => rfl) : QI X i (.Subscript (.Name n pp) (.Constant (.int k) j kp) pos) ρ (fun _ => True) := fun F0 H0 p F H σ s Q q => by
  obtain ⟨⟨x, y, s'⟩, v, f0, h0⟩ := s
  refine wE_of (pe_ix ix_list (pe_var hN hv hd hcd) pe_w hs) ⟨_, v, ed_int _ _ _ _ _ s' _ fun u F1 H1 s1 e1 d1 => ?_⟩
  obtain rfl := den_int d1
  rcases hk with rfl | rfl
  · exact ⟨p, _, 0, .int x, rfl, rfl, .inl (.inl s1.hp), rfl, q (.int x) _ F1 H1 ⟨x, rfl, trivial⟩ ⟨⟨x, y, s1⟩, v, f0, h0⟩ e1 mk_int⟩
  · exact ⟨p, _, 1, .int y, rfl, rfl, .inl (.inl s1.hp), rfl, q (.int y) _ F1 H1 ⟨y, rfl, trivial⟩ ⟨⟨x, y, s1⟩, v, f0, h0⟩ e1 mk_int⟩
theorem qt_td {k : Bool} {RB : Bool → Prop} (h : TD X e ρ k) (hR : RB k) : QT X i e ρ RB := fun F0 H0 p F H σ s Q q => by
  obtain ⟨⟨x, y, s'⟩, v, f0, h0⟩ := s
  exact h _ _ _ _ _ s' Q fun F1 H1 s1 e1 => q k F1 H1 hR ⟨⟨x, y, s1⟩, v, f0, h0⟩ e1
theorem qt_eq (ha : QI X i a ρ A) (hb : QI X i b ρ B) (hm : behindInMarks .Eq b = false := by first | exact nobehind _ (by decide) (by decide) | rfl) : QT X i (.Compare a [.Eq] [b] pos) ρ (fun _ => True) := fun F0 H0 p F H σ s Q q => by
  refine wT_of (pt_cmpR op_eq pe_w pe_w hm) (ha _ _ _ _ _ _ s _ fun d v F1 H1 r1 s1 e1 d1 => hb _ _ _ _ _ _ s1 _ fun d' u F2 H2 r2 s2 e2 d2 => ?_)
  obtain ⟨m, rfl, g1⟩ := r1
  obtain ⟨n, rfl, g2⟩ := r2
  obtain ⟨⟨x, y, s3⟩, v3, f0, h0⟩ := s2
  have := den_int (d1.mono e2)
  have := den_int d2
  subst_vars
  exact ⟨rfl, _, rfl, q _ F2 H2 trivial ⟨⟨x, y, s3⟩, v3, f0, h0⟩ (e1.trans e2)⟩
/-! ### statements -/
theorem qs_nil (h : Pn ρ) : QS X i [] ρ Pn Pr := fun F0 H0 p F H σ s D qn qr => wSs_of pss_nil (qn ρ F H σ h s (Same.refl F))
theorem qs_cons {t : Stmt} {P1 : En → Prop} (h : Q1 X i t ρ P1 Pr) (h2 : ∀ ρ1, P1 ρ1 → QS X i rest ρ1 Pn Pr) : QS X i (t :: rest) ρ Pn Pr := fun F0 H0 p F H σ s D qn qr =>
  wSs_of (pss_cons ps_w pss_w) (h _ _ _ _ _ _ s { D with nx := fun σ' H' => wSs X rest D σ' H' } (fun ρ1 F1 H1 σ1 p1 s1 e1 => h2 ρ1 p1 _ _ _ _ _ _ s1 D (fun ρ2 F2 H2 σ2 p2 s2 e2 => qn ρ2 F2 H2 σ2 p2 s2 (e1.trans e2)) fun d ρ2 v F2 H2 σ2 p2 s2 e2 d2 => qr d ρ2 v F2 H2 σ2 p2 s2 (e1.trans e2) d2)
    fun d ρ2 v F2 H2 σ2 p2 s2 e2 d2 => qr d ρ2 v F2 H2 σ2 p2 s2 e2 d2)
theorem Q0.setD {K : PySem.W.Frag} {F0 H0 F H : Hp} {p : Addr} {σ : L2.St} {j : Nat} {x : D} {v : V} (s : Q0 K F0 H0 i p F H ρ σ) (hj : j ≠ i) (h : Den K F x v) : Q0 K F0 H0 i p F H (ρ.set j (some (.d x))) (σ.set j (some v)) := by
  obtain ⟨⟨a, b, s'⟩, w, f0, h0⟩ := s
  exact ⟨⟨a, b, s'.setD h⟩, by rw [List.getElem?_set_ne hj]; exact w, f0, h0⟩
theorem qs_set (j : Nat) {n : Str} {pos' : Pos} (hN : X.N.Nodup) (he : QE X i e ρ R) (k : ∀ d, R d → QS X i rest (ρ.set j (some (.d d))) Pn Pr) (hj : j ≠ i := by decide) (hi : X.N[j]? = some n := by rfl) (hx : Loc X.env.scope n := by first | exact Or.inl rfl | exact Or.inr rfl)
    (hs : swapsWith e (some (.Name n pos')) pos.line X.env = pure false := by rfl) (hf : X.fn n = true ∨ X.env.scope.names.lookup n = some .local := by first | exact .inl rfl | exact .inr rfl) : QS X i (.Assign [.Name n pos'] e pos :: rest) ρ Pn Pr :=
  qs_cons (P1 := fun ρ' => ∃ d, R d ∧ ρ' = ρ.set j (some (.d d))) (fun F0 H0 p F H σ s D qn qr => wS_of (ps_set hN hi hx pe_w hs hf) (he _ _ _ _ _ _ s _ fun d v F1 H1 r1 s1 e1 d1 => qn _ F1 H1 _ ⟨d, r1, rfl⟩ (s1.setD hj d1) e1)) fun ρ2 ⟨d, r, e2⟩ => by
    rw [e2]
    exact k d r
theorem qs_setN (j : Nat) {n : Str} {pos' : Pos} {d : D} (hN : X.N.Nodup) (he : ND X e ρ d ρ) (k : QS X i rest (ρ.set j (some (.own d))) Pn Pr) (hj : j ≠ i := by decide) (hi : X.N[j]? = some n := by rfl) (hx : Loc X.env.scope n := by first | exact Or.inl rfl | exact Or.inr rfl)
    (hs : swapsWith e (some (.Name n pos')) pos.line X.env = pure false := by rfl) (hf : X.fn n = true ∨ X.env.scope.names.lookup n = some .local := by first | exact .inl rfl | exact .inr rfl) : QS X i (.Assign [.Name n pos'] e pos :: rest) ρ Pn Pr :=
  qs_cons (P1 := fun ρ' => ρ' = ρ.set j (some (.own d))) (fun F0 H0 p F H σ s D qn qr => by
    obtain ⟨⟨x, y, s'⟩, w, f0, h0⟩ := s
    exact wS_of (ps_set hN hi hx pe_w hs hf) (he _ _ _ _ _ s' _ fun p o F1 H1 s1 e1 f1 h1 hp hc hd => qn _ F1 H1 _ rfl ⟨⟨x, y, s1.setO f1 h1 hp hc hd⟩, by rw [List.getElem?_set_ne hj]; exact w, f0, h0⟩ e1)) fun ρ2 e2 => by
    rw [e2]
    exact k
theorem qs_frz (j : Nat) {x : D} (h : ρ[j]? = some (some (.own x)) := by rfl) (k : QS X i st (ρ.set j (some (.d x))) Pn Pr) : QS X i st ρ Pn Pr := fun F0 H0 p F H σ s D qn qr => by
  obtain ⟨⟨a, b, s'⟩, w, f0, h0⟩ := s
  obtain ⟨F', e, s''⟩ := s'.frz h
  exact k _ _ _ _ _ _ ⟨⟨a, b, s''⟩, w, f0, h0⟩ D (fun ρ1 F1 H1 σ1 p1 s1 e1 => qn ρ1 F1 H1 σ1 p1 s1 (e.trans e1)) fun d ρ2 v F2 H2 σ2 p2 s2 e2 d2 => qr d ρ2 v F2 H2 σ2 p2 s2 (e.trans e2) d2
theorem qs_ret (he : QE X i e ρ R) (h : ∀ d, R d → Pr d) : QS X i (.Return (some e) pos :: rest) ρ Pn Pr :=
  qs_cons (P1 := fun _ => False) (fun F0 H0 p F H σ s D qn qr => wS_of (ps_ret pe_w) (he _ _ _ _ _ _ s _ fun d v F1 H1 r1 s1 e1 d1 => qr d ρ v F1 H1 σ (h d r1) s1 e1 d1)) fun _ z => z.elim
theorem qs_if {As Bs : List Stmt} {RB : Bool → Prop} (ht : QT X i c ρ RB) (h1 : RB true → QS X i As ρ (fun ρ' => QS X i rest ρ' Pn Pr) Pr) (h2 : RB false → QS X i Bs ρ (fun ρ' => QS X i rest ρ' Pn Pr) Pr) : QS X i (.If c As Bs pos :: rest) ρ Pn Pr :=
  qs_cons (P1 := fun ρ' => QS X i rest ρ' Pn Pr) (fun F0 H0 p F H σ s D qn qr => by
    refine wS_of (ps_if pt_w pss_w pss_w) (ht _ _ _ _ _ _ s _ fun k F1 H1 r1 s1 e1 => ?_)
    cases k with
    | true => exact iteT (h1 r1 _ _ _ _ _ _ s1 D (fun ρ2 F2 H2 σ2 p2 s2 e2 => qn ρ2 F2 H2 σ2 p2 s2 (e1.trans e2)) fun d ρ2 v F2 H2 σ2 p2 s2 e2 d2 => qr d ρ2 v F2 H2 σ2 p2 s2 (e1.trans e2) d2)
    | false => exact iteF (h2 r1 _ _ _ _ _ _ s1 D (fun ρ2 F2 H2 σ2 p2 s2 e2 => qn ρ2 F2 H2 σ2 p2 s2 (e1.trans e2)) fun d ρ2 v F2 H2 σ2 p2 s2 e2 d2 => qr d ρ2 v F2 H2 σ2 p2 s2 (e1.trans e2) d2)) fun _ z => z
/-- pen[0] = e -/
theorem qs_pen {n : Str} {p sp : Pos} {k : Nat} {kp : Pos} (he : QI X i e ρ A) (k2 : QS X i rest ρ Pn Pr) (hN : X.N[i]? = some n := by rfl) (hv : Vis X.env.scope n := by first | exact Or.inl rfl | exact Or.inr (Or.inl rfl) | exact Or.inr (Or.inr rfl)) (hd : (n == ("__debug__" : Str)) = false := by decide) (hcd : (n == ("__classdict__" : Str)) = false := by decide)
    (ha : ∀ v, assign (.Subscript (.Name n p) (.Constant (.int 0) k kp) sp) X.env v = (do
      let ov ← holding [v] (eval (.Name n p) X.env)
      let iv ← holding [v, ov] (eval (.Constant (.int 0) k kp) X.env)
      standAt sp
      holding [v, ov, iv] (setItem ov iv v)
      release [v, ov, iv] []) := by intro _; rfl)
    (hs : swapsWithSole [.Subscript (.Name n p) (.Constant (.int 0) k kp) sp] e pos.line X.env = pure false := by rfl) (hw : swappedStores [.Subscript (.Name n p) (.Constant (.int 0) k kp) sp] e X.env = pure none := by rfl)
    (hq : (assignEach [.Subscript (.Name n p) (.Constant (.int 0) k kp) sp] X.env).map (·.2) = [assign (.Subscript (.Name n p) (.Constant (.int 0) k kp) sp) X.env] := by rfl) : QS X i (.Assign [.Subscript (.Name n p) (.Constant (.int 0) k kp) sp] e pos :: rest) ρ Pn Pr :=
  qs_cons (P1 := fun ρ' => ρ' = ρ) (fun F0 H0 p F H σ s D qn qr => by
    refine wS_of (ps_asg pe_w (pg_sub (pe_var hN hv hd hcd) pe_w set_list ha) hs hw hq) (he _ _ _ _ _ _ s _ fun d v F1 H1 r1 s1 e1 d1 => ?_)
    obtain ⟨⟨x, y, s'⟩, w, f0, h0⟩ := s1
    obtain ⟨m, rfl, _⟩ := r1
    obtain rfl := den_int d1
    refine ⟨_, w, ed_int _ _ _ _ _ s' _ fun u F2 H2 s2 e2 d2 => ?_⟩
    obtain rfl := den_int d2
    exact ⟨p, _, 0, 0, rfl, rfl, s2.hp, rfl, qn _ F2 _ _ rfl ⟨⟨m, y, s2.rewr f0 h0 (penO m y)⟩, w, f0, h0⟩ (e1.trans e2)⟩) fun ρ2 e2 => by
    rw [e2]
    exact k2
theorem qs_asg {tg : Expr} {js : List Nat} (he : QE X i e ρ R) (hg : ∀ d, R d → ∃ ρ2, GD X tg js ρ d ρ2 ∧ QS X i rest ρ2 Pn Pr) (hj : i ∉ js := by decide) (hs : swapsWithSole [tg] e pos.line X.env = pure false := by rfl) (hw : swappedStores [tg] e X.env = pure none := by rfl)
    (h1 : (assignEach [tg] X.env).map (·.2) = [assign tg X.env] := by rfl) : QS X i (.Assign [tg] e pos :: rest) ρ Pn Pr :=
  qs_cons (P1 := fun ρ' => QS X i rest ρ' Pn Pr) (fun F0 H0 p F H σ s D qn qr => wS_of (ps_asg pe_w pg_w hs hw h1) (he _ _ _ _ _ _ s _ fun d v F1 H1 r1 s1 e1 d1 => by
    obtain ⟨ρ2, g, k⟩ := hg d r1
    obtain ⟨⟨x, y, s'⟩, w, f0, h0⟩ := s1
    exact g _ _ _ _ _ _ s' d1 _ fun σ2 s2 w2 => qn _ F1 H1 _ k ⟨⟨x, y, s2⟩, by rw [← wipe_get hj, w2 js (fun _ z => z), wipe_get hj]; exact w, f0, h0⟩ e1)) fun ρ2 e2 => e2
theorem qs_par (j l : Nat) {n m : Str} {px py pt : Pos} {kt k2 pt2} {RR : List D → Prop} (hN : X.N.Nodup) (ha : QA X i [a, b] ρ RR) (hR : ∀ ds, RR ds → ∃ da db, ds = [da, db] ∧ QS X i rest ((ρ.set j (some (.d da))).set l (some (.d db))) Pn Pr) (hji : j ≠ i := by decide) (hli : l ≠ i := by decide) (hi : X.N[j]? = some n := by rfl) (hj : X.N[l]? = some m := by rfl) (hij : j ≠ l := by decide)
    (hx : X.env.scope.names.lookup n = some .local := by rfl) (hy : X.env.scope.names.lookup m = some .local := by rfl) (hc : X.calm = true := by rfl)
    (hw : swappedStores [.Tuple [.Name n px, .Name m py] kt pt] (.Tuple [a, b] k2 pt2) X.env = pure (some [n, m]) := by rfl)
    (hs : swapsWithSole [.Tuple [.Name n px, .Name m py] kt pt] (.Tuple [a, b] k2 pt2) pos.line X.env = pure false := by rfl) : QS X i (.Assign [.Tuple [.Name n px, .Name m py] kt pt] (.Tuple [a, b] k2 pt2) pos :: rest) ρ Pn Pr :=
  qs_cons (P1 := fun ρ' => QS X i rest ρ' Pn Pr) (fun F0 H0 p F H σ s D qn qr => wS_of (ps_par hc hN hi hj hij hx hy pa_w hw hs) (ha _ _ _ _ _ _ s _ fun ds vs F1 H1 r1 s1 e1 d1 => by
    obtain ⟨da, db, rfl, k⟩ := hR ds r1
    obtain ⟨v, r, rfl, g1, g2⟩ := dens_cons' d1
    obtain ⟨u, r, rfl, g3, g4⟩ := dens_cons' g2
    obtain rfl := dens_nil' g4
    exact ⟨v, u, rfl, qn _ F1 H1 _ k ((s1.setD hji g1).setD hli g3) e1⟩)) fun ρ2 e2 => e2
theorem qs_append (j : Nat) {n : Str} {p ap cp : Pos} {ds : List D} (he : QE X i e ρ R) (k : ∀ d, R d → QS X i rest (ρ.set j (some (.own (.lst (ds ++ [d]))))) Pn Pr) (h0 : ρ[j]? = some (some (.own (.lst ds))) := by rfl) (hl : ds.length < 100000) (hN : X.N[j]? = some n := by rfl)
    (hv : Vis X.env.scope n := by first | exact Or.inl rfl | exact Or.inr (Or.inl rfl) | exact Or.inr (Or.inr rfl)) (hd : (n == ("__debug__" : Str)) = false := by decide) (hcd : (n == ("__classdict__" : Str)) = false := by decide)
    (hbase : attributeBase (.Name n p) "append" X.env (eval (.Name n p) X.env) = eval (.Name n p) X.env := by rfl)
    (hfew : ((backTo cp (starEach [e] X.env)).all (fun x => !x.1) && (backToKw cp (keywordEach [] X.env)).all (fun x => x.1.isSome)
      && decide ([e].length + ([] : List Keyword).length + (if ([] : List Keyword).isEmpty then 0 else 1) < 30)) = true := by rfl)
    (hline : (ap.endLine == cp.line) = true := by rfl) (hs : starEach [e] X.env = (false, eval e X.env) :: starEach [] X.env := by rfl) (hplain : (backTo cp (starEach [] X.env)).any (·.1) = false := by rfl) (hsw : swapsWith (.Call (.Attribute (.Name n p) "append" ap) [e] [] cp) none pos.line X.env = pure false := by rfl) :
    QS X i (.Expr (.Call (.Attribute (.Name n p) "append" ap) [e] [] cp) pos :: rest) ρ Pn Pr :=
  qs_cons (P1 := fun ρ' => ∃ d, R d ∧ ρ' = ρ.set j (some (.own (.lst (ds ++ [d]))))) (fun F0 H0 p F H σ s D qn qr => wS_of (ps_expr pe_w hsw) (by
    obtain ⟨x, y, s0⟩ := s.s
    obtain ⟨p', o, e1, e2, e3, e4, vs0, e5, e6⟩ := s0.o j _ h0
    subst e5
    refine wE_of (pe_bm PySem.F.plainAttrs_list PySem.F.slot_list_append PySem.F.type_list_append mt_append (pe_var hN hv hd hcd) (pa_cons pe_w pa_nil hs) hbase hfew hline hs hplain) ⟨_, e1, .inl ⟨rfl, _, .inl (.inl e4)⟩, he _ _ _ _ _ _ s _ fun d v F1 H1 r1 s1 f1 d1 => ?_⟩
    obtain ⟨⟨x1, y1, s1'⟩, w1, f01, h01⟩ := s1
    obtain ⟨p2, o2, g1, g2, g3, g4, vs, g5, g6⟩ := s1'.o j _ h0
    subst g5
    rw [e1] at g1
    cases g1
    refine ⟨p', vs, v, rfl, rfl, g4, ?_, qn _ F1 _ _ ⟨d, r1, rfl⟩ ⟨⟨x1, y1, s1'.mut (y := .lst (ds ++ [d])) (u := .lst (vs ++ [v])) h0 e1 ⟨_, rfl, g6.app (dens_cons d1 dens_nil)⟩⟩, w1, f01, h01⟩ f1⟩
    rw [g6.len]
    exact Nat.lt_of_lt_of_le hl (by decide))) fun ρ2 ⟨d, r, e2⟩ => by
    rw [e2]
    exact k d r
theorem qit_ed {tg iter : Expr} {ds : List D} {RR : List D → Prop} (h : ID X tg iter ρ ds ρ) (hR : RR ds) : QIt X i tg iter ρ RR := fun F0 H0 p F H σ s Rk q => by
  obtain ⟨⟨x, y, s'⟩, w, f0, h0⟩ := s
  exact h _ _ _ _ _ s' Rk fun J F1 H1 s1 e1 wk => q J ds F1 H1 hR ⟨⟨x, y, s1⟩, w, f0, h0⟩ e1 wk
theorem qit_rng {tg : Expr} {p : Pos} (hm : X.mg "range" = none) (h : QI X i e ρ A) (hA : ∀ n, A n → 0 ≤ n ∧ n < 2 ^ 62) (hg : Gl X "range" := by rfl) (hs : starEach [e] X.env = (false, eval e X.env) :: starEach [] X.env := by rfl) : QIt X i tg (.Call (.Name "range" p) [e] [] pos) ρ (fun ds => ∃ n : Nat, A (n : Nat) ∧ ds = (List.range n).map fun i => .int (i : Nat)) := fun F0 H0 p F H σ s R r => wI_of (pi_range1 hg hm pa_w hs) ((qa_cons h qa_nil hs) _ _ _ _ _ _ s _ fun ds vs F1 H1 r1 s1 e1 d1 => by
  obtain ⟨d, rr, rfl, ⟨m, rfl, g⟩, rfl⟩ := r1
  obtain ⟨u, rfl, g1⟩ := one_arg d1
  obtain rfl := den_int g1
  have hb := hA m g
  obtain ⟨n, rfl⟩ := Int.eq_ofNat_of_zero_le hb.1
  refine ⟨n, rfl, by omega, by omega, ?_⟩
  have w := r (Itr 0 n) ((List.range n).map fun i => .int (i : Nat)) F1 H1 ⟨n, g, rfl⟩ s1 e1 (by
    have q := walkD_rng (K := X.K) (F := F1) (lo := 0) (n := n)
    have e : ((List.range n).map fun i => D.int (0 + ((i : Nat) : Int))) = (List.range n).map fun i => D.int ((i : Nat) : Int) := by simp
    rw [e] at q
    exact q)
  rw [show ((n : Int)).toNat = n from Int.toNat_natCast n]
  exact w)
theorem qs_for {tg iter : Expr} {body : List Stmt} {js : List Nat} {RR : List D → Prop} (hi : QIt X i tg iter ρ RR) (I : List D → Nat → En → Prop) (h0 : ∀ ds, RR ds → I ds 0 ρ)
    (turn : ∀ ds, RR ds → ∀ k d ρ2, ds[k]? = some d → I ds k ρ2 → ∃ ρ3, GD X tg js ρ2 d ρ3 ∧ QS X i body ρ3 (I ds (k + 1)) Pr) (hd : ∀ ds, RR ds → ∀ ρ2, I ds ds.length ρ2 → QS X i rest ρ2 Pn Pr) (hj : i ∉ js := by decide) (hp : PassesOwn (model X.prog X.w) X.A X.env X.xe := by exact PassesOwn.never) (hc : X.calm = true := by rfl)
    (hs : ∀ x, foldedSetIterable iter X.env x = pure x := by intro _; rfl) : QS X i (.For tg iter body [] pos :: rest) ρ Pn Pr :=
  qs_cons (P1 := fun ρ' => ∃ ds, RR ds ∧ I ds ds.length ρ') (fun F0 H0 p F H σ s D qn qr => by
    refine wS_of (ps_for hp hc pi_w pg_w pss_w hs) (hi _ _ _ _ _ _ s _ fun J ds F1 H1 hRR s1 e1 w => ?_)
    refine ⟨fun k m σ' H' => m = ds.length - k ∧ k ≤ ds.length ∧ ∃ F' ρ', I ds k ρ' ∧ Q0 X.K F0 H0 i p F' H' ρ' σ' ∧ Same F1 F', ⟨ds.length, by simp, Nat.zero_le _, F1, ρ, h0 ds hRR, s1, Same.refl F1⟩, ?_⟩
    rintro k m σ' H' ⟨rfl, hi, F', ρ', hI, s', e'⟩
    by_cases hlt : k < ds.length
    · refine .inr ⟨w.go k F' H' e' s'.fh hlt, fun σ2 H2 => k + 1 ≤ ds.length ∧ ∃ F2 ρ2, I ds (k + 1) ρ2 ∧ Q0 X.K F0 H0 i p F2 H2 ρ2 σ2 ∧ Same F1 F2, fun σ2 H2 h => ⟨ds.length - (k + 1), by omega, rfl, h.1, h.2⟩, fun v H2 hy => ?_⟩
      obtain ⟨⟨x, y, s''⟩, w', f0, h0'⟩ := s'
      obtain ⟨F2, d, hd1, s2, e2, d2, _⟩ := w.yld k v H2 F0 (upd H0 p (penO x y)) F' H' ρ' σ' hlt e' s'' hy
      obtain ⟨ρ3, g, kk⟩ := turn ds hRR k d ρ' hd1 hI
      exact g _ _ _ _ _ _ s2 d2 _ fun σ3 s3 w3 => kk _ _ _ _ _ _ ⟨⟨x, y, s3⟩, by rw [← wipe_get hj, w3 js (fun _ z => z), wipe_get hj]; exact w', f0, h0'⟩ _ (fun ρ4 F4 H4 σ4 p4 s4 e4 => ⟨hlt, F4, ρ4, p4, s4, (e'.trans e2).trans e4⟩) fun d ρ4 v F4 H4 σ4 p4 s4 e4 d4 => qr d ρ4 v F4 H4 σ4 p4 s4 (((e1.trans e').trans e2).trans e4) d4
    · have e : k = ds.length := by omega
      subst e
      exact .inl ⟨w.stop F' H' e' s'.fh, qn ρ' F' H' σ' ⟨ds, hRR, hI⟩ s' (e1.trans e')⟩) fun ρ2 ⟨ds, hRR, hI⟩ => hd ds hRR ρ2 hI
end
end Mf
/-! comprehensions and calls with a pen -/
namespace Mf
open PySem PySem.Spec PyProof.Rows L2
theorem upd_comm {H : Hp} {a b : Addr} {o u : HO} (h : a ≠ b) : upd (upd H a o) b u = upd (upd H b u) a o := by
  funext c
  unfold upd
  by_cases h1 : c = a
  · have h2 : c ≠ b := h1 ▸ h
    simp only [if_pos h1, if_neg h2]
  · simp only [if_neg h1]
theorem upd_id {H : Hp} {a : Addr} {o : HO} (h : H a = some o) : upd H a o = H := by
  funext c
  unfold upd
  by_cases h1 : c = a
  · rw [if_pos h1, h1, h]
  · rw [if_neg h1]
def del (H : Hp) (p : Addr) : Hp := fun b => if b = p then none else H b
theorem upd_del {H : Hp} {p : Addr} {o : HO} : upd (del H p) p o = upd H p o := by
  funext c
  unfold upd del
  by_cases h1 : c = p
  · rw [if_pos h1, if_pos h1]
  · rw [if_neg h1, if_neg h1, if_neg h1]
theorem del_same {H : Hp} {p : Addr} : del H p p = none := if_pos rfl
section
variable {K : PySem.W.Frag} {F0 H0 F H : Hp} {ρ : En} {σ : L2.St}
theorem S0.frzNew (s' : S0 K F0 H0 F H ρ σ) {D : Addr} {o : HO} (hD0 : H0 D = none) (f' : F D = none) (hp' : H D = some o) (nd : ∀ (j : Nat) y, ρ[j]? = some (some (.own y)) → σ[j]? ≠ some (some (.ref D))) : S0 K F0 H0 (upd F D o) H ρ σ := by
  have sm : Same F (upd F D o) := same_new f'
  refine ⟨s'.f.trans sm, fun b u e => ?_, s'.h, fun q h1 h2 => ?_, s'.len, fun j z e => ?_, fun j z e => ?_, s'.a⟩
  · by_cases hb : b = D
    · subst hb
      rw [upd_same] at e
      rw [hp', e]
    · rw [upd_ne hb] at e
      exact s'.fh b u e
  · have hq : q ≠ D := fun z => by
      subst z
      exact h2 hD0
    rw [upd_ne hq]
    exact s'.g q h1 h2
  · obtain ⟨v, h1, h2⟩ := s'.d j z e
    exact ⟨v, h1, Den.mono sm z h2⟩
  · obtain ⟨q, o', a1, a2, a3, a4, a5⟩ := s'.o j z e
    have nq : q ≠ D := fun z' => by
      subst z'
      exact nd j z e a1
    exact ⟨q, o', a1, by rw [upd_ne nq]; exact a2, a3, a4, a5.mono sm⟩
theorem S0.consN (s : S0 K F0 H0 F H ρ σ) (v : Option V) : S0 K F0 H0 F H (none :: ρ) (v :: σ) where
  f := s.f
  fh := s.fh
  h := s.h
  g := s.g
  len := by rw [List.length_cons, List.length_cons, s.len]
  d := fun i x e => by
    cases i with
    | zero => cases e
    | succ i => exact s.d i x e
  o := fun i x e => by
    cases i with
    | zero => cases e
    | succ i => exact s.o i x e
  a := fun i j x y p e1 e2 e3 e4 => by
    cases i with
    | zero => cases e1
    | succ i =>
      cases j with
      | zero => cases e2
      | succ j => rw [s.a i j x y p e1 e2 e3 e4]
end
section
variable {X : Cx} {i : Nat} {ρ ρ' ρ1 ρ2 : En} {a b c e : Expr} {pos : Pos} {Pn : En → Prop} {Pr : D → Prop} {rest st : List Stmt} {R R2 R3 : D → Prop} {A B C : Int → Prop}
theorem qe_lc {elt tg iter : Expr} {scope : Scope} {ds : List D} (own : List (Str × Nat)) (hN : X.N.Nodup) (hi : ID X tg iter ρ ds ρ)
    (turn : ∀ d ∈ ds, ∃ ρ3, wipeE ρ3 (own.map (·.2)) = ρ ∧ ∀ (s : Shared) (H : Hp) (C : Addr) (cl : List (Str × Addr)) (fp : List Addr), GD (X.blk s H scope (compEnvC scope cl C X.env) fp) tg (own.map (·.2)) ρ d ρ3 ∧ QE (X.blk s H scope (compEnvC scope cl C X.env) fp) i elt ρ3 R)
    (hsz : ds.length ≤ 100000) (hni : i ∉ own.map (·.2) := by decide) (hw : wipeE ρ (own.map (·.2)) = ρ := by rfl)
    (ok : BlkOk X.N X.env.scope scope own := by exact blkOk_by (by kernel_rfl)) (hc : X.calm = true := by rfl) (hs : ∀ x, foldedSetIterable iter X.env x = pure x := by intro _; rfl) : QE X i (.ListComp elt [⟨tg, iter, [], 0⟩] scope pos) ρ (fun d => ∃ out, d = .lst out ∧ out.length = ds.length ∧ ∀ y ∈ out, R y) := fun F0 H0 p F H σ s Q q => by
  suffices run : tLc (wI X tg iter) (gB X scope tg) (tsB X scope []) (eB X scope elt) (own.map (·.2)) σ H Q from wE_of (pe_lc hc hN pi_w ok (fun s H C cl fp => ⟨fun pins sh σ' H' v u Q' I r h => h s H C cl fp pins sh u I r⟩) (fun s H C cl fp => ⟨fun pins sh σ' H' Q' I h => h s H C cl fp pins sh I⟩) (fun s H C cl fp => ⟨fun pins sh σ' H' Q' I h => h s H C cl fp pins sh I⟩) hs) run
  obtain ⟨⟨x0, y0, s⟩, w, f0, h0⟩ := s
  refine hi _ _ _ _ _ s _ fun J F1 H1 s1 e1 wk => fun D hD => ?_
  have hDp : D ≠ p := fun z => by
    rw [z, s1.hp] at hD
    cases hD
  have fD1 : F1 D = none := s1.free hD
  have fD0 : F0 D = none := s1.f.free fD1
  have hD0 : H0 D = none := by
    have := s1.h.free hD
    rw [upd_ne hDp] at this
    exact this
  refine ⟨fun k m H' => m = ds.length - k ∧ k ≤ ds.length ∧ ∃ F' acc us, acc.length = k ∧ (∀ y ∈ acc, R y) ∧ Q0 X.K F0 H0 i p F' H' ρ σ ∧ Same F1 F' ∧ F' D = none ∧ H' D = some (.lst us) ∧ Dens X.K F' acc us ∧ (∀ (j : Nat) y, ρ[j]? = some (some (.own y)) → σ[j]? ≠ some (some (.ref D))), ⟨ds.length, by simp, Nat.zero_le _, F1, [], [], rfl, (fun y hy => (nomatch hy)), ⟨⟨x0, y0, s1.newO hD⟩, w, f0, h0⟩, Same.refl F1, fD1, upd_same, dens_nil, fresh_own s1 hD⟩, ?_⟩
  rintro k m H' ⟨rfl, hi', F', acc, us, hal, hacc, ⟨⟨x, y, s'⟩, w', f0', h0'⟩, e', f', hp', dv, nd⟩
  have hDu : ∀ o, (upd H0 p o) D = none := fun o => by rw [upd_ne hDp]; exact hD0
  by_cases hlt : k < ds.length
  · refine .inr ⟨wk.go k F' H' e' s'.fh hlt, fun H2 => k + 1 ≤ ds.length ∧ ∃ F' acc us, acc.length = k + 1 ∧ (∀ y ∈ acc, R y) ∧ Q0 X.K F0 H0 i p F' H2 ρ σ ∧ Same F1 F' ∧ F' D = none ∧ H2 D = some (.lst us) ∧ Dens X.K F' acc us ∧ (∀ (j : Nat) y, ρ[j]? = some (some (.own y)) → σ[j]? ≠ some (some (.ref D))), fun H2 h => ⟨ds.length - (k + 1), by omega, rfl, h.1, h.2⟩, fun v H2 hy => ?_⟩
    obtain ⟨F2, d, hd1, s2, e2, d2, keep⟩ := wk.yld k v H2 F0 (upd (upd H0 p (penO x y)) D (.lst us)) F' H' ρ σ hlt e' (s'.guard hp' f' nd) hy
    have sw := s2.wiped (own.map (·.2))
    rw [hw] at sw
    obtain ⟨ρ3, hw3, g⟩ := turn d (List.mem_of_getElem? hd1)
    intro bs bH bC bcl bfp
    refine (g bs bH bC bcl bfp).1 _ _ _ _ _ _ sw d2 _ fun σ3 s3 w3 => ?_
    have w3' : wipe σ3 (own.map (·.2)) = wipe σ (own.map (·.2)) := by
      rw [w3 _ (fun _ z => z)]
      rw [wipe_idem]
    refine ⟨by
      rw [w3 _ (fun _ z => z), wipe_idem], fun bs bH bC bcl bfp => wTs_of pts_nil ?_⟩
    simp only [tYes, ↓reduceIte]
    intro bs bH bC bcl bfp
    rw [upd_comm hDp.symm] at s3
    refine (g bs bH bC bcl bfp).2 _ _ _ _ _ _ ⟨⟨x, y, s3⟩, by rw [← wipe_get hni, w3', wipe_get hni]; exact w', f0, by rw [upd_ne hDp.symm]; exact h0⟩ _ fun dd u F5 H5 hC s5 e5 d5 => ?_
    obtain ⟨⟨x5, y5, s5⟩, w5, _, _⟩ := s5
    rw [upd_comm hDp] at s5
    have hp5 : H5 D = some (.lst us) := s5.h D _ upd_same
    have f5 : F5 D = none := s5.g D fD0 (by rw [upd_same]; exact fun z => nomatch z)
    have dv5 : Dens X.K F5 acc us := Dens.mono (e2.trans e5) _ dv
    have su := s5.unwiped w3'
    rw [hw3] at su
    refine ⟨us, hp5, ?_, hlt, F5, acc ++ [dd], us ++ [u], by rw [List.length_append, hal]; rfl, fun z hz => ?_, ⟨⟨x5, y5, su.unguard (hDu _) f5⟩, w', f0, h0⟩, (e'.trans e2).trans e5, f5, upd_same, dv5.app (dens_cons d5 dens_nil), nd⟩
    · rw [dv5.len, hal]
      exact Nat.lt_of_lt_of_le hlt (Nat.le_trans hsz (by decide))
    · rcases List.mem_append.mp hz with hz | hz
      · exact hacc z hz
      · rw [List.mem_singleton.mp hz]
        exact hC
  · have e : k = ds.length := by omega
    subst e
    exact .inl ⟨wk.stop F' H' e' s'.fh, q (.lst acc) (.ref D) (upd F' D (.lst us)) H' ⟨acc, rfl, hal, hacc⟩ ⟨⟨x, y, s'.frzNew (hDu _) f' hp' nd⟩, w', f0, h0⟩ ((e1.trans e').trans (same_new f')) (mk_lst upd_same (Dens.mono (same_new f') _ dv))⟩
/-! ### calls -/
def spP (K : PySem.W.Frag) (Pre : List D → Prop) (R : List D → D → Prop) : Sp := fun vs H Q _ => ∃ p a b F ds us, vs = .ref p :: us ∧ Dens K F ds us ∧ Same F H ∧ F p = none ∧ H p = some (penO a b) ∧ Pre ds ∧ ∀ d v a' b' F' H', R ds d → Stp F (upd H p (penO a' b')) F' H' → Den K F' d v → Q v H'
theorem qe_call {n m : Str} {p pp : Pos} {es : List Expr} {Pre : List D → Prop} {RC : List D → D → Prop} {RR : List D → Prop} {j k : Nat} (c : C8.Cal X.prog X.w X.K X.mg X.base k n (spP X.K Pre RC) []) (hr : Room j X.A) (hk : k ≤ j) (hg : Gl X n) (ha : QA X i es ρ RR) (hpre : ∀ ds, RR ds → Pre ds) (hR : ∀ ds d, RR ds → RC ds d → R d) (hN : X.N[i]? = some m := by rfl)
    (hv : Vis X.env.scope m := by first | exact Or.inl rfl | exact Or.inr (Or.inl rfl) | exact Or.inr (Or.inr rfl)) (hd : (m == ("__debug__" : Str)) = false := by decide) (hcd : (m == ("__classdict__" : Str)) = false := by decide)
    (hdb : (n == ("__debug__" : Str)) = false := by decide) (he : starEach (.Name m pp :: es) X.env = (false, eval (.Name m pp) X.env) :: starEach es X.env := by rfl) (hpl : (backTo pos (starEach es X.env)).any (·.1) = false := by rfl) : QE X i (.Call (.Name n p) (.Name m pp :: es) [] pos) ρ R := fun F0 H0 p F H σ s Q q =>
  wE_of (C8.pe_c c hr hk hg (pa_cons (pe_var hN hv hd hcd) pa_w he) hdb he hpl) ⟨_, s.v, ha _ _ _ _ _ _ s _ fun ds vs F1 H1 r1 s1 e1 d1 => by
    obtain ⟨⟨x, y, s'⟩, w, f0, h0⟩ := s1
    exact ⟨p, x, y, F1, ds, vs, by rw [List.append_nil], d1, s'.fh, s'.fp f0, s'.hp, hpre ds r1, fun d v a' b' F2 H2 hRd t d2 => q d v F2 H2 (hR ds d r1 hRd) ⟨⟨a', b', (s'.rewr f0 h0 (penO a' b')).step t⟩, w, f0, h0⟩ (e1.trans t.f) d2⟩⟩
end
def startP (N : List Str) (ds : List D) : En := none :: startE (N.drop 1) ds
section
variable {P : Program} {w : World} {K : PySem.W.Frag} {mg : Str → Option Value} {base : Heap}
theorem calP_of {x : Str} {st : Stmt} {N ps : List Str} {k : Nat} {Pre : List D → Prop} {R : List D → D → Prop} (F : Fd K mg x st) (S : FnScope N ps (defScope st)) (hps : ps.length ≤ N.length)
    (hb : ∀ (kV doc pm : Value) (an : Option Addr) (cdv ct : Value) (us : List Value), us.length = ps.length → bindArgs (PySem.W.fnOf x x (defArgs st) (defBody st) (defScope st) .none kV doc pm an cdv ct) ⟨us, []⟩ = pure (ps.zip us))
    (hR : ∀ ds, Pre ds → ds.length + 1 = ps.length)
    (body : ∀ (ds : List D) (f : Addr) (cdv : Value) (A : Around) (outer : List Env) (s : Shared) (H : Hp) (E : XK), Pre ds → Room k (cx P w K mg base N x st f cdv A outer s H E).A →
      QS (cx P w K mg base N x st f cdv A outer s H E) 0 (defBody st) (startP N ds) (fun _ => False) (R ds)) : C8.Cal P w K mg base (k + 1) x (spP K Pre R) [] := by
  obtain ⟨f, fd, F, hm⟩ := F
  refine ⟨f, fd, ps, [], ?_, hm, F.kp, F.bindsN hb, .nil⟩
  refine F.ok S (fun vs H Q E h => ?_) (fun cdv A outer s H vs Q E hr h => ?_)
  · obtain ⟨p, a, b, F0, ds, us, rfl, dv, _, _, _, hp, _⟩ := h
    rw [List.length_cons, dv.len, hR ds hp]
  · obtain ⟨p, a, b, F0, ds, us, rfl, dv, h1, h2, h3, hp, q⟩ := h
    refine ⟨wSs (cx P w K mg base N x st f cdv A outer s H E) (defBody st), PSs.nox pss_w, ?_⟩
    have hl := hR ds hp
    have s0 : S0 K F0 H F0 H (startP N ds) (L2.start N (.ref p :: us)) := by
      have s1 := (start_s0 (K := K) (N := N.drop 1) h1 dv (by rw [List.length_drop]; omega)).consN (some (.ref p))
      have e : some (V.ref p) :: L2.start (N.drop 1) us = L2.start N (.ref p :: us) := by
        unfold L2.start
        rw [List.length_drop, List.map_cons, List.cons_append, List.length_cons, dv.len, show N.length - 1 - ds.length = N.length - (ds.length + 1) from by omega]
      rw [e] at s1
      exact s1
    have q0 : Q0 K F0 (del H p) 0 p F0 H (startP N ds) (L2.start N (.ref p :: us)) := ⟨⟨a, b, by rw [upd_del, upd_id h3]; exact s0⟩, rfl, h2, del_same⟩
    refine body ds f cdv A outer s H E hp hr _ _ _ _ _ _ q0 _ (fun ρ' F' H' σ' hd s' e => hd.elim) fun d ρ' v F' H' σ' hd s' e dd => ?_
    · obtain ⟨⟨a', b', s''⟩, _, _, _⟩ := s'
      have t := s''.stp
      rw [upd_del] at t
      exact q d v a' b' F' H' hd t dd
end
end Mf
/-! a new pen, a for over what a pen draws -/
namespace Mf
open PySem PySem.Spec PyProof.Rows L2
theorem cell_pen {K : PySem.W.Frag} {F : Hp} {a b : Int} {o : HO} (h : Cell K F (.lst [.int a, .int b]) o) : o = penO a b := by
  obtain ⟨vs, rfl, dv⟩ := h
  obtain ⟨v, r, rfl, g1, g2⟩ := dens_cons' dv
  obtain ⟨u, r, rfl, g3, g4⟩ := dens_cons' g2
  obtain rfl := dens_nil' g4
  obtain rfl := den_int g1
  obtain rfl := den_int g3
  rfl
theorem pen_cell {K : PySem.W.Frag} {F : Hp} {a b : Int} : Cell K F (.lst [.int a, .int b]) (penO a b) := ⟨_, rfl, dens_cons mk_int (dens_cons mk_int dens_nil)⟩
def spN (K : PySem.W.Frag) : Sp := fun vs H Q _ => ∃ n : Int, vs = [.int n] ∧ ∃ F, Same F H ∧ ∀ p a b F' H', Stp F H F' H' → F' p = none → H p = none → H' p = some (penO a b) → Q (.ref p) H'
section
variable {X : Cx} {i : Nat} {ρ ρ' ρ1 ρ2 : En} {a b c e : Expr} {d : D} {pos : Pos} {Pn : En → Prop} {Pr : D → En → Prop} {rest st : List Stmt}
def SDN (X : Cx) (st : List Stmt) (ρ : En) : Prop := ∀ F0 H0 F H σ, S0 X.K F0 H0 F H ρ σ → ∀ D : Ends,
  (∀ p x y ρ' F' H' σ', S0 X.K F0 H0 F' H' ρ' σ' → Same F F' → F' p = none → H0 p = none → H' p = some (penO x y) → D.rt (.ref p) H') → wSs X st D σ H
theorem sdn_set (j : Nat) {n : Str} {pos' : Pos} (hN : X.N.Nodup) (he : ED X e ρ d ρ1) (k : SDN X rest (ρ1.set j (some (.d d)))) (hi : X.N[j]? = some n := by rfl) (hx : Loc X.env.scope n := by first | exact Or.inl rfl | exact Or.inr rfl)
    (hs : swapsWith e (some (.Name n pos')) pos.line X.env = pure false := by rfl) (hf : X.fn n = true ∨ X.env.scope.names.lookup n = some .local := by first | exact .inl rfl | exact .inr rfl) : SDN X (.Assign [.Name n pos'] e pos :: rest) ρ := fun F0 H0 F H σ s D q =>
  wSs_of (pss_cons ps_w pss_w) (wS_of (ps_set hN hi hx pe_w hs hf) (he _ _ _ _ _ s _ fun v F1 H1 s1 e1 d1 => k _ _ _ _ _ (s1.setD d1) D fun p x y ρ' F' H' σ' s' e' f h0 hp => q p x y ρ' F' H' σ' s' (e1.trans e') f h0 hp))
theorem sdn_ret {x y : Int} (he : ND X e ρ (.lst [.int x, .int y]) ρ1) : SDN X (.Return (some e) pos :: rest) ρ := fun F0 H0 F H σ s D q =>
  wSs_of (pss_cons ps_w pss_w) (wS_of (ps_ret pe_w) (he _ _ _ _ _ s _ fun p o F1 H1 s1 e1 f1 h0 hp hc _ => q p x y ρ1 F1 H1 σ s1 e1 f1 h0 (by rw [hp, cell_pen hc])))
theorem sds_pen (j : Nat) {nm : Str} {p p' pos2 : Pos} {n : Int} {jj : Nat} (hN : X.N.Nodup) (c : C8.Cal X.prog X.w X.K X.mg X.base 1 "_law_pen" (spN X.K) []) (hr : Room jj X.A) (hk : 1 ≤ jj) (ha : ED X a ρ (.int n) ρ) (k : ∀ x y, SDs X rest (ρ.set j (some (.own (.lst [.int x, .int y])))) Pn Pr)
    (hg : Gl X "_law_pen" := by rfl) (hi : X.N[j]? = some nm := by rfl) (hx : Loc X.env.scope nm := by first | exact Or.inl rfl | exact Or.inr rfl)
    (hs : swapsWith (.Call (.Name "_law_pen" p) [a] [] pos2) (some (.Name nm p')) pos.line X.env = pure false := by rfl) (hf : X.fn nm = true ∨ X.env.scope.names.lookup nm = some .local := by first | exact .inl rfl | exact .inr rfl)
    (he : starEach [a] X.env = (false, eval a X.env) :: starEach [] X.env := by rfl) : SDs X (.Assign [.Name nm p'] (.Call (.Name "_law_pen" p) [a] [] pos2) pos :: rest) ρ Pn Pr :=
  sds_cons (P1 := fun ρ' => ∃ x y, ρ' = ρ.set j (some (.own (.lst [.int x, .int y])))) (fun F0 H0 F H σ s D qn qr => wS_of (ps_set hN hi hx pe_w hs hf) (wE_of (C8.pe_c c hr hk hg pa_w (by decide) he rfl) ((ad_cons ha ad_nil he) _ _ _ _ _ s _ fun vs F1 H1 s1 e1 d1 => by
    obtain ⟨u, rfl, g⟩ := one_arg d1
    obtain rfl := den_int g
    exact ⟨n, rfl, F1, s1.fh, fun q x y F2 H2 t f2 h2 hp => qn _ F2 H2 _ ⟨x, y, rfl⟩ ((s1.step t).setO f2 (s1.h.free h2) hp pen_cell (fresh_own s1 h2)) (e1.trans t.f)⟩))) fun ρ2 ⟨x, y, e2⟩ => by
    rw [e2]
    exact k x y
theorem qit_lst {tg : Expr} {RR : List D → Prop} (h : QE X i e ρ (fun d => ∃ ds, d = .lst ds ∧ RR ds)) : QIt X i tg e ρ RR := fun F0 H0 p F H σ s Rk q => wI_of (pi_list pe_w) (h _ _ _ _ _ _ s _ fun d v F1 H1 r s1 e1 d1 => by
  obtain ⟨ds, rfl, hR⟩ := r
  obtain ⟨p', vs, rfl, h1, h2⟩ := den_lst d1
  exact ⟨p', rfl, ⟨vs, .inl (.inl (s1.fh _ _ h1))⟩, q _ ds F1 H1 hR s1 e1 (walkD_lst h1 h2)⟩)
theorem S0.setNone {K : PySem.W.Frag} {F0 H0 F H : Hp} {σ : L2.St} (s : S0 K F0 H0 F H ρ σ) (j : Nat) : S0 K F0 H0 F H (ρ.set j none) σ :=
  s.trans (by rw [List.length_set, s.len]) fun k x e => by
    by_cases hk : j = k
    · subst hk
      by_cases hl : j < ρ.length
      · rw [List.getElem?_set_self hl] at e
        cases e
      · rw [List.getElem?_eq_none (by rw [List.length_set]; omega)] at e
        cases e
    · rw [List.getElem?_set_ne hk] at e
      exact ⟨e, rfl⟩
theorem sds_forP (j : Nat) {tg iter : Expr} {body : List Stmt} {js : List Nat} {RR : List D → Prop} {x y : Int} (h : ρ[j]? = some (some (.own (.lst [.int x, .int y])))) (hi : QIt X j tg iter (ρ.set j none) RR) (I : List D → Nat → En → Prop) (h0 : ∀ ds, RR ds → I ds 0 (ρ.set j none))
    (turn : ∀ ds, RR ds → ∀ k d ρ2, ds[k]? = some d → I ds k ρ2 → ∃ ρ3, GD X tg js ρ2 d ρ3 ∧ SDs X body ρ3 (I ds (k + 1)) Pr) (hd : ∀ ds, RR ds → ∀ ρ2, I ds ds.length ρ2 → SDs X rest ρ2 Pn Pr) (hp : PassesOwn (model X.prog X.w) X.A X.env X.xe := by exact PassesOwn.never) (hc : X.calm = true := by rfl)
    (hs : ∀ x, foldedSetIterable iter X.env x = pure x := by intro _; rfl) : SDs X (.For tg iter body [] pos :: rest) ρ Pn Pr :=
  sds_cons (P1 := fun ρ' => ∃ ds, RR ds ∧ I ds ds.length ρ') (fun F0 H0 F H σ s D qn qr => by
    obtain ⟨p, o, a1, a2, a3, a4, a5⟩ := s.o j _ h
    obtain rfl := cell_pen a5
    have s0 := s.setNone j
    have nown : ∀ (k : Nat) z, (ρ.set j none)[k]? = some (some (.own z)) → σ[k]? ≠ some (some (.ref p)) := fun k z e g => by
      by_cases hk : j = k
      · subst hk
        have hl : j < ρ.length := (List.getElem?_eq_some_iff.mp h).1
        rw [List.getElem?_set_self hl] at e
        cases e
      · rw [List.getElem?_set_ne hk] at e
        exact hk (s.a j k _ _ p h e a1 g)
    have q0 : Q0 X.K F0 H0 j p F H (ρ.set j none) σ := ⟨⟨x, y, s0.guard a4 a2 nown⟩, a1, s.f.free a2, a3⟩
    refine wS_of (ps_for hp hc pi_w pg_w pss_w hs) (hi _ _ _ _ _ _ q0 _ fun J ds F1 H1 hRR s1 e1 w => ?_)
    obtain ⟨⟨x1, y1, s1'⟩, _, f0, h0'⟩ := s1
    have s1'' : S0 X.K F0 H0 F1 H1 (ρ.set j none) σ := by
      have z := s1'.unguard (o' := penO x1 y1) h0' (s1'.fp f0)
      rw [upd_id s1'.hp] at z
      exact z
    refine ⟨fun k m σ' H' => m = ds.length - k ∧ k ≤ ds.length ∧ ∃ F' ρ', I ds k ρ' ∧ S0 X.K F0 H0 F' H' ρ' σ' ∧ Same F1 F', ⟨ds.length, by simp, Nat.zero_le _, F1, _, h0 ds hRR, s1'', Same.refl F1⟩, ?_⟩
    rintro k m σ' H' ⟨rfl, hi, F', ρ', hI, s', e'⟩
    by_cases hlt : k < ds.length
    · refine .inr ⟨w.go k F' H' e' s'.fh hlt, fun σ2 H2 => k + 1 ≤ ds.length ∧ ∃ F2 ρ2, I ds (k + 1) ρ2 ∧ S0 X.K F0 H0 F2 H2 ρ2 σ2 ∧ Same F1 F2, fun σ2 H2 h => ⟨ds.length - (k + 1), by omega, rfl, h.1, h.2⟩, fun v H2 hy => ?_⟩
      obtain ⟨F2, d, hd1, s2, e2, d2, _⟩ := w.yld k v H2 F0 H0 F' H' ρ' σ' hlt e' s' hy
      obtain ⟨ρ3, g, kk⟩ := turn ds hRR k d ρ' hd1 hI
      refine g _ _ _ _ _ _ s2 d2 _ fun σ3 s3 _ => kk _ _ _ _ _ s3 _ (fun ρ4 F4 H4 σ4 p4 s4 e4 => ⟨hlt, F4, ρ4, p4, s4, (e'.trans e2).trans e4⟩) fun d ρ4 v F4 H4 σ4 p4 s4 e4 d4 => qr d ρ4 v F4 H4 σ4 p4 s4 (((e1.trans e').trans e2).trans e4) d4
    · have e : k = ds.length := by omega
      subst e
      exact .inl ⟨w.stop F' H' e' s'.fh, qn ρ' F' H' σ' ⟨ds, hRR, hI⟩ s' (e1.trans e')⟩) fun ρ2 ⟨ds, hRR, hI⟩ => hd ds hRR ρ2 hI
end
end Mf
/-! what the plain law must give -/
namespace Mf
open PySem PySem.Spec PyProof.Rows L2
structure FSome (p : Plant) (s : Story) (size : Nat) (ch : List Int) (c : Int) (rows : List (List Int)) (c0 : Int) (rows0 : List (List Int)) : Prop where
  pl : planFor p s ch = some (c, rows)
  pa : planAll p s = some (c0, rows0)
  so : SetOk p.boilers.length ch
  sl : ch.length = size
  fo : firingOk (capsBy p s) rows = true
  ku : keepsUp p (drawsBy p s) rows = true
  ow : onlyWith ch rows
  sh : ∀ k, size = k + 1 → ∀ ch' ∈ setsOf p.boilers.length k, ShowOk p s ch' (shortOf p s ch')
  le0 : c0 ≤ c
  le1 : c ≤ coalIn p rows
  st : ∀ b < p.boilers.length, 0 < (rows.map fun row => row.getD b 0).sum → ((b : Nat) : Int) ∈ ch
  ne : ∀ b ∈ neededOf p s, b ∈ ch
  mi : ∀ one ∈ ch, planFor p s (ch.filter fun b => decide (b ≠ one)) = none
  ad : ∀ one < p.boilers.length, ((one : Nat) : Int) ∉ ch → ∃ c' r', planFor p s (sortI (ch ++ [((one : Nat) : Int)])) = some (c', r') ∧ c' ≤ c
  al : ∃ r1, planFor p s (upTo p.boilers.length) = some (c0, r1)
structure Facts (p : Plant) (s : Story) : Prop where
  none : foundSet p s = none → planAll p s = none ∧ neededOf p s = upTo p.boilers.length ∧ ∃ a b, shortOf p s (upTo p.boilers.length) = some (a, b) ∧ shortBy p (capsBy p s) (drawsBy p s) = some (a, b) ∧ a ≤ b ∧ b < (drawsBy p s).length ∧ isShort p.low p.high p.start (capsBy p s) (drawsBy p s) a b = true
  some : ∀ size ch, foundSet p s = some (size, ch) → ∃ c rows c0 rows0, FSome p s size ch c rows c0 rows0
def R_lright (ds : List D) (d : D) : Prop := ∃ (p : Plant) (s : Story), p.Ok ∧ s.Ok p ∧ ds = [encPl p, encS s] ∧ d = .bl true
end Mf
/-! the walks: the law's helpers that change nothing -/
namespace Mf
open PySem PySem.Spec PyProof.Rows L2
section
variable {P : Program} {w : World} {K : PySem.W.Frag} {mg : Str → Option Value} {base : Heap}
theorem c_lcell (B : Bi K mg) (F : Fd K mg "_law_cell" s__law_cell) : C8.Cal P w K mg base 1 "_law_cell" (spD K R_lcell) [] := by
  refine cal_of F sc__law_cell (by decide) bd__law_cell (fun ds d ⟨p, e, _⟩ => by rw [e]; rfl) fun ds d f cdv A outer s H E h hr => ?_
  obtain ⟨ns, rfl, rfl⟩ := h
  refine sds_if (td_cmp (ed_var 1) (ed_callB rfl B.len rfl (ad_cons (ed_var 0) ad_nil) call_lenS) cmp_lt) (fun h => ?_) fun h => sds_nil ?_
  · have h' : 0 < ns.length := by have := of_decide_eq_true h; omega
    refine sds_ret (ed_ix (ed_var 0) (ed_var 1) (ix_scrD (atI_nat (n := 0) (getD_some (d := (0 : Int)) h')))) ?_
    rw [if_pos h']
  · have h' : ¬ 0 < ns.length := by have := of_decide_eq_false h; omega
    refine sds_ret ed_int ?_
    rw [if_neg h']
theorem c_lcaps (B : Bi K mg) (F : Fd K mg "_law_caps" s__law_caps) : C8.Cal P w K mg base 1 "_law_caps" (spD K R_lcaps) [] := by
  refine cal_of F sc__law_caps (by decide) bd__law_caps (fun ds d ⟨p, s, _, _, e, _⟩ => by rw [e]; rfl) fun ds d f cdv A outer s H E h hr => ?_
  obtain ⟨p, st, hp, hs, rfl, rfl⟩ := h
  have b4 := hp.b4; have h8 := hs.h8; have f4 := hs.f4
  refine sds_setN 2 sc__law_caps.nd (nd_li ad_nil) ?_
  refine sds_for (js := [3]) (fun i ρ => ∃ x4 x5 x6 x7 x8 x, ρ = [some (.d (encPl p)), some (.d (encS st)), some (.own (.lst (((lcaps p st).take i).map encT))), x, x4, x5, x6, x7, x8, none, none, none, none]) (id_rng1 (n := st.extra.length) B.range (ad_cons (ed_cast (ed_lenT B.len (ed_ix (ed_var 1) ed_int (ix_tupD rfl))) (by rw [List.length_map])) ad_nil) (by omega)) ⟨none, none, none, none, none, none, rfl⟩ ?_ ?_
  · rintro i d ρ2 hd ⟨x4, x5, x6, x7, x8, x, rfl⟩
    obtain ⟨hi, rfl⟩ := rng_get hd
    have hnew : (lcaps p st)[i]? = some (p.boilers.zipIdx.map (lcap p st i)) := by
      unfold lcaps
      rw [List.getElem?_map, List.getElem?_range hi]
      rfl
    have hll : (lcaps p st).length = st.extra.length := by unfold lcaps; simp
    refine ⟨_, gd_name 3 sc__law_caps.nd, ?_⟩
    refine sds_setN 4 sc__law_caps.nd (nd_li ad_nil) ?_
    refine sds_for (js := [5, 6, 7]) (fun k ρ => ∃ x5 x6 x7 x8, ρ = [some (.d (encPl p)), some (.d (encS st)), some (.own (.lst (((lcaps p st).take i).map encT))), some (.d (.int (i : Nat))), some (.own (.lst (((p.boilers.zipIdx.map (lcap p st i)).take k).map .int))), x5, x6, x7, x8, none, none, none, none])
      (id_cast (id_enumT B.enumerate (ad_cons (ed_ix (ed_var 0) ed_int (ix_tupD rfl)) ad_nil)) enumD_map) ⟨_, _, _, _, rfl⟩ ?_ ?_
    · rintro k d ρ3 hd ⟨x5, x6, x7, x8, rfl⟩
      obtain ⟨q, hq, rfl⟩ := map_get hd
      have hk : k < p.boilers.length := (List.getElem?_eq_some_iff.mp (zipIdx_get hq).1).1
      have hv : (p.boilers.zipIdx.map (lcap p st i))[k]? = some (lcap p st i q) := by rw [List.getElem?_map, hq]; rfl
      refine ⟨_, gd_t12 5 6 7 sc__law_caps.nd, ?_⟩
      refine sds_setLcIf 8 [("_law_one", 9), ("_law_word", 10), ("_law_first", 11), ("_law_last", 12)] sc__law_caps.nd (id_tup (ed_ix (ed_var 1) ed_int (ix_tupD rfl))) (xs := st.faults) (enc := encF) (f := fun f => .str (wordOf f.2.1)) (p := faultOn (i : Nat) (q.2 : Nat)) ?_ (by omega) ?_
      · exact fun z hm => ⟨_, by rfl, fun s H C cl fp => ⟨gd_t4 9 10 11 12 sc__law_caps.nd, td_cast (td_bool (wd_and (td_cmp (ed_var 9) (ed_var 5) cmp_eqI) fun _ => wd_and (td_cmp (ed_var 11) (ed_var 3) cmp_le) fun _ => wd_and1 (td_cmp (ed_var 3) (ed_var 12) cmp_le))) rfl, fun _ => ed_var 10⟩⟩
      rw [show (st.faults.filter (faultOn (i : Nat) (q.2 : Nat))).map (fun f => D.str (wordOf f.2.1)) = (wordsAt st (i : Nat) (q.2 : Nat)).map fun b => D.str (wordOf b) from by unfold wordsAt; rw [List.map_map]; rfl]
      have e1 := inV_words true (wordsAt st (i : Nat) (q.2 : Nat))
      have e2 := inV_words false (wordsAt st (i : Nat) (q.2 : Nat))
      refine sds_expr (ed_append 4 (d := .int (lcap p st i q)) (ed_if (td_cmp (ed_str (i := wordOf true)) (ed_var 8) (cmp_inL rfl (flat_words _)) rfl) (fun h => ed_cast ed_int ?_) fun h => ed_cast (ed_bin (ed_var 6) (ed_bin ed_int (ed_callTy rfl B.int rfl (ad_cons (ed_cmp (ed_str (i := wordOf false)) (ed_var 8) (cmp_inL rfl (flat_words _)) rfl) ad_nil) call_intB) bin_add) (bin_fdiv ?_)) ?_) rfl rfl ?_) (sds_nil ?_)
      · have h' := e1.symm.trans h
        unfold lcap
        rw [if_pos h']
      · constructor <;> split <;> omega
      · have h' := e1.symm.trans h
        have hv : lcap p st i q = q.1.1 / (1 + if inV (V.str (wordOf false)) ((((wordsAt st (i : Nat) (q.2 : Nat)).map fun b => D.str (wordOf b))).map vOf) = true then 1 else 0) := by
          unfold lcap
          rw [if_neg (by rw [h']; exact Bool.false_ne_true), e2]
        rw [hv]
        rfl
      · rw [List.length_map, List.length_take]; omega
      · rw [take_snoc hv, List.map_append]
        exact ⟨_, _, _, _, rfl⟩
    · rintro ρ3 ⟨x5, x6, x7, x8, rfl⟩
      refine sds_frz 4 rfl ?_
      refine sds_expr (ed_append 2 (ed_tuple B.tuple (ed_var 4)) rfl rfl ?_) (sds_nil ?_)
      · rw [List.length_map, List.length_take]; omega
      · rw [take_snoc hnew, List.map_append, List.length_map, List.take_of_length_le (l := p.boilers.zipIdx.map (lcap p st i)) (by simp)]
        exact ⟨_, _, _, _, _, _, rfl⟩
  · rintro ρ2 ⟨x4, x5, x6, x7, x8, x, rfl⟩
    refine sds_frz 2 rfl ?_
    refine sds_ret (ed_tuple B.tuple (ed_var 2)) ?_
    rw [List.length_map, List.length_range, List.take_of_length_le (by unfold lcaps; simp)]
    rfl
theorem rg_ok : ∀ a < 8, ∀ b < 8, Builtin.Range.small ((a : Nat) : Int) 8 ((b + 1 : Nat) : Int) = true ∧ 0 ≤ Builtin.Range.rangeSize ((a : Nat) : Int) 8 ((b + 1 : Nat) : Int) ∧ Builtin.Range.rangeSize ((a : Nat) : Int) 8 ((b + 1 : Nat) : Int) ≤ 100 := by decide +kernel
theorem c_ldraws (B : Bi K mg) (F : Fd K mg "_law_draws" s__law_draws) : C8.Cal P w K mg base 1 "_law_draws" (spD K R_ldraws) [] := by
  refine cal_of F sc__law_draws (by decide) bd__law_draws (fun ds d ⟨p, s, _, _, e, _⟩ => by rw [e]; rfl) fun ds d f cdv A outer s H E h hr => ?_
  obtain ⟨p, st, hp, hs, rfl, rfl⟩ := h
  have e4 := hp.e4; have h8 := hs.h8
  have hl : (ldraws p st).length = st.extra.length := by unfold ldraws; simp
  refine sds_setN 2 sc__law_draws.nd (nd_li ad_nil) ?_
  refine sds_for (js := [3, 4]) (fun i ρ => ∃ x3 x4 x5 x6 x7, ρ = [some (.d (encPl p)), some (.d (encS st)), some (.own (.lst (((ldraws p st).take i).map .int))), x3, x4, x5, x6, x7]) (id_cast (id_enumT B.enumerate (ad_cons (ed_ix (ed_var 1) ed_int (ix_tupD rfl)) ad_nil)) enumD_map) ⟨none, none, none, none, none, rfl⟩ ?_ ?_
  · rintro i d ρ2 hd ⟨x3, x4, x5, x6, x7, rfl⟩
    obtain ⟨q, hq, rfl⟩ := map_get hd
    have hi : i < st.extra.length := (List.getElem?_eq_some_iff.mp (zipIdx_get hq).1).1
    have hnew : (ldraws p st)[i]? = some (p.engines.foldl (lturn q.2) q.1) := by
      unfold ldraws
      rw [List.getElem?_map, hq]
      rfl
    refine ⟨_, gd_t2 3 4 sc__law_draws.nd, ?_⟩
    refine sds_for (js := [5, 6, 7]) (fun k ρ => ∃ x5 x6 x7, ρ = [some (.d (encPl p)), some (.d (encS st)), some (.own (.lst (((ldraws p st).take i).map .int))), some (.d (.int (q.2 : Nat))), some (.d (.int ((p.engines.take k).foldl (lturn q.2) q.1))), x5, x6, x7]) (id_tup (ds := p.engines.map encE) (ed_ix (ed_var 0) ed_int (ix_tupD rfl))) ⟨_, _, _, rfl⟩ ?_ ?_
    · rintro k d ρ3 hd ⟨x5, x6, x7, rfl⟩
      obtain ⟨e, he, rfl⟩ := map_get hd
      have hb := hp.es e (List.mem_of_getElem? he)
      have hrg : RgC e.2.1 8 e.2.2 (Builtin.Range.rangeSize e.2.1 8 e.2.2).toNat ∧ (Builtin.Range.rangeSize e.2.1 8 e.2.2).toNat ≤ 100 := by
        have := rg_ok e.2.1.toNat (by omega) (e.2.2 - 1).toNat (by omega)
        rw [show ((e.2.1.toNat : Nat) : Int) = e.2.1 from by omega, show (((e.2.2 - 1).toNat + 1 : Nat) : Int) = e.2.2 from by omega] at this
        exact ⟨⟨by omega, by omega, this.1, (Int.toNat_of_nonneg this.2.1).symm⟩, by omega⟩
      refine ⟨_, gd_t3 5 6 7 sc__law_draws.nd, ?_⟩
      refine sds_set 4 sc__law_draws.nd (ed_bin (ed_var 4) (ed_bin (ed_var 5) (ed_callTy rfl B.int rfl (ad_cons (ed_cmp (ed_var 3) (ed_listRg3 B.list B.range (ad_cons (ed_var 6) (ad_cons ed_int (ad_cons (ed_var 7) ad_nil))) hrg.1 (by omega)) (cmp_inL rfl (flat_ints _)) rfl) ad_nil) call_intB) (bin_mul (.inl (by omega)))) bin_add) (sds_nil ?_)
      rw [take_snoc he, List.foldl_append, show vOf (D.int ((q.2 : Nat) : Int)) = V.int ((q.2 : Nat) : Int) from rfl, inV_ints]
      exact ⟨_, _, _, rfl⟩
    · rintro ρ3 ⟨x5, x6, x7, rfl⟩
      rw [List.length_map, List.take_length]
      refine sds_expr (ed_append 2 (ed_var 4) rfl rfl ?_) (sds_nil ?_)
      · rw [List.length_map, List.length_take]; omega
      · rw [take_snoc hnew, List.map_append]
        exact ⟨_, _, _, _, _, rfl⟩
  · rintro ρ2 ⟨x3, x4, x5, x6, x7, rfl⟩
    refine sds_frz 2 rfl ?_
    refine sds_ret (ed_tuple B.tuple (ed_var 2)) ?_
    rw [List.length_map, List.length_zipIdx, ← hl, List.take_length]
    rfl
theorem lmains_cons {low high here : Int} {q : Int × List Int} {rest : List (Int × List Int)} : lmains low high here (q :: rest) = if min high (here + q.2.sum - q.1) < low then [] else min high (here + q.2.sum - q.1) :: lmains low high (min high (here + q.2.sum - q.1)) rest := rfl
theorem c_lmains (B : Bi K mg) (F : Fd K mg "_law_mains" s__law_mains) : C8.Cal P w K mg base 1 "_law_mains" (spD K R_lmains) [] := by
  refine cal_of F sc__law_mains (by decide) bd__law_mains (fun ds d ⟨p, s, _, _, e, _⟩ => by rw [e]; rfl) fun ds d f cdv A outer s H E h hr => ?_
  obtain ⟨p, dw, fi, hm, rfl, rfl⟩ := h
  refine sds_asg (ed_var 0) (gd_t3 3 4 5 sc__law_mains.nd) ?_
  refine sds_setN 6 sc__law_mains.nd (nd_li ad_nil) ?_
  refine sds_for (js := [7, 8]) (fun i ρ => ∃ (here : Int) (ns : List Int) (x7 x8 : Option Sl), ns.length = i ∧ lmains p.low p.high p.start (dw.zip fi) = ns ++ lmains p.low p.high here ((dw.zip fi).drop i) ∧
    ρ = [some (.d (encM p)), some (.d (encT dw)), some (.d (encR fi)), some (.d (.int p.low)), some (.d (.int p.high)), some (.d (.int here)), some (.own (encL ns)), x7, x8]) (id_cast (id_zipTT B.zip (ad_cons (ed_var 1) (ad_cons (ed_var 2) ad_nil))) zipD_map) ⟨p.start, [], none, none, rfl, rfl, rfl⟩ ?_ ?_
  · rintro i d ρ2 hd ⟨here, ns, x7, x8, hnl, hrun, rfl⟩
    obtain ⟨q, hq, rfl⟩ := map_get hd
    have hi : i < dw.length := (List.getElem?_eq_some_iff.mp (zip_get hq).1).1
    have hdr : (dw.zip fi).drop i = q :: (dw.zip fi).drop (i + 1) := by
      obtain ⟨h1, h2⟩ := List.getElem?_eq_some_iff.mp hq
      rw [List.drop_eq_getElem_cons h1, h2]
    rw [hdr, lmains_cons] at hrun
    refine ⟨_, gd_t2 7 8 sc__law_mains.nd, ?_⟩
    refine sds_set 5 sc__law_mains.nd (ed_callB rfl B.min rfl (ad_cons (ed_var 4) (ad_cons (ed_bin (ed_bin (ed_var 5) (ed_sumT B.sum (ed_var 8)) bin_add) (ed_var 7) bin_sub) ad_nil)) call_min) ?_
    refine sds_if (td_cmp (ed_var 5) (ed_var 3) cmp_lt) (fun h => ?_) fun h => sds_nil ?_
    · rw [if_pos (of_decide_eq_true h), List.append_nil] at hrun
      refine sds_frz 6 rfl ?_
      refine sds_ret (ed_var 6) ?_
      rw [hrun]
    · rw [if_neg (of_decide_eq_false h), show ∀ (m : Int) r, ns ++ m :: r = (ns ++ [m]) ++ r from fun m r => by rw [List.append_assoc]; rfl] at hrun
      have h1 : (ns ++ [min p.high (here + q.2.sum - q.1)]).length = i + 1 := by rw [List.length_append, hnl]; rfl
      refine sds_expr (ed_append 6 (ds0 := ns.map .int) (ds := ns.map .int) (ed_var 5) rfl rfl ?_) (sds_nil ?_)
      · rw [List.length_map]; omega
      · exact ⟨_, _, _, _, h1, hrun, by unfold encL; rw [List.map_append]; rfl⟩
  · rintro ρ2 ⟨here, ns, x7, x8, hnl, hrun, rfl⟩
    refine sds_frz 6 rfl ?_
    refine sds_ret (ed_var 6) ?_
    rw [List.length_map, List.drop_length] at hrun
    rw [hrun]
    show encL ns = encL (ns ++ [])
    rw [List.append_nil]
theorem c_lkeeps (c : C8.Cal P w K mg base 1 "_law_mains" (spD K R_lmains) []) (c2 : C8.Cal P w K mg base 1 "_law_draws" (spD K R_ldraws) []) (B : Bi K mg) (F : Fd K mg "_law_keeps" s__law_keeps) : C8.Cal P w K mg base 2 "_law_keeps" (spD K R_lkeeps) [] := by
  refine cal_of F sc__law_keeps (by decide) bd__law_keeps (fun ds d ⟨p, s, _, _, _, e, _⟩ => by rw [e]; rfl) fun ds d f cdv A outer s H E h hr => ?_
  obtain ⟨p, st, fi, hp, hs, rfl, rfl⟩ := h
  have h8 := hs.h8
  have hl : (ldraws p st).length = st.extra.length := by unfold ldraws; simp
  refine sds_ret (ed_cmp (ed_lenL B.len (ed_call c hr (by decide) rfl (ad_cons (ed_ix (ed_var 0) ed_int (ix_tupD rfl)) (ad_cons (ed_call c2 hr (by decide) rfl (ad_cons (ed_var 0) (ad_cons (ed_var 1) ad_nil)) ⟨p, st, hp, hs, rfl, rfl⟩) (ad_cons (ed_var 2) ad_nil))) ⟨p, ldraws p st, fi, by omega, rfl, rfl⟩)) (ed_lenT B.len (ed_var 2)) cmp_eqI) ?_
  rw [List.length_map, List.length_map]
  congr 1
  by_cases hh : (lmains p.low p.high p.start ((ldraws p st).zip fi)).length = fi.length
  · rw [decide_eq_true hh, decide_eq_true (by rw [hh])]
  · rw [decide_eq_false hh, decide_eq_false (by omega)]
end
end Mf
/-! tuple * 1 -/
namespace Mf
open PySem PySem.Spec PyProof.Rows L2
theorem tuple_mul1 (l : Addr) (items : Array Value) (n : Nat) (dd : Option Addr) (sl : Array (Option Value)) (u : Tok) :
    Meets (Builtin.«tuple.__mul__» ⟨[.ref l, .int 1 u], []⟩) (fun _ R s => s.heap.get? l = some { cls := .type "tuple", dict := dd, data := .seq items n, slots := sl } ∧ R (.ok (.ret (Value.ref l))) s) :=
  .of_wp fun prog w A R s h => by
    obtain ⟨hp, g, d, tk, os⟩ := s
    obtain ⟨hl, h⟩ := h
    have f1 := AutoSeq1.idx_int
    have c1 : (items.isEmpty || (1 : Int) == 1) = true := by rw [show ((1 : Int) == 1) = true from rfl, Bool.or_true]
    wp_walk using wpAny_loadPart' hl
    exact ⟨_, rfl, h⟩
def rRepT1 (K : PySem.W.Frag) : R2 := fun x y H Q => ∃ l xs, x = .ref l ∧ y = .int 1 ∧ SqT K H l xs ∧ Q (.ref l) H
section
variable {X : Cx}
theorem op_repT1 : OpR X (binaryOp .Mult) (rRepT1 X.K) := by
  intro pins s σ H x y v u Q I rx ry h
  obtain ⟨l, xs, rfl, rfl, hT, q⟩ := h
  cases rx
  obtain ⟨t, rfl⟩ := ry
  obtain ⟨its, r, ⟨⟨cls, dd, data, sl⟩, ho, hc, n, hd⟩, hs⟩ := I.tuple hT
  simp only at hc hd
  subst hc hd
  refine wpAny_binaryOp_repeat_ref (T := "tuple") (U := "int") (by decide) ⟨_, ho, rfl⟩ (fun s' => typeIs_int s' 1 t) noFill_tuple_mul F.fills_int_mul F.slot_int_rmul repeat_tuple F.slot_int_index.lookup
    (call_meets F.slot_int_rmul (typeIs_int s 1 t) F.entry_int_rmul (F.args_int_rmul_2 _ _) (int_rmul_tuple 1 t l its.toArray n dd sl)
      ⟨ho, rfl, ⟨_, ho, rfl⟩, call_meets F.slot_tuple_mul ⟨_, ho, rfl⟩ F.entry_tuple_mul (F.args_tuple_mul_2 _ _) (tuple_mul1 l its.toArray n dd sl t) ⟨ho, ?_⟩⟩)
  exact ⟨.ref l, H, I, rfl, q⟩
theorem bin_repT1 {ds : List D} : BinD X .Mult (.tup ds) (.int 1) (.tup ds) := ⟨_, op_repT1, fun F0 H0 F H ρ σ s x y Q hx hy q => by
  obtain ⟨p1, vs1, rfl, g1, g2⟩ := den_tup hx
  obtain rfl := den_int hy
  exact ⟨p1, vs1, rfl, rfl, sqT_mono s.fh g1, q _ F H s (Same.refl F) (mk_tup g1 g2)⟩⟩
/-- (i,) * n -/
theorem bin_repI {n : Nat} {i : Int} (h1 : 1 ≤ n) (h2 : n ≤ 1000) : BinD X .Mult (encT [i]) (.int (n : Int)) (encT (List.replicate n i)) := by
  by_cases h : n = 1
  · subst h
    exact bin_repT1
  · have e : encT (List.replicate n i) = .tup (List.replicate n [D.int i]).flatten := by
      unfold encT
      congr 1
      clear h1 h2 h
      induction n with
      | zero => rfl
      | succ n ih => rw [List.replicate_succ, List.map_cons, List.replicate_succ, List.flatten_cons, ← ih]; rfl
    rw [e]
    exact bin_repT (by simp) (by omega) h2 (by simp)
end
end Mf
/-! the walks: the law's draws -/
namespace Mf
open PySem PySem.Spec PyProof.Rows L2
section
variable {X : Cx} {i : Nat} {ρ ρ' ρ1 ρ2 : En} {a b c e : Expr} {pos : Pos} {Pn : En → Prop} {Pr : D → Prop} {rest st : List Stmt} {R R2 R3 : D → Prop} {A B C M : Int → Prop}
/-- items that are all of a kind -/
def QL (X : Cx) (i : Nat) (es : List Expr) (ρ : En) (k : Nat) (C : D → Prop) : Prop := QA X i es ρ (fun ds => ds.length = k ∧ ∀ d ∈ ds, C d)
theorem qa_mono {es : List Expr} {R1 R2 : List D → Prop} (h : QA X i es ρ R1) (h2 : ∀ ds, R1 ds → R2 ds) : QA X i es ρ R2 := fun F0 H0 p F H σ s Q q => h _ _ _ _ _ _ s Q fun ds vs F1 H1 r s1 e1 d1 => q ds vs F1 H1 (h2 ds r) s1 e1 d1
theorem ql_nil : QL X i [] ρ 0 R := qa_mono qa_nil fun ds h => ⟨by rw [h]; rfl, fun d hd => by rw [h] at hd; cases hd⟩
theorem ql_cons {es : List Expr} {k : Nat} (h : QE X i e ρ R) (h2 : QL X i es ρ k R) (hs : starEach (e :: es) X.env = (false, eval e X.env) :: starEach es X.env := by rfl) : QL X i (e :: es) ρ (k + 1) R := qa_mono (qa_cons h h2 hs) fun ds h => by
  obtain ⟨d, r, rfl, h1, h2, h3⟩ := h
  refine ⟨by rw [List.length_cons, h2], fun x hx => ?_⟩
  rcases List.mem_cons.mp hx with rfl | hx
  · exact h1
  · exact h3 x hx
theorem qe_pk {es : List Expr} {k : Nat} {p2 : Pos} (ha : QL X i es ρ (k + 1) R) (hb : QI X i b ρ (fun n => 0 ≤ n ∧ n < ((k + 1 : Nat) : Int))) (hk : k ≤ 100 := by decide) (hs : PlainIx b := by exact fun _ _ => rfl) : QE X i (.Subscript (.List es p2) b pos) ρ R :=
  qe_pick ha hb (fun ds n h hn => by
    obtain ⟨m, rfl⟩ := Int.eq_ofNat_of_zero_le hn.1
    have hm : m < ds.length := by rw [h.1]; omega
    refine ⟨by rw [h.1]; omega, ds[m], atI_nat (List.getElem?_eq_getElem hm), h.2 _ (List.getElem_mem hm)⟩) ⟨0, by omega, by omega⟩ hs
theorem qi_draw {m : Str} {p pp : Pos} {j : Nat} (c : C8.Cal X.prog X.w X.K X.mg X.base 1 "_law_draw" (spP X.K Pre_draw R_ldraw) []) (hr : Room j X.A) (hk : 1 ≤ j) (ha : QI X i a ρ M) (hM : ∀ m, M m → 0 < m ∧ m < 1073741824) (hA : ∀ m n, M m → 0 ≤ n → n < m → A n) (hg : Gl X "_law_draw" := by rfl) (hN : X.N[i]? = some m := by rfl)
    (hv : Vis X.env.scope m := by first | exact Or.inl rfl | exact Or.inr (Or.inl rfl) | exact Or.inr (Or.inr rfl)) (hd : (m == ("__debug__" : Str)) = false := by decide) (hcd : (m == ("__classdict__" : Str)) = false := by decide)
    (he : starEach [.Name m pp, a] X.env = (false, eval (.Name m pp) X.env) :: starEach [a] X.env := by rfl) (he2 : starEach [a] X.env = (false, eval a X.env) :: starEach [] X.env := by rfl) (hpl : (backTo pos (starEach [a] X.env)).any (·.1) = false := by rfl) : QI X i (.Call (.Name "_law_draw" p) [.Name m pp, a] [] pos) ρ A :=
  qe_call c hr hk hg (qa_cons ha qa_nil he2) (fun ds h => by
    obtain ⟨d, r, rfl, ⟨n, rfl, hn⟩, rfl⟩ := h
    exact ⟨n, rfl, hM n hn⟩) (fun ds d h hR => by
    obtain ⟨d', r, rfl, ⟨n, rfl, hn⟩, rfl⟩ := h
    obtain ⟨m, n', e, rfl, h1, h2⟩ := hR
    have : n = m := by
      have := (List.cons.inj e).1
      exact D.int.inj this
    subst this
    exact ⟨n', rfl, hA n n' hn h1 h2⟩) hN hv hd hcd (by decide) he hpl
end
section
variable {P : Program} {w : World} {K : PySem.W.Frag} {mg : Str → Option Value} {base : Heap}
theorem c_ldraw (B : Bi K mg) (F : Fd K mg "_law_draw" s__law_draw) : C8.Cal P w K mg base 1 "_law_draw" (spP K Pre_draw R_ldraw) [] := by
  refine calP_of F sc__law_draw (by decide) bd__law_draw (fun ds ⟨m, e, _⟩ => by rw [e]; rfl) fun ds f cdv A outer s H E h hr => ?_
  obtain ⟨m, rfl, h0, h1⟩ := h
  refine qs_if (qt_eq (qi_pen (.inr rfl)) (qi_ed (A := fun _ => True) ed_int trivial)) (fun _ => ?_) fun _ => qs_nil ?_
  · refine qs_asg (js := [3, 4]) (qe_divmod B.divmod (qi_pen (.inl rfl)) (qi_ed (A := fun n => n = m) (ed_var 1) rfl) (fun n hn => by subst hn; exact ⟨h0, h1⟩)) fun d hd => ?_
    obtain ⟨x, n, _, rfl, rfl⟩ := hd
    refine ⟨_, gd_t2 3 4 sc__law_draw.nd, ?_⟩
    refine qs_pen (qi_ed (A := fun _ => True) (ed_var 3) trivial) ?_
    refine qs_ret (qe_ed (R := R_ldraw [.int n]) (ed_var 4) ⟨n, x % n, rfl, rfl, Int.emod_nonneg _ (by omega), Int.emod_lt_of_pos _ h0⟩) fun d hd => hd
  · refine qs_set 2 sc__law_draw.nd (qi_mod (A := fun _ => True) (B := fun n => n = 2147483629) (C := fun n => 0 ≤ n ∧ n < 2147483629) (qi_mul (A := fun _ => True) (B := fun n => n = 69621) (C := fun _ => True) (qi_add (A := fun _ => True) (B := fun _ => True) (C := fun _ => True) (qi_mod (A := fun _ => True) (B := fun n => n = 2147483647) (C := fun _ => True) (qi_pen (.inl rfl)) (qi_ed ed_int rfl) (fun n hn => by omega) fun _ _ _ _ => trivial) (qi_ed ed_int trivial) fun _ _ _ _ => trivial) (qi_ed ed_int rfl) (fun x n _ hn => .inr (by omega)) fun _ _ _ _ => trivial) (qi_ed ed_int rfl) (fun n hn => by omega) (fun x n _ hn => by subst hn; omega)) fun d hd => ?_
    obtain ⟨n2, rfl, hn2⟩ := hd
    refine qs_set 2 sc__law_draw.nd (qi_mod (A := fun _ => True) (B := fun n => n = 2147483587) (C := fun n => 0 ≤ n ∧ n < 2147483587) (qi_ed (ed_bin (ed_bin (ed_var 2) (ed_var 2) (bin_mul (.inl (by omega)))) ed_int bin_add) trivial) (qi_ed ed_int rfl) (fun n hn => by omega) (fun x n _ hn => by subst hn; omega)) fun d hd => ?_
    obtain ⟨n3, rfl, hn3⟩ := hd
    refine qs_pen (A := fun _ => True) (qi_mod (A := fun _ => True) (B := fun n => n = 2147483629) (qi_ed (ed_bin (ed_bin (ed_var 2) ed_int (bin_mul (.inl (by omega)))) ed_int bin_add) trivial) (qi_ed ed_int rfl) (fun n hn => by omega) fun _ _ _ _ => trivial) ?_
    refine qs_ret (qi_mod (A := fun _ => True) (B := fun n => n = m) (C := fun n => 0 ≤ n ∧ n < m) (qi_fdiv (A := fun _ => True) (B := fun n => n = 32) (qi_pen (.inl rfl)) (qi_ed ed_int rfl) (fun n hn => by omega) fun _ _ _ _ => trivial) (qi_ed (ed_var 1) rfl) (fun n hn => by omega) (fun x n _ hn => by subst hn; exact ⟨Int.emod_nonneg _ (by omega), Int.emod_lt_of_pos _ h0⟩)) fun d hd => ?_
    obtain ⟨n, rfl, hn⟩ := hd
    exact ⟨m, n, rfl, rfl, hn.1, hn.2⟩
theorem c_lplant (c : C8.Cal P w K mg base 1 "_law_draw" (spP K Pre_draw R_ldraw) []) (B : Bi K mg) (F : Fd K mg "_law_plant" s__law_plant) : C8.Cal P w K mg base 2 "_law_plant" (spP K Pre_plant R_lplant) [] := by
  refine calP_of F sc__law_plant (by decide) bd__law_plant (fun ds ⟨m, e, _⟩ => by rw [e]; rfl) fun ds f cdv A outer s H E h hr => ?_
  obtain ⟨m, rfl, h0, h1⟩ := h
  refine qs_setN 2 sc__law_plant.nd (nd_li ad_nil) ?_
  refine qs_for (js := [3]) (qit_rng (A := fun n => 1 ≤ n ∧ n ≤ 4) B.range (qi_add (A := fun n => n = 1) (B := fun n => 0 ≤ n ∧ n < 4) (qi_ed ed_int rfl) (qi_draw (M := fun n => n = m) c hr (by decide) (qi_ed (ed_var 1) rfl) (fun n hn => by omega) fun n k hn h1 h2 => by omega) fun x y hx hy => by omega) fun n hn => by omega)
    (fun ds k ρ => ∃ (bs : List (Int × Int)) (x : Option Sl), bs.length = k ∧ (∀ b ∈ bs, (1 ≤ b.1 ∧ b.1 ≤ 9) ∧ 1 ≤ b.2 ∧ b.2 ≤ 9) ∧ ρ = [none, some (.d (.int m)), some (.own (.lst (bs.map encP))), x, none, none, none, none]) (fun ds _ => ⟨[], none, rfl, (fun b hb => (nomatch hb)), rfl⟩) ?_ ?_
  · rintro ds ⟨n, hn, rfl⟩ k d ρ2 hd ⟨bs, x, hbl, hb, rfl⟩
    obtain ⟨hk, rfl⟩ := rng_get hd
    refine ⟨_, gd_name 3 sc__law_plant.nd, ?_⟩
    refine qs_append 2 (R := fun d => ∃ b : Int × Int, ((1 ≤ b.1 ∧ b.1 ≤ 9) ∧ 1 ≤ b.2 ∧ b.2 ≤ 9) ∧ d = encP b) (qe_tup (qa_cons (qi_add (A := fun n => n = 1) (B := fun n => 0 ≤ n ∧ n < 9) (C := fun n => 1 ≤ n ∧ n ≤ 9) (qi_ed ed_int rfl) (qi_draw (M := fun n => 1 ≤ n ∧ n ≤ 9) c hr (by decide) (qe_pk (k := 1) (ql_cons (qi_ed ed_int (by omega)) (ql_cons (qi_ed ed_int (by omega)) ql_nil)) (qi_draw (M := fun n => n = 2) c hr (by decide) (qi_ed ed_int rfl) (fun n hn => by omega) fun n k hn h1 h2 => by omega)) (fun n hn => by omega) fun n k hn h1 h2 => by omega) fun x y hx hy => by omega)
      (qa_cons (qi_add (A := fun n => n = 1) (B := fun n => 0 ≤ n ∧ n < 9) (C := fun n => 1 ≤ n ∧ n ≤ 9) (qi_ed ed_int rfl) (qi_draw (M := fun n => n = 9) c hr (by decide) (qi_ed ed_int rfl) (fun n hn => by omega) fun n k hn h1 h2 => by omega) fun x y hx hy => by omega) qa_nil)) (fun ds h => ?_)) (fun d hd => ?_) rfl (by rw [List.length_map]; omega)
    · obtain ⟨d, r, rfl, ⟨x, rfl, hx⟩, d', r', rfl, ⟨y, rfl, hy⟩, rfl⟩ := h
      exact ⟨by simp, (x, y), ⟨hx, hy⟩, rfl⟩
    · obtain ⟨b, hb2, rfl⟩ := hd
      have h1 : (bs ++ [b]).length = k + 1 := by rw [List.length_append, hbl]; rfl
      have h2 : ∀ z ∈ bs ++ [b], (1 ≤ z.1 ∧ z.1 ≤ 9) ∧ 1 ≤ z.2 ∧ z.2 ≤ 9 := fun z hz => by
        rcases List.mem_append.mp hz with hz | hz
        · exact hb z hz
        · rw [List.mem_singleton.mp hz]; exact hb2
      exact qs_nil ⟨bs ++ [b], _, h1, h2, by rw [List.map_append]; rfl⟩
  · rintro ds ⟨n, hn, rfl⟩ ρ2 ⟨bs, x, hbl, hb, rfl⟩
    rw [List.length_map, List.length_range] at hbl
    refine qs_setN 4 sc__law_plant.nd (nd_li ad_nil) ?_
    refine qs_for (js := [3]) (qit_rng (A := fun n => 0 ≤ n ∧ n < 4) B.range (qi_draw (M := fun n => n = 4) c hr (by decide) (qi_ed ed_int rfl) (fun n hn => by omega) fun n k hn h1 h2 => by omega) fun n hn => by omega)
      (fun ds k ρ => ∃ (es : List (Int × Int × Int)) (x : Option Sl), es.length = k ∧ (∀ e ∈ es, (1 ≤ e.1 ∧ e.1 ≤ 9) ∧ (0 ≤ e.2.1 ∧ e.2.1 ≤ 7) ∧ 1 ≤ e.2.2 ∧ e.2.2 ≤ 8) ∧ ρ = [none, some (.d (.int m)), some (.own (.lst (bs.map encP))), x, some (.own (.lst (es.map encE))), none, none, none]) (fun ds _ => ⟨[], x, rfl, (fun b hb => (nomatch hb)), rfl⟩) ?_ ?_
    · rintro ds ⟨n', hn', rfl⟩ k d ρ2 hd ⟨es, x, hel, he, rfl⟩
      obtain ⟨hk, rfl⟩ := rng_get hd
      refine ⟨_, gd_name 3 sc__law_plant.nd, ?_⟩
      refine qs_append 4 (R := fun d => ∃ e : Int × Int × Int, ((1 ≤ e.1 ∧ e.1 ≤ 9) ∧ (0 ≤ e.2.1 ∧ e.2.1 ≤ 7) ∧ 1 ≤ e.2.2 ∧ e.2.2 ≤ 8) ∧ d = encE e) (qe_tup (qa_cons (qi_add (A := fun n => n = 1) (B := fun n => 0 ≤ n ∧ n < 9) (C := fun n => 1 ≤ n ∧ n ≤ 9) (qi_ed ed_int rfl) (qi_draw (M := fun n => 1 ≤ n ∧ n ≤ 9) c hr (by decide) (qe_pk (k := 1) (ql_cons (qi_ed ed_int (by omega)) (ql_cons (qi_ed ed_int (by omega)) ql_nil)) (qi_draw (M := fun n => n = 2) c hr (by decide) (qi_ed ed_int rfl) (fun n hn => by omega) fun n k hn h1 h2 => by omega)) (fun n hn => by omega) fun n k hn h1 h2 => by omega) fun x y hx hy => by omega)
        (qa_cons (qi_draw (M := fun n => n = 8) (A := fun n => 0 ≤ n ∧ n ≤ 7) c hr (by decide) (qi_ed ed_int rfl) (fun n hn => by omega) fun n k hn h1 h2 => by omega)
        (qa_cons (qi_add (A := fun n => n = 1) (B := fun n => 0 ≤ n ∧ n < 8) (C := fun n => 1 ≤ n ∧ n ≤ 8) (qi_ed ed_int rfl) (qi_draw (M := fun n => n = 8) c hr (by decide) (qi_ed ed_int rfl) (fun n hn => by omega) fun n k hn h1 h2 => by omega) fun x y hx hy => by omega) qa_nil))) (fun ds h => ?_)) (fun d hd => ?_) rfl (by rw [List.length_map]; omega)
      · obtain ⟨d, r, rfl, ⟨x, rfl, hx⟩, d', r', rfl, ⟨y, rfl, hy⟩, d2, r2, rfl, ⟨z, rfl, hz⟩, rfl⟩ := h
        exact ⟨by simp, (x, y, z), ⟨hx, hy, hz⟩, rfl⟩
      · obtain ⟨e, he2, rfl⟩ := hd
        have h1 : (es ++ [e]).length = k + 1 := by rw [List.length_append, hel]; rfl
        have h2 : ∀ z ∈ es ++ [e], (1 ≤ z.1 ∧ z.1 ≤ 9) ∧ (0 ≤ z.2.1 ∧ z.2.1 ≤ 7) ∧ 1 ≤ z.2.2 ∧ z.2.2 ≤ 8 := fun z hz => by
          rcases List.mem_append.mp hz with hz | hz
          · exact he z hz
          · rw [List.mem_singleton.mp hz]; exact he2
        exact qs_nil ⟨es ++ [e], _, h1, h2, by rw [List.map_append]; rfl⟩
    · rintro ds ⟨n', hn', rfl⟩ ρ2 ⟨es, x, hel, he, rfl⟩
      rw [List.length_map, List.length_range] at hel
      refine qs_set 5 sc__law_plant.nd (R := isI fun n => 0 ≤ n ∧ n ≤ 40) (qe_pk (k := 3) (ql_cons (qi_ed ed_int (by omega)) (ql_cons (qi_ed ed_int (by omega)) (ql_cons (qi_draw (M := fun n => n = 6) c hr (by decide) (qi_ed ed_int rfl) (fun n hn => by omega) fun n k hn h1 h2 => by omega) (ql_cons (qi_draw (M := fun n => n = 41) c hr (by decide) (qi_ed ed_int rfl) (fun n hn => by omega) fun n k hn h1 h2 => by omega) ql_nil)))) (qi_draw (M := fun n => n = 4) c hr (by decide) (qi_ed ed_int rfl) (fun n hn => by omega) fun n k hn h1 h2 => by omega)) fun d hd => ?_
      obtain ⟨low, rfl, hlow⟩ := hd
      refine qs_set 6 sc__law_plant.nd (R := isI fun n => low ≤ n ∧ n ≤ 40) (qi_min (A := fun n => n = 40) (B := fun n => low ≤ n) B.min (qi_ed ed_int rfl) (qi_add (A := fun n => n = low) (B := fun n => 0 ≤ n) (qi_ed (ed_var 5) rfl) (qe_pk (k := 3) (ql_cons (qi_ed ed_int (by omega)) (ql_cons (qi_draw (M := fun n => n = 4) c hr (by decide) (qi_ed ed_int rfl) (fun n hn => by omega) fun n k hn h1 h2 => by omega) (ql_cons (qi_draw (M := fun n => n = 12) c hr (by decide) (qi_ed ed_int rfl) (fun n hn => by omega) fun n k hn h1 h2 => by omega) (ql_cons (qi_ed ed_int (by omega)) ql_nil)))) (qi_draw (M := fun n => n = 4) c hr (by decide) (qi_ed ed_int rfl) (fun n hn => by omega) fun n k hn h1 h2 => by omega)) fun x y hx hy => by omega) fun x y hx hy => by omega) fun d hd => ?_
      obtain ⟨high, rfl, hhigh⟩ := hd
      refine qs_set 7 sc__law_plant.nd (R := isI fun n => low ≤ n ∧ n ≤ high) (qe_pk (k := 2) (ql_cons (qi_ed (ed_var 5) (by omega)) (ql_cons (qi_ed (ed_var 6) (by omega)) (ql_cons (qi_add (A := fun n => n = low) (B := fun n => 0 ≤ n ∧ n ≤ high - low) (qi_ed (ed_var 5) rfl) (qi_draw (M := fun n => n = high - low + 1) c hr (by decide) (qi_ed (ed_bin (ed_bin (ed_var 6) (ed_var 5) bin_sub) ed_int bin_add) rfl) (fun n hn => by omega) fun n k hn h1 h2 => by omega) fun x y hx hy => by omega) ql_nil))) (qi_draw (M := fun n => n = 3) c hr (by decide) (qi_ed ed_int rfl) (fun n hn => by omega) fun n k hn h1 h2 => by omega)) fun d hd => ?_
      obtain ⟨start, rfl, hstart⟩ := hd
      refine qs_frz 2 rfl ?_
      refine qs_frz 4 rfl ?_
      refine qs_ret (qe_ed (R := R_lplant [.int m]) (ed_tu (ad_cons (ed_tuple B.tuple (ed_var 2)) (ad_cons (ed_tuple B.tuple (ed_var 4)) (ad_cons (ed_tu (ad_cons (ed_var 5) (ad_cons (ed_var 6) (ad_cons (ed_var 7) ad_nil)))) ad_nil)))) ⟨⟨bs, es, low, high, start⟩, ⟨by show 1 ≤ bs.length; omega, by show bs.length ≤ 4; omega, hb, by show es.length ≤ 4; omega, he, hlow.1, hhigh.2, hstart.1, hstart.2⟩, rfl⟩) fun d hd => hd
end
end Mf
/-! the walks: the law's stories, pairs -/
namespace Mf
open PySem PySem.Spec PyProof.Rows L2
theorem ints_of {A : Int → Prop} : ∀ {ds : List D}, (∀ d ∈ ds, isI A d) → ∃ ns : List Int, ds = ns.map .int ∧ ∀ n ∈ ns, A n
  | [], _ => ⟨[], rfl, fun n h => (nomatch h)⟩
  | d :: ds, h => by
    obtain ⟨n, rfl, hn⟩ := h d List.mem_cons_self
    obtain ⟨ns, rfl, hns⟩ := ints_of fun x hx => h x (List.mem_cons_of_mem _ hx)
    refine ⟨n :: ns, rfl, fun m hm => ?_⟩
    rcases List.mem_cons.mp hm with rfl | hm
    · exact hn
    · exact hns m hm
theorem sum_nn : ∀ {l : List Int}, (∀ x ∈ l, 0 ≤ x) → 0 ≤ l.sum
  | [], _ => by simp
  | x :: l, h => by
    have h1 := h x List.mem_cons_self
    have h2 := sum_nn (l := l) fun y hy => h y (List.mem_cons_of_mem _ hy)
    rw [List.sum_cons]
    omega
section
variable {P : Program} {w : World} {K : PySem.W.Frag} {mg : Str → Option Value} {base : Heap}
theorem c_lstory (c : C8.Cal P w K mg base 1 "_law_draw" (spP K Pre_draw R_ldraw) []) (B : Bi K mg) (F : Fd K mg "_law_story" s__law_story) : C8.Cal P w K mg base 2 "_law_story" (spP K Pre_story R_lstory) [] := by
  refine calP_of F sc__law_story (by decide) bd__law_story (fun ds ⟨p, m, _, e, _⟩ => by rw [e]; rfl) fun ds f cdv A outer s H E h hr => ?_
  obtain ⟨p, m, hp, rfl, h0, h1⟩ := h
  have b1 := hp.b1; have b4 := hp.b4
  have htot : 0 ≤ (p.boilers.map fun b => b.1).sum := sum_nn fun x hx => by
    obtain ⟨b, hb, rfl⟩ := List.mem_map.mp hx
    have := (hp.bs b hb).1.1
    omega
  refine qs_par 3 4 sc__law_story.nd (qa_cons (qi_add (A := fun n => n = 1) (B := fun n => 0 ≤ n ∧ n < m) (C := fun n => 1 ≤ n ∧ n ≤ m) (qi_ed ed_int rfl) (qi_draw (M := fun n => n = m) c hr (by decide) (qi_ed (ed_var 2) rfl) (fun n hn => by omega) fun n k hn h1 h2 => by omega) fun x y hx hy => by omega) (qa_cons (qe_ed (R := isI fun n => 0 ≤ n) (ed_sum B.sum (ed_lc [("_law_make", 12), ("_law_coal", 13)] sc__law_story.nd (id_tup (ed_ix (ed_var 1) ed_int (ix_tupD rfl))) ?_ (by omega)) (xs := p.boilers) (g := fun b => b.1)) ⟨_, rfl, htot⟩) qa_nil)) fun ds h => ?_
  · exact fun b hb => ⟨_, by rfl, fun s H C cl fp => ⟨gd_t2 12 13 sc__law_story.nd, ed_var 12⟩⟩
  obtain ⟨d, r, rfl, ⟨hours, rfl, hh⟩, d', r', rfl, ⟨total, rfl, ht⟩, rfl⟩ := h
  refine ⟨_, _, rfl, ?_⟩
  obtain ⟨hn, rfl⟩ := Int.eq_ofNat_of_zero_le (show 0 ≤ hours by omega)
  refine qs_set 5 sc__law_story.nd (R := isI fun n => 1 ≤ n) (qe_pk (k := 3) (ql_cons (qi_ed ed_int (by omega)) (ql_cons (qi_ed (ed_bin ed_int (ed_bin (ed_var 4) ed_int (bin_fdiv ⟨by decide, by decide⟩)) bin_add) (by omega)) (ql_cons (qi_ed (ed_bin ed_int (ed_var 4) bin_add) (by omega)) (ql_cons (qi_ed ed_int (by omega)) ql_nil)))) (qi_draw (M := fun n => n = 4) c hr (by decide) (qi_ed ed_int rfl) (fun n hn => by omega) fun n k hn h1 h2 => by omega)) fun d hd => ?_
  obtain ⟨wide, rfl, hw⟩ := hd
  refine qs_set 6 sc__law_story.nd (R := fun d => ∃ ns : List Int, ns.length = hn ∧ (∀ n ∈ ns, 0 ≤ n ∧ n ≤ 20) ∧ d = encT ns) (qe_tuple (RR := fun ds => ds.length = hn ∧ ∀ y ∈ ds, isI (fun n => 0 ≤ n ∧ n ≤ 20) y) B.tuple (qe_mono (qe_lc (R := isI fun n => 0 ≤ n ∧ n ≤ 20) [("_law_hour", 11)] sc__law_story.nd (id_rng1 (n := hn) B.range (ad_cons (ed_var 3) ad_nil) (by omega)) ?_ (by rw [List.length_map, List.length_range]; omega)) ?_) ?_) fun d hd => ?_
  · intro d hd
    obtain ⟨k, hk, rfl⟩ := List.mem_map.mp hd
    exact ⟨_, by rfl, fun s H C cl fp => ⟨gd_name 11 sc__law_story.nd, qi_draw (M := fun n => 1 ≤ n ∧ n ≤ 21) c hr (by decide) (qi_min (A := fun n => n = 21) (B := fun n => n = wide) B.min (qi_ed ed_int rfl) (qi_ed (ed_var 5) rfl) fun x y hx hy => by omega) (fun n hn => by omega) fun n k hn h1 h2 => by omega⟩⟩
  · rintro d ⟨out, rfl, hl, ho⟩
    exact ⟨out, rfl, by rw [hl, List.length_map, List.length_range], ho⟩
  · rintro ds ⟨hl, ho⟩
    obtain ⟨ns, rfl, hns⟩ := ints_of ho
    exact ⟨ns, by rw [← hl, List.length_map], hns, rfl⟩
  obtain ⟨ns, hnl, hns, rfl⟩ := hd
  refine qs_setN 7 sc__law_story.nd (nd_li ad_nil) ?_
  refine qs_for (js := [8]) (qit_rng (A := fun n => 0 ≤ n ∧ n ≤ 4) B.range (qe_pk (k := 3) (ql_cons (qi_ed ed_int (by omega)) (ql_cons (qi_ed ed_int (by omega)) (ql_cons (qi_ed ed_int (by omega)) (ql_cons (qi_draw (M := fun n => n = 5) c hr (by decide) (qi_ed ed_int rfl) (fun n hn => by omega) fun n k hn h1 h2 => by omega) ql_nil)))) (qi_draw (M := fun n => n = 4) c hr (by decide) (qi_ed ed_int rfl) (fun n hn => by omega) fun n k hn h1 h2 => by omega)) fun n hn => by omega)
    (fun ds k ρ => ∃ (fs : List Fault) (x8 x9 x10 : Option Sl), fs.length = k ∧ (∀ f ∈ fs, (0 ≤ f.1 ∧ f.1 < p.boilers.length) ∧ (0 ≤ f.2.2.1 ∧ f.2.2.1 < (hn : Int)) ∧ (0 ≤ f.2.2.2 ∧ f.2.2.2 < (hn : Int)) ∧ f.2.2.1 ≤ f.2.2.2) ∧
      ρ = [none, some (.d (encPl p)), some (.d (.int m)), some (.d (.int (hn : Nat))), some (.d (.int total)), some (.d (.int wide)), some (.d (encT ns)), some (.own (.lst (fs.map encF))), x8, x9, x10, none, none, none]) (fun ds _ => ⟨[], none, none, none, rfl, (fun f hf => (nomatch hf)), rfl⟩) ?_ ?_
  · rintro ds ⟨n, hn2, rfl⟩ k d ρ2 hd ⟨fs, x8, x9, x10, hfl, hf, rfl⟩
    obtain ⟨hk, rfl⟩ := rng_get hd
    refine ⟨_, gd_name 8 sc__law_story.nd, ?_⟩
    refine qs_set 9 sc__law_story.nd (R := isI fun n => 0 ≤ n ∧ n < (hn : Int)) (qi_draw (M := fun n => n = (hn : Int)) c hr (by decide) (qi_ed (ed_var 3) rfl) (fun n hn => by omega) fun n k hn h1 h2 => by omega) fun d hd => ?_
    obtain ⟨first, rfl, hfirst⟩ := hd
    refine qs_set 10 sc__law_story.nd (R := isI fun n => first ≤ n ∧ n < (hn : Int)) (qi_add (A := fun n => n = first) (B := fun n => 0 ≤ n ∧ n < (hn : Int) - first) (qi_ed (ed_var 9) rfl) (qi_draw (M := fun n => n = (hn : Int) - first) c hr (by decide) (qi_ed (ed_bin (ed_var 3) (ed_var 9) bin_sub) rfl) (fun n hn => by omega) fun n k hn h1 h2 => by omega) fun x y hx hy => by omega) fun d hd => ?_
    obtain ⟨last, rfl, hlast⟩ := hd
    refine qs_append 7 (R := fun d => ∃ f : Fault, ((0 ≤ f.1 ∧ f.1 < p.boilers.length) ∧ (0 ≤ f.2.2.1 ∧ f.2.2.1 < (hn : Int)) ∧ (0 ≤ f.2.2.2 ∧ f.2.2.2 < (hn : Int)) ∧ f.2.2.1 ≤ f.2.2.2) ∧ d = encF f) (qe_tup (qa_cons (qi_draw (M := fun n => n = (p.boilers.length : Nat)) (A := fun n => 0 ≤ n ∧ n < (p.boilers.length : Nat)) c hr (by decide) (qi_ed (ed_lenT B.len (ed_ix (ed_var 1) ed_int (ix_tupD rfl))) (by rw [List.length_map])) (fun n hn => by omega) fun n k hn h1 h2 => by omega)
      (qa_cons (qe_pk (R := fun d => ∃ b, d = .str (wordOf b)) (k := 1) (ql_cons (qe_ed (ed_str (i := wordOf true)) ⟨true, rfl⟩) (ql_cons (qe_ed (ed_str (i := wordOf false)) ⟨false, rfl⟩) ql_nil)) (qi_draw (M := fun n => n = 2) c hr (by decide) (qi_ed ed_int rfl) (fun n hn => by omega) fun n k hn h1 h2 => by omega))
      (qa_cons (qi_ed (A := fun n => n = first) (ed_var 9) rfl) (qa_cons (qi_ed (A := fun n => n = last) (ed_var 10) rfl) qa_nil)))) (fun ds h => ?_)) (fun d hd => ?_) rfl (by rw [List.length_map]; omega)
    · obtain ⟨d, r, rfl, ⟨x, rfl, hx⟩, d', r', rfl, ⟨b, rfl⟩, d2, r2, rfl, ⟨y, rfl, hy⟩, d3, r3, rfl, ⟨z, rfl, hz⟩, rfl⟩ := h
      exact ⟨by simp, (x, b, y, z), ⟨hx, by show 0 ≤ y ∧ y < _; omega, by show 0 ≤ z ∧ z < _; omega, by show y ≤ z; omega⟩, rfl⟩
    · obtain ⟨f, hf2, rfl⟩ := hd
      have h1 : (fs ++ [f]).length = k + 1 := by rw [List.length_append, hfl]; rfl
      have h2 : ∀ z ∈ fs ++ [f], (0 ≤ z.1 ∧ z.1 < p.boilers.length) ∧ (0 ≤ z.2.2.1 ∧ z.2.2.1 < (hn : Int)) ∧ (0 ≤ z.2.2.2 ∧ z.2.2.2 < (hn : Int)) ∧ z.2.2.1 ≤ z.2.2.2 := fun z hz => by
        rcases List.mem_append.mp hz with hz | hz
        · exact hf z hz
        · rw [List.mem_singleton.mp hz]; exact hf2
      exact qs_nil ⟨fs ++ [f], _, _, _, h1, h2, by rw [List.map_append]; rfl⟩
  · rintro ds ⟨n, hn2, rfl⟩ ρ2 ⟨fs, x8, x9, x10, hfl, hf, rfl⟩
    rw [List.length_map, List.length_range] at hfl
    refine qs_frz 7 rfl ?_
    refine qs_ret (qe_ed (R := R_lstory [encPl p, .int m]) (ed_tu (ad_cons (ed_var 6) (ad_cons (ed_tuple B.tuple (ed_var 7)) ad_nil))) ⟨p, m, ⟨ns, fs⟩, rfl, ⟨by show 1 ≤ ns.length; omega, by show ns.length ≤ 8; omega, hns, by show fs.length ≤ 4; omega, fun f hf' => by
      have := hf f hf'
      show _ ∧ (_ ∧ f.2.2.1 < (ns.length : Nat)) ∧ (_ ∧ f.2.2.2 < (ns.length : Nat)) ∧ _
      rw [hnl]
      exact this⟩, rfl⟩) fun d hd => hd
theorem c_lpair (c : C8.Cal P w K mg base 2 "_law_plant" (spP K Pre_plant R_lplant) []) (c2 : C8.Cal P w K mg base 2 "_law_story" (spP K Pre_story R_lstory) []) (c3 : C8.Cal P w K mg base 2 "_law_keeps" (spD K R_lkeeps) []) (c4 : C8.Cal P w K mg base 1 "_law_caps" (spD K R_lcaps) []) (B : Bi K mg) (F : Fd K mg "_law_pair" s__law_pair) : C8.Cal P w K mg base 3 "_law_pair" (spP K Pre_pair R_lpair) [] := by
  refine calP_of F sc__law_pair (by decide) bd__law_pair (fun ds ⟨m, h, e, _⟩ => by rw [e]; rfl) fun ds f cdv A outer s H E h hr => ?_
  obtain ⟨m, h, rfl, hm, hh⟩ := h
  refine qs_for (js := [3]) (qit_ed (RR := fun ds => ds = (List.range 5).map fun i => .int (i : Nat)) (id_rng1 (n := 5) B.range (ad_cons ed_int ad_nil) (by omega)) rfl)
    (fun ds k ρ => ∃ x3 x4 x5, (k = 0 ∨ ∃ (p : Plant) (s : Story), p.Ok ∧ s.Ok p ∧ x4 = some (.d (encPl p)) ∧ x5 = some (.d (encS s))) ∧ ρ = [none, some (.d (.int m)), some (.d (.int h)), x3, x4, x5]) (fun ds _ => ⟨none, none, none, .inl rfl, rfl⟩) ?_ ?_
  · rintro ds rfl k d ρ2 hd ⟨x3, x4, x5, _, rfl⟩
    obtain ⟨hk, rfl⟩ := rng_get hd
    refine ⟨_, gd_name 3 sc__law_pair.nd, ?_⟩
    refine qs_set 4 sc__law_pair.nd (R := fun d => ∃ p : Plant, p.Ok ∧ d = encPl p) (qe_call c hr (by decide) rfl (qa_cons (qi_ed (A := fun n => n = m) (ed_var 1) rfl) qa_nil) (fun ds h => ?_) fun ds d _ hR => hR) fun d hd => ?_
    · obtain ⟨d, r, rfl, ⟨n, rfl, rfl⟩, rfl⟩ := h
      exact ⟨n, rfl, hm⟩
    obtain ⟨p, hp, rfl⟩ := hd
    refine qs_set 5 sc__law_pair.nd (R := fun d => ∃ s : Story, s.Ok p ∧ d = encS s) (qe_call c2 hr (by decide) rfl (qa_cons (qe_ed (R := fun d => d = encPl p) (ed_var 4) rfl) (qa_cons (qi_ed (A := fun n => n = h) (ed_var 2) rfl) qa_nil)) (fun ds h => ?_) fun ds d hd hR => ?_) fun d hd => ?_
    · obtain ⟨d, r, rfl, rfl, d', r', rfl, ⟨n, rfl, rfl⟩, rfl⟩ := h
      exact ⟨p, n, hp, rfl, hh⟩
    · obtain ⟨d, r, rfl, rfl, d', r', rfl, ⟨n, rfl, rfl⟩, rfl⟩ := hd
      obtain ⟨p', n', s, e, hs, rfl⟩ := hR
      have hb : p'.boilers.length = p.boilers.length := by
        have e1 := (List.cons.inj e).1
        unfold encPl at e1
        have e2 := (List.cons.inj (D.tup.inj e1)).1
        have e3 := congrArg List.length (D.tup.inj e2)
        rw [List.length_map, List.length_map] at e3
        exact e3.symm
      exact ⟨s, ⟨hs.h1, hs.h8, hs.es, hs.f4, fun f hf => by rw [← hb]; exact hs.fs f hf⟩, rfl⟩
    obtain ⟨st, hs, rfl⟩ := hd
    refine qs_if (RB := fun _ => True) (qt_td (td_val (ed_call c3 hr (by decide) rfl (ad_cons (ed_var 4) (ad_cons (ed_var 5) (ad_cons (ed_call c4 hr (by decide) rfl (ad_cons (ed_var 4) (ad_cons (ed_var 5) ad_nil)) ⟨p, st, hp, hs, rfl, rfl⟩) ad_nil))) ⟨p, st, lcaps p st, hp, hs, rfl, rfl⟩)) trivial) (fun _ => ?_) fun _ => qs_nil (qs_nil ⟨_, _, _, .inr ⟨p, st, hp, hs, rfl, rfl⟩, rfl⟩)
    exact qs_ret (qe_ed (R := R_lpair [.int m, .int h]) (ed_tu (ad_cons (ed_var 4) (ad_cons (ed_var 5) ad_nil))) ⟨p, st, hp, hs, rfl⟩) fun d hd => hd
  · rintro ds rfl ρ2 ⟨x3, x4, x5, hx, rfl⟩
    rcases hx with hx | ⟨p, st, hp, hs, rfl, rfl⟩
    · rw [List.length_map, List.length_range] at hx
      cases hx
    have hp' : Plant.Ok ⟨p.boilers, [], p.low, p.high, p.start⟩ := ⟨hp.b1, hp.b4, hp.bs, by show 0 ≤ 4; omega, (fun e he => (nomatch he)), hp.lo, hp.hi, hp.s1, hp.s2⟩
    have hs' : Story.Ok ⟨p.boilers, [], p.low, p.high, p.start⟩ ⟨List.replicate st.extra.length 0, st.faults⟩ := by
      refine ⟨?_, ?_, fun e he => ?_, hs.f4, fun f hf => ?_⟩
      · show 1 ≤ (List.replicate st.extra.length (0 : Int)).length
        rw [List.length_replicate]; exact hs.h1
      · show (List.replicate st.extra.length (0 : Int)).length ≤ 8
        rw [List.length_replicate]; exact hs.h8
      · rw [(List.mem_replicate.mp he).2]
        omega
      · have := hs.fs f hf
        show _ ∧ (_ ∧ f.2.2.1 < ((List.replicate st.extra.length (0 : Int)).length : Nat)) ∧ (_ ∧ f.2.2.2 < ((List.replicate st.extra.length (0 : Int)).length : Nat)) ∧ _
        rw [List.length_replicate]
        exact this
    refine qs_ret (qe_ed (R := R_lpair [.int m, .int h]) (ed_tu (ad_cons (ed_bin (ed_cast (d2 := .tup [.tup (p.boilers.map encP)]) (ed_slT (ed_var 4) od_none (od_some ed_int)) (by rfl)) (ed_tu (ad_cons (ed_tu ad_nil) (ad_cons (ed_ix (ed_var 4) ed_int (ix_tupD rfl)) ad_nil))) (bin_catT (by simp))) (ad_cons (ed_tu (ad_cons (ed_bin (ed_cast (d2 := encT [0]) (ed_tu (ad_cons ed_int ad_nil)) rfl) (ed_cast (d2 := .int (st.extra.length : Nat)) (ed_lenT B.len (ed_ix (ed_var 5) ed_int (ix_tupD rfl))) (by rw [List.length_map])) (bin_repI hs.h1 (by have := hs.h8; omega))) (ad_cons (ed_ix (ed_var 5) ed_int (ix_tupD rfl)) ad_nil))) ad_nil))) ⟨_, _, hp', hs', rfl⟩) fun d hd => hd
theorem c_lanypair (c : C8.Cal P w K mg base 2 "_law_plant" (spP K Pre_plant R_lplant) []) (c2 : C8.Cal P w K mg base 2 "_law_story" (spP K Pre_story R_lstory) []) (B : Bi K mg) (F : Fd K mg "_law_any_pair" s__law_any_pair) : C8.Cal P w K mg base 3 "_law_any_pair" (spP K Pre_pair R_lpair) [] := by
  refine calP_of F sc__law_any_pair (by decide) bd__law_any_pair (fun ds ⟨m, h, e, _⟩ => by rw [e]; rfl) fun ds f cdv A outer s H E h hr => ?_
  obtain ⟨m, h, rfl, hm, hh⟩ := h
  refine qs_set 3 sc__law_any_pair.nd (R := fun d => ∃ p : Plant, p.Ok ∧ d = encPl p) (qe_call c hr (by decide) rfl (qa_cons (qi_ed (A := fun n => n = m) (ed_var 1) rfl) qa_nil) (fun ds h => ?_) fun ds d _ hR => hR) fun d hd => ?_
  · obtain ⟨d, r, rfl, ⟨n, rfl, rfl⟩, rfl⟩ := h
    exact ⟨n, rfl, hm⟩
  obtain ⟨p, hp, rfl⟩ := hd
  refine qs_ret (R := R_lpair [.int m, .int h]) (qe_tup (qa_cons (qe_ed (R := fun d => d = encPl p) (ed_var 3) rfl) (qa_cons (qe_call (R := fun d => ∃ s : Story, s.Ok p ∧ d = encS s) c2 hr (by decide) rfl (qa_cons (qe_ed (R := fun d => d = encPl p) (ed_var 3) rfl) (qa_cons (qi_ed (A := fun n => n = h) (ed_var 2) rfl) qa_nil)) (fun ds h => ?_) fun ds d hd hR => ?_) qa_nil)) fun ds h => ?_) fun d hd => hd
  · obtain ⟨d, r, rfl, rfl, d', r', rfl, ⟨n, rfl, rfl⟩, rfl⟩ := h
    exact ⟨p, n, hp, rfl, hh⟩
  · obtain ⟨d, r, rfl, rfl, d', r', rfl, ⟨n, rfl, rfl⟩, rfl⟩ := hd
    obtain ⟨p', n', s, e, hs, rfl⟩ := hR
    have hb : p'.boilers.length = p.boilers.length := by
      have e1 := (List.cons.inj e).1
      unfold encPl at e1
      have e2 := (List.cons.inj (D.tup.inj e1)).1
      have e3 := congrArg List.length (D.tup.inj e2)
      rw [List.length_map, List.length_map] at e3
      exact e3.symm
    exact ⟨s, ⟨hs.h1, hs.h8, hs.es, hs.f4, fun f hf => by rw [← hb]; exact hs.fs f hf⟩, rfl⟩
  · obtain ⟨d, r, rfl, rfl, d', r', rfl, ⟨s, hs, rfl⟩, rfl⟩ := h
    exact ⟨by simp, p, s, hp, hs, rfl⟩
end
end Mf
/-! the walk: right -/
namespace Mf
open PySem PySem.Spec PyProof.Rows L2
theorem setOk_filter {n : Nat} {ch : List Int} (h : SetOk n ch) (q : Int → Bool) : SetOk n (ch.filter q) where
  l := Nat.le_trans (List.length_filter_le _ _) h.l
  b := fun c hc => h.b c ((List.mem_filter.mp hc).1)
  u := h.u.filter _
theorem setOk_upTo {n : Nat} (h : n ≤ 4) : SetOk n (upTo n) where
  l := by unfold upTo; simp; exact h
  b := fun c hc => sets_ok2 n (by omega) n (by omega) _ (sets_all0 n (by omega)) c hc
  u := sets_ok3 n (by omega) n (by omega) _ (sets_all0 n (by omega))
theorem sortI_perm (ns : List Int) : (sortI ns).Perm ns := List.mergeSort_perm ns _
theorem sortI_pair (ns : List Int) : (sortI ns).Pairwise (· ≤ ·) := by
  have := List.pairwise_mergeSort (le := fun (a b : Int) => decide (a ≤ b)) (fun a b c => by simp; omega) (fun a b => by simp; omega) ns
  exact this.imp fun {a b} h => of_decide_eq_true h
theorem setOk_sort {n : Nat} {ch : List Int} {one : Nat} (hn : n ≤ 4) (h : SetOk n ch) (h1 : one < n) (h2 : ((one : Nat) : Int) ∉ ch) : SetOk n (sortI (ch ++ [((one : Nat) : Int)])) := by
  have hp := sortI_perm (ch ++ [((one : Nat) : Int)])
  have hu : (ch ++ [((one : Nat) : Int)]).Nodup := by
    refine List.nodup_append.mpr ⟨h.u.imp fun {a b} z => Int.ne_of_lt z, List.pairwise_singleton _ _, fun a ha b hb e => ?_⟩
    rw [List.mem_singleton.mp hb] at e
    exact h2 (e ▸ ha)
  have hb : ∀ c ∈ sortI (ch ++ [((one : Nat) : Int)]), 0 ≤ c ∧ c < n := fun c hc => by
    rcases List.mem_append.mp (hp.mem_iff.mp hc) with hc | hc
    · exact h.b c hc
    · rw [List.mem_singleton.mp hc]; omega
  have hd : (sortI (ch ++ [((one : Nat) : Int)])).Nodup := hp.nodup_iff.mpr hu
  have hs : (sortI (ch ++ [((one : Nat) : Int)])).Pairwise (· < ·) := (List.Pairwise.and (sortI_pair _) hd).imp fun {a b} z => by omega
  refine ⟨?_, hb, hs⟩
  have key : ∀ (l : List Int) (m : Int), l.Pairwise (· < ·) → (∀ c ∈ l, m ≤ c ∧ c < n) → m ≤ n → (l.length : Int) ≤ n - m := fun l => by
    induction l with
    | nil => intro m _ _ h; show (0 : Int) ≤ _; omega
    | cons x l ih =>
      intro m hp hb hm
      have hx := hb x List.mem_cons_self
      have := ih (x + 1) (List.Pairwise.of_cons hp) (fun c hc => ⟨by have := List.rel_of_pairwise_cons hp hc; omega, (hb c (List.mem_cons_of_mem _ hc)).2⟩) (by omega)
      rw [List.length_cons]
      omega
  have := key _ 0 hs hb (by omega)
  omega
theorem filt_none {α : Type} {l : List α} {q : α → Bool} (h : ∀ x ∈ l, q x = false) : l.filter q = [] := List.filter_eq_nil_iff.mpr fun x hx => by rw [h x hx]; exact Bool.false_ne_true
section
variable {P : Program} {w : World} {K : PySem.W.Frag} {mg : Str → Option Value} {base : Heap}
theorem c_lright (hF : ∀ p s, Plant.Ok p → Story.Ok p s → Facts p s) (c1 : C8.Cal P w K mg base 7 "fewest" (spD K R_fewest) []) (c2 : C8.Cal P w K mg base 7 "least_coal" (spD K R_least_coal) []) (c3 : C8.Cal P w K mg base 7 "fewest_holds" (spD K R_fewest_holds) []) (c4 : C8.Cal P w K mg base 7 "cheapest" (spD K R_cheapest) []) (c5 : C8.Cal P w K mg base 7 "needed" (spD K R_needed) [])
    (c6 : C8.Cal P w K mg base 7 "alone" (spD K R_alone) []) (c7 : C8.Cal P w K mg base 8 "coal_of" (spD K R_coal_of) []) (c8 : C8.Cal P w K mg base 8 "steam_by" (spD K R_steam_by) []) (B : Bi K mg) (F : Fd K mg "_law_right" s__law_right) : C8.Cal P w K mg base 9 "_law_right" (spD K R_lright) [] := by
  refine cal_of F sc__law_right (by decide) bd__law_right (fun ds d ⟨p, s, _, _, e, _⟩ => by rw [e]; rfl) fun ds d f cdv A outer s H E h hr => ?_
  obtain ⟨p, st, hp, hs, rfl, rfl⟩ := h
  have fa := hF p st hp hs
  have b4 := hp.b4
  refine sds_par3 2 3 4 sc__law_right.nd (ad_cons (ed_call c1 hr (by decide) rfl (ad_cons (ed_var 0) (ad_cons (ed_var 1) ad_nil)) ⟨p, st, hp, hs, fun h => by obtain ⟨_, _, a, b, e, _⟩ := fa.none h; rw [e]; rfl, rfl, rfl⟩) (ad_cons (ed_call c2 hr (by decide) rfl (ad_cons (ed_var 0) (ad_cons (ed_var 1) ad_nil)) ⟨p, st, hp, hs, rfl, rfl⟩) (ad_cons (ed_cast (d2 := .int (p.boilers.length : Nat)) (ed_lenT B.len (ed_ix (ed_var 0) ed_int (ix_tupD rfl))) (by rw [List.length_map])) ad_nil))) ?_
  cases hfs : foundSet p st with
  | none =>
    obtain ⟨f1, f2, a, b, f3, f4, f5, f6, f7⟩ := fa.none hfs
    have hw : encFw p st = .tup [.str "short", .int (a : Nat), .int (b : Nat)] := by
      unfold encFw
      rw [hfs]
      show D.tup [.str "short", .int (((shortOf p st (upTo p.boilers.length)).getD (0, 0)).1 : Nat), .int (((shortOf p st (upTo p.boilers.length)).getD (0, 0)).2 : Nat)] = _
      rw [f3]
      rfl
    rw [hw, f1]
    refine sds_skip (td_bool (wd_or (td_cmp (ed_call c3 hr (by decide) rfl (ad_cons (ed_var 0) (ad_cons (ed_var 1) (ad_cons (ed_var 2) ad_nil))) ⟨p, st, _, hp, hs, .short a b f5 f6 f7, rfl, rfl⟩) ed_bl cmp_notB) fun _ => wd_or1 (td_cmp (ed_cmp (ed_ix (ed_var 2) ed_int (ix_tupD rfl)) ed_str cmp_eqS) (ed_cmp (ed_var 3) ed_non cmp_isN) cmp_neB))) (by simp [isNon, encC]) ?_
    refine sds_take (td_cmp (ed_ix (ed_var 2) ed_int (ix_tupD rfl)) ed_str cmp_eqS) (by decide) ?_
    refine sds_ret (ed_and (ed_cmp (ed_ix (ed_call c4 hr (by decide) rfl (ad_cons (ed_var 0) (ad_cons (ed_var 1) ad_nil)) ⟨p, st, a, b, hp, hs, f1, f4, rfl, rfl⟩) ed_int (ix_tupD rfl)) ed_str cmp_eqS) fun _ => ed_one (ed_cmp (ed_call c5 hr (by decide) rfl (ad_cons (ed_var 0) (ad_cons (ed_var 1) ad_nil)) ⟨p, st, hp, hs, rfl, rfl⟩) (ed_tupRg1 (n := p.boilers.length) B.tuple B.range (ed_var 4) (by omega)) (cmp_eqTI (ns := neededOf p st) (ms := upTo p.boilers.length) (room64 hr)))) ?_
    rw [f2]
    simp
  | some q =>
    obtain ⟨size, ch⟩ := q
    obtain ⟨c, rows, c0, rows0, fs⟩ := fa.some size ch hfs
    have hw : encFw p st = .tup [.str "lit", encT ch, encR rows, .tup ((showsOf p st size).map encO)] := by
      unfold encFw
      rw [hfs]
      show D.tup [.str "lit", encT ch, encR ((planFor p st ch).getD (0, [])).2, .tup ((showsOf p st size).map encO)] = _
      rw [fs.pl]
      rfl
    rw [hw, fs.pa]
    have cl4 := fs.so.l
    have hlit : (!decide (true = true) || !decide (decide (("lit" : Str) = "short") = isNon (encC (some (c0, rows0))))) = false := by
      rw [show decide (("lit" : Str) = "short") = false from by decide]
      rfl
    refine sds_skip (td_bool (wd_or (td_cmp (ed_call c3 hr (by decide) rfl (ad_cons (ed_var 0) (ad_cons (ed_var 1) (ad_cons (ed_var 2) ad_nil))) ⟨p, st, _, hp, hs, .lit size ch rows fs.so fs.sl fs.fo fs.ku fs.ow fs.sh, rfl, rfl⟩) ed_bl cmp_notB) fun _ => wd_or1 (td_cmp (ed_cmp (ed_ix (ed_var 2) ed_int (ix_tupD rfl)) ed_str cmp_eqS) (ed_cmp (ed_var 3) ed_non cmp_isN) cmp_neB))) hlit ?_
    refine sds_skip (td_cmp (ed_ix (ed_var 2) ed_int (ix_tupD rfl)) ed_str cmp_eqS) (by decide) ?_
    refine sds_asg (ed_cast (d2 := D.tup [encT ch, encR rows]) (ed_slT (ed_var 2) (od_some ed_int) (od_some ed_int)) (by rfl)) (gd_t2 5 6 sc__law_right.nd) ?_
    have hal : ∀ ch', SetOk p.boilers.length ch' → R_alone [encPl p, encS st, encT ch'] (encC (planFor p st ch')) := fun ch' h => ⟨p, st, ch', hp, hs, h, rfl, rfl⟩
    refine sds_set 7 sc__law_right.nd (ed_call c6 hr (by decide) rfl (ad_cons (ed_var 0) (ad_cons (ed_var 1) (ad_cons (ed_var 5) ad_nil))) (hal ch fs.so)) ?_
    rw [fs.pl]
    have le0 := fs.le0; have le1 := fs.le1
    refine sds_skip (td_bool (wd_or (td_cmp (ed_var 7) ed_non cmp_isN) fun _ => wd_or1 (td_not (td_le3 (i := c0) (j := c) (ed_var 3) (ed_var 7) fun _ => ed_call c7 hr (by decide) rfl (ad_cons (ed_var 0) (ad_cons (ed_var 1) (ad_cons (ed_var 6) ad_nil))) ⟨p, st, rows, hp, hs, fs.fo, rfl, rfl⟩)))) (by rw [decide_eq_true le0, decide_eq_true le1]; rfl) ?_
    refine sds_set 8 sc__law_right.nd (ed_call c8 hr (by decide) rfl (ad_cons (ed_var 0) (ad_cons (ed_var 1) (ad_cons (ed_var 6) ad_nil))) ⟨p, st, rows, hp, hs, fs.fo, rfl, rfl⟩) ?_
    refine sds_skip (td_cmp (ed_cast (d2 := .lst (([] : List Int).map .int)) (ed_lcIf [("_law_boiler", 11)] sc__law_right.nd (id_rng1 (n := p.boilers.length) B.range (ad_cons (ed_var 4) ad_nil) (by omega)) (xs := List.range p.boilers.length) (enc := fun b => .int (b : Nat)) (p := fun b => decide (0 < (rows.map fun row => row.getD b 0).sum) && !ch.contains ((b : Nat) : Int)) (f := fun b => .int (b : Nat)) ?_ (by rw [List.length_range]; omega)) ?_) (ed_cast (d2 := .lst (([] : List Int).map .int)) (ed_li ad_nil) rfl) (cmp_neLI (room64 hr))) (by simp) ?_
    · exact fun b hb => ⟨_, by rfl, fun s H C cl fp => ⟨gd_name 11 sc__law_right.nd, td_cast (td_bool (wd_and (td_cmp (ed_ix (ed_var 8) (ed_var 11) (ix_tupD (atI_map (f := D.int) (xs := steamBy p rows) (x := (rows.map fun row => row.getD b 0).sum) (by unfold steamBy; rw [List.getElem?_map, List.getElem?_range (List.mem_range.mp hb)]; rfl)))) ed_int cmp_gt) fun _ => wd_and1 (td_cmp (ed_var 11) (ed_var 5) (cmp_niT rfl (flat_ints ch)) rfl))) (by rw [show vOf (D.int ((b : Nat) : Int)) = V.int ((b : Nat) : Int) from rfl, inV_ints]), fun _ => ed_var 11⟩⟩
    · rw [filt_none fun b hb => ?_]
      · rfl
      · by_cases h0 : 0 < (rows.map fun row => row.getD b 0).sum
        · have := fs.st b (List.mem_range.mp hb) h0
          rw [List.contains_iff_mem.mpr this]
          simp
        · rw [decide_eq_false h0]
          rfl
    refine sds_skip (td_cmp (ed_cast (d2 := .lst (([] : List Int).map .int)) (ed_lcIf [("_law_boiler", 11)] sc__law_right.nd (id_tup (ds := (neededOf p st).map .int) (ed_call c5 hr (by decide) rfl (ad_cons (ed_var 0) (ad_cons (ed_var 1) ad_nil)) ⟨p, st, hp, hs, rfl, rfl⟩)) (xs := neededOf p st) (enc := D.int) (p := fun b => !ch.contains b) (f := D.int) ?_ ?_) ?_) (ed_cast (d2 := .lst (([] : List Int).map .int)) (ed_li ad_nil) rfl) (cmp_neLI (room64 hr))) (by simp) ?_
    · exact fun b hb => ⟨_, by rfl, fun s H C cl fp => ⟨gd_name 11 sc__law_right.nd, td_cast (td_cmp (ed_var 11) (ed_var 5) (cmp_niT rfl (flat_ints ch)) rfl) (by rw [show vOf (D.int b) = V.int b from rfl, inV_ints]), fun _ => ed_var 11⟩⟩
    · unfold neededOf
      exact Nat.le_trans (List.length_filter_le _ _) (by unfold upTo; rw [List.length_map, List.length_range]; omega)
    · rw [filt_none fun b hb => by rw [List.contains_iff_mem.mpr (fs.ne b hb)]; rfl]
    refine sds_for (js := [9]) (fun i ρ => ∃ x9, ρ = [some (.d (encPl p)), some (.d (encS st)), some (.d (.tup [.str "lit", encT ch, encR rows, .tup ((showsOf p st size).map encO)])), some (.d (.int c0)), some (.d (.int (p.boilers.length : Nat))), some (.d (encT ch)), some (.d (encR rows)), some (.d (.int c)), some (.d (encT (steamBy p rows))), x9, none, none]) (id_tup (ds := ch.map .int) (ed_var 5)) ⟨none, rfl⟩ ?_ ?_
    · rintro i d ρ2 hd ⟨x9, rfl⟩
      obtain ⟨one, ho, rfl⟩ := map_get hd
      refine ⟨_, gd_name 9 sc__law_right.nd, ?_⟩
      refine sds_skip (td_cmp (ed_call c6 hr (by decide) rfl (ad_cons (ed_var 0) (ad_cons (ed_var 1) (ad_cons (ed_tuple B.tuple (ed_lcIf [("_law_boiler", 11)] sc__law_right.nd (id_tup (ed_var 5)) (xs := ch) (enc := D.int) (p := fun b => decide (b ≠ one)) (f := D.int) ?_ (by omega))) ad_nil))) (hal (ch.filter fun b => decide (b ≠ one)) (setOk_filter fs.so _))) ed_non cmp_notN) ?_ (sds_nil ⟨_, rfl⟩)
      · exact fun b hb => ⟨_, by rfl, fun s H C cl fp => ⟨gd_name 11 sc__law_right.nd, td_cast (td_cmp (ed_var 11) (ed_var 9) cmp_neI) (by simp), fun _ => ed_var 11⟩⟩
      · rw [fs.mi one (List.mem_of_getElem? ho)]
        rfl
    · rintro ρ2 ⟨x9, rfl⟩
      refine sds_for (js := [9]) (fun i ρ => ∃ x9 x10, ρ = [some (.d (encPl p)), some (.d (encS st)), some (.d (.tup [.str "lit", encT ch, encR rows, .tup ((showsOf p st size).map encO)])), some (.d (.int c0)), some (.d (.int (p.boilers.length : Nat))), some (.d (encT ch)), some (.d (encR rows)), some (.d (.int c)), some (.d (encT (steamBy p rows))), x9, x10, none]) (id_rng1 (n := p.boilers.length) B.range (ad_cons (ed_var 4) ad_nil) (by omega)) ⟨_, _, rfl⟩ ?_ ?_
      · rintro i d ρ2 hd ⟨x9, x10, rfl⟩
        obtain ⟨hi, rfl⟩ := rng_get hd
        refine ⟨_, gd_name 9 sc__law_right.nd, ?_⟩
        refine sds_if (td_cast (td_cmp (ed_var 9) (ed_var 5) (cmp_niT rfl (flat_ints ch)) rfl) (by rw [show vOf (D.int ((i : Nat) : Int)) = V.int ((i : Nat) : Int) from rfl, inV_ints])) (fun h => ?_) fun h => sds_nil (sds_nil ⟨_, _, rfl⟩)
        have hni : ((i : Nat) : Int) ∉ ch := fun z => by
          rw [List.contains_iff_mem.mpr z] at h
          cases h
        obtain ⟨c', r', h1, h2⟩ := fs.ad i hi hni
        refine sds_set 10 sc__law_right.nd (ed_call c6 hr (by decide) rfl (ad_cons (ed_var 0) (ad_cons (ed_var 1) (ad_cons (ed_tuple B.tuple (ed_callB (ds := [.tup ((ch ++ [((i : Nat) : Int)]).map .int)]) rfl B.sorted rfl (ad_cons (ed_cast (ed_bin (ed_var 5) (ed_tu (ad_cons (ed_var 9) ad_nil)) (bin_catT (ds := ch.map .int) (by rw [List.length_map, List.length_cons, List.length_nil]; omega))) (by rw [List.map_append]; rfl)) ad_nil) (call_sortT (by rw [List.length_append, List.length_cons, List.length_nil]; omega)))) ad_nil))) (hal (sortI (ch ++ [((i : Nat) : Int)])) (setOk_sort b4 fs.so hi hni))) ?_
        rw [h1]
        refine sds_skip (td_bool (wd_or (td_cmp (ed_var 10) ed_non cmp_isN) fun _ => wd_or1 (td_cmp (da := .int c') (db := .int c) (ed_var 10) (ed_var 7) cmp_gt))) ?_ (sds_nil (sds_nil ⟨_, _, rfl⟩))
        rw [decide_eq_false (by omega)]
        rfl
      · rintro ρ2 ⟨x9, x10, rfl⟩
        obtain ⟨r1, h1⟩ := fs.al
        refine sds_ret (ed_cmp (ed_cast (d2 := .int c0) (ed_call c6 hr (by decide) rfl (ad_cons (ed_var 0) (ad_cons (ed_var 1) (ad_cons (ed_tupRg1 (n := p.boilers.length) B.tuple B.range (ed_var 4) (by omega)) ad_nil))) (hal (upTo p.boilers.length) (setOk_upTo b4))) (by rw [h1]; rfl)) (ed_var 3) cmp_eqI) ?_
        rw [decide_eq_true rfl]
end
end Mf
/-! the walk: law -/
namespace Mf
open PySem PySem.Spec PyProof.Rows L2
def R_law (ds : List D) (d : D) : Prop := ∃ ns : List Int, ds = [.scr ns] ∧ d = .bl true
theorem cut_12 (ns : List Int) : ∃ ms : List Int, cutD (ns.map D.int) (some 1) (some 2) = ms.map D.int ∧ ms.length ≤ 1 := by
  refine ⟨(ns.drop (HT.sIx (ns.map D.int).length 0 (some 1))).take (HT.sIx (ns.map D.int).length (ns.map D.int).length (some 2) - HT.sIx (ns.map D.int).length 0 (some 1)), ?_, ?_⟩
  · unfold cutD
    rw [List.map_take, List.map_drop]
  · have e1 : HT.sIx (ns.map D.int).length 0 (some 1) = min 1 (ns.map D.int).length := HT.sIx_nat _ 0 1
    have e2 : HT.sIx (ns.map D.int).length (ns.map D.int).length (some 2) = min 2 (ns.map D.int).length := HT.sIx_nat _ _ 2
    rw [List.length_take, e1, e2]
    omega
section
variable {P : Program} {w : World} {K : PySem.W.Frag} {mg : Str → Option Value} {base : Heap}
theorem ok_of {x : Str} {st : Stmt} {N ps : List Str} {k : Nat} {R : List D → D → Prop} {f : Addr} {fd : FuncData} (F : FunD K x x (defArgs st) (defBody st) (defScope st) [] [] f fd) (S : FnScope N ps (defScope st)) (hps : ps.length ≤ N.length)
    (hR : ∀ ds d, R ds d → ds.length = ps.length)
    (body : ∀ (ds : List D) (d : D) (f : Addr) (cdv : Value) (A : Around) (outer : List Env) (s : Shared) (H : Hp) (E : XK), R ds d → Room k (cx P w K mg base N x st f cdv A outer s H E).A →
      SDs (cx P w K mg base N x st f cdv A outer s H E) (defBody st) (startE N ds) (fun _ => d = .non) (fun d' _ => d' = d)) : FnOk P w K mg base CX0 (k + 1) f fd ps (spD K R) := by
  refine F.ok S (fun vs H Q E h => ?_) (fun cdv A outer s H vs Q E hr h => ?_)
  · obtain ⟨F0, ds, d, _, dv, hr, _⟩ := h
    rw [dv.len, hR ds d hr]
  · obtain ⟨F0, ds, d, h1, dv, hRd, q⟩ := h
    refine ⟨wSs (cx P w K mg base N x st f cdv A outer s H E) (defBody st), PSs.nox pss_w, ?_⟩
    refine body ds d f cdv A outer s H E hRd hr _ _ _ _ _ (start_s0 h1 dv (by rw [hR ds d hRd]; exact hps)) _ (fun ρ' F' H' σ' hd s' e => ?_) fun d' ρ' v F' H' σ' hd s' e dd => ?_
    · subst hd
      exact q _ F' H' s'.stp mk_non
    · subst hd
      exact q _ F' H' s'.stp dd
theorem c_lpen (B : Bi K mg) (F : Fd K mg "_law_pen" s__law_pen) : C8.Cal P w K mg base 1 "_law_pen" (spN K) [] := by
  obtain ⟨f, fd, F, hm⟩ := F
  refine ⟨f, fd, P__law_pen, [], ?_, hm, F.kp, F.bindsN bd__law_pen, .nil⟩
  refine F.ok sc__law_pen (fun vs H Q E h => ?_) (fun cdv A outer s H vs Q E hr h => ?_)
  · obtain ⟨n, rfl, _⟩ := h
    rfl
  · obtain ⟨n, rfl, F0, h1, q⟩ := h
    refine ⟨wSs (cx P w K mg base N__law_pen "_law_pen" s__law_pen f cdv A outer s H E) (defBody s__law_pen), PSs.nox pss_w, ?_⟩
    have s0 := start_s0 (K := K) (N := N__law_pen) (ds := [.int n]) (vs := [.int n]) h1 (dens_cons mk_int dens_nil) (by show 1 ≤ 2; decide)
    have body : SDN (cx P w K mg base N__law_pen "_law_pen" s__law_pen f cdv A outer s H E) (defBody s__law_pen) (startE N__law_pen [.int n]) := by
      refine sdn_set 1 sc__law_pen.nd (ed_callB rfl B.max rfl (ad_cons (ed_var 0) (ad_cons (ed_bin ed_int (ed_var 0) bin_sub) ad_nil)) call_max) ?_
      exact sdn_ret (nd_li (ad_cons (ed_var 1) (ad_cons (ed_callTy rfl B.int rfl (ad_cons (ed_cmp (ed_var 1) (ed_bin ed_int ed_int (bin_pow ⟨by decide, by decide, by decide⟩)) cmp_ge) ad_nil) call_intB) ad_nil)))
    exact body _ _ _ _ _ s0 _ fun p x y ρ' F' H' σ' s' e f' h0 hp => q p x y F' H' s'.stp f' h0 hp
theorem c_law (c1 : C8.Cal P w K mg base 1 "_law_cell" (spD K R_lcell) []) (c2 : C8.Cal P w K mg base 1 "_law_pen" (spN K) []) (c3 : C8.Cal P w K mg base 3 "_law_pair" (spP K Pre_pair R_lpair) []) (c4 : C8.Cal P w K mg base 3 "_law_any_pair" (spP K Pre_pair R_lpair) []) (c5 : C8.Cal P w K mg base 9 "_law_right" (spD K R_lright) []) (B : Bi K mg) {f : Addr} {fd : FuncData} (F : FunD K "law" "law" (defArgs s_law) (defBody s_law) (defScope s_law) [] [] f fd) : FnOk P w K mg base CX0 10 f fd P_law (spD K R_law) := by
  refine ok_of F sc_law (by decide) (fun ds d ⟨p, e, _⟩ => by rw [e]; rfl) fun ds d f cdv A outer s H E h hr => ?_
  obtain ⟨ns, rfl, rfl⟩ := h
  obtain ⟨ms, hms, hml⟩ := cut_12 ns
  refine sds_for (js := [1]) (ds := ((if 0 < ns.length then ns.getD 0 0 else 0) :: ms).map .int) (fun i ρ => ∃ x1 x2 x3 x4, ρ = [some (.d (.scr ns)), x1, x2, x3, x4]) (id_lst (ed_cast (ed_bin (ed_li (ad_cons (ed_call c1 hr (by decide) rfl (ad_cons (ed_var 0) (ad_cons ed_int ad_nil)) ⟨ns, rfl, rfl⟩) ad_nil)) (ed_slS (ed_var 0) (od_some ed_int) (od_some ed_int)) (bin_catL (by rw [hms, List.length_map, List.length_cons, List.length_nil]; omega))) (by rw [hms]; rfl))) ⟨none, none, none, none, rfl⟩ ?_ ?_
  · rintro i d ρ2 hd ⟨x1, x2, x3, x4, rfl⟩
    obtain ⟨n, _, rfl⟩ := map_get hd
    refine ⟨_, gd_name 1 sc_law.nd, ?_⟩
    refine sds_pen 2 sc_law.nd c2 hr (by decide) (ed_var 1) fun x y => ?_
    have hpair : ∀ (m h : Int), (1 ≤ m ∧ m ≤ 4) ∧ 1 ≤ h ∧ h ≤ 8 → Pre_pair [.int m, .int h] := fun m h z => ⟨m, h, rfl, z.1, z.2⟩
    refine sds_forP 2 (js := [3, 4]) (RR := fun ds => ds.length = 3 ∧ ∀ d ∈ ds, ∃ (p : Plant) (s : Story), p.Ok ∧ s.Ok p ∧ d = .tup [encPl p, encS s]) rfl (qit_lst (qe_lst (ql_cons (R := fun d => ∃ (p : Plant) (s : Story), p.Ok ∧ s.Ok p ∧ d = .tup [encPl p, encS s]) (qe_call c3 hr (by decide) rfl (qa_cons (qi_ed (A := fun n => n = 4) ed_int rfl) (qa_cons (qi_ed (A := fun n => n = 5) ed_int rfl) qa_nil)) ?_ fun _ _ _ h => h)
      (ql_cons (qe_call c4 hr (by decide) rfl (qa_cons (qi_ed (A := fun n => n = 4) ed_int rfl) (qa_cons (qi_ed (A := fun n => n = 5) ed_int rfl) qa_nil)) ?_ fun _ _ _ h => h) (ql_cons (qe_call c3 hr (by decide) rfl (qa_cons (qi_ed (A := fun n => n = 3) ed_int rfl) (qa_cons (qi_ed (A := fun n => n = 6) ed_int rfl) qa_nil)) ?_ fun _ _ _ h => h) ql_nil))) fun ds h => ⟨by rw [h.1]; omega, ds, rfl, h⟩))
      (fun _ k ρ => ∃ x1 x3 x4, ρ = [some (.d (.scr ns)), x1, none, x3, x4]) (fun ds _ => ⟨_, _, _, rfl⟩) ?_ ?_
    · rintro ds ⟨d, r, rfl, ⟨m, rfl, rfl⟩, d', r', rfl, ⟨h, rfl, rfl⟩, rfl⟩
      exact hpair _ _ (by omega)
    · rintro ds ⟨d, r, rfl, ⟨m, rfl, rfl⟩, d', r', rfl, ⟨h, rfl, rfl⟩, rfl⟩
      exact hpair _ _ (by omega)
    · rintro ds ⟨d, r, rfl, ⟨m, rfl, rfl⟩, d', r', rfl, ⟨h, rfl, rfl⟩, rfl⟩
      exact hpair _ _ (by omega)
    · rintro ds ⟨hl, hds⟩ k d ρ2 hd ⟨x1, x3, x4, rfl⟩
      obtain ⟨p, st, hp, hs, rfl⟩ := hds d (List.mem_of_getElem? hd)
      refine ⟨_, gd_t2 3 4 sc_law.nd, ?_⟩
      exact sds_skip (td_not (k := true) (td_val (ed_call c5 hr (by decide) rfl (ad_cons (ed_var 3) (ad_cons (ed_var 4) ad_nil)) ⟨p, st, hp, hs, rfl, rfl⟩))) rfl (sds_nil ⟨_, _, _, rfl⟩)
    · rintro ds _ ρ2 ⟨x1, x3, x4, rfl⟩
      exact sds_nil ⟨_, _, _, _, rfl⟩
  · rintro ρ2 ⟨x1, x2, x3, x4, rfl⟩
    exact sds_ret ed_bl rfl
end
end Mf
/-! the plain law: a row by the order of coal -/
namespace Mf
/-- what the order leaves unmade, what it costs -/
def restOf (caps : List Int) : List (Int × Int) → Int → Int
  | [], a => a
  | q :: l, a => restOf caps l (a - min (caps.getD q.2.toNat 0) a)
def costG (caps : List Int) : List (Int × Int) → Int → Int
  | [], _ => 0
  | q :: l, a => q.1 * min (caps.getD q.2.toNat 0) a + costG caps l (a - min (caps.getD q.2.toNat 0) a)
def capSum (caps : List Int) (l : List (Int × Int)) : Int := (l.map fun q => caps.getD q.2.toNat 0).sum
theorem sum_set : ∀ {row : List Int} {k : Nat} {v : Int}, k < row.length → (row.set k v).sum = row.sum + (v - row.getD k 0)
  | [], k, v, h => absurd h (Nat.not_lt_zero _)
  | x :: row, 0, v, h => by
    rw [List.set_cons_zero, List.sum_cons, List.sum_cons, List.getD_cons_zero]
    omega
  | x :: row, k + 1, v, h => by
    rw [List.set_cons_succ, List.sum_cons, List.sum_cons, List.getD_cons_succ, sum_set (Nat.lt_of_succ_lt_succ h)]
    omega
theorem coal_cons {x c : Int} {row coals : List Int} : rowCoal (c :: coals) (x :: row) = x * c + rowCoal coals row := by
  unfold rowCoal
  rw [List.zip_cons_cons, List.map_cons, List.sum_cons]
theorem coal_set : ∀ {row coals : List Int} {k : Nat} {v : Int}, k < row.length → row.length = coals.length → rowCoal coals (row.set k v) = rowCoal coals row + (v - row.getD k 0) * coals.getD k 0
  | [], _, k, v, h, _ => absurd h (Nat.not_lt_zero _)
  | x :: row, [], k, v, h, hl => by cases hl
  | x :: row, c :: coals, 0, v, h, hl => by
    rw [List.set_cons_zero, coal_cons, coal_cons, List.getD_cons_zero, List.getD_cons_zero, Int.sub_mul]
    omega
  | x :: row, c :: coals, k + 1, v, h, hl => by
    rw [List.set_cons_succ, coal_cons, coal_cons, List.getD_cons_succ, List.getD_cons_succ, coal_set (Nat.lt_of_succ_lt_succ h) (Nat.succ.inj hl)]
    omega
theorem getD_set {row : List Int} {k i : Nat} {v : Int} (hk : k < row.length) : (row.set k v).getD i 0 = if i = k then v else row.getD i 0 := by
  rw [List.getD_eq_getElem?_getD, List.getD_eq_getElem?_getD, List.getElem?_set]
  by_cases h : k = i
  · subst h
    rw [if_pos rfl, if_pos hk, if_pos rfl]
    rfl
  · rw [if_neg h, if_neg (fun z => h z.symm)]
/-- what the order comes to -/
structure Fold (caps coals : List Int) (st : List Int × Int) (l : List (Int × Int)) (out : List Int × Int) : Prop where
  len : out.1.length = st.1.length
  rest : out.2 = restOf caps l st.2
  sum : out.1.sum = st.1.sum + (st.2 - out.2)
  cost : rowCoal coals out.1 = rowCoal coals st.1 + costG caps l st.2
  rng : ∀ i, 0 ≤ out.1.getD i 0 ∧ out.1.getD i 0 ≤ caps.getD i 0
theorem fold_ok {caps coals : List Int} (hc : ∀ i, 0 ≤ caps.getD i 0) (hl : caps.length = coals.length) : ∀ (l : List (Int × Int)) (st : List Int × Int), st.1.length = coals.length → 0 ≤ st.2 → (∀ i, 0 ≤ st.1.getD i 0 ∧ st.1.getD i 0 ≤ caps.getD i 0) →
    (∀ q ∈ l, ∃ k : Nat, k < coals.length ∧ q.2 = (k : Int) ∧ coals[k]? = some q.1 ∧ st.1.getD k 0 = 0) → (l.map fun q => q.2).Nodup → Fold caps coals st l (l.foldl (fillStep caps) st)
  | [], st, h1, h2, h3, h4, h5 => ⟨rfl, rfl, by show st.1.sum = _; simp, by show rowCoal coals st.1 = rowCoal coals st.1 + 0; omega, h3⟩
  | q :: l, st, h1, h2, h3, h4, h5 => by
    obtain ⟨k, hk, hq, hck, hz⟩ := h4 q List.mem_cons_self
    have hkt : q.2.toNat = k := by omega
    have hst : fillStep caps st q = (st.1.set k (min (caps.getD k 0) st.2), st.2 - min (caps.getD k 0) st.2) := by unfold fillStep; rw [hkt]
    have hck' : coals.getD k 0 = q.1 := by rw [List.getD_eq_getElem?_getD, hck]; rfl
    have hkl : k < st.1.length := by omega
    have hck0 := hc k
    have hnd := List.nodup_cons.mp h5
    have ih := fold_ok hc hl l (fillStep caps st q) (by rw [hst]; show (st.1.set k _).length = _; rw [List.length_set, h1]) (by rw [hst]; show 0 ≤ st.2 - min (caps.getD k 0) st.2; omega) (fun i => by
      rw [hst]
      show 0 ≤ (st.1.set k _).getD i 0 ∧ (st.1.set k _).getD i 0 ≤ _
      rw [getD_set hkl]
      by_cases hi : i = k
      · rw [if_pos hi, hi]; omega
      · rw [if_neg hi]; exact h3 i) (fun z hz' => by
      obtain ⟨k', g1, g2, g3, g4⟩ := h4 z (List.mem_cons_of_mem _ hz')
      refine ⟨k', g1, g2, g3, ?_⟩
      rw [hst]
      show (st.1.set k _).getD k' 0 = 0
      rw [getD_set hkl]
      have : k' ≠ k := fun e => hnd.1 (List.mem_map.mpr ⟨z, hz', by show z.2 = q.2; omega⟩)
      rw [if_neg this]
      exact g4) hnd.2
    rw [List.foldl_cons]
    rw [hst] at ih ⊢
    have cs := coal_set (coals := coals) (v := min (caps.getD k 0) st.2) hkl h1
    have ss := sum_set (v := min (caps.getD k 0) st.2) hkl
    rw [hz] at cs ss
    refine ⟨by rw [ih.len]; show (st.1.set k _).length = _; rw [List.length_set], ?_, ?_, ?_, ih.rng⟩
    · rw [ih.rest]
      show _ = restOf caps l (st.2 - min (caps.getD q.2.toNat 0) st.2)
      rw [hkt]
    · have := ih.sum
      rw [this]
      show (st.1.set k _).sum + _ = _
      rw [ss]
      show _ + (st.2 - min (caps.getD k 0) st.2 - _) = _
      omega
    · have := ih.cost
      rw [this]
      show rowCoal coals (st.1.set k _) + _ = _
      rw [cs, hck']
      show _ + costG caps l (st.2 - min (caps.getD k 0) st.2) = _ + costG caps (q :: l) st.2
      have e : costG caps (q :: l) st.2 = q.1 * min (caps.getD k 0) st.2 + costG caps l (st.2 - min (caps.getD k 0) st.2) := by
        show q.1 * min (caps.getD q.2.toNat 0) st.2 + costG caps l (st.2 - min (caps.getD q.2.toNat 0) st.2) = _
        rw [hkt]
      rw [e, Int.sub_zero, Int.mul_comm]
      omega
theorem rest_zero {caps : List Int} (hc : ∀ i, 0 ≤ caps.getD i 0) : ∀ (l : List (Int × Int)) (a : Int), 0 ≤ a → a ≤ capSum caps l → restOf caps l a = 0
  | [], a, h1, h2 => by
    have : a ≤ 0 := h2
    show a = 0
    omega
  | q :: l, a, h1, h2 => by
    have h3 : a ≤ caps.getD q.2.toNat 0 + capSum caps l := by
      unfold capSum at h2
      rw [List.map_cons, List.sum_cons] at h2
      exact h2
    have hq := hc q.2.toNat
    have hs : 0 ≤ capSum caps l := by
      unfold capSum
      clear h2 h3
      induction l with
      | nil => exact Int.le_refl _
      | cons x l ih =>
        rw [List.map_cons, List.sum_cons]
        have := hc x.2.toNat
        omega
    unfold restOf
    exact rest_zero hc l _ (by omega) (by omega)
/-- more room costs no more -/
theorem cost_mono {caps caps' : List Int} (hc : ∀ i, 0 ≤ caps'.getD i 0) (hle : ∀ i, caps'.getD i 0 ≤ caps.getD i 0) : ∀ (l : List (Int × Int)) (c r r' : Int), (∀ q ∈ l, c ≤ q.1) → l.Pairwise (fun a b => a.1 ≤ b.1) → 0 ≤ r → r ≤ r' → r' ≤ capSum caps' l → c * (r' - r) + costG caps l r ≤ costG caps' l r'
  | [], c, r, r', h1, h2, h3, h4, h5 => by
    have : r' ≤ 0 := h5
    have e : r' - r = 0 := by omega
    rw [e, Int.mul_zero]
    exact Int.le_refl _
  | q :: l, c, r, r', h1, h2, h3, h4, h5 => by
    have h6 : r' ≤ caps'.getD q.2.toNat 0 + capSum caps' l := by
      unfold capSum at h5
      rw [List.map_cons, List.sum_cons] at h5
      exact h5
    have hk := hc q.2.toNat
    have hk2 := hle q.2.toNat
    have hs : 0 ≤ capSum caps' l := by
      unfold capSum
      clear h5 h6 h2 h1
      induction l with
      | nil => exact Int.le_refl _
      | cons x l ih =>
        rw [List.map_cons, List.sum_cons]
        have := hc x.2.toNat
        omega
    have hcq := h1 q List.mem_cons_self
    have ih := cost_mono hc hle l q.1 (r - min (caps.getD q.2.toNat 0) r) (r' - min (caps'.getD q.2.toNat 0) r') (fun z hz => List.rel_of_pairwise_cons h2 hz) (List.Pairwise.of_cons h2) (by omega) (by omega) (by omega)
    unfold costG
    generalize min (caps.getD q.2.toNat 0) r = m at ih ⊢
    generalize min (caps'.getD q.2.toNat 0) r' = m' at ih ⊢
    have e1 : q.1 * (r' - m' - (r - m)) = q.1 * (r' - r) + q.1 * m - q.1 * m' := by
      rw [show r' - m' - (r - m) = (r' - r) + m - m' from by omega, Int.mul_sub, Int.mul_add]
    have e2 : c * (r' - r) ≤ q.1 * (r' - r) := Int.mul_le_mul_of_nonneg_right hcq (by omega)
    omega
end Mf
namespace Mf
theorem perm_sum {l m : List Int} (h : l.Perm m) : l.sum = m.sum := by
  induction h with
  | nil => rfl
  | cons x _ ih => rw [List.sum_cons, List.sum_cons, ih]
  | swap x y l => rw [List.sum_cons, List.sum_cons, List.sum_cons, List.sum_cons]; omega
  | trans _ _ h1 h2 => rw [h1, h2]
theorem zip_caps {caps : List Int} : ∀ {coals : List Int} {n : Nat}, n + coals.length = caps.length → (coals.zipIdx n).map (fun q => caps.getD q.2 0) = caps.drop n
  | [], n, h => by rw [List.drop_eq_nil_of_le (by rw [List.length_nil] at h; omega)]; rfl
  | c :: coals, n, h => by
    rw [List.length_cons] at h
    have hn : n < caps.length := by omega
    rw [List.zipIdx_cons, List.map_cons, zip_caps (by omega), List.drop_eq_getElem_cons hn]
    congr 1
    show caps.getD n 0 = _
    rw [List.getD_eq_getElem?_getD, List.getElem?_eq_getElem hn]
    rfl
theorem ord_capSum {caps coals : List Int} (hl : coals.length = caps.length) : capSum caps (ord coals) = caps.sum := by
  have h1 : capSum caps (ord coals) = capSum caps (idxP coals) := perm_sum ((sortP_perm (idxP coals)).map _)
  rw [h1]
  unfold capSum idxP
  rw [List.map_map]
  have := zip_caps (caps := caps) (coals := coals) (n := 0) (by omega)
  rw [List.drop_zero] at this
  exact congrArg List.sum this
theorem ord_sorted (coals : List Int) : (ord coals).Pairwise (fun a b => a.1 ≤ b.1) :=
  (lexLe_pair (idxP coals)).imp fun {a b} h => by
    rcases lexLe_iff.mp h with h | h
    · omega
    · omega
theorem zip_nodup : ∀ {coals : List Int} {n : Nat}, ((coals.zipIdx n).map fun q => ((q.2 : Nat) : Int)).Nodup
  | [], n => List.nodup_nil
  | c :: coals, n => by
    rw [List.zipIdx_cons, List.map_cons]
    refine List.nodup_cons.mpr ⟨fun z => ?_, zip_nodup⟩
    obtain ⟨q, hq, e⟩ := List.mem_map.mp z
    have := List.le_snd_of_mem_zipIdx hq
    have e' : ((q.2 : Nat) : Int) = (n : Nat) := e
    omega
theorem ord_nodup (coals : List Int) : ((ord coals).map fun q => q.2).Nodup := by
  have h1 : ((ord coals).map fun q => q.2).Perm ((idxP coals).map fun q => q.2) := (sortP_perm (idxP coals)).map _
  rw [h1.nodup_iff]
  unfold idxP
  rw [List.map_map]
  exact zip_nodup
theorem coal_rep : ∀ (n : Nat) (coals : List Int), rowCoal coals (List.replicate n 0) = 0
  | 0, coals => by unfold rowCoal; rfl
  | n + 1, [] => by unfold rowCoal; rw [List.zip_nil_right]; rfl
  | n + 1, c :: coals => by
    rw [List.replicate_succ, coal_cons, coal_rep n coals]
    omega
theorem sum_rep : ∀ (n : Nat), (List.replicate n (0 : Int)).sum = 0
  | 0 => rfl
  | n + 1 => by rw [List.replicate_succ, List.sum_cons, sum_rep n]; rfl
/-- the row made -/
structure Made (caps coals : List Int) (a : Int) (row : List Int) : Prop where
  len : row.length = caps.length
  sum : row.sum = a
  cost : rowCoal coals row = costG caps (ord coals) a
  rng : ∀ i, 0 ≤ row.getD i 0 ∧ row.getD i 0 ≤ caps.getD i 0
theorem made_ok {caps coals : List Int} {a : Int} (hl : coals.length = caps.length) (hc : ∀ i, 0 ≤ caps.getD i 0) (h0 : 0 ≤ a) (h1 : a ≤ caps.sum) : Made caps coals a (rowMadeBy (ord coals) caps a) := by
  have hg : ∀ i, (List.replicate caps.length (0 : Int)).getD i 0 = 0 := fun i => by
    rw [List.getD_eq_getElem?_getD, List.getElem?_replicate]
    split <;> rfl
  have f := fold_ok (caps := caps) (coals := coals) hc hl.symm (ord coals) (List.replicate caps.length 0, a) (by show (List.replicate _ _).length = _; rw [List.length_replicate, hl]) h0 (fun i => by
    show 0 ≤ (List.replicate caps.length (0 : Int)).getD i 0 ∧ (List.replicate caps.length (0 : Int)).getD i 0 ≤ _
    rw [hg]
    exact ⟨Int.le_refl _, hc i⟩) (fun q hq => by
    obtain ⟨k, g1, g2, g3⟩ := ord_mem hq
    exact ⟨k, g1, g2, g3, hg k⟩) (ord_nodup coals)
  have hr : restOf caps (ord coals) a = 0 := rest_zero hc _ a h0 (by rw [ord_capSum hl]; exact h1)
  refine ⟨?_, ?_, ?_, f.rng⟩
  · have := f.len
    rw [List.length_replicate] at this
    exact this
  · have := f.sum
    rw [f.rest] at this
    have e : rowMadeBy (ord coals) caps a = ((ord coals).foldl (fillStep caps) (List.replicate caps.length 0, a)).1 := rfl
    rw [e, this]
    show (List.replicate caps.length (0 : Int)).sum + (a - restOf caps (ord coals) a) = a
    rw [hr, sum_rep]
    omega
  · have := f.cost
    have e : rowMadeBy (ord coals) caps a = ((ord coals).foldl (fillStep caps) (List.replicate caps.length 0, a)).1 := rfl
    rw [e, this]
    show rowCoal coals (List.replicate caps.length 0) + costG caps (ord coals) a = _
    rw [coal_rep]
    omega
/-- with more room the row made costs no more -/
theorem made_mono {caps caps' coals : List Int} {a : Int} (hl : coals.length = caps.length) (hl' : coals.length = caps'.length) (hn : ∀ c ∈ coals, 0 ≤ c) (hc : ∀ i, 0 ≤ caps'.getD i 0) (hle : ∀ i, caps'.getD i 0 ≤ caps.getD i 0) (h0 : 0 ≤ a) (h1 : a ≤ caps'.sum) (h2 : a ≤ caps.sum) :
    rowCoal coals (rowMadeBy (ord coals) caps a) ≤ rowCoal coals (rowMadeBy (ord coals) caps' a) := by
  rw [(made_ok hl (fun i => Int.le_trans (hc i) (hle i)) h0 h2).cost, (made_ok hl' hc h0 h1).cost]
  have := cost_mono hc hle (ord coals) 0 a a (fun q hq => by
    obtain ⟨k, _, _, g3⟩ := ord_mem hq
    exact hn q.1 (List.mem_of_getElem? g3)) (ord_sorted coals) h0 (Int.le_refl _) (by rw [ord_capSum hl']; exact h1)
  omega
end Mf
/-! the plain law: plans -/
namespace Mf
structure RowV (coals row : List Int) : Prop where
  len : row.length = coals.length
  nn : ∀ i, 0 ≤ row.getD i 0
abbrev dct (coals : List Int) (low high : Int) (cd : List (List Int × Int)) : Dct := dictOf (ord coals) coals low high cd
theorem dct_cons {coals : List Int} {low high : Int} {q : List Int × Int} {l : List (List Int × Int)} : dct coals low high (q :: l) = stepDict (costsOf (ord coals) coals q.1) (dct coals low high l) q.2 low high := rfl
theorem sum_nn' : ∀ {l : List Int}, (∀ i, 0 ≤ l.getD i 0) → 0 ≤ l.sum
  | [], _ => Int.le_refl _
  | x :: l, h => by
    have h1 := h 0
    rw [List.getD_cons_zero] at h1
    have h2 := sum_nn' (l := l) fun i => by
      have := h (i + 1)
      rw [List.getD_cons_succ] at this
      exact this
    rw [List.sum_cons]
    omega
theorem sum_mono : ∀ {l m : List Int}, l.length = m.length → (∀ i, l.getD i 0 ≤ m.getD i 0) → l.sum ≤ m.sum
  | [], [], _, _ => Int.le_refl _
  | x :: l, y :: m, hl, h => by
    have h1 := h 0
    rw [List.getD_cons_zero, List.getD_cons_zero] at h1
    have h2 := sum_mono (l := l) (m := m) (Nat.succ.inj hl) fun i => by
      have := h (i + 1)
      rw [List.getD_cons_succ, List.getD_cons_succ] at this
      exact this
    rw [List.sum_cons, List.sum_cons]
    omega
theorem costs_get {o : List (Int × Int)} {coals caps : List Int} {n : Nat} {x : Int} (h : (costsOf o coals caps)[n]? = some x) : n ≤ caps.sum.toNat ∧ x = rowCoal coals (rowMadeBy o caps (n : Nat)) := by
  unfold costsOf at h
  rw [List.getElem?_map] at h
  by_cases hn : n < caps.sum.toNat + 1
  · rw [List.getElem?_range hn] at h
    exact ⟨by omega, (Option.some.inj h).symm⟩
  · rw [List.getElem?_eq_none (by rw [List.length_range]; omega)] at h
    cases h
theorem costs_at {o : List (Int × Int)} {coals caps : List Int} {n : Nat} (h : n ≤ caps.sum.toNat) : (costsOf o coals caps)[n]? = some (rowCoal coals (rowMadeBy o caps (n : Nat))) := by
  unfold costsOf
  rw [List.getElem?_map, List.getElem?_range (by omega)]
  rfl
theorem dct_in {coals : List Int} {low high : Int} {cd : List (List Int × Int)} {here : Int} {s : Int × Int} (h : look (dct coals low high cd) here = some s) : low ≤ here ∧ here ≤ high := by
  cases cd with
  | nil =>
    rw [show dct coals low high [] = dict0 low high from rfl, look_zero] at h
    by_cases hm : here ∈ hereAt low high
    · exact here_mem.mp hm
    · rw [if_neg hm] at h; cases h
  | cons q l =>
    rw [dct_cons] at h
    obtain ⟨h1, h2, _⟩ := step_some h
    exact ⟨h1, h2⟩
/-- the same draws, no less room -/
inductive LeCd (coals : List Int) : List (List Int × Int) → List (List Int × Int) → Prop where
  | nil : LeCd coals [] []
  | cons {r r' : List Int} {d : Int} {l l' : List (List Int × Int)} (h1 : RowV coals r') (h2 : r.length = coals.length) (h3 : ∀ i, r'.getD i 0 ≤ r.getD i 0) (t : LeCd coals l' l) : LeCd coals ((r', d) :: l') ((r, d) :: l)
theorem plan_mono {coals : List Int} {low high : Int} (hn : ∀ c ∈ coals, 0 ≤ c) {cd' cd : List (List Int × Int)} (h : LeCd coals cd' cd) : ∀ (here : Int) (s' : Int × Int), look (dct coals low high cd') here = some s' → ∃ s, look (dct coals low high cd) here = some s ∧ s.1 ≤ s'.1 := by
  induction h with
  | nil => exact fun here s' e => ⟨s', e, Int.le_refl _⟩
  | @cons r r' d l l' h1 h2 h3 t ih =>
    intro here s' e
    rw [dct_cons] at e
    obtain ⟨g1, g2, n, x', c', e1, e2, e3, e4⟩ := step_some e
    obtain ⟨c, e5, e6⟩ := ih _ _ e2
    obtain ⟨f1', f2'⟩ := costs_get e1
    have f1 : n ≤ r'.sum.toNat := f1'
    have f2 : x' = rowCoal coals (rowMadeBy (ord coals) r' (n : Nat)) := f2'
    have hs := sum_nn' h1.nn
    have hss := sum_mono (by rw [h1.len, h2]) h3
    have hx := costs_at (o := ord coals) (coals := coals) (caps := r) (n := n) (by omega)
    have hm := made_mono (caps := r) (caps' := r') (coals := coals) (a := (n : Nat)) (by rw [h2]) (by rw [h1.len]) hn h1.nn h3 (by omega) (by omega) (by omega)
    rw [dct_cons]
    cases hk : look (stepDict (costsOf (ord coals) coals r) (dct coals low high l) d low high) here with
    | none =>
      have := step_none hk g1 g2 n _ hx
      have e5' : look (dct coals low high l) (min (here + (n : Nat) - d) high) = some c := e5
      rw [this] at e5'
      cases e5'
    | some s =>
      obtain ⟨_, _, _, _, _, _, _, _, opt⟩ := step_some hk
      have := opt n _ c hx e5
      refine ⟨s, rfl, ?_⟩
      rw [e3]
      show s.1 ≤ x' + c'.1
      rw [f2]
      omega
/-- a plan that is found keeps up over each stretch from here -/
theorem plan_stretch {coals : List Int} {low high : Int} : ∀ (cd : List (List Int × Int)) (here : Int) (s : Int × Int), (∀ q ∈ cd, RowV coals q.1) → look (dct coals low high cd) here = some s → ∀ m < cd.length, ((cd.take (m + 1)).map fun q => q.2).sum + low ≤ here + ((cd.take (m + 1)).map fun q => q.1.sum).sum
  | [], _, _, _, _, m, hm => absurd hm (Nat.not_lt_zero _)
  | q :: l, here, s, hv, e, m, hm => by
    rw [dct_cons] at e
    obtain ⟨g1, g2, n, x, c, e1, e2, e3, e4⟩ := step_some e
    obtain ⟨f1, f2⟩ := costs_get e1
    have hs := sum_nn' (hv q List.mem_cons_self).nn
    have hin := dct_in e2
    rw [List.take_succ_cons, List.map_cons, List.map_cons, List.sum_cons, List.sum_cons]
    cases m with
    | zero =>
      rw [List.take_zero]
      show q.2 + 0 + low ≤ here + (q.1.sum + 0)
      omega
    | succ m =>
      have ih := plan_stretch l _ c (fun z hz => hv z (List.mem_cons_of_mem _ hz)) e2 m (Nat.lt_of_succ_lt_succ hm)
      omega
theorem plan_drop {coals : List Int} {low high : Int} : ∀ (a : Nat) (cd : List (List Int × Int)) (here : Int) (s : Int × Int), look (dct coals low high cd) here = some s → ∃ h s', look (dct coals low high (cd.drop a)) h = some s' ∧ (a = 0 → h = here)
  | 0, cd, here, s, e => ⟨here, s, e, fun _ => rfl⟩
  | a + 1, [], here, s, e => ⟨here, s, e, fun z => by cases z⟩
  | a + 1, q :: l, here, s, e => by
    rw [dct_cons] at e
    obtain ⟨g1, g2, n, x, c, e1, e2, e3, e4⟩ := step_some e
    obtain ⟨h, s', e5, _⟩ := plan_drop a l _ c e2
    exact ⟨h, s', e5, fun z => by cases z⟩
/-- all that can be made keeps up -/
def fullOk (low high : Int) : Int → List (List Int × Int) → Prop
  | _, [] => True
  | here, q :: l => low ≤ here + q.1.sum - q.2 ∧ fullOk low high (min (here + q.1.sum - q.2) high) l
theorem full_plan {coals : List Int} {low high : Int} (hlh : low ≤ high) : ∀ (cd : List (List Int × Int)) (here : Int), (∀ q ∈ cd, RowV coals q.1) → low ≤ here → here ≤ high → fullOk low high here cd → ∃ s, look (dct coals low high cd) here = some s
  | [], here, _, h1, h2, _ => by
    rw [show dct coals low high [] = dict0 low high from rfl, look_zero, if_pos (here_mem.mpr ⟨h1, h2⟩)]
    exact ⟨_, rfl⟩
  | q :: l, here, hv, h1, h2, hf => by
    obtain ⟨f1, f2⟩ := hf
    obtain ⟨c, hc⟩ := full_plan hlh l _ (fun z hz => hv z (List.mem_cons_of_mem _ hz)) (by omega) (by omega) f2
    have hs := sum_nn' (hv q List.mem_cons_self).nn
    have hx := costs_at (o := ord coals) (coals := coals) (caps := q.1) (n := q.1.sum.toNat) (Nat.le_refl _)
    rw [dct_cons]
    cases hk : look (stepDict (costsOf (ord coals) coals q.1) (dct coals low high l) q.2 low high) here with
    | some s => exact ⟨s, rfl⟩
    | none =>
      have := step_none hk h1 h2 _ _ hx
      rw [show here + ((q.1.sum.toNat : Nat) : Int) - q.2 = here + q.1.sum - q.2 from by omega] at this
      have hc' : look (dct coals low high l) (min (here + q.1.sum - q.2) high) = some c := hc
      rw [this] at hc'
      cases hc'
theorem day_cons {low high : Int} {h : Nat} {here : Int} {q : Int × List Int} {rest : List (Int × List Int)} : dayRun low high h here (q :: rest) = if here + q.2.sum - q.1 < low then ([], some (h, low - (here + q.2.sum - q.1)))
    else ((q.2.sum, q.1, here + q.2.sum - q.1 - min (here + q.2.sum - q.1) high, min (here + q.2.sum - q.1) high) :: (dayRun low high (h + 1) (min (here + q.2.sum - q.1) high) rest).1, (dayRun low high (h + 1) (min (here + q.2.sum - q.1) high) rest).2) := rfl
def RowIn (caps row : List Int) : Prop := row.length = caps.length ∧ ∀ i, 0 ≤ row.getD i 0 ∧ row.getD i 0 ≤ caps.getD i 0
theorem plan_rows {coals : List Int} {low high : Int} : ∀ (cd : List (List Int × Int)) (here : Int) (s : Int × Int), (∀ q ∈ cd, RowV coals q.1) → look (dct coals low high cd) here = some s →
    (planRows (ord coals) coals low high here cd).length = cd.length ∧ (∀ q ∈ cd.zip (planRows (ord coals) coals low high here cd), RowIn q.1.1 q.2) ∧ ((planRows (ord coals) coals low high here cd).map fun row => rowCoal coals row).sum = s.1 ∧
    ∀ h, (dayRun low high h here ((cd.map fun q => q.2).zip (planRows (ord coals) coals low high here cd))).2 = none
  | [], here, s, _, e => by
    rw [show dct coals low high [] = dict0 low high from rfl, look_zero] at e
    refine ⟨rfl, (fun q hq => (nomatch hq)), ?_, fun h => rfl⟩
    by_cases hm : here ∈ hereAt low high
    · rw [if_pos hm] at e
      rw [← Option.some.inj e]
      rfl
    · rw [if_neg hm] at e; cases e
  | q :: l, here, s, hv, e => by
    have e0 : look (dictOf (ord coals) coals low high (q :: l)) here = some s := e
    rw [dct_cons] at e
    obtain ⟨g1, g2, n, x, c, e1, e2, e3, e4⟩ := step_some e
    obtain ⟨f1, f2⟩ := costs_get e1
    have hrv := hv q List.mem_cons_self
    have hs := sum_nn' hrv.nn
    have hin := dct_in e2
    have hmade := made_ok (caps := q.1) (coals := coals) (a := (n : Nat)) (by rw [hrv.len]) hrv.nn (by omega) (by omega)
    have hp : planRows (ord coals) coals low high here (q :: l) = rowMadeBy (ord coals) q.1 (n : Nat) :: planRows (ord coals) coals low high (min (here + (n : Nat) - q.2) high) l := by
      show rowMadeBy (ord coals) q.1 ((look (dictOf (ord coals) coals low high (q :: l)) here).getD (0, 0)).2 :: planRows (ord coals) coals low high (min (here + ((look (dictOf (ord coals) coals low high (q :: l)) here).getD (0, 0)).2 - q.2) high) l = _
      rw [e0, e3]
      rfl
    obtain ⟨i1, i2, i3, i4⟩ := plan_rows l _ c (fun z hz => hv z (List.mem_cons_of_mem _ hz)) e2
    rw [hp]
    refine ⟨by rw [List.length_cons, List.length_cons, i1], fun z hz => ?_, ?_, fun h => ?_⟩
    · rw [List.zip_cons_cons] at hz
      rcases List.mem_cons.mp hz with rfl | hz
      · exact ⟨hmade.len, hmade.rng⟩
      · exact i2 z hz
    · rw [List.map_cons, List.sum_cons, i3, e3, f2]
    · rw [List.map_cons, List.zip_cons_cons, day_cons]
      show (if here + (rowMadeBy (ord coals) q.1 (n : Nat)).sum - q.2 < low then _ else _ : List (Int × Int × Int × Int) × Option (Nat × Int)).2 = none
      rw [hmade.sum, if_neg (by omega)]
      exact i4 (h + 1)
end Mf
/-! the plain law: stretches, plans by caps and draws -/
namespace Mf
theorem zip_drop' {α β : Type} : ∀ (a : Nat) (xs : List α) (ys : List β), (xs.zip ys).drop a = (xs.drop a).zip (ys.drop a)
  | 0, xs, ys => rfl
  | a + 1, [], ys => by rw [List.zip_nil_left, List.drop_nil, List.drop_nil, List.zip_nil_left]
  | a + 1, x :: xs, [] => by rw [List.zip_nil_right, List.drop_nil, List.drop_nil, List.zip_nil_right]
  | a + 1, x :: xs, y :: ys => by rw [List.zip_cons_cons, List.drop_succ_cons, List.drop_succ_cons, List.drop_succ_cons, zip_drop' a xs ys]
theorem zip_take' {α β : Type} : ∀ (a : Nat) (xs : List α) (ys : List β), (xs.zip ys).take a = (xs.take a).zip (ys.take a)
  | 0, xs, ys => rfl
  | a + 1, [], ys => by rw [List.zip_nil_left, List.take_nil, List.take_nil, List.zip_nil_left]
  | a + 1, x :: xs, [] => by rw [List.zip_nil_right, List.take_nil, List.take_nil, List.zip_nil_right]
  | a + 1, x :: xs, y :: ys => by rw [List.zip_cons_cons, List.take_succ_cons, List.take_succ_cons, List.take_succ_cons, List.zip_cons_cons, zip_take' a xs ys]
theorem zip_sums : ∀ {xs : List (List Int)} {ys : List Int}, xs.length = ys.length → ((xs.zip ys).map fun q => q.1.sum - q.2).sum = (xs.map List.sum).sum - ys.sum
  | [], [], _ => rfl
  | x :: xs, y :: ys, h => by
    have ih := zip_sums (xs := xs) (ys := ys) (Nat.succ.inj h)
    rw [List.zip_cons_cons, List.map_cons, List.sum_cons, ih, List.map_cons, List.sum_cons, List.sum_cons]
    show x.sum - y + _ = _
    omega
theorem zip_fst : ∀ {xs : List (List Int)} {ys : List Int}, xs.length = ys.length → ((xs.zip ys).map fun q => q.1.sum) = xs.map List.sum
  | [], [], _ => rfl
  | x :: xs, y :: ys, h => by rw [List.zip_cons_cons, List.map_cons, zip_fst (Nat.succ.inj h), List.map_cons]
theorem zip_snd : ∀ {xs : List (List Int)} {ys : List Int}, xs.length = ys.length → ((xs.zip ys).map fun q => q.2) = ys
  | [], [], _ => rfl
  | x :: xs, y :: ys, h => by rw [List.zip_cons_cons, List.map_cons, zip_snd (Nat.succ.inj h)]
def seg (cd : List (List Int × Int)) (a j : Nat) : Int := (((cd.drop a).take (j - a)).map fun q => q.1.sum - q.2).sum
theorem seg_self {cd : List (List Int × Int)} {a : Nat} : seg cd a a = 0 := by
  unfold seg
  rw [Nat.sub_self, List.take_zero]
  rfl
theorem sum_app : ∀ {l m : List Int}, (l ++ m).sum = l.sum + m.sum
  | [], m => by rw [List.nil_append, List.sum_nil]; omega
  | x :: l, m => by rw [List.cons_append, List.sum_cons, sum_app, List.sum_cons]; omega
theorem seg_snoc {cd : List (List Int × Int)} {a j : Nat} {q : List Int × Int} (h : a ≤ j) (hq : cd[j]? = some q) : seg cd a (j + 1) = seg cd a j + (q.1.sum - q.2) := by
  unfold seg
  have hq' : (cd.drop a)[j - a]? = some q := by rw [List.getElem?_drop, show a + (j - a) = j from by omega, hq]
  rw [show j + 1 - a = (j - a) + 1 from by omega, take_snoc hq', List.map_append, sum_app]
  congr 1
  show q.1.sum - q.2 + 0 = _
  omega
theorem short_seg {low high start : Int} {caps : List (List Int)} {draws : List Int} {a b : Nat} (hl : caps.length = draws.length) : isShort low high start caps draws a b = decide ((if a = 0 then start else high) + seg (caps.zip draws) a (b + 1) < low) := by
  unfold isShort seg
  rw [zip_drop', zip_take', zip_sums (by rw [List.length_take, List.length_take, List.length_drop, List.length_drop, hl])]
  generalize (if a = 0 then start else high) = t
  by_cases h : t + (((caps.drop a).take (b + 1 - a)).map List.sum).sum < ((draws.drop a).take (b + 1 - a)).sum + low
  · rw [decide_eq_true h, decide_eq_true (by omega)]
  · rw [decide_eq_false h, decide_eq_false (by omega)]
theorem full_of {low high start : Int} {cd : List (List Int × Int)} (hs : ∀ a b, a ≤ b → b < cd.length → ¬ (if a = 0 then start else high) + seg cd a (b + 1) < low) : ∀ (k j : Nat) (here : Int) (a : Nat), j + k = cd.length → a ≤ j → here = (if a = 0 then start else high) + seg cd a j → fullOk low high here (cd.drop j)
  | 0, j, here, a, h1, h2, h3 => by
    rw [List.drop_eq_nil_of_le (by omega)]
    trivial
  | k + 1, j, here, a, h1, h2, h3 => by
    have hj : j < cd.length := by omega
    have hq : cd[j]? = some cd[j] := List.getElem?_eq_getElem hj
    have hsn := seg_snoc h2 hq
    have hns := hs a j h2 hj
    rw [List.drop_eq_getElem_cons hj]
    refine ⟨by omega, ?_⟩
    by_cases hx : here + (cd[j]).1.sum - (cd[j]).2 ≤ high
    · exact full_of hs k (j + 1) _ a (by omega) (by omega) (by omega)
    · refine full_of hs k (j + 1) _ (j + 1) (by omega) (Nat.le_refl _) ?_
      rw [seg_self, if_neg (by omega)]
      omega
theorem pairs_mem {n a b : Nat} : (a, b) ∈ pairsUpto n ↔ a ≤ b ∧ b < n := by
  unfold pairsUpto
  rw [List.mem_flatMap]
  constructor
  · rintro ⟨f, hf, h⟩
    obtain ⟨k, hk, e⟩ := List.mem_map.mp h
    have h1 := List.mem_range.mp hf
    have h2 := List.mem_range.mp hk
    have e1 : f = a := congrArg Prod.fst e
    have e2 : f + k = b := congrArg Prod.snd e
    omega
  · rintro ⟨h1, h2⟩
    refine ⟨a, List.mem_range.mpr (by omega), List.mem_map.mpr ⟨b - a, List.mem_range.mpr (by omega), ?_⟩⟩
    rw [show a + (b - a) = b from by omega]
structure CapV (p : Plant) (caps : List (List Int)) (draws : List Int) : Prop where
  l : caps.length = draws.length
  v : ∀ r ∈ caps, RowV (coalsOf p) r
theorem CapV.cd {p : Plant} {caps : List (List Int)} {draws : List Int} (h : CapV p caps draws) : ∀ q ∈ caps.zip draws, RowV (coalsOf p) q.1 := fun q hq => h.v q.1 (List.of_mem_zip hq).1
theorem planBy_none {p : Plant} {caps : List (List Int)} {draws : List Int} (h : look (dct (coalsOf p) p.low p.high (caps.zip draws)) p.start = none) : planBy (ord (coalsOf p)) p caps draws = none := by
  unfold planBy
  rw [show look (dictOf (ord (coalsOf p)) (coalsOf p) p.low p.high (caps.zip draws)) p.start = none from h]
theorem planBy_some {p : Plant} {caps : List (List Int)} {draws : List Int} {s : Int × Int} (h : look (dct (coalsOf p) p.low p.high (caps.zip draws)) p.start = some s) : planBy (ord (coalsOf p)) p caps draws = some (s.1, planRows (ord (coalsOf p)) (coalsOf p) p.low p.high p.start (caps.zip draws)) := by
  unfold planBy
  rw [show look (dictOf (ord (coalsOf p)) (coalsOf p) p.low p.high (caps.zip draws)) p.start = some s from h]
theorem short_of_none {p : Plant} (hp : p.Ok) {caps : List (List Int)} {draws : List Int} (h : CapV p caps draws) (hn : planBy (ord (coalsOf p)) p caps draws = none) : ∃ a b, shortBy p caps draws = some (a, b) ∧ a ≤ b ∧ b < draws.length ∧ isShort p.low p.high p.start caps draws a b = true := by
  cases hs : shortBy p caps draws with
  | some q =>
    obtain ⟨a, b⟩ := q
    unfold shortBy at hs
    have h1 := List.mem_of_find?_eq_some hs
    have h2 := List.find?_some hs
    obtain ⟨g1, g2⟩ := pairs_mem.mp h1
    exact ⟨a, b, rfl, g1, g2, h2⟩
  | none =>
    exfalso
    unfold shortBy at hs
    have h1 := List.find?_eq_none.mp hs
    have hlen : (caps.zip draws).length = draws.length := by rw [List.length_zip, h.l, Nat.min_self]
    have hf := full_of (low := p.low) (high := p.high) (start := p.start) (cd := caps.zip draws) (fun a b hab hb z => by
      have := h1 (a, b) (pairs_mem.mpr ⟨hab, by omega⟩)
      rw [short_seg h.l] at this
      exact this (decide_eq_true z)) draws.length 0 p.start 0 (by omega) (Nat.le_refl _) (by rw [seg_self, if_pos rfl]; omega)
    rw [List.drop_zero] at hf
    obtain ⟨s, hs2⟩ := full_plan (coals := coalsOf p) (Int.le_trans hp.s1 hp.s2) _ p.start h.cd hp.s1 hp.s2 hf
    rw [planBy_some hs2] at hn
    cases hn
theorem none_of_short {p : Plant} {caps : List (List Int)} {draws : List Int} (h : CapV p caps draws) {a b : Nat} (hab : a ≤ b) (hb : b < draws.length) (hs : isShort p.low p.high p.start caps draws a b = true) : planBy (ord (coalsOf p)) p caps draws = none := by
  cases hl : look (dct (coalsOf p) p.low p.high (caps.zip draws)) p.start with
  | none => exact planBy_none hl
  | some s =>
    exfalso
    have hlen : (caps.zip draws).length = draws.length := by rw [List.length_zip, h.l, Nat.min_self]
    obtain ⟨g, s', e, e0⟩ := plan_drop a _ _ _ hl
    have hst := plan_stretch ((caps.zip draws).drop a) g s' (fun q hq => h.cd q (List.mem_of_mem_drop hq)) e (b - a) (by rw [List.length_drop]; omega)
    have hin := dct_in e
    rw [short_seg h.l] at hs
    have hs' := of_decide_eq_true hs
    unfold seg at hs'
    rw [show b + 1 - a = b - a + 1 from by omega] at hs'
    have key : ∀ l : List (List Int × Int), (l.map fun q => q.1.sum - q.2).sum = (l.map fun q => q.1.sum).sum - (l.map fun q => q.2).sum := fun l => by
      induction l with
      | nil => rfl
      | cons x l ih =>
        rw [List.map_cons, List.sum_cons, ih, List.map_cons, List.sum_cons, List.map_cons, List.sum_cons]
        omega
    rw [key] at hs'
    by_cases ha : a = 0
    · rw [if_pos ha] at hs'
      have := e0 ha
      omega
    · rw [if_neg ha] at hs'
      omega
theorem plan_some {p : Plant} {caps : List (List Int)} {draws : List Int} (h : CapV p caps draws) {c : Int} {rows : List (List Int)} (hs : planBy (ord (coalsOf p)) p caps draws = some (c, rows)) :
    rows.length = caps.length ∧ (∀ q ∈ caps.zip rows, RowIn q.1 q.2) ∧ coalIn p rows = c ∧ keepsUp p draws rows = true := by
  have hlen : (caps.zip draws).length = caps.length := by rw [List.length_zip, h.l, Nat.min_self]
  cases hl : look (dct (coalsOf p) p.low p.high (caps.zip draws)) p.start with
  | none => rw [planBy_none hl] at hs; cases hs
  | some s =>
    rw [planBy_some hl] at hs
    obtain ⟨i1, i2, i3, i4⟩ := plan_rows _ _ _ h.cd hl
    have e1 : s.1 = c := congrArg Prod.fst (Option.some.inj hs)
    have e2 : planRows (ord (coalsOf p)) (coalsOf p) p.low p.high p.start (caps.zip draws) = rows := congrArg Prod.snd (Option.some.inj hs)
    rw [e2] at i1 i2 i3 i4
    refine ⟨by rw [i1, hlen], fun q hq => ?_, by rw [← e1]; exact i3, ?_⟩
    · obtain ⟨i, hi⟩ := List.mem_iff_getElem?.mp hq
      obtain ⟨h1, h2⟩ := zip_get hi
      have hil : i < draws.length := by
        have := (List.getElem?_eq_some_iff.mp h1).1
        have := h.l
        omega
      have hz : (caps.zip draws)[i]? = some (q.1, draws[i]) := List.getElem?_zip_eq_some.mpr ⟨h1, List.getElem?_eq_getElem hil⟩
      exact i2 ((q.1, draws[i]), q.2) (List.mem_iff_getElem?.mpr ⟨i, List.getElem?_zip_eq_some.mpr ⟨hz, h2⟩⟩)
    · unfold keepsUp
      have := i4 0
      rw [zip_snd h.l] at this
      rw [this]
      rfl
end Mf
/-! the plain law: the facts -/
namespace Mf
theorem sets_back0 : ∀ many < 5, ∀ b < many, othersOf many ((b : Nat) : Int) ∈ setsOf many (many - 1) := by decide +kernel
def mask (ch : List Int) (r : List Int) : List Int := r.zipIdx.map fun q => if ch.contains ((q.2 : Nat) : Int) then q.1 else 0
theorem capsAlone_mask {caps : List (List Int)} {ch : List Int} : capsAlone caps ch = caps.map (mask ch) := rfl
theorem mask_len {ch r : List Int} : (mask ch r).length = r.length := by unfold mask; rw [List.length_map, List.length_zipIdx]
theorem mask_get {ch r : List Int} {i : Nat} : (mask ch r).getD i 0 = if ch.contains ((i : Nat) : Int) then r.getD i 0 else 0 := by
  unfold mask
  rw [List.getD_eq_getElem?_getD, List.getElem?_map, List.getElem?_zipIdx, List.getD_eq_getElem?_getD]
  cases r[i]? with
  | none => show (0 : Int) = _; split <;> rfl
  | some x =>
    show (if ch.contains ((0 + i : Nat) : Int) then x else 0) = _
    rw [Nat.zero_add]
    rfl
theorem getD_ext : ∀ {l m : List Int}, l.length = m.length → (∀ i, l.getD i 0 = m.getD i 0) → l = m
  | [], [], _, _ => rfl
  | x :: l, y :: m, hl, h => by
    have h1 := h 0
    rw [List.getD_cons_zero, List.getD_cons_zero] at h1
    rw [h1, getD_ext (l := l) (m := m) (Nat.succ.inj hl) fun i => by
      have := h (i + 1)
      rw [List.getD_cons_succ, List.getD_cons_succ] at this
      exact this]
theorem upTo_mem {n : Nat} {c : Int} : c ∈ upTo n ↔ 0 ≤ c ∧ c < n := by
  unfold upTo
  rw [List.mem_map]
  constructor
  · rintro ⟨i, hi, rfl⟩
    have := List.mem_range.mp hi
    omega
  · rintro ⟨h1, h2⟩
    exact ⟨c.toNat, List.mem_range.mpr (by omega), by omega⟩
theorem mask_all {n : Nat} {r : List Int} (h : r.length = n) : mask (upTo n) r = r := getD_ext mask_len fun i => by
  rw [mask_get]
  by_cases hi : i < n
  · rw [if_pos (List.contains_iff_mem.mpr (upTo_mem.mpr ⟨by omega, by omega⟩))]
  · rw [if_neg (fun z => hi (by have := (upTo_mem.mp (List.contains_iff_mem.mp z)).2; omega)), List.getD_eq_getElem?_getD, List.getElem?_eq_none (by omega)]
    rfl
theorem cap_getD {p : Plant} (hp : p.Ok) {s : Story} {r : List Int} (h : r ∈ capsBy p s) : RowV (coalsOf p) r := by
  refine ⟨by rw [caps_row h, coals_len], fun i => ?_⟩
  rw [List.getD_eq_getElem?_getD]
  cases hx : r[i]? with
  | none => exact Int.le_refl _
  | some x => exact (caps_le hp h x (List.mem_of_getElem? hx)).1
theorem mask_row {coals ch r : List Int} (h : RowV coals r) : RowV coals (mask ch r) := ⟨by rw [mask_len, h.len], fun i => by
  rw [mask_get]
  split
  · exact h.nn i
  · exact Int.le_refl _⟩
theorem capv {p : Plant} (hp : p.Ok) {s : Story} (ch : List Int) : CapV p (capsAlone (capsBy p s) ch) (drawsBy p s) := by
  refine ⟨by rw [capsAlone_mask, List.length_map, caps_len, draws_len], fun r hr => ?_⟩
  rw [capsAlone_mask] at hr
  obtain ⟨x, hx, rfl⟩ := List.mem_map.mp hr
  exact mask_row (cap_getD hp hx)
theorem alone_all {p : Plant} {s : Story} : capsAlone (capsBy p s) (upTo p.boilers.length) = capsBy p s := by
  rw [capsAlone_mask]
  refine (List.map_congr_left fun r hr => ?_).trans (List.map_id _)
  exact mask_all (caps_row hr)
theorem le_cd {coals ch ch' : List Int} (hsub : ∀ c ∈ ch', c ∈ ch) : ∀ {caps : List (List Int)} {draws : List Int}, (∀ r ∈ caps, RowV coals r) → LeCd coals ((caps.map (mask ch')).zip draws) ((caps.map (mask ch)).zip draws)
  | [], draws, _ => .nil
  | r :: caps, [], _ => by rw [List.zip_nil_right, List.zip_nil_right]; exact .nil
  | r :: caps, d :: draws, h => by
    have hr := h r List.mem_cons_self
    refine .cons (mask_row hr) (by rw [mask_len, hr.len]) (fun i => ?_) (le_cd hsub fun x hx => h x (List.mem_cons_of_mem _ hx))
    rw [mask_get, mask_get]
    by_cases h1 : ch'.contains ((i : Nat) : Int) = true
    · rw [if_pos h1, if_pos (List.contains_iff_mem.mpr (hsub _ (List.contains_iff_mem.mp h1)))]
      exact Int.le_refl _
    · rw [if_neg h1]
      split
      · exact hr.nn i
      · exact Int.le_refl _
/-- more boilers: a plan that costs no more -/
theorem plan_sub {p : Plant} (hp : p.Ok) {s : Story} {ch ch' : List Int} (hsub : ∀ c ∈ ch', c ∈ ch) {c' : Int} {r' : List (List Int)} (h : planFor p s ch' = some (c', r')) : ∃ c r, planFor p s ch = some (c, r) ∧ c ≤ c' := by
  have hle := le_cd (coals := coalsOf p) (draws := drawsBy p s) hsub (caps := capsBy p s) fun r hr => cap_getD hp hr
  have hn : ∀ c ∈ coalsOf p, 0 ≤ c := fun c hc => ((cls_of hp).b c hc).1
  have h' : planBy (ord (coalsOf p)) p (capsAlone (capsBy p s) ch') (drawsBy p s) = some (c', r') := h
  cases hl : look (dct (coalsOf p) p.low p.high ((capsAlone (capsBy p s) ch').zip (drawsBy p s))) p.start with
  | none => rw [planBy_none hl] at h'; cases h'
  | some st =>
    rw [planBy_some hl] at h'
    obtain ⟨t, h1, h2⟩ := plan_mono hn hle p.start st hl
    have e1 : st.1 = c' := congrArg Prod.fst (Option.some.inj h')
    exact ⟨t.1, _, planBy_some h1, by omega⟩
theorem show_of {p : Plant} (hp : p.Ok) {s : Story} {ch : List Int} (h : planFor p s ch = none) : ShowOk p s ch (shortOf p s ch) := by
  obtain ⟨a, b, h1, h2, h3, h4⟩ := short_of_none hp (capv hp ch) h
  exact ⟨a, b, h1, h2, h3, h4⟩
theorem none_of_shortOf {p : Plant} (hp : p.Ok) {s : Story} {ch : List Int} (h : (shortOf p s ch).isSome = true) : planFor p s ch = none := by
  obtain ⟨q, hq⟩ := Option.isSome_iff_exists.mp h
  obtain ⟨a, b⟩ := q
  unfold shortOf shortBy at hq
  have h1 := List.mem_of_find?_eq_some hq
  have h2 := List.find?_some hq
  obtain ⟨g1, g2⟩ := pairs_mem.mp h1
  exact none_of_short (capv hp ch) g1 g2 h2
theorem set_ok {n k : Nat} (hn : n ≤ 4) (hk : k ≤ 4) {ch : List Int} (h : ch ∈ setsOf n k) : SetOk n ch ∧ ch.length = k := by
  have h1 := sets_ok1 n (by omega) k (by omega) ch h
  exact ⟨⟨by omega, sets_ok2 n (by omega) k (by omega) ch h, sets_ok3 n (by omega) k (by omega) ch h⟩, h1⟩
theorem all_mem {n size : Nat} {ch : List Int} : (size, ch) ∈ allSets n ↔ size ≤ n ∧ ch ∈ setsOf n size := by
  unfold allSets
  rw [List.mem_flatMap]
  constructor
  · rintro ⟨k, hk, h⟩
    obtain ⟨x, hx, e⟩ := List.mem_map.mp h
    have e1 : k = size := congrArg Prod.fst e
    have e2 : x = ch := congrArg Prod.snd e
    subst e1 e2
    exact ⟨by have := List.mem_range.mp hk; omega, hx⟩
  · rintro ⟨h1, h2⟩
    exact ⟨size, List.mem_range.mpr (by omega), List.mem_map.mpr ⟨ch, h2, rfl⟩⟩
/-- what is found first: all that are smaller are not -/
theorem first_of {β : Type} {f : Nat → List β} {q : Nat × β → Bool} : ∀ (l : List Nat) {x : Nat × β}, l.Pairwise (· < ·) → (l.flatMap fun k => (f k).map fun b => (k, b)).find? q = some x → x.1 ∈ l ∧ x.2 ∈ f x.1 ∧ q x = true ∧ ∀ k ∈ l, k < x.1 → ∀ b ∈ f k, q (k, b) = false
  | [], x, _, h => by cases h
  | k :: l, x, hp, h => by
    rw [List.flatMap_cons, List.find?_append] at h
    cases hf : ((f k).map fun b => (k, b)).find? q with
    | some y =>
      rw [hf] at h
      obtain rfl : y = x := Option.some.inj h
      have h1 := List.mem_of_find?_eq_some hf
      obtain ⟨b, hb, e⟩ := List.mem_map.mp h1
      subst e
      refine ⟨List.mem_cons_self, hb, List.find?_some hf, fun k' hk' hlt => ?_⟩
      rcases List.mem_cons.mp hk' with rfl | hk'
      · exact absurd hlt (Nat.lt_irrefl _)
      · have := List.rel_of_pairwise_cons hp hk'
        exact absurd hlt (by show ¬ k' < k; omega)
    | none =>
      rw [hf] at h
      obtain ⟨i1, i2, i3, i4⟩ := first_of l (List.Pairwise.of_cons hp) h
      refine ⟨List.mem_cons_of_mem _ i1, i2, i3, fun k' hk' hlt b hb => ?_⟩
      rcases List.mem_cons.mp hk' with rfl | hk'
      · have := List.find?_eq_none.mp hf (k', b) (List.mem_map.mpr ⟨b, hb, rfl⟩)
        exact Bool.eq_false_iff.mpr this
      · exact i4 k' hk' hlt b hb
theorem others_mem {n : Nat} {b c : Int} : c ∈ othersOf n b ↔ (0 ≤ c ∧ c < n) ∧ c ≠ b := by
  unfold othersOf
  rw [List.mem_filter, upTo_mem, decide_eq_true_eq]
theorem planAll_eq {p : Plant} {s : Story} : planFor p s (upTo p.boilers.length) = planAll p s := by
  unfold planFor planOf planAll
  rw [alone_all]
theorem facts_all (p : Plant) (s : Story) (hp : p.Ok) (hs : s.Ok p) : Facts p s := by
  have b4 := hp.b4; have b1 := hp.b1
  refine ⟨fun h => ?_, fun size ch h => ?_⟩
  · have hall : ∀ size ch, size ≤ p.boilers.length → ch ∈ setsOf p.boilers.length size → planFor p s ch = none := fun size ch h1 h2 => by
      have := List.find?_eq_none.mp h (size, ch) (all_mem.mpr ⟨h1, h2⟩)
      cases hc : planFor p s ch with
      | none => rfl
      | some q =>
        exfalso
        refine this ?_
        show (planFor p s ch).isSome = true
        rw [hc]
        rfl
    have hfull := hall _ _ (Nat.le_refl _) (sets_all0 p.boilers.length (by omega))
    obtain ⟨a, b, e1, e2, e3, e4⟩ := show_of hp hfull
    rw [alone_all] at e4
    have e5 : shortBy p (capsBy p s) (drawsBy p s) = some (a, b) := by
      have : shortOf p s (upTo p.boilers.length) = shortBy p (capsBy p s) (drawsBy p s) := by unfold shortOf; rw [alone_all]
      rw [← this, e1]
    refine ⟨by rw [← planAll_eq]; exact hfull, ?_, a, b, e1, e5, e2, e3, e4⟩
    unfold neededOf
    refine List.filter_eq_self.mpr fun x hx => ?_
    obtain ⟨h1, h2⟩ := upTo_mem.mp hx
    have hset := sets_back0 p.boilers.length (by omega) x.toNat (by omega)
    rw [show ((x.toNat : Nat) : Int) = x from by omega] at hset
    obtain ⟨a', b', e6, _⟩ := show_of hp (hall _ _ (by omega) hset)
    rw [e6]
    rfl
  · obtain ⟨f1, f2, f3, f4⟩ := first_of (f := setsOf p.boilers.length) (q := fun q => (planFor p s q.2).isSome) (List.range (p.boilers.length + 1)) List.pairwise_lt_range h
    have hsize : size ≤ p.boilers.length := by have : size < p.boilers.length + 1 := List.mem_range.mp f1; omega
    have hmem : ch ∈ setsOf p.boilers.length size := f2
    obtain ⟨hso, hsl⟩ := set_ok b4 (by omega) hmem
    have hless : ∀ k, k < size → ∀ ch' ∈ setsOf p.boilers.length k, planFor p s ch' = none := fun k hk ch' hch' => by
      have := f4 k (List.mem_range.mpr (by omega)) hk ch' hch'
      cases hc : planFor p s ch' with
      | none => rfl
      | some q =>
        have z : (planFor p s ch').isSome = false := this
        rw [hc] at z
        cases z
    obtain ⟨⟨c, rows⟩, hpl⟩ := Option.isSome_iff_exists.mp (show (planFor p s ch).isSome = true from f3)
    obtain ⟨c0, rows0, hpa, hc0⟩ := plan_sub hp (ch := upTo p.boilers.length) (fun x hx => upTo_mem.mpr (hso.b x hx)) hpl
    obtain ⟨p1, p2, p3, p4⟩ := plan_some (capv hp ch) hpl
    have hrl : rows.length = (capsBy p s).length := by rw [p1, capsAlone_mask, List.length_map]
    have hrow : ∀ q ∈ (capsBy p s).zip rows, RowIn (mask ch q.1) q.2 := fun q hq => by
      obtain ⟨i, hi⟩ := List.mem_iff_getElem?.mp hq
      obtain ⟨h1, h2⟩ := zip_get hi
      refine p2 (mask ch q.1, q.2) (List.mem_iff_getElem?.mpr ⟨i, List.getElem?_zip_eq_some.mpr ⟨?_, h2⟩⟩)
      rw [capsAlone_mask, List.getElem?_map, h1]
      rfl
    have hzero : ∀ row ∈ rows, ∀ i : Nat, ((i : Nat) : Int) ∉ ch → row.getD i 0 = 0 := fun row hr i hi => by
      obtain ⟨x, hx⟩ := zip_mem_r hrl.symm hr
      have := (hrow (x, row) hx).2 i
      have e : (mask ch x).getD i 0 = 0 := by
        rw [mask_get, if_neg fun z => hi (List.contains_iff_mem.mp z)]
      have e' : 0 ≤ row.getD i 0 ∧ row.getD i 0 ≤ (mask ch x).getD i 0 := this
      omega
    refine ⟨c, rows, c0, rows0, hpl, by rw [← planAll_eq]; exact hpa, hso, hsl, ?_, p4, ?_, fun k hk ch' hch' => show_of hp (hless k (by omega) ch' hch'), hc0, by omega, ?_, ?_, ?_, ?_, ?_⟩
    · unfold firingOk
      rw [Bool.and_eq_true, decide_eq_true_eq, List.all_eq_true]
      refine ⟨hrl, fun q hq => ?_⟩
      obtain ⟨h1, h2⟩ := hrow q hq
      rw [mask_len] at h1
      unfold rowOk
      rw [Bool.and_eq_true, decide_eq_true_eq, List.all_eq_true]
      refine ⟨h1, fun z hz => ?_⟩
      obtain ⟨i, hi⟩ := List.mem_iff_getElem?.mp hz
      obtain ⟨g1, g2⟩ := zip_get hi
      have h3 := h2 i
      have hnn := (cap_getD hp (List.of_mem_zip hq).1).nn i
      rw [mask_get] at h3
      have e1 : q.1.getD i 0 = z.1 := by rw [List.getD_eq_getElem?_getD, g1]; rfl
      have e2 : q.2.getD i 0 = z.2 := by rw [List.getD_eq_getElem?_getD, g2]; rfl
      rw [e1, e2] at h3
      rw [e1] at hnn
      rw [Bool.and_eq_true, decide_eq_true_eq, decide_eq_true_eq]
      refine ⟨h3.1, ?_⟩
      have := h3.2
      split at this <;> omega
    · intro row hr q hq
      by_cases hm : ((q.2 : Nat) : Int) ∈ ch
      · exact .inr hm
      · have := hzero row hr q.2 hm
        rw [List.getD_eq_getElem?_getD, zipIdx_mem hq] at this
        exact .inl this
    · intro b hb h0
      by_cases hm : ((b : Nat) : Int) ∈ ch
      · exact hm
      · exfalso
        have e : (rows.map fun row => row.getD b 0).sum = 0 := by
          have : ∀ l : List (List Int), (∀ row ∈ l, row.getD b 0 = 0) → (l.map fun row => row.getD b 0).sum = 0 := fun l => by
            induction l with
            | nil => intro _; rfl
            | cons x l ih =>
              intro hh
              rw [List.map_cons, List.sum_cons, hh x List.mem_cons_self, ih fun r hr => hh r (List.mem_cons_of_mem _ hr)]
              rfl
          exact this rows fun row hr => hzero row hr b hm
        omega
    · intro b hb
      unfold neededOf at hb
      obtain ⟨hb1, hb2⟩ := List.mem_filter.mp hb
      by_cases hm : b ∈ ch
      · exact hm
      · exfalso
        have hnone := none_of_shortOf hp hb2
        obtain ⟨c', r', h1, _⟩ := plan_sub hp (ch := othersOf p.boilers.length b) (fun x hx => others_mem.mpr ⟨hso.b x hx, fun e => hm (e ▸ hx)⟩) hpl
        rw [hnone] at h1
        cases h1
    · intro one ho
      cases size with
      | zero =>
        rw [List.length_eq_zero_iff.mp hsl] at ho
        cases ho
      | succ k => exact hless k (by omega) _ (sets_less0 p.boilers.length (by omega) k (by omega) ch hmem one ho)
    · intro one h1 h2
      exact plan_sub hp (fun x hx => (sortI_perm _).mem_iff.mpr (List.mem_append_left _ hx)) hpl
    · exact ⟨rows0, hpa⟩
end Mf
/-! the defs together, the head, the end -/
namespace Mf
open PySem PySem.Spec PyProof.Rows L2
section
variable {K : PySem.W.Frag} {mg : Str → Option Value} {h : Heap}
/-- a def by its name, from what the head says -/
theorem fd_of (X : K.In h) (G : h.Ns mainGlobals mg) (c : He.SaysD fa fn K) {x : Str} {st : Stmt} (i j : Nat) (h1 : fn[i]? = some ⟨(x, none), x, x, defArgs st, defBody st, defScope st, [], []⟩) (h2 : fa[j]? = some (.glo x)) : Fd K mg x st := by
  obtain ⟨fd, F⟩ := c.def_ i h1
  exact ⟨_, fd, F, He.glo_ok X G (c.fact j h2)⟩
theorem bi_of (X : K.In h) (G : h.Ns mainGlobals mg) (c : He.SaysD fa fn K) (ce : exq K = true) : Bi K mg where
  all := He.free_ok X G (c.fact 61 (f := .free "all") rfl)
  bool := He.free_ok X G (c.fact 62 (f := .free "bool") rfl)
  dict := He.free_ok X G (c.fact 63 (f := .free "dict") rfl)
  divmod := He.free_ok X G (c.fact 64 (f := .free "divmod") rfl)
  enumerate := He.free_ok X G (c.fact 65 (f := .free "enumerate") rfl)
  int := He.free_ok X G (c.fact 66 (f := .free "int") rfl)
  isinstance := He.free_ok X G (c.fact 67 (f := .free "isinstance") rfl)
  len := He.free_ok X G (c.fact 68 (f := .free "len") rfl)
  list := He.free_ok X G (c.fact 69 (f := .free "list") rfl)
  max := He.free_ok X G (c.fact 70 (f := .free "max") rfl)
  min := He.free_ok X G (c.fact 71 (f := .free "min") rfl)
  range := He.free_ok X G (c.fact 72 (f := .free "range") rfl)
  reversed := He.free_ok X G (c.fact 73 (f := .free "reversed") rfl)
  sorted := He.free_ok X G (c.fact 74 (f := .free "sorted") rfl)
  str := He.free_ok X G (c.fact 75 (f := .free "str") rfl)
  sum := He.free_ok X G (c.fact 76 (f := .free "sum") rfl)
  tuple := He.free_ok X G (c.fact 77 (f := .free "tuple") rfl)
  zip := He.free_ok X G (c.fact 78 (f := .free "zip") rfl)
  mBoil := He.int_ok X G (c.fact 79 (f := .int "MOST_BOILERS" 4) rfl)
  mEng := He.int_ok X G (c.fact 80 (f := .int "MOST_ENGINES" 4) rfl)
  mMain := He.int_ok X G (c.fact 81 (f := .int "MOST_MAIN" 40) rfl)
  mHours := He.int_ok X G (c.fact 82 (f := .int "MOST_HOURS" 8) rfl)
  mExtra := He.int_ok X G (c.fact 83 (f := .int "MOST_EXTRA" 20) rfl)
  mFaults := He.int_ok X G (c.fact 84 (f := .int "MOST_FAULTS" 4) rfl)
  faults := ⟨_, He.glo_ok X G (c.fact 85 (f := .glo "FAULTS") rfl), He.tupB_ok ce⟩
theorem law_ok {P : Program} {w : World} {base : Heap} (hF : ∀ p s, Plant.Ok p → Story.Ok p s → Facts p s) (X : K.In h) (G : h.Ns mainGlobals mg) (c : He.SaysD fa fn K) (ce : exq K = true) {f : Addr} {fd : FuncData} (F : FunD K "law" "law" (defArgs s_law) (defBody s_law) (defScope s_law) [] [] f fd) : FnOk P w K mg base CX0 10 f fd P_law (spD K R_law) := by
  have B := bi_of X G c ce
  have k__law_cell : C8.Cal P w K mg base 1 "_law_cell" (spD K R_lcell) [] := c_lcell B (fd_of X G c 48 48 rfl rfl)
  have k__law_pen : C8.Cal P w K mg base 1 "_law_pen" (spN K) [] := c_lpen B (fd_of X G c 49 49 rfl rfl)
  have k__law_draw : C8.Cal P w K mg base 1 "_law_draw" (spP K Pre_draw R_ldraw) [] := c_ldraw B (fd_of X G c 50 50 rfl rfl)
  have k__law_plant : C8.Cal P w K mg base 2 "_law_plant" (spP K Pre_plant R_lplant) [] := c_lplant k__law_draw B (fd_of X G c 51 51 rfl rfl)
  have k__law_story : C8.Cal P w K mg base 2 "_law_story" (spP K Pre_story R_lstory) [] := c_lstory k__law_draw B (fd_of X G c 52 52 rfl rfl)
  have k__law_mains : C8.Cal P w K mg base 1 "_law_mains" (spD K R_lmains) [] := c_lmains B (fd_of X G c 55 55 rfl rfl)
  have k__law_draws : C8.Cal P w K mg base 1 "_law_draws" (spD K R_ldraws) [] := c_ldraws B (fd_of X G c 54 54 rfl rfl)
  have k__law_keeps : C8.Cal P w K mg base 2 "_law_keeps" (spD K R_lkeeps) [] := c_lkeeps k__law_mains k__law_draws B (fd_of X G c 56 56 rfl rfl)
  have k__law_caps : C8.Cal P w K mg base 1 "_law_caps" (spD K R_lcaps) [] := c_lcaps B (fd_of X G c 53 53 rfl rfl)
  have k__law_pair : C8.Cal P w K mg base 3 "_law_pair" (spP K Pre_pair R_lpair) [] := c_lpair k__law_plant k__law_story k__law_keeps k__law_caps B (fd_of X G c 57 57 rfl rfl)
  have k__law_any_pair : C8.Cal P w K mg base 3 "_law_any_pair" (spP K Pre_pair R_lpair) [] := c_lanypair k__law_plant k__law_story B (fd_of X G c 58 58 rfl rfl)
  have k_is_within : C8.Cal P w K mg base 1 "is_within" (spD K R_is_within) [] := c_is_within B (fd_of X G c 0 0 rfl rfl)
  have k_are_within : C8.Cal P w K mg base 2 "are_within" (spD K R_are_within) [] := c_are_within k_is_within B (fd_of X G c 2 2 rfl rfl)
  have k_is_main : C8.Cal P w K mg base 3 "is_main" (spD K R_is_main) [] := c_is_main k_are_within B (fd_of X G c 3 3 rfl rfl)
  have k_is_plant : C8.Cal P w K mg base 4 "is_plant" (spD K R_is_plant) [] := c_is_plant k_are_within k_is_main B (fd_of X G c 4 4 rfl rfl)
  have k_need_plant : C8.Cal P w K mg base 5 "need_plant" (spD K R_need_plant) [] := c_need_plant k_is_plant (fd_of X G c 7 7 rfl rfl)
  have k_is_upto : C8.Cal P w K mg base 2 "is_upto" (spD K R_is_upto) [] := c_is_upto k_is_within B (fd_of X G c 1 1 rfl rfl)
  have k_is_fault : C8.Cal P w K mg base 3 "is_fault" (spD K R_is_fault) [] := c_is_fault k_is_upto B (fd_of X G c 5 5 rfl rfl)
  have k_is_story_of : C8.Cal P w K mg base 4 "is_story_of" (spD K R_is_story_of) [] := c_is_story_of k_is_within k_is_fault B (fd_of X G c 6 6 rfl rfl)
  have k_need_story : C8.Cal P w K mg base 6 "need_story" (spD K R_need_story) [] := c_need_story k_need_plant k_is_story_of (fd_of X G c 8 8 rfl rfl)
  have k_sets_of : C8.Cal P w K mg base 1 "sets_of" (spD K R_sets_of) [] := c_sets_of B (fd_of X G c 38 38 rfl rfl)
  have k_best_step : C8.Cal P w K mg base 1 "best_step" (spD K R_best_step) [] := c_best_step B (fd_of X G c 27 27 rfl rfl)
  have k_row_made : C8.Cal P w K mg base 1 "row_made" (spD K R_row_made) [] := c_row_made B (fd_of X G c 25 25 rfl rfl)
  have k_row_coal : C8.Cal P w K mg base 1 "row_coal" (spD K R_row_coal) [] := c_row_coal B (fd_of X G c 26 26 rfl rfl)
  have k_steps_by : C8.Cal P w K mg base 2 "steps_by" (spD K R_steps_by) [] := c_steps_by k_best_step k_row_made k_row_coal B (fd_of X G c 28 28 rfl rfl)
  have k_plan_by : C8.Cal P w K mg base 3 "plan_by" (spD K R_plan_by) [] := c_plan_by k_steps_by k_row_made B (fd_of X G c 29 29 rfl rfl)
  have k_coals_of : C8.Cal P w K mg base 1 "coals_of" (spD K R_coals_of) [] := c_coals_of B (fd_of X G c 24 24 rfl rfl)
  have k_cap_at : C8.Cal P w K mg base 1 "cap_at" (spD K R_cap_at) [] := c_cap_at B (fd_of X G c 9 9 rfl rfl)
  have k_caps_by : C8.Cal P w K mg base 2 "caps_by" (spD K R_caps_by) [] := c_caps_by k_cap_at B (fd_of X G c 10 10 rfl rfl)
  have k_caps_alone : C8.Cal P w K mg base 3 "caps_alone" (spD K R_caps_alone) [] := c_caps_alone k_caps_by B (fd_of X G c 36 36 rfl rfl)
  have k_draws_by : C8.Cal P w K mg base 1 "draws_by" (spD K R_draws_by) [] := c_draws_by B (fd_of X G c 11 11 rfl rfl)
  have k_plan_alone : C8.Cal P w K mg base 4 "plan_alone" (spD K R_plan_alone) [] := c_plan_alone k_plan_by k_coals_of k_caps_alone k_draws_by (fd_of X G c 37 37 rfl rfl)
  have k_is_short : C8.Cal P w K mg base 1 "is_short" (spD K R_is_short) [] := c_is_short B (fd_of X G c 21 21 rfl rfl)
  have k_short_by : C8.Cal P w K mg base 2 "short_by" (spD K R_short_by) [] := c_short_by k_is_short B (fd_of X G c 22 22 rfl rfl)
  have k_short_alone : C8.Cal P w K mg base 4 "short_alone" (spD K R_short_alone) [] := c_short_alone k_short_by k_caps_alone k_draws_by (fd_of X G c 39 39 rfl rfl)
  have k_shows_below : C8.Cal P w K mg base 5 "shows_below" (spD K R_shows_below) [] := c_shows_below k_sets_of k_short_alone B (fd_of X G c 40 40 rfl rfl)
  have k_fewest : C8.Cal P w K mg base 7 "fewest" (spD K R_fewest) [] := c_fewest k_need_story k_sets_of k_plan_alone k_shows_below k_short_alone B (fd_of X G c 41 41 rfl rfl)
  have k_best_plan : C8.Cal P w K mg base 4 "best_plan" (spD K R_best_plan) [] := c_best_plan k_plan_by k_coals_of k_caps_by k_draws_by (fd_of X G c 33 33 rfl rfl)
  have k_least_coal : C8.Cal P w K mg base 7 "least_coal" (spD K R_least_coal) [] := c_least_coal k_need_story k_best_plan (fd_of X G c 35 35 rfl rfl)
  have k_is_stretch : C8.Cal P w K mg base 3 "is_stretch" (spD K R_is_stretch) [] := c_is_stretch k_is_short k_is_upto B (fd_of X G c 23 23 rfl rfl)
  have k_is_set : C8.Cal P w K mg base 3 "is_set" (spD K R_is_set) [] := c_is_set k_is_upto B (fd_of X G c 42 42 rfl rfl)
  have k_is_row_of : C8.Cal P w K mg base 2 "is_row_of" (spD K R_is_row_of) [] := c_is_row_of k_is_within B (fd_of X G c 12 12 rfl rfl)
  have k_is_firing_of : C8.Cal P w K mg base 3 "is_firing_of" (spD K R_is_firing_of) [] := c_is_firing_of k_is_row_of k_caps_by B (fd_of X G c 13 13 rfl rfl)
  have k_day_run : C8.Cal P w K mg base 1 "day_run" (spD K R_day_run) [] := c_day_run B (fd_of X G c 15 15 rfl rfl)
  have k_run_of : C8.Cal P w K mg base 2 "run_of" (spD K R_run_of) [] := c_run_of k_day_run k_draws_by (fd_of X G c 16 16 rfl rfl)
  have k_does_keep_up : C8.Cal P w K mg base 3 "does_keep_up" (spD K R_does_keep_up) [] := c_does_keep_up k_run_of (fd_of X G c 17 17 rfl rfl)
  have k_does_with : C8.Cal P w K mg base 4 "does_with" (spD K R_does_with) [] := c_does_with k_is_firing_of k_does_keep_up B (fd_of X G c 43 43 rfl rfl)
  have k_are_shows : C8.Cal P w K mg base 4 "are_shows" (spD K R_are_shows) [] := c_are_shows k_sets_of k_draws_by k_caps_alone k_is_stretch B (fd_of X G c 44 44 rfl rfl)
  have k_fewest_holds : C8.Cal P w K mg base 7 "fewest_holds" (spD K R_fewest_holds) [] := c_fewest_holds k_need_story k_is_stretch k_caps_by k_draws_by k_is_set k_does_with k_are_shows B (fd_of X G c 45 45 rfl rfl)
  have k_cheapest : C8.Cal P w K mg base 7 "cheapest" (spD K R_cheapest) [] := c_cheapest k_need_story k_best_plan k_short_by k_caps_by k_draws_by (fd_of X G c 34 34 rfl rfl)
  have k_needed : C8.Cal P w K mg base 7 "needed" (spD K R_needed) [] := c_needed k_need_story k_short_alone B (fd_of X G c 47 47 rfl rfl)
  have k_alone : C8.Cal P w K mg base 7 "alone" (spD K R_alone) [] := c_alone k_need_story k_is_set k_plan_alone B (fd_of X G c 46 46 rfl rfl)
  have k_need_firing : C8.Cal P w K mg base 7 "need_firing" (spD K R_need_firing) [] := c_need_firing k_need_story k_is_firing_of (fd_of X G c 14 14 rfl rfl)
  have k_coal_in : C8.Cal P w K mg base 1 "coal_in" (spD K R_coal_in) [] := c_coal_in B (fd_of X G c 18 18 rfl rfl)
  have k_coal_of : C8.Cal P w K mg base 8 "coal_of" (spD K R_coal_of) [] := c_coal_of k_need_firing k_coal_in (fd_of X G c 19 19 rfl rfl)
  have k_steam_by : C8.Cal P w K mg base 8 "steam_by" (spD K R_steam_by) [] := c_steam_by k_need_firing B (fd_of X G c 20 20 rfl rfl)
  have k__law_right : C8.Cal P w K mg base 9 "_law_right" (spD K R_lright) [] := c_lright hF k_fewest k_least_coal k_fewest_holds k_cheapest k_needed k_alone k_coal_of k_steam_by B (fd_of X G c 59 59 rfl rfl)
  exact c_law k__law_cell k__law_pen k__law_pair k__law_any_pair k__law_right B F
end
end Mf
open PySem PySem.W PySem.Calls PyProof.Rows
theorem Mf.holds_of (hF : ∀ p s, Mf.Plant.Ok p → Mf.Story.Ok p s → Mf.Facts p s) : PySem.Challenge.rw_mainfires_k58_whole_fewest_and_alone.Holds := by
  w_on; o_law
  refine HandSHeadRun.head_any (r := OpenLaw.row PySem.Challenge.rw_mainfires_k58_whole_fewest_and_alone) (q := view (OpenLaw.row PySem.Challenge.rw_mainfires_k58_whole_fewest_and_alone).prog [80]) (H := Mf.hk) (ob := Mf.ob) (M := 6000) (loose := Mf.loose) (d := HandSHeadRun.topDef (OpenLaw.row PySem.Challenge.rw_mainfires_k58_whole_fewest_and_alone).prog 80) (kwd := []) Mf.ob_eq
    (by kernel_rfl) (fun s => by kernel_rfl) Mf.run (by kernel_rfl) (by kernel_rfl) (by kernel_rfl) (by rfl) (by first | assumption | decide +kernel) (by decide +kernel) ⟨rfl, rfl, rfl, rfl, rfl, by decide +kernel⟩ ?hw ?hc
  case hw => w_witness2
  case hc =>
    refine L2.walk_ofE (l := PySem.Challenge.rw_mainfires_k58_whole_fewest_and_alone) (n := 63) (k := 10) (x := "_law_script") (CX := L2.CX0) rfl (by decide) (by kernel_rfl) ⟨rfl, by decide, by decide⟩ ?F (fun _ _ _ _ z => z)
    intro w mg f h Y G hmg0
    obtain ⟨K, KX, c⟩ := Y
    have c1 : He.SaysD Mf.fa Mf.fn K := (Prod.mk.inj c).1
    have c2 : Mf.exq K = true := (Prod.mk.inj c).2
    have hmg : mg ("law" : PySem.Str) = some (.ref f) := by
      have e : (HandSHeadRun.topDef (OpenLaw.row PySem.Challenge.rw_mainfires_k58_whole_fewest_and_alone).prog 80).name = ("law" : PySem.Str) := by kernel_rfl
      rw [← e]
      exact hmg0
    obtain ⟨fd, F⟩ := c1.def_ 60 (d := Mf.d_law) rfl
    have e := hmg.symm.trans (He.glo_ok KX G (c1.fact 60 (f := .glo "law") rfl))
    cases e
    have b := L2.FunD.bindsA (ps := ["_law_script"]) F fun _ _ _ _ _ _ us hl => match us, hl with | [_], _ => rfl
    refine ⟨K, fd, Mf.spD K Mf.R_law, KX, fun s v => b s [v] rfl, fun H a ns hl _ hS => ⟨H, [.scr ns], .bl true, L2.Same.refl H, Mf.dens_cons (Mf.mk_scr hS) Mf.dens_nil, ⟨ns, rfl, rfl⟩, fun v F' H' _ dv => Mf.den_bl dv⟩, fun base _ _ => ?_⟩
    exact Mf.law_ok (P := PySem.Challenge.rw_mainfires_k58_whole_fewest_and_alone.prog) (w := w) (base := base) hF KX G c1 c2 F
theorem PySem.Challenge.cw_mainfires_k58_whole_fewest_and_alone_holds : PySem.Challenge.rw_mainfires_k58_whole_fewest_and_alone.Holds := by
  exact Mf.holds_of fun p s hp hs => Mf.facts_all p s hp hs
